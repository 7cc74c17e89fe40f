import PyProof.Rows.All
import Wide.All
import OpenK.AllK
import Wide.FinOn
import HandS.ForMost
import HandS.Lambda
import HandS.Deep
import HandS.Conv
import HandS.Style
import HandS.SortRule
import HandS.SortInts
import HandS.TupAny
import HandS.TupMul
import HandS.TupLe
import KE.Datum
import KE.DatumIndex
import KE.DatumMore
import KE.DatumOrd
import KE.DatumMoreOrd
import HandS.IsInst
import KE.SortData
import HandS.TupSets
import HandS.Dict
import KE.KDictDisplayH
import KE.KDictCopyH
import HandS.SetFor
import HandS.Strs
import HandS.CallLocal
import HandS.Small
import HandS.NoneIn
import KE.GoesEnum
import HandS.Zip
import HandS.SortKw
import HandS.EndTab
import KE.SortKeyHeap
import HandS.Rev
import HandS.RevRange
import HandS.Defaults
import PySem.Challenge.RW_peakland_k38_whole_maps
set_option Elab.async false
set_option linter.all false
set_option maxRecDepth 100000
set_option autoImplicit false

namespace Ev
open PySem L2
open PySem.W (Datum Tup T3 T4 Holds HoldAll DatumOrd)

/-! ## data over the abstract heap -/
mutual
inductive Rp (F : Hp) : V → PyData → Prop
  | non : Rp F .non .none
  | bl (b : Bool) : Rp F (.bl b) (.bool b)
  | int (i : Int) : Rp F (.int i) (.int i)
  | str (x : Str) : Rp F (.str x) (.str x)
  | lst {a : Addr} {xs : List V} {ds : List PyData} : F a = some (.lst xs) → RpAll F xs ds → Rp F (.ref a) (.list ds)
  | tup {a : Addr} {xs : List V} {ds : List PyData} : F a = some (.tup xs) → RpAll F xs ds → Rp F (.ref a) (.tuple ds)
inductive RpAll (F : Hp) : List V → List PyData → Prop
  | nil : RpAll F [] []
  | cons {v : V} {vs : List V} {d : PyData} {ds : List PyData} : Rp F v d → RpAll F vs ds → RpAll F (v :: vs) (d :: ds)
end

mutual
theorem Rp.mono {F F' : Hp} (s : Same F F') : ∀ {v : V} {d : PyData}, Rp F v d → Rp F' v d
  | _, _, .non => .non
  | _, _, .bl b => .bl b
  | _, _, .int i => .int i
  | _, _, .str x => .str x
  | _, _, .lst h r => .lst (s _ _ h) (RpAll.mono s r)
  | _, _, .tup h r => .tup (s _ _ h) (RpAll.mono s r)
theorem RpAll.mono {F F' : Hp} (s : Same F F') : ∀ {vs : List V} {ds : List PyData}, RpAll F vs ds → RpAll F' vs ds
  | _, _, .nil => .nil
  | _, _, .cons h r => .cons (Rp.mono s h) (RpAll.mono s r)
end
mutual
theorem Rp.dp {K : PySem.W.Frag} {F : Hp} : ∀ {v : V} {d : PyData}, Rp F v d → Dp K F v d
  | _, _, .non => .non
  | _, _, .bl b => .bl b
  | _, _, .int i => .int i
  | _, _, .str x => .str x
  | _, _, .lst h r => .lst (SqL.of h) (RpAll.dp r)
  | _, _, .tup h r => .tup (SqT.of h) (RpAll.dp r)
theorem RpAll.dp {K : PySem.W.Frag} {F : Hp} : ∀ {vs : List V} {ds : List PyData}, RpAll F vs ds → DpAll K F vs ds
  | _, _, .nil => .nil
  | _, _, .cons h r => .cons (Rp.dp h) (RpAll.dp r)
end
theorem RpAll.length {F : Hp} : ∀ {vs : List V} {ds : List PyData}, RpAll F vs ds → vs.length = ds.length
  | _, _, .nil => rfl
  | _, _, .cons _ r => congrArg Nat.succ (RpAll.length r)
theorem RpAll.append {F : Hp} : ∀ {vs : List V} {ds : List PyData} {us : List V} {es : List PyData}, RpAll F vs ds → RpAll F us es → RpAll F (vs ++ us) (ds ++ es)
  | _, _, _, _, .nil, r => r
  | _, _, _, _, .cons h t, r => .cons h (RpAll.append t r)
theorem RpAll.at {F : Hp} : ∀ {vs : List V} {ds : List PyData}, RpAll F vs ds → ∀ {i : Nat} {d : PyData}, ds[i]? = some d → ∃ v, vs[i]? = some v ∧ Rp F v d
  | _, _, .nil, i, d, h => by simp at h
  | _, _, .cons h t, 0, d, e => by simp at e; subst e; exact ⟨_, rfl, h⟩
  | _, _, .cons h t, i + 1, d, e => by
    obtain ⟨v, h1, h2⟩ := RpAll.at t (i := i) (d := d) (by simpa using e)
    exact ⟨v, by simpa using h1, h2⟩
theorem RpAll.at' {F : Hp} : ∀ {vs : List V} {ds : List PyData}, RpAll F vs ds → ∀ {i : Nat} {v : V}, vs[i]? = some v → ∃ d, ds[i]? = some d ∧ Rp F v d
  | _, _, .nil, i, d, h => by simp at h
  | _, _, .cons h t, 0, d, e => by simp at e; subst e; exact ⟨_, rfl, h⟩
  | _, _, .cons h t, i + 1, d, e => by
    obtain ⟨v, h1, h2⟩ := RpAll.at' t (i := i) (v := d) (by simpa using e)
    exact ⟨v, by simpa using h1, h2⟩
theorem RpAll.take {F : Hp} : ∀ {vs : List V} {ds : List PyData} (n : Nat), RpAll F vs ds → RpAll F (vs.take n) (ds.take n)
  | _, _, 0, _ => by simp; exact .nil
  | _, _, _ + 1, .nil => by simp; exact .nil
  | _, _, n + 1, .cons h t => .cons h (RpAll.take n t)
theorem RpAll.drop {F : Hp} : ∀ {vs : List V} {ds : List PyData} (n : Nat), RpAll F vs ds → RpAll F (vs.drop n) (ds.drop n)
  | _, _, 0, r => r
  | _, _, _ + 1, .nil => by simp; exact .nil
  | _, _, n + 1, .cons h t => RpAll.drop n t
theorem RpAll.reverse {F : Hp} : ∀ {vs : List V} {ds : List PyData}, RpAll F vs ds → RpAll F vs.reverse ds.reverse
  | _, _, .nil => .nil
  | _, _, .cons h t => by rw [List.reverse_cons, List.reverse_cons]; exact (RpAll.reverse t).append (.cons h .nil)
theorem RpAll.dropLast {F : Hp} : ∀ {vs : List V} {ds : List PyData}, RpAll F vs ds → RpAll F vs.dropLast ds.dropLast
  | _, _, .nil => .nil
  | _, _, .cons h .nil => .nil
  | _, _, .cons h (.cons h2 t) => .cons h (RpAll.dropLast (.cons h2 t))
theorem RpAll.set {F : Hp} {v : V} {d : PyData} (h : Rp F v d) : ∀ {vs : List V} {ds : List PyData} (i : Nat), RpAll F vs ds → RpAll F (vs.set i v) (ds.set i d)
  | _, _, _, .nil => .nil
  | _, _, 0, .cons _ t => .cons h t
  | _, _, i + 1, .cons h2 t => .cons h2 (RpAll.set h i t)
theorem RpAll.rep {F : Hp} {vs : List V} {ds : List PyData} (h : RpAll F vs ds) : ∀ k : Nat, RpAll F (List.replicate k vs).flatten (List.replicate k ds).flatten
  | 0 => .nil
  | k + 1 => by
    rw [List.replicate_succ, List.replicate_succ, List.flatten_cons, List.flatten_cons]
    exact h.append (RpAll.rep h k)
theorem Rp.int_of {F : Hp} {v : V} {i : Int} (h : Rp F v (.int i)) : v = .int i := by cases h; rfl
theorem Rp.bl_of {F : Hp} {v : V} {i : Bool} (h : Rp F v (.bool i)) : v = .bl i := by cases h; rfl
theorem Rp.str_of {F : Hp} {v : V} {i : Str} (h : Rp F v (.str i)) : v = .str i := by cases h; rfl
theorem Rp.non_of {F : Hp} {v : V} (h : Rp F v .none) : v = .non := by cases h; rfl
theorem Rp.lst_of {F : Hp} {v : V} {ds : List PyData} (h : Rp F v (.list ds)) : ∃ a xs, v = .ref a ∧ F a = some (.lst xs) ∧ RpAll F xs ds := by
  cases h with
  | lst h r => exact ⟨_, _, rfl, h, r⟩
theorem Rp.tup_of {F : Hp} {v : V} {ds : List PyData} (h : Rp F v (.tuple ds)) : ∃ a xs, v = .ref a ∧ F a = some (.tup xs) ∧ RpAll F xs ds := by
  cases h with
  | tup h r => exact ⟨_, _, rfl, h, r⟩
theorem RpAll.ints {F : Hp} : ∀ {vs : List V} {ns : List Int}, RpAll F vs (ns.map Datum.toD) → vs = ns.map V.int
  | vs, [], h => by cases h; rfl
  | vs, n :: ns, h => by
    cases h with
    | cons h1 h2 => rw [Rp.int_of h1, RpAll.ints h2]; rfl
theorem RpAll.bls {F : Hp} : ∀ {vs : List V} {ns : List Bool}, RpAll F vs (ns.map Datum.toD) → vs = ns.map V.bl
  | vs, [], h => by cases h; rfl
  | vs, n :: ns, h => by
    cases h with
    | cons h1 h2 => rw [Rp.bl_of h1, RpAll.bls h2]; rfl
theorem RpAll.strs {F : Hp} : ∀ {vs : List V} {ns : List Str}, RpAll F vs (ns.map Datum.toD) → vs = ns.map V.str
  | vs, [], h => by cases h; rfl
  | vs, n :: ns, h => by
    cases h with
    | cons h1 h2 => rw [Rp.str_of h1, RpAll.strs h2]; rfl
theorem RpAll.of_ints {F : Hp} : ∀ {ns : List Int}, RpAll F (ns.map V.int) (ns.map Datum.toD)
  | [] => .nil
  | n :: ns => .cons (.int n) RpAll.of_ints
theorem RpAll.of_strs {F : Hp} : ∀ {ns : List Str}, RpAll F (ns.map V.str) (ns.map Datum.toD)
  | [] => .nil
  | n :: ns => .cons (.str n) RpAll.of_strs

/-! ## what a slot holds -/
def hide (H : Hp) (fp : List Addr) : Hp := fun a => if a ∈ fp then none else H a
theorem hide_nil (H : Hp) : hide H [] = H := by funext a; simp [hide]
theorem hide_in {H : Hp} {fp : List Addr} {a : Addr} (h : a ∈ fp) : hide H fp a = none := by unfold hide; rw [if_pos h]
theorem hide_out {H : Hp} {fp : List Addr} {a : Addr} (h : a ∉ fp) : hide H fp a = H a := by unfold hide; rw [if_neg h]
theorem hide_some {H : Hp} {fp : List Addr} {a : Addr} {o : HO} (h : hide H fp a = some o) : a ∉ fp ∧ H a = some o := by
  by_cases q : a ∈ fp
  · rw [hide_in q] at h; cases h
  · rw [hide_out q] at h; exact ⟨q, h⟩
theorem hide_upd {H : Hp} {p : Addr} {o : HO} (h : H p = none) : hide (upd H p o) [p] = H := by
  funext a
  by_cases q : a = p
  · subst q; rw [hide_in (by simp), h]
  · rw [hide_out (by simpa using q), upd_ne q]
theorem hide_upd' {H : Hp} {p : Addr} {o : HO} : hide (upd H p o) [p] = hide H [p] := by
  funext a
  by_cases q : a = p
  · subst q; rw [hide_in (by simp), hide_in (by simp)]
  · rw [hide_out (by simpa using q), hide_out (by simpa using q), upd_ne q]

/-- neither a tuple, nor a table, nor a code object -/
def NT (o : HO) : Prop := (∀ xs, o ≠ .tup xs) ∧ (∀ ps, o ≠ .tbl ps) ∧ ∀ q, o ≠ .ext q
theorem NT.lst {xs : List V} : NT (.lst xs) := ⟨fun _ z => (by cases z), fun _ z => (by cases z), fun _ z => (by cases z)⟩
theorem NT.dT {xs : List (List Key × V)} : NT (.dT xs) := ⟨fun _ z => (by cases z), fun _ z => (by cases z), fun _ z => (by cases z)⟩
theorem nt1 {H : Hp} {fp : List Addr} (h : ∀ a ∈ fp, ∃ o, H a = some o ∧ NT o) : ∀ a ∈ fp, ∃ o, H a = some o ∧ ∀ xs, o ≠ .tup xs := fun a ha => let ⟨o, e, n⟩ := h a ha; ⟨o, e, n.1⟩
structure OP where
  p : V → List Addr → Hp → Hp → Prop
  mono : ∀ {v : V} {fp : List Addr} {F F' H : Hp}, Same F F' → p v fp F H → p v fp F' H
  loc : ∀ {v : V} {fp : List Addr} {F H H' : Hp}, (∀ a ∈ fp, H' a = H a) → p v fp F H → p v fp F H'
  own : ∀ {v : V} {fp : List Addr} {F H : Hp}, p v fp F H → ∀ a ∈ fp, ∃ o, H a = some o ∧ NT o

/-- a value by what is true of it in the frozen heap -/
def fzP (p : V → Hp → Prop) (m : ∀ {v : V} {F F' : Hp}, Same F F' → p v F → p v F') : OP where
  p := fun v fp F _ => fp = [] ∧ p v F
  mono := fun s h => ⟨h.1, m s h.2⟩
  loc := fun _ h => h
  own := fun h a ha => by rw [h.1] at ha; cases ha
/-- data -/
def dd (d : PyData) : OP := fzP (fun v F => Rp F v d) (fun s h => h.mono s)
abbrev da {α : Type} [DecidableEq α] [Datum α] (x : α) : OP := dd (Datum.toD x)
/-- the script -/
def scr (K : PySem.W.Frag) (ns : List Int) : OP := fzP (fun v F => ∃ a, v = .ref a ∧ SqL K F a (ns.map V.int)) (fun s h => by
  obtain ⟨a, e, q⟩ := h
  exact ⟨a, e, s.seq q⟩)
/-- a value that is just this one -/
def jst (v0 : V) : OP := fzP (fun v _ => v = v0) (fun _ h => h)
/-- one object of one's own -/
def owP (p : HO → Hp → Prop) (m : ∀ {o : HO} {F F' : Hp}, Same F F' → p o F → p o F') (nt : ∀ {o : HO} {F : Hp}, p o F → NT o) : OP where
  p := fun v fp F H => ∃ a o, v = .ref a ∧ fp = [a] ∧ H a = some o ∧ p o F
  mono := fun s h => by
    obtain ⟨a, o, h1, h2, h3, h4⟩ := h
    exact ⟨a, o, h1, h2, h3, m s h4⟩
  loc := fun q h => by
    obtain ⟨a, o, h1, h2, h3, h4⟩ := h
    exact ⟨a, o, h1, h2, (q a (by rw [h2]; simp)).trans h3, h4⟩
  own := fun h a ha => by
    obtain ⟨b, o, h1, h2, h3, h4⟩ := h
    rw [h2] at ha
    obtain rfl : a = b := by simpa using ha
    exact ⟨o, h3, nt h4⟩
/-- a list of one's own -/
def ll (ds : List PyData) : OP := owP (fun o F => ∃ vs, o = .lst vs ∧ RpAll F vs ds) (fun s h => by
  obtain ⟨vs, e, r⟩ := h
  exact ⟨vs, e, r.mono s⟩) (fun h => by
  obtain ⟨vs, e', _⟩ := h
  rw [e']; exact NT.lst)
abbrev la {α : Type} [DecidableEq α] [Datum α] (xs : List α) : OP := ll (xs.map Datum.toD)

theorem fz_fp {p : V → Hp → Prop} {m : ∀ {v : V} {F F' : Hp}, Same F F' → p v F → p v F'} {v : V} {fp : List Addr} {F H : Hp} (h : (fzP p m).p v fp F H) : fp = [] ∧ p v F := h
theorem dd_p {d : PyData} {v : V} {fp : List Addr} {F H : Hp} (h : (dd d).p v fp F H) : fp = [] ∧ Rp F v d := h
theorem dd_mk {d : PyData} {v : V} {F H : Hp} (h : Rp F v d) : (dd d).p v [] F H := ⟨rfl, h⟩

/-! ## the state -/
abbrev Sl := List (Option OP)
structure Cxt where
  F0 : Hp
  H0 : Hp
  A0 : Addr → Prop

/-- the tables of code objects that lambdas are written into, each with the name of what it holds -/
class Tb where
  T : List (Addr × Str)
/-- kept, unless it is a table -/
def HK (H : Hp) (a : Addr) (o : HO) : Prop := (∀ ps, o ≠ .tbl ps) → H a = some o
theorem HK.of {H : Hp} {a : Addr} {o : HO} (h : H a = some o) : HK H a o := fun _ => h
theorem HK.same {H H' : Hp} {a : Addr} {o : HO} (s : Same H H') (h : HK H a o) : HK H' a o := fun n => s _ _ (h n)
theorem HK.eq {H : Hp} {a : Addr} {o : HO} (h : HK H a o) (n : ∀ ps, o ≠ .tbl ps) : H a = some o := h n
theorem HK.tr {H H' : Hp} {a : Addr} {o : HO} (h : HK H a o) (k : ∀ o', H a = some o' → HK H' a o') : HK H' a o := fun n => k o (h n) n
/-- free, or a table -/
def Fr1 (x : Option HO) : Prop := x = none ∨ ∃ ps, x = some (.tbl ps)
theorem fr_tr {x y : Option HO} (k : ∀ o, x = some o → (∀ ps, o ≠ .tbl ps) → y = some o) (f : Fr1 y) : Fr1 x := by
  cases x with
  | none => exact .inl rfl
  | some o =>
    by_cases h : ∃ ps, o = .tbl ps
    · obtain ⟨ps, rfl⟩ := h; exact .inr ⟨ps, rfl⟩
    · have n : ∀ ps, o ≠ .tbl ps := fun ps e => h ⟨ps, e⟩
      rw [k o rfl n] at f
      rcases f with q | ⟨ps, q⟩
      · cases q
      · exact absurd (Option.some.inj q) (n ps)
theorem fr_no {x : Option HO} {o : HO} (f : Fr1 x) (e : x = some o) (n : ∀ ps, o ≠ .tbl ps) : False := by
  rw [e] at f
  rcases f with q | ⟨ps, q⟩
  · cases q
  · exact n ps (Option.some.inj q)
theorem tabs_hide {T : List (Addr × Str)} {H : Hp} {fp : List Addr} (t : LamX.Tabs T H) (nt : ∀ a ∈ fp, ∃ o, H a = some o ∧ NT o) : LamX.Tabs T (hide H fp) := fun p hp => by
  obtain ⟨ps, h1, h2, h3⟩ := t p hp
  refine ⟨ps, ?_, h2, fun pos cv hc => ?_⟩
  · rw [hide_out]
    · exact h1
    · intro z
      obtain ⟨o, e, n⟩ := nt _ z
      rw [h1] at e; exact n.2.1 ps (Option.some.inj e).symm
  · obtain ⟨c, e1, e2⟩ := h3 pos cv hc
    refine ⟨c, e1, ?_⟩
    rw [hide_out]
    · exact e2
    · intro z
      obtain ⟨o, e, n⟩ := nt _ z
      rw [e2] at e; exact n.2.2 _ (Option.some.inj e).symm
variable [Tb]
/-- the tables stand, the frozen part has none of them, but the code objects that they tell -/
structure TbOk (F H : Hp) : Prop where
  tabs : LamX.Tabs Tb.T H
  off : ∀ p ∈ Tb.T, F p.1 = none
  cod : ∀ p ∈ Tb.T, ∀ ps, H p.1 = some (.tbl ps) → ∀ pos cv, codeAmong pos ps.toList = some cv → ∃ c, cv = .ref c ∧ F c = some (LamX.CodeO c p.2)
theorem TbOk.hide {F H : Hp} {fp : List Addr} (t : TbOk F H) (nt : ∀ a ∈ fp, ∃ o, H a = some o ∧ NT o) : TbOk F (hide H fp) := ⟨tabs_hide t.tabs nt, t.off, fun p hp ps e => t.cod p hp ps (hide_some e).2⟩
theorem tab_at {T : List (Addr × Str)} {H : Hp} {fp : List Addr} (t : LamX.Tabs T (Ev.hide H fp)) {p : Addr × Str} (hp : p ∈ T) : p.1 ∉ fp := fun z => by
  obtain ⟨ps, h1, _⟩ := t p hp
  rw [hide_in z] at h1; cases h1
theorem TbOk.show {F H : Hp} {fp : List Addr} (t : TbOk F (Ev.hide H fp)) : TbOk F H := ⟨t.tabs.ext fun _ _ e => (hide_some e).2, t.off, fun p hp ps e => t.cod p hp ps (by rw [hide_out (tab_at t.tabs hp)]; exact e)⟩
theorem TbOk.grow {F H : Hp} {a : Addr} {o : HO} (t : TbOk F (Ev.hide H [a])) (Fa : F a = none) : TbOk (upd F a o) H := ⟨t.tabs.ext fun _ _ e => (hide_some e).2, fun p hp => by
  have : p.1 ≠ a := fun z => tab_at t.tabs hp (by simp [z])
  rw [upd_ne this]; exact t.off p hp, fun p hp ps e pos cv hc => by
  obtain ⟨c, e1, e2⟩ := t.cod p hp ps (by rw [hide_out (tab_at t.tabs hp)]; exact e) pos cv hc
  exact ⟨c, e1, by rw [upd_ne (ne_of_none e2 Fa)]; exact e2⟩⟩
structure Sat (Γ : Cxt) (S : Sl) (σ : St) (F H : Hp) : Prop where
  len : σ.length = S.length
  fh : Same F H
  f0 : Same Γ.F0 F
  h0 : ∀ a o, Γ.H0 a = some o → ¬ Γ.A0 a → HK H a o
  tb : TbOk F H
  new : ∀ a, F a ≠ none → Γ.F0 a ≠ none ∨ Fr1 (Γ.H0 a) ∨ Γ.A0 a
  tup : ∀ a xs, H a = some (.tup xs) → F a = some (.tup xs)
  ex : ∃ fp : Nat → List Addr, (∀ (i : Nat) (O : OP), S[i]? = some (some O) → ∃ v, σ[i]? = some (some v) ∧ O.p v (fp i) F H) ∧
    (∀ (i : Nat) (a : Addr), a ∈ fp i → F a = none ∧ H a ≠ none ∧ (Fr1 (Γ.H0 a) ∨ Γ.A0 a)) ∧ (∀ (i j : Nat) (a : Addr), i ≠ j → a ∈ fp i → a ∉ fp j) ∧ ∀ i : Nat, (∀ O : OP, S[i]? ≠ some (some O)) → fp i = []

theorem ex_nt {S : Sl} {σ : St} {F H : Hp} {f : Nat → List Addr} (h1 : ∀ (i : Nat) (O : OP), S[i]? = some (some O) → ∃ v, σ[i]? = some (some v) ∧ O.p v (f i) F H) (h4 : ∀ i : Nat, (∀ O : OP, S[i]? ≠ some (some O)) → f i = []) {i : Nat} {a : Addr} (ha : a ∈ f i) : ∃ o, H a = some o ∧ NT o := by
  by_cases q : ∃ O, S[i]? = some (some O)
  · obtain ⟨O, e⟩ := q
    obtain ⟨v, _, p⟩ := h1 i O e
    exact O.own p a ha
  · rw [h4 i fun O e => q ⟨O, e⟩] at ha; cases ha
theorem Sat.slot {Γ : Cxt} {S : Sl} {σ : St} {F H : Hp} (s : Sat Γ S σ F H) {i : Nat} {O : OP} (h : S[i]? = some (some O)) : ∃ v fp, σ[i]? = some (some v) ∧ O.p v fp F H ∧ ∀ a ∈ fp, F a = none ∧ H a ≠ none ∧ (Fr1 (Γ.H0 a) ∨ Γ.A0 a) := by
  obtain ⟨fp, h1, h2, h3, h4⟩ := s.ex
  obtain ⟨v, e, q⟩ := h1 i O h
  exact ⟨v, fp i, e, q, h2 i⟩
theorem Sat.dat {Γ : Cxt} {S : Sl} {σ : St} {F H : Hp} (s : Sat Γ S σ F H) {i : Nat} {d : PyData} (h : S[i]? = some (some (dd d))) : ∃ v, σ[i]? = some (some v) ∧ Rp F v d := by
  obtain ⟨v, fp, e, q, _⟩ := s.slot h
  exact ⟨v, e, q.2⟩

/-- fresh things that are nobody's are forgotten -/
theorem Sat.show {Γ : Cxt} {S : Sl} {σ : St} {F H : Hp} {fp : List Addr} (s : Sat Γ S σ F (hide H fp)) (nt : ∀ a ∈ fp, ∃ o, H a = some o ∧ ∀ xs, o ≠ .tup xs) : Sat Γ S σ F H := by
  have sh : Same (hide H fp) H := fun b o e => (hide_some e).2
  refine ⟨s.len, fun b o e => sh _ _ (s.fh _ _ e), s.f0, fun a o e n => (s.h0 a o e n).same sh, s.tb.show, s.new, fun a xs e => ?_, ?_⟩
  · by_cases q : a ∈ fp
    · obtain ⟨o, h1, h2⟩ := nt a q
      rw [h1] at e; exact absurd (Option.some.inj e) (h2 xs)
    · exact s.tup a xs (by rw [hide_out q]; exact e)
  · obtain ⟨f, h1, h2, h3, h4⟩ := s.ex
    refine ⟨f, fun i O e => ?_, fun i a ha => ?_, h3, h4⟩
    · obtain ⟨v, e1, q⟩ := h1 i O e
      refine ⟨v, e1, O.loc (fun a ha => ?_) q⟩
      have := (h2 i a ha).2.1
      by_cases z : a ∈ fp
      · rw [hide_in z] at this; exact absurd rfl this
      · rw [hide_out z]
    · obtain ⟨q1, q2, q3⟩ := h2 i a ha
      refine ⟨q1, ?_, q3⟩
      by_cases z : a ∈ fp
      · rw [hide_in z] at q2; exact absurd rfl q2
      · rw [hide_out z] at q2; exact q2

/-- the frozen part grows by one thing -/
theorem Sat.grow {Γ : Cxt} {S : Sl} {σ : St} {F H : Hp} {a : Addr} {o : HO} (s : Sat Γ S σ F (hide H [a])) (ha : H a = some o) : Sat Γ S σ (upd F a o) H := by
  have sh : Same (hide H [a]) H := fun b o e => (hide_some e).2
  have Fa : F a = none := by
    cases q : F a with
    | none => rfl
    | some o' => have := s.fh _ _ q; rw [hide_in (by simp)] at this; cases this
  have sF : Same F (upd F a o) := fun b o' e => by rw [upd_ne (ne_of_none e Fa)]; exact e
  refine ⟨s.len, fun b o' e => ?_, fun b o' e => sF _ _ (s.f0 _ _ e), fun b o' e n => (s.h0 b o' e n).same sh, s.tb.grow Fa, fun b hb => ?_, fun b xs e => ?_, ?_⟩
  · by_cases q : b = a
    · subst q; rw [upd_same] at e; rw [ha]; exact e
    · rw [upd_ne q] at e; exact sh _ _ (s.fh _ _ e)
  · by_cases q : b = a
    · subst q
      by_cases z : Γ.A0 b
      · exact .inr (.inr z)
      · exact .inr (.inl (fr_tr (fun o' e n => s.h0 b o' e z n) (.inl (hide_in (by simp)))))
    · rw [upd_ne q] at hb; exact s.new b hb
  · by_cases q : b = a
    · subst q; rw [upd_same]; rw [ha] at e; exact e
    · rw [upd_ne q]; exact s.tup b xs (by rw [hide_out (by simpa using q)]; exact e)
  · obtain ⟨f, h1, h2, h3, h4⟩ := s.ex
    have na : ∀ i b, b ∈ f i → b ≠ a := fun i b hb e => by
      subst e; have := (h2 i b hb).2.1; rw [hide_in (by simp)] at this; exact this rfl
    refine ⟨f, fun i O e => ?_, fun i b hb => ?_, h3, h4⟩
    · obtain ⟨v, e1, q⟩ := h1 i O e
      exact ⟨v, e1, O.mono sF (O.loc (fun b hb => (hide_out (by simpa using na i b hb)).symm) q)⟩
    · obtain ⟨q1, q2, q3⟩ := h2 i b hb
      have z := na i b hb
      refine ⟨by rw [upd_ne z]; exact q1, ?_, q3⟩
      rw [hide_out (by simpa using z)] at q2; exact q2
theorem Sat.fnone {Γ : Cxt} {S : Sl} {σ : St} {F H : Hp} {fp : List Addr} (s : Sat Γ S σ F (hide H fp)) {a : Addr} (ha : a ∈ fp) : F a = none := by
  cases q : F a with
  | none => rfl
  | some o' => have := s.fh _ _ q; rw [hide_in ha] at this; cases this
def sel (i : Nat) (fp : List Addr) (f : Nat → List Addr) (j : Nat) : List Addr := if j = i then fp else f j
theorem sel_eq {i : Nat} {fp : List Addr} {f : Nat → List Addr} : sel i fp f i = fp := by unfold sel; rw [if_pos rfl]
theorem sel_ne {i j : Nat} {fp : List Addr} {f : Nat → List Addr} (h : ¬ j = i) : sel i fp f j = f j := by unfold sel; rw [if_neg h]
/-- a slot gets a value -/
theorem Sat.put {Γ : Cxt} {S : Sl} {σ : St} {F H : Hp} {fp : List Addr} {O : OP} {v : V} (s : Sat Γ S σ F (hide H fp)) (h : O.p v fp F H) (i : Nat) : Sat Γ (S.set i (some O)) (σ.set i (some v)) F H := by
  have ow := O.own h
  have s' := s.show (nt1 ow)
  refine ⟨by rw [List.length_set, List.length_set, s.len], s'.fh, s'.f0, s'.h0, s'.tb, s'.new, s'.tup, ?_⟩
  obtain ⟨f, h1, h2, h3, h4⟩ := s.ex
  have na : ∀ i b, b ∈ f i → b ∉ fp := fun i b hb e => by
    have := (h2 i b hb).2.1; rw [hide_in e] at this; exact this rfl
  by_cases hi : i < S.length
  · refine ⟨sel i fp f, fun j O' e => ?_, fun j a ha => ?_, fun j k a hne ha => ?_, fun j hj => ?_⟩
    · by_cases q : j = i
      · subst q
        rw [List.getElem?_set_self hi] at e
        cases e
        refine ⟨v, List.getElem?_set_self (by rw [s.len]; exact hi), ?_⟩
        rw [sel_eq]; exact h
      · rw [List.getElem?_set_ne (Ne.symm q)] at e
        obtain ⟨u, e1, q1⟩ := h1 j O' e
        refine ⟨u, by rw [List.getElem?_set_ne (Ne.symm q)]; exact e1, ?_⟩
        rw [sel_ne q]
        exact O'.loc (fun b hb => (hide_out (na j b hb)).symm) q1
    · by_cases q : j = i
      · subst q
        rw [sel_eq] at ha
        refine ⟨s.fnone ha, ?_, ?_⟩
        · obtain ⟨o, e, _⟩ := ow a ha
          rw [e]; exact fun z => by cases z
        · by_cases z : Γ.A0 a
          · exact .inr z
          · exact .inl (fr_tr (fun o' e n => s.h0 a o' e z n) (.inl (hide_in ha)))
      · rw [sel_ne q] at ha
        obtain ⟨q1, q2, q3⟩ := h2 j a ha
        rw [hide_out (na j a ha)] at q2
        exact ⟨q1, q2, q3⟩
    · by_cases q : j = i
      · rw [q, sel_eq] at ha
        have : k ≠ i := fun z => hne (q.trans z.symm)
        rw [sel_ne this]
        exact fun z => na k a z ha
      · rw [sel_ne q] at ha
        by_cases z : k = i
        · rw [z, sel_eq]; exact na j a ha
        · rw [sel_ne z]; exact h3 j k a hne ha
    · by_cases q : j = i
      · subst q
        exact absurd (List.getElem?_set_self hi) (hj O)
      · rw [sel_ne q]
        refine h4 j fun O' e => hj O' ?_
        rw [List.getElem?_set_ne (Ne.symm q)]; exact e
  · rw [List.set_eq_of_length_le (by omega), List.set_eq_of_length_le (by rw [s.len]; omega)]
    exact s'.ex
theorem Sat.same_of {Γ : Cxt} {S : Sl} {σ : St} {F H : Hp} (s : Sat Γ S σ F H) : Sat Γ S σ F (hide H []) := by rw [hide_nil]; exact s
/-- a slot is forgotten -/
theorem Sat.drop {Γ : Cxt} {S : Sl} {σ : St} {F H : Hp} (s : Sat Γ S σ F H) (i : Nat) : Sat Γ (S.set i none) σ F H := by
  refine ⟨by rw [List.length_set]; exact s.len, s.fh, s.f0, s.h0, s.tb, s.new, s.tup, ?_⟩
  obtain ⟨f, h1, h2, h3, h4⟩ := s.ex
  refine ⟨sel i [] f, fun j O' e => ?_, fun j a ha => ?_, fun j k a hne ha => ?_, fun j hj => ?_⟩
  · by_cases q : j = i
    · subst q
      by_cases hi : j < S.length
      · rw [List.getElem?_set_self hi] at e; cases e
      · rw [List.set_eq_of_length_le (by omega), List.getElem?_eq_none (by omega)] at e; cases e
    · rw [List.getElem?_set_ne (Ne.symm q)] at e
      rw [sel_ne q]; exact h1 j O' e
  · by_cases q : j = i
    · rw [q, sel_eq] at ha; cases ha
    · rw [sel_ne q] at ha; exact h2 j a ha
  · by_cases q : j = i
    · rw [q, sel_eq] at ha; cases ha
    · rw [sel_ne q] at ha
      by_cases z : k = i
      · rw [z, sel_eq]; exact List.not_mem_nil
      · rw [sel_ne z]; exact h3 j k a hne ha
  · by_cases q : j = i
    · rw [q, sel_eq]
    · rw [sel_ne q]
      refine h4 j fun O' e => hj O' ?_
      rw [List.getElem?_set_ne (Ne.symm q)]; exact e
/-- a slot, taken out: its things hidden, then it may be put back -/
theorem Sat.take {Γ : Cxt} {S : Sl} {σ : St} {F H : Hp} (s : Sat Γ S σ F H) {i : Nat} {O : OP} (h : S[i]? = some (some O)) : ∃ v fp, σ[i]? = some (some v) ∧ O.p v fp F H ∧ (∀ a ∈ fp, F a = none ∧ H a ≠ none ∧ (Fr1 (Γ.H0 a) ∨ Γ.A0 a)) ∧ Sat Γ (S.set i none) σ F (hide H fp) := by
  obtain ⟨f, h1, h2, h3, h4⟩ := s.ex
  obtain ⟨v, e, q⟩ := h1 i O h
  refine ⟨v, f i, e, q, h2 i, ?_⟩
  have d := s.drop i
  refine ⟨d.len, fun b o e' => ?_, d.f0, fun a o e' n => ?_, s.tb.hide (O.own q), d.new, fun a xs e' => s.tup a xs (hide_some e').2, ?_⟩
  · rw [hide_out]
    · exact s.fh _ _ e'
    · intro z; rw [(h2 i b z).1] at e'; cases e'
  · intro nn
    rw [hide_out]
    · exact s.h0 a o e' n nn
    · intro z
      rcases (h2 i a z).2.2 with q | q
      · exact fr_no q e' nn
      · exact n q
  · refine ⟨sel i [] f, fun j O' e => ?_, fun j a ha => ?_, fun j k a hne ha => ?_, fun j hj => ?_⟩
    · by_cases q : j = i
      · subst q
        by_cases hi : j < S.length
        · rw [List.getElem?_set_self hi] at e; cases e
        · rw [List.set_eq_of_length_le (by omega), List.getElem?_eq_none (by omega)] at e; cases e
      · rw [List.getElem?_set_ne (Ne.symm q)] at e
        rw [sel_ne q]
        obtain ⟨v', e', q'⟩ := h1 j O' e
        exact ⟨v', e', O'.loc (fun a ha => hide_out (h3 j i a q ha)) q'⟩
    · by_cases q : j = i
      · rw [q, sel_eq] at ha; cases ha
      · rw [sel_ne q] at ha
        obtain ⟨q1, q2, q3⟩ := h2 j a ha
        exact ⟨q1, by rw [hide_out (h3 j i a q ha)]; exact q2, q3⟩
    · by_cases q : j = i
      · rw [q, sel_eq] at ha; cases ha
      · rw [sel_ne q] at ha
        by_cases z : k = i
        · rw [z, sel_eq]; exact List.not_mem_nil
        · rw [sel_ne z]; exact h3 j k a hne ha
    · by_cases q : j = i
      · rw [q, sel_eq]
      · rw [sel_ne q]
        refine h4 j fun O' e => hj O' ?_
        rw [List.getElem?_set_ne (Ne.symm q)]; exact e
end Ev

namespace Ev
open PySem L2
open PySem.W (Datum Tup T3 T4 Holds HoldAll DatumOrd)

variable [Tb]
/-! ## the weakest readings -/
def WE (X : Cx) (e : Expr) : TE := fun σ H Q => ∀ (pins : List (Addr × Obj)) (s : Shared), Inv X pins σ H s → wpAny (model X.prog X.w) X.A (eval e X.env) (EP X pins σ Q) X.xe s
def WT (X : Cx) (e : Expr) : TT := fun σ H Q => ∀ (pins : List (Addr × Obj)) (s : Shared), Inv X pins σ H s → wpAny (model X.prog X.w) X.A (isTrue e X.env (eval e X.env)) (TP X pins σ Q) X.xe s
def WW (X : Cx) (e : Expr) : TT := fun σ H Q => ∀ (whole : Sem Value) (pins : List (Addr × Obj)) (s : Shared), Inv X pins σ H s → wpAny (model X.prog X.w) X.A (isTrue e X.env whole) (TP X pins σ Q) X.xe s
def WA (X : Cx) (es : List Expr) : TA := fun σ H Q => ∀ (pos : Pos) (pins : List (Addr × Obj)) (s : Shared), Inv X pins σ H s → wpAny (model X.prog X.w) X.A (spliced (backTo pos (starEach es X.env))) (AP X pins σ Q) X.xe s
def WC (X : Cx) (op : CmpOp) (a b : Expr) : TE := fun σ H Q => ∀ (pins : List (Addr × Obj)) (s : Shared), Inv X pins σ H s →
  wpAny (model X.prog X.w) X.A (eval a X.env) (fun v s₁ => wpAny (model X.prog X.w) X.A (eval b X.env) (fun u s₂ => wpAny (model X.prog X.w) X.A (compareOp op v u) (EP X pins σ Q) X.xe s₂) X.xe s₁) X.xe s
def WS (X : Cx) (st : Stmt) : TS := fun D σ H => ∀ (pins : List (Addr × Obj)) (s : Shared), Inv X pins σ H s → wpAny (model X.prog X.w) X.A (exec st X.env) (SP X pins D) X.xe s
def WB (X : Cx) (sts : List Stmt) : TS := fun D σ H => ∀ (pins : List (Addr × Obj)) (s : Shared), Inv X pins σ H s → wpAny (model X.prog X.w) X.A (execs sts X.env) (SP X pins D) X.xe s
section
variable {X : Cx} {e a b : Expr} {es : List Expr} {st : Stmt} {sts : List Stmt} {op : CmpOp}
theorem pe_w : PE X e (WE X e) := ⟨fun pins s _ _ _ I h => h pins s I⟩
theorem pt_w : PT X e (WT X e) := ⟨fun pins s _ _ _ I h => h pins s I⟩
theorem pw_w : PW X e (WW X e) := ⟨fun wh pins s _ _ _ I h => h wh pins s I⟩
theorem pa_w : PA X es (WA X es) := ⟨fun pos pins s _ _ _ I h => h pos pins s I⟩
theorem pc_w : PC X op a b (WC X op a b) := ⟨fun pins s _ _ _ I h => h pins s I⟩
theorem ps_w : PS X st (WS X st) := ⟨fun pins s _ _ _ I h => h pins s I⟩
theorem pb_w : PSs X sts (WB X sts) := ⟨fun pins s _ _ _ I h => h pins s I⟩
theorem PE.w {t : TE} (p : PE X e t) {σ : St} {H : Hp} {Q : VK} (h : t σ H Q) : WE X e σ H Q := fun pins s I => p.run pins s σ H Q I h
theorem PT.w {t : TT} (p : PT X e t) {σ : St} {H : Hp} {Q : Bool → Hp → Prop} (h : t σ H Q) : WT X e σ H Q := fun pins s I => p.run pins s σ H Q I h
theorem PW.w {t : TT} (p : PW X e t) {σ : St} {H : Hp} {Q : Bool → Hp → Prop} (h : t σ H Q) : WW X e σ H Q := fun wh pins s I => p.run wh pins s σ H Q I h
theorem PA.w {t : TA} (p : PA X es t) {σ : St} {H : Hp} {Q : List V → Hp → Prop} (h : t σ H Q) : WA X es σ H Q := fun pos pins s I => p.run pos pins s σ H Q I h
theorem PC.w {t : TE} (p : PC X op a b t) {σ : St} {H : Hp} {Q : VK} (h : t σ H Q) : WC X op a b σ H Q := fun pins s I => p.run pins s σ H Q I h
theorem PS.w {t : TS} (p : PS X st t) {σ : St} {H : Hp} {D : Ends} (h : t D σ H) : WS X st D σ H := fun pins s I => p.run pins s σ H D I h
theorem PSs.w {t : TS} (p : PSs X sts t) {σ : St} {H : Hp} {D : Ends} (h : t D σ H) : WB X sts D σ H := fun pins s I => p.run pins s σ H D I h
end

/-! ## judgements -/
structure FP where
  p : V → Hp → Prop
  mono : ∀ {v : V} {F F' : Hp}, Same F F' → p v F → p v F'
def fz (P : FP) : OP := fzP P.p P.mono
def fd (d : PyData) : FP := ⟨fun v F => Rp F v d, fun s h => h.mono s⟩
def fscr (K : PySem.W.Frag) (ns : List Int) : FP := ⟨fun v F => ∃ a, v = .ref a ∧ SqL K F a (ns.map V.int), fun s h => by
  obtain ⟨a, e, q⟩ := h
  exact ⟨a, e, s.seq q⟩⟩
def fj (v0 : V) : FP := ⟨fun v _ => v = v0, fun _ h => h⟩
theorem dd_fz (d : PyData) : dd d = fz (fd d) := rfl
theorem scr_fz (K : PySem.W.Frag) (ns : List Int) : scr K ns = fz (fscr K ns) := rfl
theorem fz_mk {P : FP} {v : V} {F H : Hp} (h : P.p v F) : (fz P).p v [] F H := ⟨rfl, h⟩

def EV (X : Cx) (S : Sl) (e : Expr) (O : OP) (S' : Sl) : Prop := ∀ (Γ : Cxt) (σ : St) (F H : Hp) (Q : VK), Sat Γ S σ F H →
  (∀ v fp F' H', Sat Γ S' σ F' (hide H' fp) → Same F F' → O.p v fp F' H' → Q v H') → WE X e σ H Q
def ET (X : Cx) (S : Sl) (e : Expr) (b : Bool) (S' : Sl) : Prop := ∀ (Γ : Cxt) (σ : St) (F H : Hp) (Q : Bool → Hp → Prop), Sat Γ S σ F H →
  (∀ F' H', Sat Γ S' σ F' H' → Same F F' → Q b H') → WT X e σ H Q
def EW (X : Cx) (S : Sl) (e : Expr) (b : Bool) (S' : Sl) : Prop := ∀ (Γ : Cxt) (σ : St) (F H : Hp) (Q : Bool → Hp → Prop), Sat Γ S σ F H →
  (∀ F' H', Sat Γ S' σ F' H' → Same F F' → Q b H') → WW X e σ H Q
def EC (X : Cx) (S : Sl) (op : CmpOp) (a b : Expr) (c : Bool) (S' : Sl) : Prop := ∀ (Γ : Cxt) (σ : St) (F H : Hp) (Q : VK), Sat Γ S σ F H →
  (∀ F' H', Sat Γ S' σ F' H' → Same F F' → Q (.bl c) H') → WC X op a b σ H Q
inductive AR where
  | v (P : FP)
  | sl (j : Nat)
def ArgsAre (σ : St) (F : Hp) : List AR → List V → Prop
  | [], [] => True
  | .v P :: r, x :: xs => P.p x F ∧ ArgsAre σ F r xs
  | .sl j :: r, x :: xs => σ[j]? = some (some x) ∧ ArgsAre σ F r xs
  | _, _ => False
theorem ArgsAre.mono {σ : St} {F F' : Hp} (s : Same F F') : ∀ {ar : List AR} {vs : List V}, ArgsAre σ F ar vs → ArgsAre σ F' ar vs
  | [], [], _ => trivial
  | .v P :: r, x :: xs, h => ⟨P.mono s h.1, ArgsAre.mono s h.2⟩
  | .sl j :: r, x :: xs, h => ⟨h.1, ArgsAre.mono s h.2⟩
  | [], _ :: _, h => h.elim
  | .v _ :: _, [], h => h.elim
  | .sl _ :: _, [], h => h.elim
def EA (X : Cx) (S : Sl) (es : List Expr) (ar : List AR) (S' : Sl) : Prop := ∀ (Γ : Cxt) (σ : St) (F H : Hp) (Q : List V → Hp → Prop), Sat Γ S σ F H →
  (∀ vs F' H', Sat Γ S' σ F' H' → Same F F' → ArgsAre σ F' ar vs → Q vs H') → WA X es σ H Q
/-- items of a display -/
def EL (X : Cx) (S : Sl) (es : List Expr) (ds : List PyData) (S' : Sl) : Prop := ∀ (Γ : Cxt) (σ : St) (F H : Hp) (Q : List V → Hp → Prop), Sat Γ S σ F H →
  (∀ vs F' H', Sat Γ S' σ F' H' → Same F F' → RpAll F' vs ds → Q vs H') → WA X es σ H Q
structure En where
  nx : Sl → Prop
  rt : OP → Sl → Prop
  bk : Sl → Prop := fun _ => False
  ct : Sl → Prop := fun _ => False
structure EnOk (Γ : Cxt) (D : En) (E : Ends) : Prop where
  nx : ∀ S σ F H, D.nx S → Sat Γ S σ F H → E.nx σ H
  rt : ∀ O S σ v fp F H, D.rt O S → Sat Γ S σ F (hide H fp) → O.p v fp F H → E.rt v H
  bk : ∀ S σ F H, D.bk S → Sat Γ S σ F H → E.bk σ H
  ct : ∀ S σ F H, D.ct S → Sat Γ S σ F H → E.ct σ H
def SV (X : Cx) (S : Sl) (st : Stmt) (D : En) : Prop := ∀ (Γ : Cxt) (σ : St) (F H : Hp) (E : Ends), Sat Γ S σ F H → EnOk Γ D E → WS X st E σ H
def BV (X : Cx) (S : Sl) (sts : List Stmt) (D : En) : Prop := ∀ (Γ : Cxt) (σ : St) (F H : Hp) (E : Ends), Sat Γ S σ F H → EnOk Γ D E → WB X sts E σ H

section
variable {X : Cx} {S S' S1 S2 S3 : Sl} {e a b c : Expr} {es : List Expr} {O : OP} {d d1 d2 d3 : PyData} {pos : Pos}
theorem EV.dat (h : EV X S e (dd d) S') {Γ : Cxt} {σ : St} {F H : Hp} {Q : VK} (s : Sat Γ S σ F H) (q : ∀ v F' H', Sat Γ S' σ F' H' → Same F F' → Rp F' v d → Q v H') : WE X e σ H Q :=
  h Γ σ F H Q s fun v fp F' H' s' m p => by
    obtain ⟨e, r⟩ := dd_p p
    subst e
    rw [hide_nil] at s'
    exact q v F' H' s' m r
theorem EV.fzn {P : FP} (h : EV X S e (fz P) S') {Γ : Cxt} {σ : St} {F H : Hp} {Q : VK} (s : Sat Γ S σ F H) (q : ∀ v F' H', Sat Γ S' σ F' H' → Same F F' → P.p v F' → Q v H') : WE X e σ H Q :=
  h Γ σ F H Q s fun v fp F' H' s' m p => by
    obtain ⟨e, r⟩ := p
    subst e
    rw [hide_nil] at s'
    exact q v F' H' s' m r
theorem EV.of_f {P : FP} (h : ∀ (Γ : Cxt) (σ : St) (F H : Hp) (Q : VK), Sat Γ S σ F H → (∀ v F' H', Sat Γ S' σ F' H' → Same F F' → P.p v F' → Q v H') → WE X e σ H Q) : EV X S e (fz P) S' :=
  fun Γ σ F H Q s q => h Γ σ F H Q s fun v F' H' s' m p => q v [] F' H' s'.same_of m ⟨rfl, p⟩
theorem EV.of_d (h : ∀ (Γ : Cxt) (σ : St) (F H : Hp) (Q : VK), Sat Γ S σ F H → (∀ v F' H', Sat Γ S' σ F' H' → Same F F' → Rp F' v d → Q v H') → WE X e σ H Q) : EV X S e (dd d) S' := EV.of_f (P := fd d) h
theorem EV.eq {O' : OP} (h : EV X S e O S') (q : O = O') : EV X S e O' S' := q ▸ h
theorem EV.eqd (h : EV X S e (dd d) S') (q : d = d1) : EV X S e (dd d1) S' := q ▸ h
theorem EV.eqa {α : Type} [DecidableEq α] [Datum α] {x y : α} (h : EV X S e (da x) S') (q : x = y) : EV X S e (da y) S' := q ▸ h

/-! freezing -/
theorem ev_frz {ds : List PyData} (h : EV X S e (ll ds) S') : EV X S e (dd (.list ds)) S' := fun Γ σ F H Q s q =>
  h Γ σ F H Q s fun v fp F' H' s' m p => by
    obtain ⟨a, o, e1, e2, e3, vs, e4, r⟩ := p
    subst e1 e2 e4
    have sF : Same F' (upd F' a (.lst vs)) := fun b o' e => by
      rw [upd_ne (ne_of_none e (s'.fnone (a := a) (by simp)))]; exact e
    exact q _ [] _ _ (s'.grow e3).same_of (m.trans sF) ⟨rfl, .lst upd_same (r.mono sF)⟩
theorem Sat.frz {Γ : Cxt} {σ : St} {F H : Hp} {i : Nat} {ds : List PyData} (s : Sat Γ S σ F H) (h : S[i]? = some (some (ll ds))) : ∃ F', Sat Γ (S.set i (some (dd (.list ds)))) σ F' H ∧ Same F F' := by
  obtain ⟨v, fp, e, q, q2, s2⟩ := s.take h
  obtain ⟨a, o, e1, e2, e3, vs, e4, r⟩ := q
  subst e1 e2 e4
  have sF : Same F (upd F a (.lst vs)) := fun b o' e => by
    rw [upd_ne (ne_of_none e (q2 a (by simp)).1)]; exact e
  have s3 := (s2.grow e3).same_of.put (O := dd (.list ds)) (v := .ref a) ⟨rfl, .lst upd_same (r.mono sF)⟩ i
  rw [List.set_set] at s3
  have : σ.set i (some (.ref a)) = σ := by
    refine List.ext_getElem? fun j => ?_
    by_cases q : i = j
    · subst q
      have := (List.getElem?_eq_some_iff.mp e).1
      rw [List.getElem?_set_self this]; exact e.symm
    · rw [List.getElem?_set_ne q]
  rw [this] at s3
  exact ⟨_, s3, sF⟩
theorem ev_frzS (i : Nat) {ds : List PyData} (hi : S[i]? = some (some (ll ds))) (h : EV X (S.set i (some (dd (.list ds)))) e O S') : EV X S e O S' := fun Γ σ F H Q s q => by
  obtain ⟨F1, s1, m1⟩ := s.frz hi
  exact h Γ σ F1 H Q s1 fun v fp F' H' s' m p => q v fp F' H' s' (m1.trans m) p
theorem bv_frzS (i : Nat) {ds : List PyData} {sts : List Stmt} {D : En} (hi : S[i]? = some (some (ll ds))) (h : BV X (S.set i (some (dd (.list ds)))) sts D) : BV X S sts D := fun Γ σ F H E s q => by
  obtain ⟨F1, s1, m1⟩ := s.frz hi
  exact h Γ σ F1 H E s1 q
theorem Sat.weak {Γ : Cxt} {σ : St} {F H : Hp} (s : Sat Γ S σ F H) (i : Nat) : Sat Γ (S.set i none) σ F H := s.drop i
theorem bv_drop (i : Nat) {sts : List Stmt} {D : En} (h : BV X (S.set i none) sts D) : BV X S sts D := fun Γ σ F H E s q => h Γ σ F H E (s.drop i) q

/-! names, constants -/
theorem ev_var {P : FP} (i : Nat) (hp : PE X e (tVar i)) (h : S[i]? = some (some (fz P))) : EV X S e (fz P) S := EV.of_f fun Γ σ F H Q s q => by
  obtain ⟨v, fp, e1, p, _⟩ := s.slot h
  exact PE.w hp ⟨v, e1, q v F H s (Same.refl F) p.2⟩
theorem ev_vard (i : Nat) (hp : PE X e (tVar i)) (h : S[i]? = some (some (dd d))) : EV X S e (dd d) S := ev_var (P := fd d) i hp h
theorem ev_con {v : V} (hp : PE X e (tC v)) (r : ∀ F, Rp F v d) : EV X S e (dd d) S := EV.of_d fun Γ σ F H Q s q => PE.w hp (q v F H s (Same.refl F) (r F))
theorem ev_int {i j} : EV X S (.Constant (.int i) j pos) (da i) S := ev_con pe_int fun _ => .int i
theorem ev_bl {i j} : EV X S (.Constant (.bool i) j pos) (da i) S := ev_con pe_bl fun _ => .bl i
theorem ev_non {j} : EV X S (.Constant .none j pos) (da ()) S := ev_con pe_non fun _ => .non
theorem ev_str {i j} : EV X S (.Constant (.str i) j pos) (da i) S := ev_con pe_str fun _ => .str i

/-! operators by values -/
theorem ev_op {op : Operator} {r : R2} (ho : OpR X (binaryOp op) r) (ha : EV X S a (dd d1) S1) (hb : EV X S1 b (dd d2) S2)
    (h : ∀ (Γ : Cxt) (σ : St) (F H : Hp) (v u : V) (Q : VK), Sat Γ S2 σ F H → Rp F v d1 → Rp F u d2 → (∀ w fp F' H', Sat Γ S3 σ F' (hide H' fp) → Same F F' → O.p w fp F' H' → Q w H') → r v u H Q) : EV X S (.BinOp a op b pos) O S3 := fun Γ σ F H Q s q =>
  PE.w (pe_op ho pe_w pe_w) (ha.dat s fun v F1 H1 s1 m1 r1 => hb.dat s1 fun u F2 H2 s2 m2 r2 => h Γ σ F2 H2 v u Q s2 (r1.mono m2) r2 fun w fp F' H' s' m p => q w fp F' H' s' ((m1.trans m2).trans m) p)
theorem ev_opS {op : Operator} {r : R2} {w : V} (ho : OpR X (binaryOp op) r) (ha : EV X S a (dd d1) S1) (hb : EV X S1 b (dd d2) S2) (hw : ∀ F, Rp F w d3)
    (h : ∀ (F H : Hp) (v u : V) (Q : VK), Rp F v d1 → Rp F u d2 → Q w H → r v u H Q) : EV X S (.BinOp a op b pos) (dd d3) S2 :=
  ev_op ho ha hb fun Γ σ F H v u Q s r1 r2 q => h F H v u Q r1 r2 (q w [] F H s.same_of (Same.refl F) ⟨rfl, hw F⟩)
theorem ev_add {x y : Int} (ha : EV X S a (da x) S1) (hb : EV X S1 b (da y) S2) : EV X S (.BinOp a .Add b pos) (da (x + y)) S2 :=
  ev_opS op_add ha hb (fun _ => .int _) fun F H v u Q r1 r2 q => ⟨x, y, r1.int_of, r2.int_of, q⟩
theorem ev_sub {x y : Int} (ha : EV X S a (da x) S1) (hb : EV X S1 b (da y) S2) : EV X S (.BinOp a .Sub b pos) (da (x - y)) S2 :=
  ev_opS op_sub ha hb (fun _ => .int _) fun F H v u Q r1 r2 q => ⟨x, y, r1.int_of, r2.int_of, q⟩
theorem ev_mul {x y : Int} (ha : EV X S a (da x) S1) (hb : EV X S1 b (da y) S2) (h : CMul x y) : EV X S (.BinOp a .Mult b pos) (da (x * y)) S2 :=
  ev_opS op_mul ha hb (fun _ => .int _) fun F H v u Q r1 r2 q => ⟨x, y, r1.int_of, r2.int_of, h, q⟩
theorem ev_fdiv {x y : Int} (ha : EV X S a (da x) S1) (hb : EV X S1 b (da y) S2) (h : CDiv x y) : EV X S (.BinOp a .FloorDiv b pos) (da (x / y)) S2 :=
  ev_opS op_fdiv ha hb (fun _ => .int _) fun F H v u Q r1 r2 q => ⟨x, y, r1.int_of, r2.int_of, h, q⟩
theorem ev_mod {x y : Int} (ha : EV X S a (da x) S1) (hb : EV X S1 b (da y) S2) (h : 0 < y) : EV X S (.BinOp a .Mod b pos) (da (x % y)) S2 :=
  ev_opS op_mod ha hb (fun _ => .int _) fun F H v u Q r1 r2 q => ⟨x, y, r1.int_of, r2.int_of, h, q⟩
theorem ev_pow {x y : Int} (ha : EV X S a (da x) S1) (hb : EV X S1 b (da y) S2) (h : CPow x y) : EV X S (.BinOp a .Pow b pos) (da (x ^ y.toNat)) S2 :=
  ev_opS op_pow ha hb (fun _ => .int _) fun F H v u Q r1 r2 q => ⟨x, y, r1.int_of, r2.int_of, h, q⟩
theorem ev_neg {x : Int} (ha : EV X S a (da x) S1) : EV X S (.UnaryOp .USub a pos) (da (-x)) S1 := EV.of_d fun Γ σ F H Q s q =>
  PE.w (pe_un un_neg pe_w) (ha.dat s fun v F1 H1 s1 m1 r1 => ⟨x, r1.int_of, q _ F1 H1 s1 m1 (.int _)⟩)
theorem ev_addS {x y : Str} (ha : EV X S a (da x) S1) (hb : EV X S1 b (da y) S2) (h : x.length + y.length ≤ sizeLine) : EV X S (.BinOp a .Add b pos) (da (x ++ y)) S2 :=
  ev_opS op_add_str ha hb (fun _ => .str _) fun F H v u Q r1 r2 q => ⟨x, y, r1.str_of, r2.str_of, h, q⟩

/-! new objects -/
theorem Sat.newT {Γ : Cxt} {σ : St} {F H : Hp} {p : Addr} {vs : List V} {ds : List PyData} (s : Sat Γ S σ F H) (hp : H p = none) (r : RpAll F vs ds) :
    Sat Γ S σ (upd F p (.tup vs)) (upd H p (.tup vs)) ∧ Same F (upd F p (.tup vs)) ∧ Rp (upd F p (.tup vs)) (.ref p) (.tuple ds) := by
  have Fp : F p = none := s.fh.free hp
  have sF : Same F (upd F p (.tup vs)) := fun b o' e => by rw [upd_ne (ne_of_none e Fp)]; exact e
  refine ⟨?_, sF, .tup upd_same (r.mono sF)⟩
  exact Sat.grow (by rw [hide_upd hp]; exact s) upd_same
theorem Sat.newL {Γ : Cxt} {σ : St} {F H : Hp} {p : Addr} {vs : List V} {ds : List PyData} (s : Sat Γ S σ F H) (hp : H p = none) (r : RpAll F vs ds) :
    Sat Γ S σ F (hide (upd H p (.lst vs)) [p]) ∧ (ll ds).p (.ref p) [p] F (upd H p (.lst vs)) := by
  refine ⟨by rw [hide_upd hp]; exact s, p, _, rfl, rfl, upd_same, vs, rfl, r⟩
theorem el_nil : EL X S [] [] S := fun Γ σ F H Q s q => PA.w pa_nil (q [] F H s (Same.refl F) .nil)
theorem el_cons {ds : List PyData} (he : EV X S e (dd d) S1) (hr : EL X S1 es ds S2) (hs : starEach (e :: es) X.env = (false, eval e X.env) :: starEach es X.env := by rfl) : EL X S (e :: es) (d :: ds) S2 := fun Γ σ F H Q s q =>
  PA.w (pa_cons pe_w pa_w hs) (he.dat s fun v F1 H1 s1 m1 r1 => hr Γ σ F1 H1 _ s1 fun vs F2 H2 s2 m2 r2 => q (v :: vs) F2 H2 s2 (m1.trans m2) (.cons (r1.mono m2) r2))
theorem ev_tup {ds : List PyData} {k} (h : EL X S es ds S') (hz : ds.length ≤ sizeLine) : EV X S (.Tuple es k pos) (dd (.tuple ds)) S' := EV.of_d fun Γ σ F H Q s q =>
  PE.w (pe_tup pa_w) (h Γ σ F H _ s fun vs F1 H1 s1 m1 r1 => ⟨by rw [r1.length]; exact hz, fun p hp => by
    obtain ⟨s2, m2, r2⟩ := s1.newT hp r1
    exact q _ _ _ s2 (m1.trans m2) r2⟩)
theorem ev_lst {ds : List PyData} (h : EL X S es ds S') (hz : ds.length ≤ sizeLine) : EV X S (.List es pos) (ll ds) S' := fun Γ σ F H Q s q =>
  PE.w (pe_lst pa_w) (h Γ σ F H _ s fun vs F1 H1 s1 m1 r1 => ⟨by rw [r1.length]; exact hz, fun p hp => by
    obtain ⟨s2, r2⟩ := s1.newL hp r1
    exact q _ _ _ _ s2 m1 r2⟩)
theorem two_le : (2 : Nat) ≤ sizeLine := by decide
theorem ev_pair {α β : Type} [DecidableEq α] [Datum α] [DecidableEq β] [Datum β] {x : α} {y : β} {k} (ha : EV X S a (da x) S1) (hb : EV X S1 b (da y) S2)
    (hs : starEach [a, b] X.env = (false, eval a X.env) :: starEach [b] X.env := by rfl) (hs2 : starEach [b] X.env = (false, eval b X.env) :: starEach [] X.env := by rfl) : EV X S (.Tuple [a, b] k pos) (da (x, y)) S2 :=
  ev_tup (el_cons ha (el_cons hb el_nil hs2) hs) two_le
end
end Ev

namespace Ev
open PySem L2
open PySem.W (Datum Tup T3 T4 Holds HoldAll DatumOrd)

theorem Rp.holds {X : Cx} {pins : List (Addr × Obj)} {σ : St} {H F : Hp} {s : Shared} {α : Type} [DecidableEq α] [Datum α] {x : α} {v : V} {u : Value} (I : Inv X pins σ H s) (m : Same F H) (r : Rp F v (Datum.toD x)) (ru : RelV v u) : Holds s.heap u x :=
  Dp.reads I _ v u ((r.mono m).dp (K := X.K)) ru
theorem RpAll.holds {X : Cx} {pins : List (Addr × Obj)} {σ : St} {H F : Hp} {s : Shared} {α : Type} [DecidableEq α] [Datum α] {xs : List α} {vs : List V} {us : List Value} (I : Inv X pins σ H s) (m : Same F H) (r : RpAll F vs (xs.map Datum.toD)) (ru : Vals vs us) : HoldAll s.heap us xs :=
  Dp.readsAll I _ vs us ((r.mono m).dp (K := X.K)) ru

variable [Tb]
section
variable {X : Cx} {S S' S1 S2 S3 : Sl} {e a b c : Expr} {es rest : List Expr} {O : OP} {d d1 d2 d3 : PyData} {pos p : Pos} {op : CmpOp} {k : Bool}
variable {α β : Type} [DecidableEq α] [Datum α] [DecidableEq β] [Datum β]

/-! comparisons -/
theorem pc_of {r : R2} {ta tb : TE} (ho : OpR X (compareOp op) r) (ha : PE X a ta) (hb : PE X b tb) : PC X op a b (tOp r ta tb) :=
  ⟨fun pins s σ H Q I h => binT ha hb I h fun v u s2 x y H2 I2 rx ry q => ho pins s2 σ H2 x y v u Q I2 rx ry q⟩
theorem ec_op {r : R2} (ho : OpR X (compareOp op) r) (ha : EV X S a (dd d1) S1) (hb : EV X S1 b (dd d2) S2)
    (h : ∀ (F H : Hp) (v u : V) (Q : VK), Same F H → Rp F v d1 → Rp F u d2 → Q (.bl k) H → r v u H Q) : EC X S op a b k S2 := fun Γ σ F H Q s q =>
  PC.w (pc_of ho pe_w pe_w) (ha.dat s fun v F1 H1 s1 m1 r1 => hb.dat s1 fun u F2 H2 s2 m2 r2 => h F2 H2 v u Q s2.fh (r1.mono m2) r2 (q F2 H2 s2 (m1.trans m2)))
theorem ev_cmp (h : EC X S op a b k S') (h1 : behindInMarks op b = false := by first | exact nobehind _ (by decide) (by decide) | rfl) : EV X S (.Compare a [op] [b] pos) (da k) S' := EV.of_d fun Γ σ F H Q s q =>
  PE.w (pe_cmp pc_w h1) (h Γ σ F H _ s fun F' H' s' m => q _ F' H' s' m (.bl k))
theorem et_cmp (h : EC X S op a b k S') (h1 : behindInMarks op b = false := by first | exact nobehind _ (by decide) (by decide) | rfl) : ET X S (.Compare a [op] [b] pos) k S' := fun Γ σ F H Q s q =>
  PT.w (pt_cmp pc_w h1) (h Γ σ F H _ s fun F' H' s' m => ⟨k, rfl, q F' H' s' m⟩)
theorem ec_lt {x y : Int} (ha : EV X S a (da x) S1) (hb : EV X S1 b (da y) S2) : EC X S .Lt a b (decide (x < y)) S2 :=
  ec_op op_lt ha hb fun F H v u Q m r1 r2 q => ⟨x, y, r1.int_of, r2.int_of, q⟩
theorem ec_le {x y : Int} (ha : EV X S a (da x) S1) (hb : EV X S1 b (da y) S2) : EC X S .LtE a b (decide (x ≤ y)) S2 :=
  ec_op op_le ha hb fun F H v u Q m r1 r2 q => ⟨x, y, r1.int_of, r2.int_of, q⟩
theorem ec_gt {x y : Int} (ha : EV X S a (da x) S1) (hb : EV X S1 b (da y) S2) : EC X S .Gt a b (decide (y < x)) S2 :=
  ec_op op_gt ha hb fun F H v u Q m r1 r2 q => ⟨x, y, r1.int_of, r2.int_of, q⟩
theorem ec_ge {x y : Int} (ha : EV X S a (da x) S1) (hb : EV X S1 b (da y) S2) : EC X S .GtE a b (decide (y ≤ x)) S2 :=
  ec_op op_ge ha hb fun F H v u Q m r1 r2 q => ⟨x, y, r1.int_of, r2.int_of, q⟩
def rT (α : Type) [DecidableEq α] [Datum α] (g : α → α → V) : R2 := fun x y H Q => ∃ (F : Hp) (a b : α), Same F H ∧ Rp F x (Datum.toD a) ∧ Rp F y (Datum.toD b) ∧ Q (g a b) H
theorem op_eqT (hu : X.A.units + Datum.depth α < cLine) : OpR X (compareOp .Eq) (rT α fun a b => .bl (decide (a = b))) := by
  intro pins s σ H x y v u Q I rx ry h
  obtain ⟨F, a, b, m, h1, h2, q⟩ := h
  exact PySem.W.eq_datum (h1.holds I m rx) (h2.holds I m ry) hu ⟨.bl _, H, I, rfl, q⟩
theorem op_neT (hu : X.A.units + Datum.depth α < cLine) : OpR X (compareOp .NotEq) (rT α fun a b => .bl (decide (a ≠ b))) := by
  intro pins s σ H x y v u Q I rx ry h
  obtain ⟨F, a, b, m, h1, h2, q⟩ := h
  exact PySem.W.ne_datum (h1.holds I m rx) (h2.holds I m ry) hu ⟨.bl _, H, I, rfl, q⟩
theorem units_of {A : Around} {n k : Nat} (hr : Room n A) (h : k ≤ 64) : A.units + k < cLine := Nat.lt_of_le_of_lt (Nat.add_le_add_left h _) hr.units
theorem ec_eq {n : Nat} {x y : α} (hr : Room n X.A) (ha : EV X S a (da x) S1) (hb : EV X S1 b (da y) S2) (hd : Datum.depth α ≤ 64 := by decide) : EC X S .Eq a b (decide (x = y)) S2 :=
  ec_op (op_eqT (α := α) (units_of hr hd)) ha hb fun F H v u Q m r1 r2 q => ⟨F, x, y, m, r1, r2, q⟩
theorem ec_ne {n : Nat} {x y : α} (hr : Room n X.A) (ha : EV X S a (da x) S1) (hb : EV X S1 b (da y) S2) (hd : Datum.depth α ≤ 64 := by decide) : EC X S .NotEq a b (decide (x ≠ y)) S2 :=
  ec_op (op_neT (α := α) (units_of hr hd)) ha hb fun F H v u Q m r1 r2 q => ⟨F, x, y, m, r1, r2, q⟩
/-- of data of different kinds -/
theorem ec_eqD {n : Nat} (hr : Room n X.A) (ha : EV X S a (dd d1) S1) (hb : EV X S1 b (dd d2) S2) (h1 : SeqAt.shaped d1 = true) (h2 : SeqAt.shaped d2 = true) : EC X S .Eq a b (PyData.eqv d1 d2) S2 :=
  ec_op (op_eqD hr.units) ha hb fun F H v u Q m r1 r2 q => ⟨d1, d2, (r1.mono m).dp, (r2.mono m).dp, h1, h2, q⟩
theorem ec_neD {n : Nat} (hr : Room n X.A) (ha : EV X S a (dd d1) S1) (hb : EV X S1 b (dd d2) S2) (h1 : SeqAt.shaped d1 = true) (h2 : SeqAt.shaped d2 = true) : EC X S .NotEq a b (!PyData.eqv d1 d2) S2 :=
  ec_op (op_neD hr.units) ha hb fun F H v u Q m r1 r2 q => ⟨d1, d2, (r1.mono m).dp, (r2.mono m).dp, h1, h2, q⟩
def isNon : PyData → Bool
  | .none => true
  | _ => false
theorem Rp.isNon {F : Hp} {v : V} {d : PyData} (h : Rp F v d) : decide (v = .non) = isNon d := by
  cases h <;> first | rfl | exact decide_eq_false (fun z => by cases z)
theorem ec_isN {j pos'} (ha : EV X S a (dd d) S1) : EC X S .Is a (.Constant .none j pos') (isNon d) S1 := fun Γ σ F H Q s q =>
  PC.w (pc_isN pe_w) (ha.dat s fun v F1 H1 s1 m1 r1 => by rw [r1.isNon]; exact q F1 H1 s1 m1)
theorem ec_notN {j pos'} (ha : EV X S a (dd d) S1) : EC X S .IsNot a (.Constant .none j pos') (!isNon d) S1 := fun Γ σ F H Q s q =>
  PC.w (pc_notN pe_w) (ha.dat s fun v F1 H1 s1 m1 r1 => by rw [r1.isNon]; exact q F1 H1 s1 m1)
theorem ec_isB {x y : Bool} (ha : EV X S a (da x) S1) (hb : EV X S1 b (da y) S2) : EC X S .Is a b (decide (x = y)) S2 :=
  ec_op op_isBl ha hb fun F H v u Q m r1 r2 q => ⟨x, y, r1.bl_of, r2.bl_of, q⟩
theorem ec_notB {x y : Bool} (ha : EV X S a (da x) S1) (hb : EV X S1 b (da y) S2) : EC X S .IsNot a b (!decide (x = y)) S2 :=
  ec_op op_notBl ha hb fun F H v u Q m r1 r2 q => ⟨x, y, r1.bl_of, r2.bl_of, q⟩
theorem Inv.lstAt {pins : List (Addr × Obj)} {s : Shared} {σ : St} {H : Hp} {l : Addr} {xs : List V} (I : Inv X pins σ H s) (h : H l = some (.lst xs)) : ∃ its : List Value, Vals xs its ∧ s.heap.IsList l its.toArray := by
  obtain ⟨its, r, pl, _⟩ := I.list (SqL.of h)
  exact ⟨its, r, pl.isList⟩
def rInT (α : Type) [DecidableEq α] [Datum α] (neg : Bool) : R2 := fun x y H Q => ∃ (F : Hp) (a : α) (xs : List α), Same F H ∧ Rp F x (Datum.toD a) ∧ Rp F y (Datum.toD xs) ∧ Q (.bl (if neg then decide (a ∉ xs) else decide (a ∈ xs))) H
theorem op_inT (hu : X.A.units + 1 + Datum.depth α < cLine) : OpR X (compareOp .In) (rInT α false) := by
  intro pins s σ H x y v u Q I rx ry h
  obtain ⟨F, a, xs, m, h1, h2, q⟩ := h
  obtain ⟨l, vs, e, hl, r⟩ := h2.lst_of
  subst e
  cases ry
  obtain ⟨its, rv, hl'⟩ := Inv.lstAt I (m _ _ hl)
  exact PySem.W.in_list_datum hl' (by simpa using r.holds I m rv) (h1.holds I m rx) hu ⟨.bl _, H, I, rfl, q⟩
theorem op_notInT (hu : X.A.units + 1 + Datum.depth α < cLine) : OpR X (compareOp .NotIn) (rInT α true) := by
  intro pins s σ H x y v u Q I rx ry h
  obtain ⟨F, a, xs, m, h1, h2, q⟩ := h
  obtain ⟨l, vs, e, hl, r⟩ := h2.lst_of
  subst e
  cases ry
  obtain ⟨its, rv, hl'⟩ := Inv.lstAt I (m _ _ hl)
  exact PySem.W.notIn_list_datum hl' (by simpa using r.holds I m rv) (h1.holds I m rx) hu ⟨.bl _, H, I, rfl, q⟩
theorem ec_in {n : Nat} {x : α} {xs : List α} (hr : Room n X.A) (ha : EV X S a (da x) S1) (hb : EV X S1 b (da xs) S2) (hd : 1 + Datum.depth α ≤ 64 := by decide) : EC X S .In a b (decide (x ∈ xs)) S2 :=
  ec_op (op_inT (α := α) (by rw [Nat.add_assoc]; exact units_of hr hd)) ha hb fun F H v u Q m r1 r2 q => ⟨F, x, xs, m, r1, r2, q⟩
theorem ec_notin {n : Nat} {x : α} {xs : List α} (hr : Room n X.A) (ha : EV X S a (da x) S1) (hb : EV X S1 b (da xs) S2) (hd : 1 + Datum.depth α ≤ 64 := by decide) : EC X S .NotIn a b (decide (x ∉ xs)) S2 :=
  ec_op (op_notInT (α := α) (by rw [Nat.add_assoc]; exact units_of hr hd)) ha hb fun F H v u Q m r1 r2 q => ⟨F, x, xs, m, r1, r2, q⟩

/-! and, or, not, chains, if -/
theorem ev_not {x : Bool} (ha : EV X S a (da x) S1) : EV X S (.UnaryOp .Not a pos) (da (!x)) S1 := EV.of_d fun Γ σ F H Q s q =>
  PE.w (pe_not pe_w) (ha.dat s fun v F1 H1 s1 m1 r1 => ⟨x, r1.bl_of, q _ F1 H1 s1 m1 (.bl _)⟩)
theorem ev_one {op : BoolOp} {x : Bool} (ha : EV X S a (da x) S1) : EV X S (.BoolOp op [a] pos) (da x) S1 := EV.of_d fun Γ σ F H Q s q => PE.w (pe_one pe_w) (ha.dat s q)
theorem ev_and {x y : Bool} (ha : EV X S a (da x) S1) (hb : x = true → EV X S1 (.BoolOp .And (b :: rest) pos) (da y) S1) : EV X S (.BoolOp .And (a :: b :: rest) pos) (da (x && y)) S1 := EV.of_d fun Γ σ F H Q s q =>
  PE.w (pe_and pe_w pe_w) (ha.dat s fun v F1 H1 s1 m1 r1 => ⟨x, r1.bl_of, by
    cases hx : x with
    | true => exact iteT ((hb hx).dat s1 fun u F2 H2 s2 m2 r2 => q u F2 H2 s2 (m1.trans m2) (by rw [hx]; exact r2))
    | false => exact iteF (q _ F1 H1 s1 m1 (by rw [hx]; exact .bl false))⟩)
theorem ev_or {x y : Bool} (ha : EV X S a (da x) S1) (hb : x = false → EV X S1 (.BoolOp .Or (b :: rest) pos) (da y) S1) : EV X S (.BoolOp .Or (a :: b :: rest) pos) (da (x || y)) S1 := EV.of_d fun Γ σ F H Q s q =>
  PE.w (pe_or pe_w pe_w) (ha.dat s fun v F1 H1 s1 m1 r1 => ⟨x, r1.bl_of, by
    cases hx : x with
    | false => exact iteF ((hb hx).dat s1 fun u F2 H2 s2 m2 r2 => q u F2 H2 s2 (m1.trans m2) (by rw [hx]; exact r2))
    | true => exact iteT (q _ F1 H1 s1 m1 (by rw [hx]; exact .bl true))⟩)
theorem et_not (ha : ET X S a k S1) : ET X S (.UnaryOp .Not a pos) (!k) S1 := fun Γ σ F H Q s q => PT.w (pt_not pt_w) (ha Γ σ F H _ s q)
theorem et_val {x : Bool} (ha : EV X S a (da x) S1) (he : ∀ whole, isTrue a X.env whole = (do let v ← whole; standAt a.pos; holding [v] (truthy v)) := by intro _; rfl) : ET X S a x S1 := fun Γ σ F H Q s q =>
  PT.w (pt_val pe_w he) (ha.dat s fun v F1 H1 s1 m1 r1 => ⟨x, r1.bl_of, q F1 H1 s1 m1⟩)
theorem ew_and1 (ha : ET X S a k S1) : EW X S (.BoolOp .And [a] pos) k S1 := fun Γ σ F H Q s q => PW.w (pw_and1 pt_w) (ha Γ σ F H _ s q)
theorem ew_or1 (ha : ET X S a k S1) : EW X S (.BoolOp .Or [a] pos) k S1 := fun Γ σ F H Q s q => PW.w (pw_or1 pt_w) (ha Γ σ F H _ s q)
theorem ew_and {y : Bool} (ha : ET X S a k S1) (hb : k = true → EW X S1 (.BoolOp .And (b :: rest) pos) y S1) : EW X S (.BoolOp .And (a :: b :: rest) pos) (k && y) S1 := fun Γ σ F H Q s q =>
  PW.w (pw_and pt_w pw_w) (ha Γ σ F H _ s fun F1 H1 s1 m1 => by
    cases hx : k with
    | true => exact iteT (hb hx Γ σ F1 H1 _ s1 fun F2 H2 s2 m2 => by rw [hx] at q; exact q F2 H2 s2 (m1.trans m2))
    | false => exact iteF (by rw [hx] at q; exact q F1 H1 s1 m1))
theorem ew_or {y : Bool} (ha : ET X S a k S1) (hb : k = false → EW X S1 (.BoolOp .Or (b :: rest) pos) y S1) : EW X S (.BoolOp .Or (a :: b :: rest) pos) (k || y) S1 := fun Γ σ F H Q s q =>
  PW.w (pw_or pt_w pw_w) (ha Γ σ F H _ s fun F1 H1 s1 m1 => by
    cases hx : k with
    | false => exact iteF (hb hx Γ σ F1 H1 _ s1 fun F2 H2 s2 m2 => by rw [hx] at q; exact q F2 H2 s2 (m1.trans m2))
    | true => exact iteT (by rw [hx] at q; exact q F1 H1 s1 m1))
theorem et_w (h : EW X S e k S1) : ET X S e k S1 := fun Γ σ F H Q s q => PT.w (PW.pt pw_w) (h Γ σ F H Q s q)
theorem ev_chain {op' : CmpOp} {f f' : Int → Int → Bool} {x y z : Int} (ho : OpR X (compareOp op) (rI0 fun i j => .bl (f i j))) (ho' : OpR X (compareOp op') (rI0 fun i j => .bl (f' i j)))
    (ha : EV X S a (da x) S1) (hb : EV X S1 b (da y) S2) (hc : EV X S2 c (da z) S2) (hm : lastMarks [op, op'] [b, c] = false := by with_unfolding_all rfl) : EV X S (.Compare a [op, op'] [b, c] pos) (da (f x y && f' y z)) S2 := EV.of_d fun Γ σ F H Q s q =>
  PE.w (pe_chain ho ho' pe_w pe_w pe_w hm) (ha.dat s fun v F1 H1 s1 m1 r1 => hb.dat s1 fun u F2 H2 s2 m2 r2 => ⟨x, y, r1.int_of, r2.int_of, f x y, rfl, by
    cases hx : f x y with
    | true => exact iteT (hc.dat s2 fun w F3 H3 s3 m3 r3 => ⟨y, z, r2.int_of, r3.int_of, q _ F3 H3 s3 ((m1.trans m2).trans m3) (by rw [hx]; exact .bl _)⟩)
    | false => exact iteF (q _ F2 H2 s2 (m1.trans m2) (by rw [hx]; exact .bl _))⟩)
theorem et_chain {op' : CmpOp} {f f' : Int → Int → Bool} {x y z : Int} (ho : OpR X (compareOp op) (rI0 fun i j => .bl (f i j))) (ho' : OpR X (compareOp op') (rI0 fun i j => .bl (f' i j)))
    (ha : EV X S a (da x) S1) (hb : EV X S1 b (da y) S2) (hc : EV X S2 c (da z) S2) (hm : lastMarks [op, op'] [b, c] = false := by with_unfolding_all rfl) : ET X S (.Compare a [op, op'] [b, c] pos) (f x y && f' y z) S2 := fun Γ σ F H Q s q =>
  PT.w (pt_chain ho ho' pe_w pe_w pe_w hm) (ha.dat s fun v F1 H1 s1 m1 r1 => hb.dat s1 fun u F2 H2 s2 m2 r2 => ⟨x, y, r1.int_of, r2.int_of, f x y, rfl, by
    cases hx : f x y with
    | true => exact iteT (hc.dat s2 fun w F3 H3 s3 m3 r3 => ⟨y, z, r2.int_of, r3.int_of, _, rfl, by rw [hx] at q; exact q F3 H3 s3 ((m1.trans m2).trans m3)⟩)
    | false => exact iteF ⟨_, rfl, by rw [hx] at q; exact q F2 H2 s2 (m1.trans m2)⟩⟩)
theorem ev_ite (hc : ET X S c k S1) (ha : k = true → EV X S1 a O S2) (hb : k = false → EV X S1 b O S2) : EV X S (.IfExp c a b pos) O S2 := fun Γ σ F H Q s q =>
  PE.w (pe_ifExp pt_w pe_w pe_w) (hc Γ σ F H _ s fun F1 H1 s1 m1 => by
    cases hx : k with
    | true => exact iteT (ha hx Γ σ F1 H1 Q s1 fun v fp F2 H2 s2 m2 p => q v fp F2 H2 s2 (m1.trans m2) p)
    | false => exact iteF (hb hx Γ σ F1 H1 Q s1 fun v fp F2 H2 s2 m2 p => q v fp F2 H2 s2 (m1.trans m2) p))

/-! built-in functions and types by values -/
theorem ev_bi {id : String} {x : Str} {r : List V → Hp → VK → Prop} {ds : List PyData} (hc : CallR X (.builtin id) r) (hg : Gl X x) (hm : X.mg x = none) (hv : bootBuiltins x = some (.builtin id)) (hes : EL X S (e :: es) ds S1)
    (h : ∀ (Γ : Cxt) (σ : St) (F H : Hp) (vs : List V) (Q : VK), Sat Γ S1 σ F H → RpAll F vs ds → (∀ w fp F' H', Sat Γ S2 σ F' (hide H' fp) → Same F F' → O.p w fp F' H' → Q w H') → r vs H Q)
    (hn : x ≠ "__name__" := by decide) (hdb : (x == ("__debug__" : Str)) = false := by decide)
    (he : starEach (e :: es) X.env = (false, eval e X.env) :: starEach es X.env := by rfl) (hpl : (backTo pos (starEach es X.env)).any (·.1) = false := by rfl) : EV X S (.Call (.Name x p) (e :: es) [] pos) O S2 := fun Γ σ F H Q s q =>
  PE.w (pe_callB hc hg hm hv pa_w hn hdb he hpl) (hes Γ σ F H _ s fun vs F1 H1 s1 m1 r1 => h Γ σ F1 H1 vs Q s1 r1 fun w fp F' H' s' m q' => q w fp F' H' s' (m1.trans m) q')
theorem ev_ty {T : String} {x : Str} {r : List V → Hp → VK → Prop} {ds : List PyData} (hc : CallR X (.type T) r) (hg : Gl X x) (hm : X.mg x = none) (hv : bootBuiltins x = some (.type T)) (hes : EL X S (e :: es) ds S1)
    (h : ∀ (Γ : Cxt) (σ : St) (F H : Hp) (vs : List V) (Q : VK), Sat Γ S1 σ F H → RpAll F vs ds → (∀ w fp F' H', Sat Γ S2 σ F' (hide H' fp) → Same F F' → O.p w fp F' H' → Q w H') → r vs H Q)
    (hn : x ≠ "__name__" := by decide) (hdb : (x == ("__debug__" : Str)) = false := by decide)
    (he : starEach (e :: es) X.env = (false, eval e X.env) :: starEach es X.env := by rfl) (hpl : (backTo pos (starEach es X.env)).any (·.1) = false := by rfl) : EV X S (.Call (.Name x p) (e :: es) [] pos) O S2 := fun Γ σ F H Q s q =>
  PE.w (pe_callTy hc hg hm hv pa_w hn hdb he hpl) (hes Γ σ F H _ s fun vs F1 H1 s1 m1 r1 => h Γ σ F1 H1 vs Q s1 r1 fun w fp F' H' s' m q' => q w fp F' H' s' (m1.trans m) q')
theorem RpAll.one {F : Hp} {vs : List V} {d : PyData} (h : RpAll F vs [d]) : ∃ v, vs = [v] ∧ Rp F v d := by
  cases h with
  | cons h1 h2 => cases h2; exact ⟨_, rfl, h1⟩
theorem RpAll.two {F : Hp} {vs : List V} {d e : PyData} (h : RpAll F vs [d, e]) : ∃ v u, vs = [v, u] ∧ Rp F v d ∧ Rp F u e := by
  cases h with
  | cons h1 h2 =>
    obtain ⟨u, e, h3⟩ := h2.one
    subst e
    exact ⟨_, _, rfl, h1, h3⟩
theorem ev_len1 {x : Str} {n : Int} (hx : x = "len") (hg : Gl X x) (hm : X.mg x = none) (hes : EL X S [e] [d] S1)
    (h : ∀ (F H : Hp) (v : V), Same F H → Rp F v d → ∃ m : Nat, LenV X.K v H m ∧ (m : Int) = n) (he : starEach [e] X.env = (false, eval e X.env) :: starEach [] X.env := by rfl) : EV X S (.Call (.Name x p) [e] [] pos) (da n) S1 := by
  subst hx
  refine ev_bi call_len hg hm PySem.boot_len hes (fun Γ σ F H vs Q s r q => ?_) (by decide) (by decide) he rfl
  obtain ⟨v, e1, r1⟩ := r.one
  obtain ⟨m, h1, h2⟩ := h F H v s.fh r1
  exact ⟨v, m, e1, h1, q _ [] F H s.same_of (Same.refl F) ⟨rfl, by rw [← h2]; exact .int _⟩⟩
theorem ev_len {xs : List α} (hm : X.mg "len" = none) (ha : EV X S e (da xs) S1) (hg : Gl X "len" := by rfl) (he : starEach [e] X.env = (false, eval e X.env) :: starEach [] X.env := by rfl) : EV X S (.Call (.Name "len" p) [e] [] pos) (da (xs.length : Int)) S1 :=
  ev_len1 rfl hg hm (el_cons ha el_nil he) (fun F H v m r => by
    obtain ⟨l, vs, e, hl, r2⟩ := r.lst_of
    subst e
    exact ⟨vs.length, .inl ⟨vs, SqL.of (m _ _ hl), rfl⟩, by rw [r2.length, List.length_map]⟩) he
theorem ev_lenT {xs : Tup α} (hm : X.mg "len" = none) (ha : EV X S e (da xs) S1) (hg : Gl X "len" := by rfl) (he : starEach [e] X.env = (false, eval e X.env) :: starEach [] X.env := by rfl) : EV X S (.Call (.Name "len" p) [e] [] pos) (da (xs.items.length : Int)) S1 :=
  ev_len1 rfl hg hm (el_cons ha el_nil he) (fun F H v m r => by
    obtain ⟨l, vs, e, hl, r2⟩ := r.tup_of
    subst e
    exact ⟨vs.length, .inr ⟨vs, SqT.of (m _ _ hl), rfl⟩, by rw [r2.length, List.length_map]⟩) he

/-! subscripts -/
theorem atI_map {γ δ : Type} (f : γ → δ) {xs : List γ} {i : Int} {x : γ} (h : atI xs i = some x) : atI (xs.map f) i = some (f x) := by
  unfold atI at h ⊢
  rw [List.length_map]
  cases q : ixN xs.length i with
  | none => rw [q] at h; cases h
  | some j =>
    rw [q] at h
    have h' : xs[j]? = some x := h
    show (xs.map f)[j]? = some (f x)
    rw [List.getElem?_map, h']; rfl
theorem RpAll.atI {F : Hp} {vs : List V} {ds : List PyData} (r : RpAll F vs ds) {i : Int} {d : PyData} (h : atI ds i = some d) : ∃ v, L2.atI vs i = some v ∧ Rp F v d := by
  unfold L2.atI at h ⊢
  rw [r.length]
  cases q : ixN ds.length i with
  | none => rw [q] at h; cases h
  | some j =>
    rw [q] at h
    exact r.at (i := j) h
theorem ev_ix {ds : List PyData} {i : Int} (ha : EV X S a (dd (.list ds)) S1) (hb : EV X S1 b (da i) S2) (h : atI ds i = some d) (hs : PlainIx b := by intro _ _; rfl) : EV X S (.Subscript a b pos) (dd d) S2 := EV.of_d fun Γ σ F H Q s q =>
  PE.w (pe_ix ix_list pe_w pe_w hs) (ha.dat s fun v F1 H1 s1 m1 r1 => hb.dat s1 fun u F2 H2 s2 m2 r2 => by
    obtain ⟨l, vs, e, hl, r⟩ := (r1.mono m2).lst_of
    obtain ⟨w, e1, r3⟩ := r.atI h
    exact ⟨l, vs, i, w, e, r2.int_of, SqL.of (s2.fh _ _ hl), e1, q w F2 H2 s2 (m1.trans m2) r3⟩)
theorem ev_ixt {ds : List PyData} {i : Int} (ha : EV X S a (dd (.tuple ds)) S1) (hb : EV X S1 b (da i) S2) (h : atI ds i = some d) (hs : PlainIx b := by intro _ _; rfl) : EV X S (.Subscript a b pos) (dd d) S2 := EV.of_d fun Γ σ F H Q s q =>
  PE.w (pe_ix ix_tup pe_w pe_w hs) (ha.dat s fun v F1 H1 s1 m1 r1 => hb.dat s1 fun u F2 H2 s2 m2 r2 => by
    obtain ⟨l, vs, e, hl, r⟩ := (r1.mono m2).tup_of
    obtain ⟨w, e1, r3⟩ := r.atI h
    exact ⟨l, vs, i, w, e, r2.int_of, SqT.of (s2.fh _ _ hl), e1, q w F2 H2 s2 (m1.trans m2) r3⟩)
theorem ev_ixL {xs : List α} {i : Int} {x : α} (ha : EV X S a (da xs) S1) (hb : EV X S1 b (da i) S2) (h : atI xs i = some x) (hs : PlainIx b := by intro _ _; rfl) : EV X S (.Subscript a b pos) (da x) S2 := ev_ix ha hb (atI_map _ h) hs
theorem ev_ixT {xs : Tup α} {i : Int} {x : α} (ha : EV X S a (da xs) S1) (hb : EV X S1 b (da i) S2) (h : atI xs.items i = some x) (hs : PlainIx b := by intro _ _; rfl) : EV X S (.Subscript a b pos) (da x) S2 := ev_ixt ha hb (atI_map _ h) hs
theorem ev_fst {x : α × β} {j pos'} (ha : EV X S a (da x) S1) : EV X S (.Subscript a (.Constant (.int 0) j pos') pos) (da x.1) S1 := ev_ixt ha (ev_int (i := 0)) rfl
theorem ev_snd {x : α × β} {j pos'} (ha : EV X S a (da x) S1) : EV X S (.Subscript a (.Constant (.int 1) j pos') pos) (da x.2) S1 := ev_ixt ha (ev_int (i := 1)) rfl
end
end Ev

namespace Ev
open PySem L2
open PySem.W (Datum Tup T3 T4 Holds HoldAll DatumOrd)

/-! ## weakening -/
variable [Tb]
inductive Wk : Sl → Sl → Prop
  | nil : Wk [] []
  | eq {o o' : Option OP} {S T : Sl} : o = o' → Wk S T → Wk (o :: S) (o' :: T)
  | drop {o : Option OP} {S T : Sl} : Wk S T → Wk (o :: S) (none :: T)
theorem Wk.refl : ∀ S : Sl, Wk S S
  | [] => .nil
  | _ :: S => .eq rfl (Wk.refl S)
theorem Wk.keep {o : Option OP} {S T : Sl} (h : Wk S T) : Wk (o :: S) (o :: T) := .eq rfl h
theorem Wk.length : ∀ {S T : Sl}, Wk S T → T.length = S.length
  | _, _, .nil => rfl
  | _, _, .eq _ h => congrArg Nat.succ h.length
  | _, _, .drop h => congrArg Nat.succ h.length
theorem Wk.at : ∀ {S T : Sl}, Wk S T → ∀ {i : Nat} {O : OP}, T[i]? = some (some O) → S[i]? = some (some O)
  | _, _, .nil, i, O, h => by simp at h
  | _, _, .eq e h, 0, O, q => by subst e; simpa using q
  | _, _, .eq e h, i + 1, O, q => by simpa using h.at (i := i) (O := O) (by simpa using q)
  | _, _, .drop h, 0, O, q => by simp at q
  | _, _, .drop h, i + 1, O, q => by simpa using h.at (i := i) (O := O) (by simpa using q)
theorem Sat.sub {Γ : Cxt} {S T : Sl} {σ σ' : St} {F H : Hp} (s : Sat Γ S σ F H) (hl : σ'.length = T.length) (h : ∀ (i : Nat) (O : OP), T[i]? = some (some O) → S[i]? = some (some O) ∧ ∀ v, σ[i]? = some (some v) → σ'[i]? = some (some v)) : Sat Γ T σ' F H := by
  refine ⟨hl, s.fh, s.f0, s.h0, s.tb, s.new, s.tup, ?_⟩
  obtain ⟨f, h1, h2, h3, h4⟩ := s.ex
  refine ⟨fun i => match T[i]? with | some (some _) => f i | _ => [], fun i O e => ?_, fun i a ha => ?_, fun i j a hne ha => ?_, fun i hi => ?_⟩
  · obtain ⟨v, e1, q⟩ := h1 i O (h i O e).1
    refine ⟨v, (h i O e).2 v e1, ?_⟩
    simp only [e]; exact q
  · dsimp only at ha
    split at ha
    · exact h2 i a ha
    · cases ha
  · dsimp only at ha ⊢
    split at ha
    · split
      · exact h3 i j a hne ha
      · exact List.not_mem_nil
    · cases ha
  · dsimp only
    split
    · rename_i O e; exact absurd e (hi O)
    · rfl
theorem Sat.wk {Γ : Cxt} {S T : Sl} {σ : St} {F H : Hp} (s : Sat Γ S σ F H) (w : Wk S T) : Sat Γ T σ F H :=
  s.sub (by rw [w.length]; exact s.len) fun i O e => ⟨w.at e, fun v q => q⟩
theorem Sat.ext {Γ : Cxt} {S : Sl} {σ : St} {F H : Hp} (s : Sat Γ S σ F H) (m : Nat) : Sat Γ (S ++ List.replicate m none) (σ ++ List.replicate m none) F H := by
  refine ⟨by simp [s.len], s.fh, s.f0, s.h0, s.tb, s.new, s.tup, ?_⟩
  obtain ⟨f, h1, h2, h3, h4⟩ := s.ex
  have key : ∀ (i : Nat) (O : OP), (S ++ List.replicate m (none : Option OP))[i]? = some (some O) → S[i]? = some (some O) := fun i O e => by
    by_cases q : i < S.length
    · rw [List.getElem?_append_left q] at e; exact e
    · rw [List.getElem?_append_right (by omega), List.getElem?_replicate] at e
      split at e <;> cases e
  refine ⟨f, fun i O e => ?_, h2, h3, fun i hi => h4 i fun O e => hi O ?_⟩
  · obtain ⟨v, e1, q⟩ := h1 i O (key i O e)
    refine ⟨v, ?_, q⟩
    rw [List.getElem?_append_left (List.getElem?_eq_some_iff.mp e1).1]; exact e1
  · rw [List.getElem?_append_left (List.getElem?_eq_some_iff.mp e).1]; exact e

/-! ## something is set aside -/
theorem Sat.side {Γ : Cxt} {S : Sl} {σ : St} {F H : Hp} {fp0 : List Addr} (s : Sat Γ S σ F (hide H fp0)) (nt : ∀ a ∈ fp0, ∃ o, H a = some o ∧ NT o) : ∃ Γ' : Cxt, Sat Γ' S σ F H ∧
    ∀ (S' : Sl) (σ' : St) (F' H' : Hp) (fp : List Addr), Sat Γ' S' σ' F' (hide H' fp) → Sat Γ S' σ' F' (hide H' (fp ++ fp0)) ∧ (∀ a ∈ fp0, H' a = H a ∧ a ∉ fp) ∧ Same F F' := by
  obtain ⟨f, h1, h2, h3, h4⟩ := s.ex
  have nf : ∀ i a, a ∈ f i → a ∉ fp0 := fun i a ha z => by
    have := (h2 i a ha).2.1; rw [hide_in z] at this; exact this rfl
  have sh := s.show (nt1 nt)
  let Γ' : Cxt := ⟨F, H, fun a => ∃ i, a ∈ f i⟩
  have s1 : Sat Γ' S σ F H := by
    refine ⟨s.len, sh.fh, Same.refl F, fun a o e _ => .of e, sh.tb, fun a ha => .inl ha, sh.tup, f, fun i O e => ?_, fun i a ha => ?_, h3, h4⟩
    · obtain ⟨v, e1, q⟩ := h1 i O e
      exact ⟨v, e1, O.loc (fun a ha => (hide_out (nf i a ha)).symm) q⟩
    · obtain ⟨q1, q2, q3⟩ := h2 i a ha
      rw [hide_out (nf i a ha)] at q2
      exact ⟨q1, q2, .inr ⟨i, ha⟩⟩
  refine ⟨Γ', s1, fun S' σ' F' H' fp s' => ?_⟩
  have m : Same F F' := s'.f0
  have k0 : ∀ a ∈ fp0, H' a = H a ∧ a ∉ fp := fun a ha => by
    obtain ⟨o, e, n⟩ := nt a ha
    obtain ⟨z1, z2⟩ := hide_some ((s'.h0 a o e (fun ⟨i, hi⟩ => nf i a hi ha)).eq n.2.1)
    exact ⟨z2.trans e.symm, z1⟩
  have nt' : ∀ a ∈ fp0, ∃ o, hide H' fp a = some o ∧ NT o := fun a ha => by
    obtain ⟨o, e, n⟩ := nt a ha
    obtain ⟨z1, z2⟩ := k0 a ha
    exact ⟨o, by rw [hide_out z2, z1]; exact e, n⟩
  refine ⟨?_, k0, m⟩
  have up : ∀ {a : Addr} {o : HO}, hide H' fp a = some o → a ∉ fp0 → hide H' (fp ++ fp0) a = some o := fun {a o} e z => by
    obtain ⟨e1, e2⟩ := hide_some e
    rw [hide_out (fun y => (List.mem_append.mp y).elim e1 z)]; exact e2
  have F0n : ∀ a ∈ fp0, F' a = none := fun a ha => by
    cases e : F' a with
    | none => rfl
    | some o =>
      rcases s'.new a (by rw [e]; exact fun z => by cases z) with y | y | ⟨i, y⟩
      · exact absurd (s.fnone ha) y
      · obtain ⟨o, e', n'⟩ := nt a ha
        exact (fr_no (x := H a) y e' n'.2.1).elim
      · exact absurd ha (nf i a y)
  obtain ⟨f', g1, g2, g3, g4⟩ := s'.ex
  have nf' : ∀ i a, a ∈ f' i → a ∉ fp0 := fun i a ha z => by
    rcases (g2 i a ha).2.2 with y | ⟨j, y⟩
    · obtain ⟨o, e', n'⟩ := nt a z
      exact (fr_no (x := H a) y e' n'.2.1).elim
    · exact nf j a y z
  have happ : hide (hide H' fp) fp0 = hide H' (fp ++ fp0) := by
    funext b
    by_cases y : b ∈ fp0
    · rw [hide_in y, hide_in (List.mem_append.mpr (.inr y))]
    · rw [hide_out y]
      by_cases y2 : b ∈ fp
      · rw [hide_in y2, hide_in (List.mem_append.mpr (.inl y2))]
      · rw [hide_out y2, hide_out fun w => (List.mem_append.mp w).elim y2 y]
  refine ⟨s'.len, fun a o e => ?_, s.f0.trans m, fun a o e n => ?_, happ ▸ s'.tb.hide nt', fun a ha => ?_, fun a xs e => ?_, f', fun i O e => ?_, fun i a ha => ?_, g3, g4⟩
  · refine up (s'.fh _ _ e) fun z => ?_
    rw [F0n a z] at e; cases e
  · intro nn
    obtain ⟨z1, z2⟩ := hide_some (s.h0 a o e n nn)
    refine up (s'.h0 a o z2 (fun ⟨i, hi⟩ => ?_) nn) z1
    rcases (h2 i a hi).2.2 with y | y
    · exact fr_no y e nn
    · exact n y
  · rcases s'.new a ha with y | y | ⟨i, y⟩
    · exact s.new a y
    · by_cases z : Γ.A0 a
      · exact .inr (.inr z)
      · exact .inr (.inl (fr_tr (fun o e n => (hide_some (s.h0 a o e z n)).2) y))
    · exact .inr (h2 i a y).2.2
  · refine s'.tup a xs ?_
    obtain ⟨e1, e2⟩ := hide_some e
    rw [hide_out (fun y => e1 (List.mem_append.mpr (.inl y)))]; exact e2
  · obtain ⟨v', e1, q'⟩ := g1 i O e
    refine ⟨v', e1, O.loc (fun a ha => ?_) q'⟩
    have z := (g2 i a ha).2.1
    by_cases y : a ∈ fp
    · rw [hide_in y] at z; exact absurd rfl z
    · rw [hide_out y, hide_out (fun w => (List.mem_append.mp w).elim y (nf' i a ha))]
  · obtain ⟨q1, q2, q3⟩ := g2 i a ha
    refine ⟨q1, ?_, ?_⟩
    · by_cases y : a ∈ fp
      · rw [hide_in y] at q2; exact absurd rfl q2
      · rw [hide_out y] at q2
        rw [hide_out (fun w => (List.mem_append.mp w).elim y (nf' i a ha))]; exact q2
    · rcases q3 with y | ⟨j, y⟩
      · by_cases z : Γ.A0 a
        · exact .inr z
        · exact .inl (fr_tr (fun o e n => (hide_some (s.h0 a o e z n)).2) y)
      · exact (h2 j a y).2.2
theorem EV.frame {X : Cx} {S S' : Sl} {e : Expr} {O : OP} (h : EV X S e O S') {Γ : Cxt} {σ : St} {F H : Hp} {fp0 : List Addr} {Q : VK} (s : Sat Γ S σ F (hide H fp0)) (nt : ∀ a ∈ fp0, ∃ o, H a = some o ∧ NT o)
    (q : ∀ v fp F' H', Sat Γ S' σ F' (hide H' (fp ++ fp0)) → Same F F' → O.p v fp F' H' → (∀ a ∈ fp0, H' a = H a ∧ a ∉ fp) → Q v H') : WE X e σ H Q := by
  obtain ⟨Γ', s1, back⟩ := s.side nt
  refine h Γ' σ F H Q s1 fun v fp F' H' s' m p => ?_
  obtain ⟨b1, b2, b3⟩ := back S' σ F' H' fp s'
  exact q v fp F' H' b1 m p b2

/-! ## defs and their promises -/
structure HF (P : Program) (w : World) (K : PySem.W.Frag) (mg : Str → Option Value) (base : Heap) (k : Nat) (x : Str) (sp : Sp) : Prop where
  ex : ∃ (f : Addr) (fd : FuncData) (ps : List Str), FnOk P w K mg base CX0 k f fd ps sp ∧ mg x = some (.ref f) ∧ PySem.W.keepIn K (.ref f) = true ∧ Binds K fd ps []
theorem HF.mono {P : Program} {w : World} {K : PySem.W.Frag} {mg : Str → Option Value} {base : Heap} {j k : Nat} {x : Str} {sp : Sp} (h : HF P w K mg base j x sp) (l : j ≤ k) : HF P w K mg base k x sp := by
  obtain ⟨f, fd, ps, F, r⟩ := h.ex
  exact ⟨f, fd, ps, F.mono l, r⟩
def spc (pre : Sl) (post : OP) (pre' : Sl) : Sp := fun vs H Q _ => ∃ (F : Hp) (A0 : Addr → Prop), Sat ⟨F, H, A0⟩ pre (vs.map some) F H ∧ ∀ v fp F' H', Sat ⟨F, H, A0⟩ pre' (vs.map some) F' (hide H' fp) → post.p v fp F' H' → Q v H'
def spF {τ : Type} (ok : τ → Prop) (pre : τ → Sl) (post : τ → OP) (pre' : τ → Sl) : Sp := fun vs H Q E => ∃ t, ok t ∧ spc (pre t) (post t) (pre' t) vs H Q E
def slotOf : AR → Option OP
  | .v P => some (fz P)
  | .sl _ => none
def pres (ar : List AR) : Sl := ar.map slotOf
/-- a list of one's own, at a -/
def llA (a : Addr) (ds : List PyData) : OP where
  p := fun v fp F H => v = .ref a ∧ fp = [a] ∧ ∃ vs, H a = some (.lst vs) ∧ RpAll F vs ds
  mono := fun s h => by
    obtain ⟨h1, h2, vs, h3, h4⟩ := h
    exact ⟨h1, h2, vs, h3, h4.mono s⟩
  loc := fun q h => by
    obtain ⟨h1, h2, vs, h3, h4⟩ := h
    exact ⟨h1, h2, vs, (q a (by rw [h2]; simp)).trans h3, h4⟩
  own := fun h b hb => by
    obtain ⟨h1, h2, vs, h3, h4⟩ := h
    rw [h2] at hb
    obtain rfl : b = a := by simpa using hb
    exact ⟨_, h3, NT.lst⟩
theorem ArgsAre.length {σ : St} {F : Hp} : ∀ {ar : List AR} {vs : List V}, ArgsAre σ F ar vs → vs.length = ar.length
  | [], [], _ => rfl
  | .v P :: r, x :: xs, h => congrArg Nat.succ (ArgsAre.length h.2)
  | .sl j :: r, x :: xs, h => congrArg Nat.succ (ArgsAre.length h.2)
  | [], _ :: _, h => h.elim
  | .v _ :: _, [], h => h.elim
  | .sl _ :: _, [], h => h.elim
theorem ArgsAre.at {σ : St} {F : Hp} : ∀ {ar : List AR} {vs : List V}, ArgsAre σ F ar vs → ∀ {i : Nat} {P : FP}, ar[i]? = some (.v P) → ∃ v, vs[i]? = some v ∧ P.p v F
  | [], [], _, i, P, e => by simp at e
  | .v P :: r, x :: xs, h, 0, Q, e => by simp at e; subst e; exact ⟨x, rfl, h.1⟩
  | .sl P :: r, x :: xs, h, 0, Q, e => by simp at e
  | .v P :: r, x :: xs, h, i + 1, Q, e => by simpa using ArgsAre.at h.2 (i := i) (P := Q) (by simpa using e)
  | .sl P :: r, x :: xs, h, i + 1, Q, e => by simpa using ArgsAre.at h.2 (i := i) (P := Q) (by simpa using e)
  | [], _ :: _, h, _, _, _ => h.elim
  | .v _ :: _, [], h, _, _, _ => h.elim
  | .sl _ :: _, [], h, _, _, _ => h.elim
theorem ArgsAre.sl {σ : St} {F : Hp} : ∀ {ar : List AR} {vs : List V}, ArgsAre σ F ar vs → ∀ {i j : Nat}, ar[i]? = some (.sl j) → ∃ v, vs[i]? = some v ∧ σ[j]? = some (some v)
  | [], [], _, i, P, e => by simp at e
  | .v P :: r, x :: xs, h, 0, Q, e => by simp at e
  | .sl P :: r, x :: xs, h, 0, Q, e => by simp at e; subst e; exact ⟨x, rfl, h.1⟩
  | .v P :: r, x :: xs, h, i + 1, Q, e => by simpa using ArgsAre.sl h.2 (i := i) (j := Q) (by simpa using e)
  | .sl P :: r, x :: xs, h, i + 1, Q, e => by simpa using ArgsAre.sl h.2 (i := i) (j := Q) (by simpa using e)
  | [], _ :: _, h, _, _, _ => h.elim
  | .v _ :: _, [], h, _, _, _ => h.elim
  | .sl _ :: _, [], h, _, _, _ => h.elim
theorem pres_at {ar : List AR} {i : Nat} {O : OP} (h : (pres ar)[i]? = some (some O)) : ∃ P, ar[i]? = some (.v P) ∧ O = fz P := by
  unfold pres at h
  rw [List.getElem?_map] at h
  cases e : ar[i]? with
  | none => rw [e] at h; cases h
  | some q =>
    rw [e] at h
    cases q with
    | v P => exact ⟨P, rfl, by injection h with h; injection h with h; exact h.symm⟩
    | sl j => simp [slotOf] at h

section
variable {X : Cx} {S S' S1 S2 S3 : Sl} {e a b c : Expr} {es rest : List Expr} {O : OP} {d d1 d2 d3 : PyData} {pos p : Pos} {ar : List AR}
theorem ea_nil : EA X S [] [] S := fun Γ σ F H Q s q => PA.w pa_nil (q [] F H s (Same.refl F) trivial)
theorem ea_f {P : FP} (he : EV X S e (fz P) S1) (hr : EA X S1 es ar S2) (hs : starEach (e :: es) X.env = (false, eval e X.env) :: starEach es X.env := by rfl) : EA X S (e :: es) (.v P :: ar) S2 := fun Γ σ F H Q s q =>
  PA.w (pa_cons pe_w pa_w hs) (he.fzn s fun v F1 H1 s1 m1 r1 => hr Γ σ F1 H1 _ s1 fun vs F2 H2 s2 m2 r2 => q (v :: vs) F2 H2 s2 (m1.trans m2) ⟨P.mono m2 r1, r2⟩)
theorem ea_v (he : EV X S e (dd d) S1) (hr : EA X S1 es ar S2) (hs : starEach (e :: es) X.env = (false, eval e X.env) :: starEach es X.env := by rfl) : EA X S (e :: es) (.v (fd d) :: ar) S2 := ea_f (P := fd d) he hr hs
theorem ea_sl {j : Nat} (hp : PE X e (tVar j)) (hj : S[j]? = some (some O)) (hr : EA X S es ar S2) (hs : starEach (e :: es) X.env = (false, eval e X.env) :: starEach es X.env := by rfl) : EA X S (e :: es) (.sl j :: ar) S2 := fun Γ σ F H Q s q => by
  obtain ⟨v, fp, e1, _, _⟩ := s.slot hj
  exact PA.w (pa_cons hp pa_w hs) ⟨v, e1, hr Γ σ F H _ s fun vs F2 H2 s2 m2 r2 => q (v :: vs) F2 H2 s2 m2 ⟨e1, r2⟩⟩

/-- f(e, ..), nothing of one's own is handed on -/
theorem ev_call {τ : Type} {ok : τ → Prop} {pre pre' : τ → Sl} {post : τ → OP} {k n : Nat} {x : Str} {P : Program} {w : World} {K : PySem.W.Frag} {mg : Str → Option Value} {base : Heap} (G : HF P w K mg base k x (spF ok pre post pre')) (ha : EA X S (e :: es) ar S1) (t : τ) (hok : ok t)
    (hX : X.prog = P ∧ X.w = w ∧ X.K = K ∧ X.mg = mg ∧ X.base = base := by exact ⟨rfl, rfl, rfl, rfl, rfl⟩) (hr : Room n X.A := by assumption) (hk : k ≤ n := by decide) (hpre : pre t = pres ar := by rfl) (hg : Gl X x := by rfl) (hdb : (x == ("__debug__" : Str)) = false := by decide)
    (he : starEach (e :: es) X.env = (false, eval e X.env) :: starEach es X.env := by rfl) (hpl : (backTo pos (starEach es X.env)).any (·.1) = false := by rfl) : EV X S (.Call (.Name x p) (e :: es) [] pos) (post t) S1 := by
  obtain ⟨rfl, rfl, rfl, rfl, rfl⟩ := hX
  obtain ⟨f, fd, ps, F0, hm, hk2, hb⟩ := G.ex
  refine fun Γ σ F H Q s q => PE.w (pe_call F0 (hr.mono hk) hg hm hk2 hb .nil pass0 pa_w hdb he hpl) (ha Γ σ F H _ s fun vs F1 H1 s1 m1 r1 => ?_)
  rw [List.append_nil]
  refine ⟨t, hok, F1, fun _ => False, ?_, fun v fp F' H' s' pp => ?_⟩
  · rw [hpre]
    refine ⟨by rw [List.length_map, r1.length]; simp [pres], s1.fh, Same.refl F1, fun a o e _ => .of e, s1.tb, fun a ha => .inl ha, s1.tup, fun _ => [], fun i O e => ?_, fun i a ha => (by cases ha), fun i j a _ ha => (by cases ha), fun _ _ => rfl⟩
    obtain ⟨P, e1, e2⟩ := pres_at e
    obtain ⟨v, e3, e4⟩ := r1.at e1
    subst e2
    exact ⟨v, by rw [List.getElem?_map, e3]; rfl, rfl, e4⟩
  · have m2 : Same F1 F' := s'.f0
    have hh : ∀ a o, H1 a = some o → HK (hide H' fp) a o := fun a o e => s'.h0 a o e (fun z => z.elim)
    refine q v fp F' H' ?_ (m1.trans m2) pp
    obtain ⟨f', h1, h2, h3, h4⟩ := s1.ex
    refine ⟨s1.len, s'.fh, s1.f0.trans m2, fun a o e n => (s1.h0 a o e n).tr (hh a), s'.tb, fun a ha => ?_, s'.tup, f', fun i O e => ?_, fun i a ha => ?_, h3, h4⟩
    · rcases s'.new a ha with y | y | y
      · exact s1.new a y
      · by_cases z : Γ.A0 a
        · exact .inr (.inr z)
        · exact .inr (.inl (fr_tr (fun o e n => s1.h0 a o e z n) y))
      · exact y.elim
    · obtain ⟨v', e1, q'⟩ := h1 i O e
      refine ⟨v', e1, O.mono m2 (O.loc (fun a ha => ?_) q')⟩
      obtain ⟨o, e3, n3⟩ := O.own q' a ha
      rw [e3]; exact (hh a o e3).eq n3.2.1
    · obtain ⟨q1, q2, q3⟩ := h2 i a ha
      refine ⟨?_, ?_, q3⟩
      · cases e2 : F' a with
        | none => rfl
        | some o =>
          rcases s'.new a (by rw [e2]; exact fun z => by cases z) with y | y | y
          · exact absurd q1 y
          · exact (let ⟨o2, e5, n5⟩ := ex_nt h1 h4 ha; (fr_no y e5 n5.2.1).elim)
          · exact y.elim
      · obtain ⟨o2, e5, n5⟩ := ex_nt h1 h4 ha
        rw [hh a o2 e5 n5.2.1]; exact fun z => by cases z

/-- f(e, ..), a list of one's own (in slot j) is handed on as the k-th -/
theorem ev_callT {τ : Type} {ok : τ → Prop} {pre pre' : τ → Sl} {post : τ → OP} {lv n : Nat} {x : Str} (k j : Nat) {ds ds' : List PyData} {P : Program} {w : World} {K : PySem.W.Frag} {mg : Str → Option Value} {base : Heap} (G : HF P w K mg base lv x (spF ok pre post pre')) (ha : EA X S (e :: es) ar S1)
    (t : Addr → τ) (hok : ∀ a, ok (t a)) (hO : ∀ a, post (t a) = O) (hj : S1[j]? = some (some (ll ds))) (hX : X.prog = P ∧ X.w = w ∧ X.K = K ∧ X.mg = mg ∧ X.base = base := by exact ⟨rfl, rfl, rfl, rfl, rfl⟩) (hr : Room n X.A := by assumption) (hk : lv ≤ n := by decide) (hak : ar[k]? = some (AR.sl j) := by rfl)
    (hpre : ∀ a, pre (t a) = (pres ar).set k (some (llA a ds)) := by intro a; rfl) (hpre' : ∀ a, (pre' (t a))[k]? = some (some (llA a ds')) := by intro a; rfl) (hg : Gl X x := by rfl) (hdb : (x == ("__debug__" : Str)) = false := by decide)
    (he : starEach (e :: es) X.env = (false, eval e X.env) :: starEach es X.env := by rfl) (hpl : (backTo pos (starEach es X.env)).any (·.1) = false := by rfl) : EV X S (.Call (.Name x p) (e :: es) [] pos) O (S1.set j (some (ll ds'))) := by
  obtain ⟨rfl, rfl, rfl, rfl, rfl⟩ := hX
  obtain ⟨f, fd, ps, F0, hm, hk2, hb⟩ := G.ex
  refine fun Γ σ F H Q s q => PE.w (pe_call F0 (hr.mono hk) hg hm hk2 hb .nil pass0 pa_w hdb he hpl) (ha Γ σ F H _ s fun vs F1 H1 s1 m1 r1 => ?_)
  rw [List.append_nil]
  obtain ⟨v0, fpj, e1, pj, gj, sj⟩ := s1.take hj
  obtain ⟨a0, oo, rfl, rfl, e4, ws, rfl, rw0⟩ := pj
  obtain ⟨v0', ek, ek2⟩ := r1.sl hak
  rw [e1] at ek2
  obtain rfl : V.ref a0 = v0' := by injection ek2 with ek2; injection ek2
  have ga := gj a0 (by simp)
  have hkl : k < vs.length := (List.getElem?_eq_some_iff.mp ek).1
  refine ⟨t a0, hok a0, F1, fun a => a = a0, ?_, fun v fp F' H' s' pp => ?_⟩
  · rw [hpre a0]
    refine ⟨by rw [List.length_map, List.length_set, r1.length]; simp [pres], s1.fh, Same.refl F1, fun a o e _ => .of e, s1.tb, fun a ha => .inl ha, s1.tup, sel k [a0] fun _ => [], fun i O e => ?_, fun i a ha => ?_, fun i i' a hne ha => ?_, fun i hi => ?_⟩
    · by_cases z : i = k
      · subst z
        rw [List.getElem?_set_self (by rw [r1.length] at hkl; simpa [pres] using hkl)] at e
        cases e
        refine ⟨.ref a0, by rw [List.getElem?_map, ek]; rfl, ?_⟩
        rw [sel_eq]; exact ⟨rfl, rfl, ws, e4, rw0⟩
      · rw [List.getElem?_set_ne (Ne.symm z)] at e
        obtain ⟨P, e1, e2⟩ := pres_at e
        obtain ⟨v, e3, e4⟩ := r1.at e1
        subst e2
        exact ⟨v, by rw [List.getElem?_map, e3]; rfl, by rw [sel_ne z]; exact ⟨rfl, e4⟩⟩
    · by_cases z : i = k
      · rw [z, sel_eq] at ha
        obtain rfl : a = a0 := by simpa using ha
        exact ⟨ga.1, ga.2.1, .inr rfl⟩
      · rw [sel_ne z] at ha; cases ha
    · by_cases z : i = k
      · rw [sel_ne (fun y => hne (z.trans y.symm))]; exact List.not_mem_nil
      · rw [sel_ne z] at ha; cases ha
    · by_cases z : i = k
      · subst z
        refine absurd ?_ (hi (llA a0 ds))
        rw [List.getElem?_set_self (by rw [r1.length] at hkl; simpa [pres] using hkl)]
      · rw [sel_ne z]
  · have m2 : Same F1 F' := s'.f0
    have hh : ∀ a o, a ≠ a0 → H1 a = some o → HK (hide H' fp) a o := fun a o z e => s'.h0 a o e z
    obtain ⟨v2, fp2, c1, ⟨c2, c3, us, c4, c5⟩, c6⟩ := s'.slot (hpre' a0)
    subst c3
    have c7 := c6 a0 (by simp)
    refine q v fp F' H' ?_ (m1.trans m2) (by rw [← hO a0]; exact pp)
    obtain ⟨f', h1, h2, h3, h4⟩ := s1.ex
    obtain ⟨vj, ej, pj⟩ := h1 j _ hj
    obtain ⟨aj, oj, e1', fj, _⟩ := pj
    obtain rfl : aj = a0 := by
      rw [e1] at ej
      subst e1'
      injection ej with ej; injection ej with ej; injection ej with ej; exact ej.symm
    have hjl : j < S1.length := (List.getElem?_eq_some_iff.mp hj).1
    have nb : ∀ i a, ¬ i = j → a ∈ f' i → a ≠ aj := fun i a z ha e => h3 i j a z ha (by rw [fj, e]; simp)
    refine ⟨by rw [List.length_set]; exact s1.len, s'.fh, s1.f0.trans m2, fun a o e n => ?_, s'.tb, fun a ha => ?_, s'.tup, f', fun i O e => ?_, fun i a ha => ?_, h3, fun i hi => ?_⟩
    · intro nn
      refine hh a o (fun z => ?_) (s1.h0 a o e n nn) nn
      subst z
      rcases ga.2.2 with y | y
      · exact fr_no y e nn
      · exact n y
    · rcases s'.new a ha with y | y | y
      · exact s1.new a y
      · by_cases z : Γ.A0 a
        · exact .inr (.inr z)
        · exact .inr (.inl (fr_tr (fun o e n => s1.h0 a o e z n) y))
      · have y' : a = aj := y
        subst y'
        exact .inr ga.2.2
    · by_cases z : i = j
      · subst z
        rw [List.getElem?_set_self hjl] at e
        cases e
        exact ⟨.ref aj, e1, aj, _, rfl, fj, c4, us, rfl, c5⟩
      · rw [List.getElem?_set_ne (Ne.symm z)] at e
        obtain ⟨v', e1, q'⟩ := h1 i O e
        refine ⟨v', e1, O.mono m2 (O.loc (fun a ha => ?_) q')⟩
        obtain ⟨o, e3, n3⟩ := O.own q' a ha
        rw [e3]; exact (hh a o (nb i a z ha) e3).eq n3.2.1
    · by_cases z : i = j
      · subst z
        rw [fj] at ha
        obtain rfl : a = aj := by simpa using ha
        exact ⟨c7.1, c7.2.1, ga.2.2⟩
      · obtain ⟨q1, q2, q3⟩ := h2 i a ha
        refine ⟨?_, ?_, q3⟩
        · cases e2 : F' a with
          | none => rfl
          | some o =>
            rcases s'.new a (by rw [e2]; exact fun z => by cases z) with y | y | y
            · exact absurd q1 y
            · exact (let ⟨o2, e5, n5⟩ := ex_nt h1 h4 ha; (fr_no y e5 n5.2.1).elim)
            · exact absurd y (nb i a z ha)
        · obtain ⟨o2, e5, n5⟩ := ex_nt h1 h4 ha
          rw [hh a o2 (nb i a z ha) e5 n5.2.1]; exact fun z => by cases z
    · by_cases z : i = j
      · subst z
        exact absurd (List.getElem?_set_self hjl) (hi _)
      · refine h4 i fun O e => hi O ?_
        rw [List.getElem?_set_ne (Ne.symm z)]; exact e
end

/-! a def keeps its promise, by its body -/
def Pin (O : OP) (a : Addr) : Prop := ∀ v fp F H, O.p v fp F H → v = .ref a
theorem pin_llA {a : Addr} {ds : List PyData} : Pin (llA a ds) a := fun v fp F H h => h.1
def Bk (S' pre' : Sl) : Prop := ∀ (i : Nat) (O : OP), pre'[i]? = some (some O) → S'[i]? = some (some O)
def retD (O : OP) (pre' : Sl) : En := { nx := fun S' => O = da () ∧ Bk S' pre', rt := fun O' S' => O' = O ∧ Bk S' pre' }
theorem Bk.none {S' : Sl} (n : Nat) : Bk S' (List.replicate n none) := fun i O e => by
  rw [List.getElem?_replicate] at e
  split at e <;> cases e
theorem fn_of {P : Program} {w : World} {K : PySem.W.Frag} {mg : Str → Option Value} {base : Heap} {x qual : Str} {st : Stmt} {f : Addr} {fd : FuncData} {N ps : List Str} {k : Nat} {τ : Type} {ok : τ → Prop} {pre pre' : τ → Sl} {post : τ → OP}
    (F : Fun K x qual st f fd) (Sc : FnScope N ps (defScope st)) (hl : ∀ t, (pre t).length = ps.length) (hl' : ∀ t, (pre' t).length = ps.length)
    (hpin : ∀ (t : τ) (i : Nat) (O : OP), (pre' t)[i]? = some (some O) → ∃ a O0, (pre t)[i]? = some (some O0) ∧ Pin O a ∧ Pin O0 a)
    (body : ∀ (X : Cx), X.prog = P → X.w = w → X.K = K → X.mg = mg → X.base = base → (∃ cdv A outer s H E, X = (cxOf CX0 P w K mg base N qual (defScope st) f cdv A outer s H E).nox) → Room k X.A → ∀ t, ok t → BV X (pre t ++ List.replicate (N.length - ps.length) none) (defBody st) (retD (post t) (pre' t))) :
    FnOk P w K mg base CX0 (k + 1) f fd ps (spF ok pre post pre') := by
  have hlv : ∀ vs H Q E, spF ok pre post pre' vs H Q E → vs.length = ps.length := fun vs H Q E h => by
    obtain ⟨t, _, F, A0, s, _⟩ := h
    have := s.len
    rw [List.length_map, hl] at this
    exact this
  refine F.ok Sc hlv (fun cdv A outer s H vs Q E hr h => ⟨_, pb_w, ?_⟩)
  have hvl := hlv vs H Q E h
  obtain ⟨t, hok, F1, A0, s0, q⟩ := h
  have b := body (cxOf CX0 P w K mg base N qual (defScope st) f cdv A outer s H E).nox rfl rfl rfl rfl rfl ⟨cdv, A, outer, s, H, E, rfl⟩ hr t hok
  have s1 := s0.ext (N.length - ps.length)
  have back : ∀ (S' : Sl) (σ' : St) (v : V) (fp : List Addr) (F' H' : Hp), Bk S' (pre' t) → Sat ⟨F1, H, A0⟩ S' σ' F' (hide H' fp) → Sat ⟨F1, H, A0⟩ (pre' t) (vs.map some) F' (hide H' fp) := fun S' σ' v fp F' H' bk s' => by
    refine s'.sub (by rw [List.length_map, hl', hvl]) fun i O e => ⟨bk i O e, fun u hu => ?_⟩
    obtain ⟨a, O0, e0, p1, p0⟩ := hpin t i O e
    obtain ⟨v0, fp0, e1, q1, _⟩ := s0.slot e0
    obtain ⟨v1, fp1, e2, q2, _⟩ := s'.slot (bk i O e)
    rw [e1, p0 _ _ _ _ q1]
    rw [hu] at e2
    injection e2 with e2; injection e2 with e2
    rw [e2, p1 _ _ _ _ q2]
  have hst : L2.start N vs = vs.map some ++ List.replicate (N.length - ps.length) none := by unfold L2.start; rw [hvl]
  rw [hst]
  refine b ⟨F1, H, A0⟩ _ F1 H _ s1 ⟨fun S' σ' F' H' h s' => ?_, fun O S' σ' v fp F' H' h s' p => ?_, fun _ _ _ _ h _ => h.elim, fun _ _ _ _ h _ => h.elim⟩
  · exact q .non [] F' H' (back S' σ' .non [] F' H' h.2 s'.same_of) (by rw [h.1]; exact ⟨rfl, .non⟩)
  · exact q v fp F' H' (back S' σ' v fp F' H' h.2 s') (by rw [← h.1]; exact p)
theorem hf_of {P : Program} {w : World} {K : PySem.W.Frag} {mg : Str → Option Value} {base : Heap} {x qual : Str} {st : Stmt} {f : Addr} {fd : FuncData} {N ps : List Str} {k : Nat} {τ : Type} {ok : τ → Prop} {pre pre' : τ → Sl} {post : τ → OP}
    (F : Fun K x qual st f fd) (Sc : FnScope N ps (defScope st)) (hmg : mg x = some (.ref f)) (hb : Binds K fd ps []) (hl : ∀ t, (pre t).length = ps.length) (hl' : ∀ t, (pre' t).length = ps.length)
    (hpin : ∀ (t : τ) (i : Nat) (O : OP), (pre' t)[i]? = some (some O) → ∃ a O0, (pre t)[i]? = some (some O0) ∧ Pin O a ∧ Pin O0 a)
    (body : ∀ (X : Cx), X.prog = P → X.w = w → X.K = K → X.mg = mg → X.base = base → (∃ cdv A outer s H E, X = (cxOf CX0 P w K mg base N qual (defScope st) f cdv A outer s H E).nox) → Room k X.A → ∀ t, ok t → BV X (pre t ++ List.replicate (N.length - ps.length) none) (defBody st) (retD (post t) (pre' t))) :
    HF P w K mg base (k + 1) x (spF ok pre post pre') :=
  ⟨f, fd, ps, fn_of F Sc hl hl' hpin body, hmg, F.kp, hb⟩
end Ev

namespace Ev
open PySem L2
open PySem.W (Datum Tup T3 T4 Holds HoldAll DatumOrd)
variable [Tb]

section
variable {X : Cx} {S S' S1 S2 S3 : Sl} {e a b c : Expr} {es rest : List Expr} {O : OP} {d d1 d2 d3 : PyData} {pos p : Pos} {D : En} {st : Stmt} {sts body els : List Stmt} {k : Bool}

theorem EnOk.withNx {Γ : Cxt} {E : Ends} {N : Sl → Prop} {Nx : St → Hp → Prop} (h : EnOk Γ D E) (q : ∀ S σ F H, N S → Sat Γ S σ F H → Nx σ H) : EnOk Γ { D with nx := N } { E with nx := Nx } := ⟨q, h.rt, h.bk, h.ct⟩
theorem bv_nil (h : D.nx S) : BV X S [] D := fun Γ σ F H E s q => PSs.w pss_nil (q.nx S σ F H h s)
theorem bv_cons (h : SV X S st { D with nx := fun S' => BV X S' sts D }) : BV X S (st :: sts) D := fun Γ σ F H E s q =>
  PSs.w (pss_cons ps_w pb_w) (h Γ σ F H _ s (q.withNx fun S' σ' F' H' b s' => b Γ σ' F' H' E s' q))
theorem sv_ret (h : EV X S e O S') (r : D.rt O S') : SV X S (.Return (some e) pos) D := fun Γ σ F H E s q =>
  PS.w (ps_ret pe_w) (h Γ σ F H _ s fun v fp F' H' s' m p' => q.rt O S' σ v fp F' H' r s' p')
theorem sv_retN (r : D.rt (da ()) S) : SV X S (.Return none pos) D := fun Γ σ F H E s q => PS.w ps_retN (q.rt _ S σ .non [] F H r s.same_of ⟨rfl, .non⟩)
theorem sv_pass (h : D.nx S) : SV X S (.Pass pos) D := fun Γ σ F H E s q => PS.w ps_pass (q.nx S σ F H h s)
theorem sv_break (h : D.bk S) : SV X S (.Break pos) D := fun Γ σ F H E s q => PS.w ps_break (q.bk S σ F H h s)
theorem sv_doc {x j pos'} (h : D.nx S) : SV X S (.Expr (.Constant (.str x) j pos') pos) D := fun Γ σ F H E s q => PS.w ps_doc (q.nx S σ F H h s)
theorem sv_expr (h : EV X S e O S') (r : D.nx S') (hs : swapsWith e none pos.line X.env = pure false := by rfl) : SV X S (.Expr e pos) D := fun Γ σ F H E s q =>
  PS.w (ps_expr pe_w hs) (h Γ σ F H _ s fun v fp F' H' s' m p' => q.nx S' σ F' H' r (s'.show (nt1 (O.own p'))))
theorem sv_if (hc : ET X S c k S1) (ha : k = true → BV X S1 body D) (hb : k = false → BV X S1 els D) : SV X S (.If c body els pos) D := fun Γ σ F H E s q =>
  PS.w (ps_if pt_w pb_w pb_w) (hc Γ σ F H _ s fun F1 H1 s1 m1 => by
    cases hx : k with
    | true => exact iteT (ha hx Γ σ F1 H1 E s1 q)
    | false => exact iteF (hb hx Γ σ F1 H1 E s1 q))
theorem sv_set (i : Nat) {x : Str} {pos' : Pos} (he : EV X S e O S1) (r : D.nx (S1.set i (some O))) (hN : X.N.Nodup) (hi : X.N[i]? = some x := by rfl) (hx : Loc X.env.scope x := by first | exact Or.inl rfl | exact Or.inr rfl)
    (hs : swapsWith e (some (.Name x pos')) pos.line X.env = pure false := by rfl) (hf : X.fn x = true ∨ X.env.scope.names.lookup x = some .local := by first | exact .inl rfl | exact .inr rfl | assumption) : SV X S (.Assign [.Name x pos'] e pos) D := fun Γ σ F H E s q =>
  PS.w (ps_set hN hi hx pe_w hs hf) (he Γ σ F H _ s fun v fp F' H' s' m p' => q.nx _ _ F' H' r (s'.put p' i))

/-! targets -/
def Off (ix : List Nat) (σ σ' : St) : Prop := σ'.length = σ.length ∧ ∀ k, k ∉ ix → σ'[k]? = σ[k]?
def WG (X : Cx) (tg : Expr) : TG := fun v σ H Q => ∀ (pins : List (Addr × Obj)) (s : Shared) (u : Value), Inv X pins σ H s → RelV v u → wpAny (model X.prog X.w) X.A (assign tg X.env u) (fun _ s' => ∃ σ' H', Inv X pins σ' H' s' ∧ Q σ' H') X.xe s
def WGs (X : Cx) (ts : List Expr) : TGs := fun vs σ H Q => ∀ (pins : List (Addr × Obj)) (s : Shared) (us : List Value), Inv X pins σ H s → Vals vs us → wpAny (model X.prog X.w) X.A (assignInOrder ((assignEach ts X.env).map (·.2)) us) (fun _ s' => ∃ σ' H', Inv X pins σ' H' s' ∧ Q σ' H') X.xe s
theorem pg_w {tg : Expr} : PG X tg (WG X tg) := ⟨fun pins s _ _ _ u _ I r h => h pins s u I r⟩
theorem pgs_w {ts : List Expr} : PGs X ts (WGs X ts) := ⟨fun pins s _ _ _ us _ I r h => h pins s us I r⟩
theorem PG.w {tg : Expr} {t : TG} (p : PG X tg t) {σ : St} {H : Hp} {v : V} {Q : St → Hp → Prop} (h : t v σ H Q) : WG X tg v σ H Q := fun pins s u I r => p.run pins s σ H v u Q I r h
theorem PGs.w {ts : List Expr} {t : TGs} (p : PGs X ts t) {σ : St} {H : Hp} {vs : List V} {Q : St → Hp → Prop} (h : t vs σ H Q) : WGs X ts vs σ H Q := fun pins s us I r => p.run pins s σ H vs us Q I r h
def EG (X : Cx) (S : Sl) (tg : Expr) (d : PyData) (ix : List Nat) (S' : Sl) : Prop := ∀ (Γ : Cxt) (σ : St) (F H : Hp) (v : V) (Q : St → Hp → Prop), Sat Γ S σ F H → Rp F v d → (∀ σ', Sat Γ S' σ' F H → Off ix σ σ' → Q σ' H) → WG X tg v σ H Q
def EGs (X : Cx) (S : Sl) (ts : List Expr) (ds : List PyData) (ix : List Nat) (S' : Sl) : Prop := ∀ (Γ : Cxt) (σ : St) (F H : Hp) (vs : List V) (Q : St → Hp → Prop), Sat Γ S σ F H → RpAll F vs ds → (∀ σ', Sat Γ S' σ' F H → Off ix σ σ' → Q σ' H) → WGs X ts vs σ H Q
theorem Off.refl (σ : St) : Off [] σ σ := ⟨rfl, fun _ _ => rfl⟩
theorem Off.set {σ : St} (i : Nat) (v : Option V) : Off [i] σ (σ.set i v) := ⟨by rw [List.length_set], fun k hk => List.getElem?_set_ne (fun z => hk (by simp [z]))⟩
theorem Off.trans {ix jx : List Nat} {σ σ' σ'' : St} (a : Off ix σ σ') (b : Off jx σ' σ'') : Off (ix ++ jx) σ σ'' := ⟨b.1.trans a.1, fun k hk => (b.2 k fun z => hk (List.mem_append.mpr (.inr z))).trans (a.2 k fun z => hk (List.mem_append.mpr (.inl z)))⟩
theorem eg_name (i : Nat) {x : Str} (hN : X.N.Nodup) (hi : X.N[i]? = some x := by rfl) (hx : Loc X.env.scope x := by first | exact Or.inl rfl | exact Or.inr rfl) (hf : X.fn x = true ∨ X.env.scope.names.lookup x = some .local := by first | exact .inl rfl | exact .inr rfl | assumption) : EG X S (.Name x pos) d [i] (S.set i (some (dd d))) := fun Γ σ F H v Q s r q =>
  PG.w (pg_name hN hi hx hf) (q _ (s.same_of.put (O := dd d) ⟨rfl, r⟩ i) (Off.set i _))
theorem egs_nil : EGs X S [] [] [] S := fun Γ σ F H vs Q s r q => PGs.w pgs_nil (by cases r; exact ⟨rfl, q σ s (Off.refl σ)⟩)
theorem egs_cons {ts : List Expr} {tg : Expr} {ds : List PyData} {ix jx : List Nat} (h1 : EG X S tg d ix S1) (h2 : EGs X S1 ts ds jx S2) (hs : (assignEach (tg :: ts) X.env).map (·.2) = assign tg X.env :: (assignEach ts X.env).map (·.2) := by rfl) : EGs X S (tg :: ts) (d :: ds) (ix ++ jx) S2 := fun Γ σ F H vs Q s r q => by
  cases r with
  | cons r1 r2 => exact PGs.w (pgs_cons pg_w pgs_w hs) ⟨_, _, rfl, h1 Γ σ F H _ _ s r1 fun σ' s' o => h2 Γ σ' F H _ _ s' r2 fun σ'' s'' o' => q σ'' s'' (o.trans o')⟩
theorem eg_tup {ts : List Expr} {ds : List PyData} {ix : List Nat} {kk : Nat} (hc : X.calm = true) (h : EGs X S ts ds ix S1) (hn : (assignEach ts X.env).length = ds.length := by rfl) (hst : (assignEach ts X.env).findIdx? (·.1) = none := by rfl) : EG X S (.Tuple ts kk pos) (.tuple ds) ix S1 := fun Γ σ F H v Q s r q => by
  obtain ⟨l, vs, e, hl, r2⟩ := r.tup_of
  exact PG.w (pg_tup hc pgs_w hn hst) ⟨l, vs, e, SqT.of (s.fh _ _ hl), r2.length, h Γ σ F H vs Q s r2 q⟩
theorem sv_asg {tg : Expr} {ix : List Nat} (he : EV X S e (dd d) S1) (hg : EG X S1 tg d ix S2) (r : D.nx S2) (hs : swapsWithSole [tg] e pos.line X.env = pure false := by rfl) (hw : swappedStores [tg] e X.env = pure none := by rfl) (h1 : (assignEach [tg] X.env).map (·.2) = [assign tg X.env] := by rfl) : SV X S (.Assign [tg] e pos) D := fun Γ σ F H E s q =>
  PS.w (ps_asg pe_w pg_w hs hw h1) (he.dat s fun v F1 H1 s1 m1 r1 => hg Γ σ F1 H1 v _ s1 r1 fun σ' s' o => q.nx S2 σ' F1 H1 r s')
/-- a, b = e, f -/
theorem sv_par (i j : Nat) {x y : Str} {px py pt : Pos} {kt k2 pt2} (hc : X.calm = true) (he : EL X S [a, b] [d1, d2] S1) (r : D.nx ((S1.set i (some (dd d1))).set j (some (dd d2)))) (hN : X.N.Nodup) (hi : X.N[i]? = some x := by rfl) (hj : X.N[j]? = some y := by rfl) (hij : i ≠ j := by decide)
    (hx : X.env.scope.names.lookup x = some .local := by rfl) (hy : X.env.scope.names.lookup y = some .local := by rfl) (hw : swappedStores [.Tuple [.Name x px, .Name y py] kt pt] (.Tuple [a, b] k2 pt2) X.env = pure (some [x, y]) := by rfl)
    (hs : swapsWithSole [.Tuple [.Name x px, .Name y py] kt pt] (.Tuple [a, b] k2 pt2) pos.line X.env = pure false := by rfl) : SV X S (.Assign [.Tuple [.Name x px, .Name y py] kt pt] (.Tuple [a, b] k2 pt2) pos) D := fun Γ σ F H E s q =>
  PS.w (ps_par hc hN hi hj hij hx hy pa_w hw hs) (he Γ σ F H _ s fun vs F1 H1 s1 m1 r1 => by
    obtain ⟨v, u, e1, r1, r2⟩ := r1.two
    exact ⟨v, u, e1, q.nx _ _ F1 H1 r ((s1.same_of.put (O := dd d1) ⟨rfl, r1⟩ i).same_of.put (O := dd d2) ⟨rfl, r2⟩ j)⟩)

/-! what is walked -/
def JOk (J : It) (ds : List PyData) (F0 : Hp) : Prop := ∀ (i : Nat) (Γ : Cxt) (S : Sl) (σ : St) (F H : Hp), Sat Γ S σ F H → Same F0 F →
  (∀ d, ds[i]? = some d → J.go i H ∧ ∀ x H', J.yld i H x H' → ∃ F', Sat Γ S σ F' H' ∧ Same F F' ∧ Rp F' x d ∧ ∀ b o, H b = some o → H' b = some o) ∧ (ds.length ≤ i → J.stop i H)
def WI (X : Cx) (tg iter : Expr) : TI := fun σ H R => ∀ (pins : List (Addr × Obj)) (s : Shared), Inv X pins σ H s → wpAny (model X.prog X.w) X.A (eval iter X.env) (fun v s1 => wpAny (model X.prog X.w) X.A (pyIter v) (PIE X pins σ tg R) X.xe s1) X.xe s
theorem pi_w {tg iter : Expr} : PI X tg iter (WI X tg iter) := ⟨fun pins s _ _ _ I h => h pins s I⟩
theorem PI.w {tg iter : Expr} {t : TI} (p : PI X tg iter t) {σ : St} {H : Hp} {R : It → Hp → Prop} (h : t σ H R) : WI X tg iter σ H R := fun pins s I => p.run pins s σ H R I h
def EI (X : Cx) (S : Sl) (tg iter : Expr) (ds : List PyData) (S' : Sl) : Prop := ∀ (Γ : Cxt) (σ : St) (F H : Hp) (R : It → Hp → Prop), Sat Γ S σ F H → (∀ J F' H', Sat Γ S' σ F' H' → Same F F' → JOk J ds F' → R J H') → WI X tg iter σ H R
theorem ei_lst {tg : Expr} {ds : List PyData} (h : EV X S e (dd (.list ds)) S') : EI X S tg e ds S' := fun Γ σ F H R s q =>
  PI.w (pi_list pe_w) (h.dat s fun v F1 H1 s1 m1 r1 => by
    obtain ⟨l, vs, e, hl, r2⟩ := r1.lst_of
    subst e
    refine ⟨l, rfl, ⟨vs, SqL.of (s1.fh _ _ hl)⟩, q _ F1 H1 s1 m1 fun i Γ S σ F H s m => ⟨fun d hd => ?_, fun hi => ⟨vs, SqL.of (s.fh _ _ (m _ _ hl)), by rw [r2.length]; exact hi⟩⟩⟩
    obtain ⟨x, e, rx⟩ := r2.at hd
    refine ⟨⟨vs, x, SqL.of (s.fh _ _ (m _ _ hl)), e⟩, fun y H' hy => ?_⟩
    obtain ⟨rfl, hy⟩ := hy
    have := hy vs (SqL.of (s.fh _ _ (m _ _ hl)))
    rw [e] at this
    obtain rfl : x = y := Option.some.inj this
    exact ⟨F, s, Same.refl F, rx.mono m, fun _ _ h => h⟩)
theorem ei_tup {tg : Expr} {ds : List PyData} (h : EV X S e (dd (.tuple ds)) S') : EI X S tg e ds S' := fun Γ σ F H R s q =>
  PI.w (pi_tup pe_w) (h.dat s fun v F1 H1 s1 m1 r1 => by
    obtain ⟨l, vs, e, hl, r2⟩ := r1.tup_of
    subst e
    refine ⟨l, rfl, ⟨vs, SqT.of (s1.fh _ _ hl)⟩, q _ F1 H1 s1 m1 fun i Γ S σ F H s m => ⟨fun d hd => ?_, fun hi => ⟨vs, SqT.of (s.fh _ _ (m _ _ hl)), by rw [r2.length]; exact hi⟩⟩⟩
    obtain ⟨x, e, rx⟩ := r2.at hd
    refine ⟨⟨vs, x, SqT.of (s.fh _ _ (m _ _ hl)), e⟩, fun y H' hy => ?_⟩
    obtain ⟨rfl, hy⟩ := hy
    have := hy vs (SqT.of (s.fh _ _ (m _ _ hl)))
    rw [e] at this
    obtain rfl : x = y := Option.some.inj this
    exact ⟨F, s, Same.refl F, rx.mono m, fun _ _ h => h⟩)
/-- lo, lo + 1, .. -/
def rng (lo : Int) (n : Nat) : List Int := (List.range n).map fun (i : Nat) => lo + (i : Int)
theorem rng_length (lo : Int) (n : Nat) : (rng lo n).length = n := by simp [rng]
theorem rng_at {lo : Int} {n i : Nat} {d : PyData} (h : ((rng lo n).map Datum.toD)[i]? = some d) : i < n ∧ d = .int (lo + i) := by
  unfold rng at h
  rw [List.getElem?_map, List.getElem?_map] at h
  by_cases q : i < n
  · rw [List.getElem?_range q] at h
    exact ⟨q, by injection h with h; exact h.symm⟩
  · rw [List.getElem?_eq_none (by simpa using q)] at h; cases h
theorem jok_range {lo : Int} {n : Nat} {F : Hp} : JOk (Itr lo n) ((rng lo n).map Datum.toD) F := fun i Γ S σ F H s m => ⟨fun d hd => by
    obtain ⟨h1, h2⟩ := rng_at hd
    refine ⟨h1, fun x H' hy => ?_⟩
    obtain ⟨rfl, rfl⟩ := hy
    subst h2
    exact ⟨F, s, Same.refl F, .int _, fun _ _ h => h⟩, fun hi => by rw [List.length_map, rng_length] at hi; exact hi⟩
def RgOk1 (n : Int) : Prop := -(2 ^ 62) ≤ n ∧ n < 2 ^ 62
theorem ei_range1 {tg : Expr} {n : Int} (hm : X.mg "range" = none) (h : EV X S e (da n) S') (hz : RgOk1 n) (hg : Gl X "range" := by rfl) (hs : starEach [e] X.env = [(false, eval e X.env)] := by rfl) : EI X S tg (.Call (.Name "range" p) [e] [] pos) ((rng 0 n.toNat).map Datum.toD) S' := fun Γ σ F H R s q =>
  PI.w (pi_range1 hg hm (pa_cons pe_w pa_nil hs) hs) (h.dat s fun v F1 H1 s1 m1 r1 => ⟨n, by rw [r1.int_of], hz.1, hz.2, q _ F1 H1 s1 m1 jok_range⟩)
theorem ei_range2 {tg : Expr} {n n2 : Int} (hm : X.mg "range" = none) (h : EV X S a (da n) S1) (h2 : EV X S1 b (da n2) S2) (hz : RgOk1 n) (hz2 : RgOk1 n2) (hg : Gl X "range" := by rfl) (hs : starEach [a, b] X.env = [(false, eval a X.env), (false, eval b X.env)] := by rfl) (hs2 : starEach [b] X.env = [(false, eval b X.env)] := by rfl) :
    EI X S tg (.Call (.Name "range" p) [a, b] [] pos) ((rng n (n2 - n).toNat).map Datum.toD) S2 := fun Γ σ F H R s q =>
  PI.w (pi_range2 hg hm (pa_cons pe_w (pa_cons pe_w pa_nil hs2) (by rw [hs, hs2])) hs hs2) (h.dat s fun v F1 H1 s1 m1 r1 => h2.dat s1 fun u F2 H2 s2 m2 r2 => ⟨n, n2, by rw [r1.int_of, r2.int_of], ⟨hz.1, hz.2, hz2.1, hz2.2⟩, q _ F2 H2 s2 (m1.trans m2) jok_range⟩)

/-! for -/
theorem sv_forG {tg iter : Expr} {ds : List PyData} {ix : List Nat} (hc : X.calm = true) (hp : PassesOwn (model X.prog X.w) X.A X.env X.xe) (hi : EI X S tg iter ds S1) (Sf : Nat → Sl) (G : Nat → Sl) (I : Nat → Prop) (h0 : I 0) (hS : S1 = Sf 0)
    (hg : ∀ i d, ds[i]? = some d → I i → EG X (Sf i) tg d ix (G i))
    (hb : ∀ i d, ds[i]? = some d → I i → BV X (G i) body { nx := fun S' => I (i + 1) ∧ Wk S' (Sf (i + 1)), ct := fun S' => I (i + 1) ∧ Wk S' (Sf (i + 1)), bk := D.nx, rt := D.rt })
    (hd : I ds.length → D.nx (Sf ds.length)) (hs : ∀ x, foldedSetIterable iter X.env x = pure x := by intro _; rfl) : SV X S (.For tg iter body [] pos) D := fun Γ σ F H E s q =>
  PS.w (ps_for hp hc pi_w pg_w pb_w hs) (hi Γ σ F H _ s fun J F1 H1 s1 m1 jk => by
    refine ⟨fun i m σ H => m = ds.length - i ∧ i ≤ ds.length ∧ I i ∧ ∃ F, Sat Γ (Sf i) σ F H ∧ Same F1 F, ⟨ds.length, by simp, Nat.zero_le _, h0, F1, by rw [← hS]; exact s1, Same.refl F1⟩, ?_⟩
    rintro i m σ2 H2 ⟨rfl, hi, hI, F2, s2, m2⟩
    by_cases hlt : i < ds.length
    · obtain ⟨g1, g2⟩ := (jk i Γ _ σ2 F2 H2 s2 m2).1 ds[i] (List.getElem?_eq_getElem hlt)
      refine .inr ⟨g1, fun σ' H' => I (i + 1) ∧ ∃ F, Sat Γ (Sf (i + 1)) σ' F H' ∧ Same F1 F, fun σ' H' ⟨h1, h2⟩ => ⟨ds.length - (i + 1), by omega, rfl, hlt, h1, h2⟩, fun x H3 hy => ?_⟩
      obtain ⟨F3, s3, m3, r3, _⟩ := g2 x H3 hy
      refine hg i _ (List.getElem?_eq_getElem hlt) hI Γ σ2 F3 H3 x _ s3 r3 fun σ' s' o => ?_
      -- the frozen part of the loop's start stands: tell the body by its own Γ
      have key := hb i _ (List.getElem?_eq_getElem hlt) hI
      obtain ⟨f, q1, q2, q3, q4⟩ := s'.ex
      let Γ' : Cxt := ⟨F3, H3, fun a => ∃ i, a ∈ f i⟩
      have sΓ : Sat Γ' (G i) σ' F3 H3 := ⟨s'.len, s'.fh, Same.refl F3, fun a o e _ => .of e, s'.tb, fun a ha => .inl ha, s'.tup, f, q1, fun i a ha => ⟨(q2 i a ha).1, (q2 i a ha).2.1, .inr ⟨i, ha⟩⟩, q3, q4⟩
      have conv : ∀ (T : Sl) (τ : St) (F4 H4 : Hp) (fp : List Addr), Sat Γ' T τ F4 (hide H4 fp) → Sat Γ T τ F4 (hide H4 fp) ∧ Same F3 F4 := fun T τ F4 H4 fp s4 => by
        refine ⟨⟨s4.len, s4.fh, s'.f0.trans s4.f0, fun a o e n => ?_, s4.tb, fun a ha => ?_, s4.tup, ?_⟩, s4.f0⟩
        · intro nn
          refine s4.h0 a o (s'.h0 a o e n nn) (fun ⟨i, hi⟩ => ?_) nn
          rcases (q2 i a hi).2.2 with y | y
          · exact fr_no y e nn
          · exact n y
        · rcases s4.new a ha with y | y | ⟨i, y⟩
          · exact s'.new a y
          · by_cases z : Γ.A0 a
            · exact .inr (.inr z)
            · exact .inr (.inl (fr_tr (fun o e n => s'.h0 a o e z n) y))
          · exact .inr (q2 i a y).2.2
        · obtain ⟨f', p1, p2, p3, p4⟩ := s4.ex
          refine ⟨f', p1, fun i a ha => ⟨(p2 i a ha).1, (p2 i a ha).2.1, ?_⟩, p3, p4⟩
          rcases (p2 i a ha).2.2 with y | ⟨j, y⟩
          · by_cases z : Γ.A0 a
            · exact .inr z
            · exact .inl (fr_tr (fun o e n => s'.h0 a o e z n) y)
          · exact (q2 j a y).2.2
      have conv0 : ∀ (T : Sl) (τ : St) (F4 H4 : Hp), Sat Γ' T τ F4 H4 → Sat Γ T τ F4 H4 ∧ Same F3 F4 := fun T τ F4 H4 s4 => by
        have := conv T τ F4 H4 [] s4.same_of
        rw [hide_nil] at this; exact this
      refine key Γ' σ' F3 H3 _ sΓ ⟨fun T τ F4 H4 ⟨h1, h2⟩ s4 => ?_, fun O T τ v fp F4 H4 h s4 p => ?_, fun T τ F4 H4 h s4 => ?_, fun T τ F4 H4 ⟨h1, h2⟩ s4 => ?_⟩
      · obtain ⟨c1, c2⟩ := conv0 T τ F4 H4 s4
        exact ⟨h1, F4, c1.wk h2, (m2.trans m3).trans c2⟩
      · exact q.rt O T τ v fp F4 H4 h (conv T τ F4 H4 fp s4).1 p
      · exact q.nx T τ F4 H4 h (conv0 T τ F4 H4 s4).1
      · obtain ⟨c1, c2⟩ := conv0 T τ F4 H4 s4
        exact ⟨h1, F4, c1.wk h2, (m2.trans m3).trans c2⟩
    · have e : i = ds.length := by omega
      subst e
      exact .inl ⟨(jk _ Γ _ σ2 F2 H2 s2 m2).2 (Nat.le_refl _), q.nx _ σ2 F2 H2 (hd hI) s2⟩)
/-- over typed items, a state folded; I: what is true of the items gone through -/
theorem sv_for {tg iter : Expr} {α τ : Type} [DecidableEq α] [Datum α] {xs : List α} {ix : List Nat} (hc : X.calm = true) (hi : EI X S tg iter (xs.map Datum.toD) S1) (hp : PassesOwn (model X.prog X.w) X.A X.env X.xe) (t0 : τ) (step : τ → α → τ) (Sf : τ → Sl) (G : τ → α → Sl) (I : List α → Prop) (h0 : I []) (hS : S1 = Sf t0)
    (hg : ∀ t x, EG X (Sf t) tg (Datum.toD x) ix (G t x))
    (hb : ∀ pre x post t, xs = pre ++ x :: post → I pre → t = pre.foldl step t0 → BV X (G t x) body { nx := fun S' => I (pre ++ [x]) ∧ Wk S' (Sf (step t x)), ct := fun S' => I (pre ++ [x]) ∧ Wk S' (Sf (step t x)), bk := D.nx, rt := D.rt })
    (hd : I xs → D.nx (Sf (xs.foldl step t0))) (hs : ∀ x, foldedSetIterable iter X.env x = pure x := by intro _; rfl) : SV X S (.For tg iter body [] pos) D := by
  have split : ∀ (i : Nat) (d : PyData), (xs.map Datum.toD)[i]? = some d → ∃ x, xs[i]? = some x ∧ d = Datum.toD x ∧ xs = xs.take i ++ x :: xs.drop (i + 1) ∧ xs.take (i + 1) = xs.take i ++ [x] := fun i d h => by
    rw [List.getElem?_map] at h
    cases e : xs[i]? with
    | none => rw [e] at h; cases h
    | some x =>
      rw [e] at h
      obtain ⟨hi, e'⟩ := List.getElem?_eq_some_iff.mp e
      refine ⟨x, rfl, by injection h with h; exact h.symm, ?_, ?_⟩
      · rw [← e', List.getElem_cons_drop, List.take_append_drop]
      · rw [List.take_succ, e]; rfl
  refine sv_forG (ix := ix) hc hp hi (fun i => Sf ((xs.take i).foldl step t0)) (fun i => match xs[i]? with | some x => G ((xs.take i).foldl step t0) x | none => []) (fun i => I (xs.take i)) (by simpa using h0) (by simpa using hS) (fun i d h hI => ?_) (fun i d h hI => ?_) (fun hI => ?_) hs
  · obtain ⟨x, e, rfl, _, _⟩ := split i d h
    simp only [e]
    exact hg _ x
  · obtain ⟨x, e, rfl, e2, e3⟩ := split i d h
    simp only [e, e3]
    rw [List.foldl_append]
    exact hb _ x _ _ e2 hI rfl
  · rw [List.length_map, List.take_length] at *
    exact hd hI

/-! while -/
theorem sv_while {τ : Type} (hp : PassesOwn (model X.prog X.w) X.A X.env X.xe) (Sf : τ → Sl) (P : τ → Prop) (μ : τ → Nat) (b : τ → Bool) (t0 : τ) (h0 : P t0) (hS : Wk S (Sf t0)) (hc : ∀ t, P t → ET X (Sf t) c (b t) (Sf t))
    (hb : ∀ t, P t → b t = true → BV X (Sf t) body { nx := fun S' => ∃ t', P t' ∧ μ t' < μ t ∧ Wk S' (Sf t'), ct := fun S' => ∃ t', P t' ∧ μ t' < μ t ∧ Wk S' (Sf t'), bk := D.nx, rt := D.rt })
    (hd : ∀ t, P t → b t = false → D.nx (Sf t)) : SV X S (.While c body [] pos) D := fun Γ σ F H E s q =>
  PS.w (ps_while hp pt_w pb_w) (by
    refine ⟨fun m σ H => ∃ t, m = μ t ∧ P t ∧ ∃ F, Sat Γ (Sf t) σ F H, ⟨_, t0, rfl, h0, F, s.wk hS⟩, ?_⟩
    rintro m σ1 H1 ⟨t, rfl, hP, F1, s1⟩
    refine hc t hP Γ σ1 F1 H1 _ s1 fun F2 H2 s2 m2 => ?_
    cases hx : b t with
    | false => exact iteF (q.nx _ σ1 F2 H2 (hd t hP hx) s2)
    | true =>
      refine iteT ⟨fun σ' H' => ∃ t', P t' ∧ μ t' < μ t ∧ ∃ F, Sat Γ (Sf t') σ' F H', fun σ' H' ⟨t', h1, h2, h3⟩ => ⟨_, h2, t', rfl, h1, h3⟩, ?_⟩
      refine hb t hP hx Γ σ1 F2 H2 _ s2 ⟨fun T σ' F' H' ⟨t', h1, h2, h3⟩ s' => ⟨t', h1, h2, F', s'.wk h3⟩, fun O T σ' v fp F' H' h s' p => q.rt O T σ' v fp F' H' h s' p, fun T σ' F' H' h s' => q.nx T σ' F' H' h s', fun T σ' F' H' ⟨t', h1, h2, h3⟩ s' => ⟨t', h1, h2, F', s'.wk h3⟩⟩)
end
end Ev

namespace Ev
open PySem L2
open PySem.W (Datum Tup T3 T4 Holds HoldAll DatumOrd)
variable [Tb]

theorem wipe_in {σ : St} {k : Nat} : ∀ {vs : List Nat}, k ∈ vs → k < σ.length → (wipe σ vs)[k]? = some none
  | v :: vs, h, hk => by
    unfold wipe
    by_cases q : v = k
    · subst q; rw [List.getElem?_set_self (by rw [wipe_length]; exact hk)]
    · rw [List.getElem?_set_ne q]
      rcases List.mem_cons.mp h with z | z
      · exact absurd z.symm q
      · exact wipe_in z hk
theorem wipe_off {σ σ2 : St} {ix vs : List Nat} (h : Off ix (wipe σ vs) σ2) (hx : ∀ i ∈ ix, i ∈ vs) : wipe σ2 vs = wipe σ vs := by
  have hl : σ2.length = σ.length := by rw [h.1, wipe_length]
  refine List.ext_getElem? fun k => ?_
  by_cases q : k ∈ vs
  · by_cases z : k < σ.length
    · rw [wipe_in q z, wipe_in q (by rw [hl]; exact z)]
    · rw [List.getElem?_eq_none (by rw [wipe_length]; omega), List.getElem?_eq_none (by rw [wipe_length]; omega)]
  · rw [wipe_out q, wipe_out q, h.2 k fun z => q (hx k z), wipe_out q]
theorem Sat.wipe {Γ : Cxt} {S : Sl} {σ : St} {F H : Hp} {vs : List Nat} (s : Sat Γ S σ F H) (hn : ∀ i ∈ vs, ∀ O, S[i]? ≠ some (some O)) : Sat Γ S (L2.wipe σ vs) F H :=
  s.sub (by rw [wipe_length]; exact s.len) fun i O e => ⟨e, fun v q => by rw [wipe_out fun z => hn i z O e]; exact q⟩
theorem Sat.unwipe {Γ : Cxt} {S : Sl} {σ : St} {F H : Hp} {vs : List Nat} (s : Sat Γ S (L2.wipe σ vs) F H) : Sat Γ S σ F H :=
  s.sub (by have := s.len; rw [wipe_length] at this; exact this) fun i O e => ⟨e, fun v q => (wipe_some q).1⟩

def WTs (X : Cx) (ifs : List Expr) : TT := fun σ H Q => ∀ (pins : List (Addr × Obj)) (s : Shared), Inv X pins σ H s →
    wpAny (model X.prog X.w) X.A (forIn ifs true fun c r => if r = true then do let ok ← isTrue c X.env (eval c X.env); pure (ForInStep.yield ok) else pure (ForInStep.yield r)) (TP X pins σ Q) X.xe s
theorem pts_w {X : Cx} {ifs : List Expr} : PTs X ifs (WTs X ifs) := ⟨fun pins s _ _ _ I h => h pins s I⟩
theorem PTs.w {X : Cx} {ifs : List Expr} {t : TT} (p : PTs X ifs t) {σ : St} {H : Hp} {Q : Bool → Hp → Prop} (h : t σ H Q) : WTs X ifs σ H Q := fun pins s I => p.run pins s σ H Q I h
def ETs (X : Cx) (S : Sl) (ifs : List Expr) (b : Bool) (S' : Sl) : Prop := ∀ (Γ : Cxt) (σ : St) (F H : Hp) (Q : Bool → Hp → Prop), Sat Γ S σ F H → (∀ F' H', Sat Γ S' σ F' H' → Same F F' → Q b H') → WTs X ifs σ H Q
theorem ets_nil {X : Cx} {S : Sl} : ETs X S [] true S := fun Γ σ F H Q s q => PTs.w pts_nil (q F H s (Same.refl F))
theorem ets_one {X : Cx} {S S' : Sl} {c : Expr} {b : Bool} (h : ET X S c b S') : ETs X S [c] b S' := fun Γ σ F H Q s q => PTs.w (pts_one pt_w) (h Γ σ F H Q s q)

/-- what is so far -/
def accN (c : Nat → Bool) (y : Nat → PyData) : Nat → List PyData
  | 0 => []
  | i + 1 => if c i = true then accN c y i ++ [y i] else accN c y i
theorem accN_le (c : Nat → Bool) (y : Nat → PyData) : ∀ i, (accN c y i).length ≤ i
  | 0 => Nat.le_refl _
  | i + 1 => by
    unfold accN
    have := accN_le c y i
    split
    · rw [List.length_append, List.length_singleton]; omega
    · omega

abbrev Blk (X : Cx) (scope : Scope) (P : Cx → Prop) : Prop := ∀ (s : Shared) (H : Hp) (C : Addr) (cl : List (Str × Addr)) (fp : List Addr), P (X.blk s H scope (compEnvC scope cl C X.env) fp)

/-- a comprehension: as a value, and told to a name -/
def LCV (X : Cx) (S : Sl) (e : Expr) (O : OP) (S' : Sl) : Prop := ∃ te : TE, PE X e te ∧ (∀ (i : Nat) (y : Str) (py spos : Pos), X.N.Nodup → X.N[i]? = some y → X.env.scope.names.lookup y = some .local → swapsWith e (some (.Name y py)) spos.line X.env = pure true → PS X (.Assign [.Name y py] e spos) (tAsg te (gName i))) ∧
  ∀ (Γ : Cxt) (σ : St) (F H : Hp) (Q : VK), Sat Γ S σ F H → (∀ v fp F' H', Sat Γ S' σ F' (hide H' fp) → Same F F' → O.p v fp F' H' → Q v H') → te σ H Q
section
variable {X : Cx} {S S' S1 S2 S3 : Sl} {e a b c : Expr} {es rest : List Expr} {O O' : OP} {d d1 d2 d3 : PyData} {pos p : Pos} {D : En}
theorem LCV.eq (h : LCV X S e O S') (q : O = O') : LCV X S e O' S' := q ▸ h
theorem ev_of (h : LCV X S e O S') : EV X S e O S' := by
  obtain ⟨te, h1, _, h3⟩ := h
  exact fun Γ σ F H Q s q => PE.w h1 (h3 Γ σ F H Q s q)
theorem sv_lc (i : Nat) {y : Str} {py : Pos} (h : LCV X S e O S1) (r : D.nx (S1.set i (some O))) (hN : X.N.Nodup) (hy : X.N[i]? = some y := by rfl) (hl : X.env.scope.names.lookup y = some .local := by rfl) (hsw : swapsWith e (some (.Name y py)) pos.line X.env = pure true := by exact sw_true rfl rfl rfl (by decide +kernel)) : SV X S (.Assign [.Name y py] e pos) D := by
  obtain ⟨te, _, h2, h3⟩ := h
  exact fun Γ σ F H E s q => PS.w (h2 i y py pos hN hy hl hsw) (h3 Γ σ F H _ s fun v fp F' H' s' m p' => q.nx _ _ F' H' r (s'.put p' i))
end
section
variable {X : Cx} {S S' S1 S2 S3 : Sl} {e a b c : Expr} {es rest : List Expr} {O : OP} {d d1 d2 d3 : PyData} {pos p : Pos}
theorem ev_lcG {elt tg iter : Expr} {ifs : List Expr} {scope : Scope} (own : List (Str × Nat)) {ds : List PyData} {ix : List Nat} (hc : X.calm = true) (hN : X.N.Nodup) (hi : EI X S tg iter ds S1) (ok : BlkOk X.N X.env.scope scope own) (hz : ds.length ≤ sizeLine)
    (Sf G : Nat → Sl) (cf : Nat → Bool) (yf : Nat → PyData) (hS : S1 = Sf 0) (hn : ∀ j, j ≤ ds.length → ∀ i ∈ own.map (·.2), ∀ O, (Sf j)[i]? ≠ some (some O)) (hx : ∀ i ∈ ix, i ∈ own.map (·.2))
    (hg : ∀ j d, ds[j]? = some d → Blk X scope fun X' => EG X' (Sf j) tg d ix (G j))
    (ht : ∀ j d, ds[j]? = some d → Blk X scope fun X' => ETs X' (G j) ifs (cf j) (G j))
    (he : ∀ j d, ds[j]? = some d → cf j = true → Blk X scope fun X' => ∃ T, EV X' (G j) elt (dd (yf j)) T ∧ Wk T (Sf (j + 1)))
    (hw : ∀ j d, ds[j]? = some d → cf j = false → Wk (G j) (Sf (j + 1)))
    (hs : ∀ x, foldedSetIterable iter X.env x = pure x := by intro _; rfl) : LCV X S (.ListComp elt [⟨tg, iter, ifs, 0⟩] scope pos) (ll (accN cf yf ds.length)) (Sf ds.length) := by
  let g0 : TG := fun v σ H Q => ∃ (j : Nat) (d : PyData), ds[j]? = some d ∧ ∃ (Γ : Cxt) (F : Hp), Sat Γ (Sf j) σ F H ∧ Rp F v d ∧ ∀ σ', Sat Γ (G j) σ' F H → Off ix σ σ' → Q σ' H
  let tt0 : TT := fun σ H Q => ∃ (j : Nat) (d : PyData), ds[j]? = some d ∧ ∃ (Γ : Cxt) (F : Hp), Sat Γ (G j) σ F H ∧ ∀ F' H', Sat Γ (G j) σ F' H' → Same F F' → Q (cf j) H'
  let te0 : TE := fun σ H Q => ∃ (j : Nat) (d : PyData), ds[j]? = some d ∧ cf j = true ∧ ∃ (Γ : Cxt) (F : Hp) , Sat Γ (G j) σ F H ∧ ∀ v F' H', Sat Γ (Sf (j + 1)) σ F' H' → Same F F' → Rp F' v (yf j) → Q v H'
  have H1 : Blk X scope fun X' => PG X' tg g0 := (fun s H C cl fp => ⟨fun pins s' σ H v u Q I r ⟨j, d, hd, Γ, F, sa, rp, k⟩ => hg j d hd _ _ _ _ _ Γ σ F H v Q sa rp k pins s' u I r⟩)
  have H2 : Blk X scope fun X' => PTs X' ifs tt0 := (fun s H C cl fp => ⟨fun pins s' σ H Q I ⟨j, d, hd, Γ, F, sa, k⟩ => ht j d hd _ _ _ _ _ Γ σ F H Q sa k pins s' I⟩)
  have H3 : Blk X scope fun X' => PE X' elt te0 := (fun s H C cl fp => ⟨fun pins s' σ H Q I ⟨j, d, hd, hcj, Γ, F, sa, k⟩ => by
        obtain ⟨T, h1, h2⟩ := he j d hd hcj s H C cl fp
        all_goals first
          | exact (h1.dat sa fun v F' H' s2 m r => k v F' H' (s2.wk h2) m r) pins s' I
          | skip
        obtain ⟨T, h1, h2⟩ := he j d hd hcj _ _ _ _ _
        exact (h1.dat sa fun v F' H' s2 m r => k v F' H' (s2.wk h2) m r) pins s' I⟩)
  exact ⟨tLc (WI X tg iter) g0 tt0 te0 (own.map (·.2)), pe_lc (own := own) hc hN pi_w ok H1 H2 H3 hs, fun i y py spos hN hy hl hsw => ps_setLc (own := own) hc hN hy hl hsw pi_w ok H1 H2 H3 hs, fun Γ σ F H Q s q =>
    (hi Γ σ F H _ s fun J F1 H1 s1 m1 jk D hD => by
      subst hS
      refine ⟨fun i m H => m = ds.length - i ∧ i ≤ ds.length ∧ ∃ (F : Hp) (vs : List V), Sat Γ (Sf i) (wipe σ (own.map (·.2))) F (hide H [D]) ∧ Same F1 F ∧ H D = some (.lst vs) ∧ RpAll F vs (accN cf yf i), ⟨ds.length, by simp, Nat.zero_le _, F1, [], by rw [hide_upd hD]; exact s1.wipe (hn 0 (Nat.zero_le _)), Same.refl _, upd_same, .nil⟩, ?_⟩
      rintro i m H2 ⟨rfl, hil, F2, vs, s2, m2, hD2, r2⟩
      have nt : ∀ (vs : List V) (H : Hp), H D = some (.lst vs) → ∀ a ∈ [D], ∃ o, H a = some o ∧ NT o := fun vs H h a ha => by
        obtain rfl : a = D := by simpa using ha
        exact ⟨_, h, NT.lst⟩
      by_cases hlt : i < ds.length
      · have hd := List.getElem?_eq_getElem hlt
        obtain ⟨Γ', sΓ, back⟩ := s2.side (nt vs H2 hD2)
        obtain ⟨g1, g2⟩ := (jk i Γ' _ _ F2 H2 sΓ m2).1 ds[i] hd
        refine .inr ⟨g1, fun H' => ∃ (F : Hp) (vs : List V), Sat Γ (Sf (i + 1)) (wipe σ (own.map (·.2))) F (hide H' [D]) ∧ Same F1 F ∧ H' D = some (.lst vs) ∧ RpAll F vs (accN cf yf (i + 1)), fun H' h => ⟨ds.length - (i + 1), by omega, rfl, hlt, h⟩, fun x H3 hy => ?_⟩
        obtain ⟨F3, s3, m3, r3, k3⟩ := g2 x H3 hy
        have D3 := k3 _ _ hD2
        refine ⟨i, ds[i], hd, Γ', F3, s3, r3, fun σ2 s4 off => ⟨wipe_off off hx, i, ds[i], hd, Γ', F3, s4, fun F5 H5 s5 m5 => ?_⟩⟩
        obtain ⟨b1, b2, b3⟩ := back _ _ F5 H5 [] s5.same_of
        have D5 : H5 D = some (.lst vs) := by rw [(b2 D (by simp)).1]; exact hD2
        have hw2 : wipe σ2 (own.map (·.2)) = wipe σ (own.map (·.2)) := wipe_off off hx
        have nown : ∀ i' ∈ own.map (·.2), ∀ O, (Sf (i + 1))[i']? ≠ some (some O) := hn (i + 1) hlt
        have toW : ∀ (F6 H6 : Hp), Sat Γ (Sf (i + 1)) σ2 F6 H6 → Sat Γ (Sf (i + 1)) (wipe σ (own.map (·.2))) F6 H6 := fun F6 H6 s6 => by
          rw [← hw2]; exact s6.wipe nown
        cases hcf : cf i with
        | false =>
          refine iteF ⟨F5, vs, toW _ _ (b1.wk (hw i _ hd hcf)), m2.trans b3, D5, ?_⟩
          unfold accN
          rw [hcf, if_neg Bool.false_ne_true]
          exact r2.mono b3
        | true =>
          refine iteT ⟨i, ds[i], hd, hcf, Γ', F5, s5, fun v F6 H6 s6 m6 r6 => ?_⟩
          obtain ⟨c1, c2, c3⟩ := back _ _ F6 H6 [] s6.same_of
          have D6 : H6 D = some (.lst vs) := by rw [(c2 D (by simp)).1]; exact hD2
          refine ⟨vs, D6, ?_, F6, vs ++ [v], ?_, m2.trans c3, upd_same, ?_⟩
          · rw [r2.length]
            exact Nat.lt_of_le_of_lt (accN_le cf yf i) (Nat.lt_of_lt_of_le hlt hz)
          · rw [hide_upd']; exact toW _ _ c1
          · unfold accN
            rw [hcf, if_pos rfl]
            exact (r2.mono c3).append (.cons r6 .nil)
      · have e : i = ds.length := by omega
        subst e
        refine .inl ⟨(jk _ Γ _ _ F2 H2 (s2.show (nt1 (nt vs H2 hD2))) m2).2 (Nat.le_refl _), q (.ref D) [D] F2 H2 s2.unwipe (m1.trans m2) ⟨D, _, rfl, rfl, hD2, vs, rfl, r2⟩⟩)⟩
end
end Ev

namespace Ev
open PySem L2
open PySem.W (Datum Tup T3 T4 Holds HoldAll DatumOrd EachIs)
variable [Tb]

structure WP where
  p : HO → Hp → Prop
  mono : ∀ {o : HO} {F F' : Hp}, Same F F' → p o F → p o F'
  nt : ∀ {o : HO} {F : Hp}, p o F → NT o
def ow (W : WP) : OP := owP W.p W.mono W.nt
def wl (ds : List PyData) : WP := ⟨fun o F => ∃ vs, o = .lst vs ∧ RpAll F vs ds, fun s h => by
  obtain ⟨vs, e, r⟩ := h
  exact ⟨vs, e, r.mono s⟩, fun h => by
  obtain ⟨vs, e', _⟩ := h
  rw [e']; exact NT.lst⟩
/-! ## comprehensions over typed items -/
theorem accN_typed {α β : Type} [DecidableEq β] [Datum β] (xs : List α) (c : α → Bool) (f : α → β) (cf : Nat → Bool) (yf : Nat → PyData) (hc : ∀ i x, xs[i]? = some x → cf i = c x) (hy : ∀ i x, xs[i]? = some x → yf i = Datum.toD (f x)) :
    ∀ i, i ≤ xs.length → accN cf yf i = (((xs.take i).filter c).map f).map Datum.toD
  | 0, _ => by simp [accN]
  | i + 1, h => by
    have hx := List.getElem?_eq_getElem (show i < xs.length by omega)
    unfold accN
    rw [accN_typed xs c f cf yf hc hy i (by omega), hc i _ hx, hy i _ hx, List.take_succ, hx]
    simp only [Option.toList, List.filter_append]
    cases q : c xs[i] with
    | true => simp [List.filter_cons, q]
    | false => simp [List.filter_cons, q]
section
variable {X : Cx} {S S' S1 S2 S3 : Sl} {e a b c : Expr} {es rest : List Expr} {O : OP} {d d1 d2 d3 : PyData} {pos p : Pos}
variable {α β : Type} [DecidableEq α] [Datum α] [DecidableEq β] [Datum β]
/-- [elt for tg in iter if ifs], nothing is changed by it -/
theorem ev_lcF {γ : Type} {elt tg iter : Expr} {ifs : List Expr} {scope : Scope} (own : List (Str × Nat)) {xs : List γ} {enc : γ → PyData} {ix : List Nat} (cond : γ → Bool) (f : γ → β) (G : γ → Sl) (hc : X.calm = true) (hN : X.N.Nodup) (hi : EI X S tg iter (xs.map enc) S1) (ok : BlkOk X.N X.env.scope scope own) (hz : xs.length ≤ sizeLine)
    (hn : ∀ i ∈ own.map (·.2), ∀ O, S1[i]? ≠ some (some O)) (hx : ∀ i ∈ ix, i ∈ own.map (·.2))
    (hg : ∀ x, x ∈ xs → Blk X scope fun X' => EG X' S1 tg (enc x) ix (G x))
    (ht : ∀ x, x ∈ xs → Blk X scope fun X' => ETs X' (G x) ifs (cond x) (G x))
    (he : ∀ x, x ∈ xs → cond x = true → Blk X scope fun X' => EV X' (G x) elt (da (f x)) (G x))
    (hw : ∀ x, Wk (G x) S1)
    (hs : ∀ x, foldedSetIterable iter X.env x = pure x := by intro _; rfl) : LCV X S (.ListComp elt [⟨tg, iter, ifs, 0⟩] scope pos) (la ((xs.filter cond).map f)) S1 := by
  have hd : ∀ (j : Nat) (d : PyData), (xs.map enc)[j]? = some d → ∃ x, xs[j]? = some x ∧ d = enc x ∧ x ∈ xs := fun j d h => by
    rw [List.getElem?_map] at h
    cases e : xs[j]? with
    | none => rw [e] at h; cases h
    | some x => rw [e] at h; exact ⟨x, rfl, by injection h with h; exact h.symm, List.mem_of_getElem? e⟩
  have key := ev_lcG (elt := elt) (pos := pos) own hc hN hi ok (by rw [List.length_map]; exact hz) (fun _ => S1) (fun j => match xs[j]? with | some x => G x | none => []) (fun j => match xs[j]? with | some x => cond x | none => false)
    (fun j => match xs[j]? with | some x => Datum.toD (f x) | none => .none) rfl (fun j _ => hn) hx
    (fun j d h => by obtain ⟨x, e, rfl, m⟩ := hd j d h; simp only [e]; exact hg x m)
    (fun j d h => by obtain ⟨x, e, rfl, m⟩ := hd j d h; simp only [e]; exact ht x m)
    (fun j d h q s H C cl fp => by obtain ⟨x, e, rfl, m⟩ := hd j d h; simp only [e] at q ⊢; exact ⟨_, he x m q s H C cl fp, hw x⟩)
    (fun j d h _ => by obtain ⟨x, e, rfl, m⟩ := hd j d h; simp only [e]; exact hw x) hs
  refine key.eq ?_
  rw [accN_typed xs cond f _ _ (fun i x e => by simp only [e]) (fun i x e => by simp only [e]) _ (by rw [List.length_map]; exact Nat.le_refl _), List.length_map, List.take_length]
theorem ev_lc {γ : Type} {elt tg iter : Expr} {scope : Scope} (own : List (Str × Nat)) {xs : List γ} {enc : γ → PyData} {ix : List Nat} (f : γ → β) (G : γ → Sl) (hc : X.calm = true) (hN : X.N.Nodup) (hi : EI X S tg iter (xs.map enc) S1) (ok : BlkOk X.N X.env.scope scope own) (hz : xs.length ≤ sizeLine)
    (hn : ∀ i ∈ own.map (·.2), ∀ O, S1[i]? ≠ some (some O)) (hx : ∀ i ∈ ix, i ∈ own.map (·.2))
    (hg : ∀ x, x ∈ xs → Blk X scope fun X' => EG X' S1 tg (enc x) ix (G x))
    (he : ∀ x, x ∈ xs → Blk X scope fun X' => EV X' (G x) elt (da (f x)) (G x))
    (hw : ∀ x, Wk (G x) S1)
    (hs : ∀ x, foldedSetIterable iter X.env x = pure x := by intro _; rfl) : LCV X S (.ListComp elt [⟨tg, iter, [], 0⟩] scope pos) (la (xs.map f)) S1 :=
  (ev_lcF own (fun _ => true) f G hc hN hi ok hz hn hx hg (fun x _ s H C cl fp => ets_nil) (fun x m _ => he x m) hw hs).eq (by rw [List.filter_eq_self.mpr fun _ _ => rfl])
/-- [elt for tg in iter]: each item changes what is one's own (Sf: behind so many items) -/
theorem ev_lcS {γ : Type} {elt tg iter : Expr} {scope : Scope} (own : List (Str × Nat)) {xs : List γ} {enc : γ → PyData} {ix : List Nat} (f : Nat → β) (Sf : Nat → Sl) (G : Nat → γ → Sl) (hc : X.calm = true) (hN : X.N.Nodup) (hi : EI X S tg iter (xs.map enc) S1) (hS : S1 = Sf 0) (ok : BlkOk X.N X.env.scope scope own) (hz : xs.length ≤ sizeLine)
    (hn : ∀ j, ∀ i ∈ own.map (·.2), ∀ O, (Sf j)[i]? ≠ some (some O)) (hx : ∀ i ∈ ix, i ∈ own.map (·.2))
    (hg : ∀ j x, Blk X scope fun X' => EG X' (Sf j) tg (enc x) ix (G j x))
    (he : ∀ j x, j < xs.length → x ∈ xs → Blk X scope fun X' => ∃ T, EV X' (G j x) elt (da (f j)) T ∧ Wk T (Sf (j + 1)))
    (hs : ∀ x, foldedSetIterable iter X.env x = pure x := by intro _; rfl) : LCV X S (.ListComp elt [⟨tg, iter, [], 0⟩] scope pos) (la ((List.range xs.length).map f)) (Sf xs.length) := by
  have hd : ∀ (j : Nat) (d : PyData), (xs.map enc)[j]? = some d → ∃ x, xs[j]? = some x ∧ d = enc x ∧ x ∈ xs ∧ j < xs.length := fun j d h => by
    rw [List.getElem?_map] at h
    cases e : xs[j]? with
    | none => rw [e] at h; cases h
    | some x => rw [e] at h; exact ⟨x, rfl, by injection h with h; exact h.symm, List.mem_of_getElem? e, (List.getElem?_eq_some_iff.mp e).1⟩
  have key := ev_lcG (elt := elt) (ifs := []) (pos := pos) own hc hN hi ok (by rw [List.length_map]; exact hz) Sf (fun j => match xs[j]? with | some x => G j x | none => []) (fun j => true)
    (fun j => Datum.toD (f j)) hS (fun j _ => hn j) hx
    (fun j d h => by obtain ⟨x, e, rfl, m, l⟩ := hd j d h; simp only [e]; exact hg j x)
    (fun j d h s H C cl fp => ets_nil)
    (fun j d h q s H C cl fp => by obtain ⟨x, e, rfl, m, l⟩ := hd j d h; simp only [e]; exact he j x l m s H C cl fp)
    (fun j d h z => by cases z) hs
  have ac : ∀ n, accN (fun _ => true) (fun j => Datum.toD (f j)) n = ((List.range n).map f).map Datum.toD := fun n => by
    induction n with
    | zero => rfl
    | succ n ih => unfold accN; rw [if_pos rfl, ih, List.range_succ, List.map_append, List.map_append]; rfl
  rw [List.length_map, ac] at key
  exact key
theorem set_back {σ : St} {j : Nat} {v : V} (e : σ[j]? = some (some v)) : σ.set j (some v) = σ := List.ext_getElem? fun k => by
  by_cases q : j = k
  · subst q; rw [List.getElem?_set_self (List.getElem?_eq_some_iff.mp e).1]; exact e.symm
  · rw [List.getElem?_set_ne q]
theorem Sat.mut {Γ : Cxt} {σ : St} {F H : Hp} {j : Nat} {W : WP} (s : Sat Γ S σ F H) (h : S[j]? = some (some (ow W))) :
    ∃ a o, σ[j]? = some (some (.ref a)) ∧ H a = some o ∧ W.p o F ∧ ∀ (W' : WP) (o' : HO), W'.p o' F → Sat Γ (S.set j (some (ow W'))) σ F (upd H a o') := by
  obtain ⟨v, fp, e, pp, _, s2⟩ := s.take h
  obtain ⟨a, o, rfl, rfl, e3, qo⟩ := pp
  refine ⟨a, o, e, e3, qo, fun W' o' qo' => ?_⟩
  have := Sat.put (H := upd H a o') (fp := [a]) (O := ow W') (v := .ref a) (by rw [hide_upd']; exact s2) ⟨a, o', rfl, rfl, upd_same, qo'⟩ j
  rw [List.set_set, set_back e] at this
  exact this
theorem Sat.mutL {Γ : Cxt} {σ : St} {F H : Hp} {j : Nat} {ds : List PyData} (s : Sat Γ S σ F H) (h : S[j]? = some (some (ll ds))) :
    ∃ a vs, σ[j]? = some (some (.ref a)) ∧ H a = some (.lst vs) ∧ RpAll F vs ds ∧ ∀ vs' ds', RpAll F vs' ds' → Sat Γ (S.set j (some (ll ds'))) σ F (upd H a (.lst vs')) := by
  obtain ⟨a, o, e, e2, ⟨vs, rfl, r⟩, k⟩ := s.mut (W := wl ds) h
  exact ⟨a, vs, e, e2, r, fun vs' ds' r' => k (wl ds') _ ⟨vs', rfl, r'⟩⟩
section
variable {o : Expr} {apos : Pos}
theorem ev_append (j : Nat) {ds ds0 : List PyData} (hp : PE X o (tVar j)) (hj0 : S[j]? = some (some (ll ds0))) (ha : EV X S e (dd d) S1) (hj : S1[j]? = some (some (ll ds))) (hz : ds.length < sizeLine)
    (hbase : attributeBase o "append" X.env (eval o X.env) = eval o X.env := by rfl)
    (hfew : ((backTo pos (starEach [e] X.env)).all (fun x => !x.1) && (backToKw pos (keywordEach [] X.env)).all (fun x => x.1.isSome)
      && decide ([e].length + ([] : List Keyword).length + (if ([] : List Keyword).isEmpty then 0 else 1) < 30)) = true := by rfl)
    (hline : (apos.endLine == pos.line) = true := by rfl) (hs : starEach [e] X.env = (false, eval e X.env) :: starEach [] X.env := by rfl) (hplain : (backTo pos (starEach [] X.env)).any (·.1) = false := by rfl) :
    EV X S (.Call (.Attribute o "append" apos) [e] [] pos) (da ()) (S1.set j (some (ll (ds ++ [d])))) := EV.of_d fun Γ σ F H Q s q =>
  PE.w (pe_bm PySem.F.plainAttrs_list PySem.F.slot_list_append PySem.F.type_list_append mt_append hp (pa_cons pe_w pa_nil hs) hbase hfew hline hs hplain) (by
    obtain ⟨a0, vs0, f1, f2, _⟩ := s.mutL hj0
    refine ⟨_, f1, .inl ⟨rfl, _, SqL.of f2⟩, ha.dat s fun v F1 H1 s1 m1 r1 => ?_⟩
    obtain ⟨a, vs, e1, e2, r2, k⟩ := s1.mutL hj
    rw [f1] at e1
    obtain rfl : a0 = a := by injection e1 with e1; injection e1 with e1; injection e1
    exact ⟨a0, vs, v, rfl, rfl, e2, by rw [r2.length]; exact hz, q .non F1 _ (k _ _ (r2.append (.cons r1 .nil))) m1 .non⟩)
theorem ev_pop (j : Nat) {ds : List PyData} (hp : PE X o (tVar j)) (hj : S[j]? = some (some (ll (ds ++ [d]))))
    (hbase : attributeBase o "pop" X.env (eval o X.env) = eval o X.env := by rfl) (hline : (apos.endLine == pos.line) = true := by rfl) : EV X S (.Call (.Attribute o "pop" apos) [] [] pos) (dd d) (S.set j (some (ll ds))) := EV.of_d fun Γ σ F H Q s q =>
  PE.w (pe_bm0 PySem.F.plainAttrs_list PySem.F.slot_list_pop PySem.F.type_list_pop mt_pop hp hbase hline) (by
    obtain ⟨a0, vs0, f1, f2, r, k⟩ := s.mutL hj
    refine ⟨_, f1, .inl ⟨rfl, _, SqL.of f2⟩, a0, vs0, ?_⟩
    obtain ⟨v, e1, r1⟩ := r.at (i := ds.length) (d := d) (by simp)
    have hl : vs0.length = ds.length + 1 := by rw [r.length]; simp
    refine ⟨v, rfl, rfl, f2, by rw [hl]; simpa using e1, q v F _ (k _ _ ?_) (Same.refl F) r1⟩
    have := r.dropLast
    rw [List.dropLast_concat] at this
    exact this)
/-- made.extend(e), e a list -/
theorem ev_extend (j : Nat) {ds ds0 es : List PyData} (hp : PE X o (tVar j)) (hj0 : S[j]? = some (some (ll ds0))) (ha : EV X S e (dd (.list es)) S1) (hj : S1[j]? = some (some (ll ds))) (hz : ds.length + es.length ≤ sizeLine)
    (hbase : attributeBase o "extend" X.env (eval o X.env) = eval o X.env := by rfl)
    (hfew : ((backTo pos (starEach [e] X.env)).all (fun x => !x.1) && (backToKw pos (keywordEach [] X.env)).all (fun x => x.1.isSome)
      && decide ([e].length + ([] : List Keyword).length + (if ([] : List Keyword).isEmpty then 0 else 1) < 30)) = true := by rfl)
    (hline : (apos.endLine == pos.line) = true := by rfl) (hs : starEach [e] X.env = (false, eval e X.env) :: starEach [] X.env := by rfl) (hplain : (backTo pos (starEach [] X.env)).any (·.1) = false := by rfl) :
    EV X S (.Call (.Attribute o "extend" apos) [e] [] pos) (da ()) (S1.set j (some (ll (ds ++ es)))) := EV.of_d fun Γ σ F H Q s q =>
  PE.w (pe_bm PySem.F.plainAttrs_list PySem.F.slot_list_extend PySem.F.type_list_extend mt_extend hp (pa_cons pe_w pa_nil hs) hbase hfew hline hs hplain) (by
    obtain ⟨a0, vs0, f1, f2, _⟩ := s.mutL hj0
    refine ⟨_, f1, .inl ⟨rfl, _, SqL.of f2⟩, ha.dat s fun v F1 H1 s1 m1 r1 => ?_⟩
    obtain ⟨a, vs, e1, e2, r2, k⟩ := s1.mutL hj
    rw [f1] at e1
    obtain rfl : a0 = a := by injection e1 with e1; injection e1 with e1; injection e1
    obtain ⟨l, us, rfl, hl, r3⟩ := r1.lst_of
    exact ⟨a0, l, vs, us, rfl, rfl, e2, s1.fh _ _ hl, by rw [r2.length, r3.length]; exact hz, q .non F1 _ (k _ _ (r2.append r3)) m1 .non⟩)
end
/-- the list in slot j, read in place -/
theorem ev_lenO (j : Nat) {ds : List PyData} (hm : X.mg "len" = none) (hp : PE X e (tVar j)) (hj : S[j]? = some (some (ll ds))) (hg : Gl X "len" := by rfl) (he : starEach [e] X.env = (false, eval e X.env) :: starEach [] X.env := by rfl) : EV X S (.Call (.Name "len" p) [e] [] pos) (da (ds.length : Int)) S := EV.of_d fun Γ σ F H Q s q =>
  PE.w (pe_callB call_len hg hm PySem.boot_len (pa_cons hp pa_nil he) (by decide) (by decide) he rfl) (by
    obtain ⟨a0, vs0, f1, f2, r, k⟩ := s.mutL hj
    exact ⟨_, f1, _, vs0.length, rfl, .inl ⟨vs0, SqL.of f2, rfl⟩, q _ F H s (Same.refl F) (by rw [r.length]; exact .int _)⟩)
theorem ev_ixO (j : Nat) {ds : List PyData} {i : Int} (hp : PE X a (tVar j)) (hj : S[j]? = some (some (ll ds))) (hb : EV X S b (da i) S) (h : atI ds i = some d) (hs : PlainIx b := by intro _ _; rfl) : EV X S (.Subscript a b pos) (dd d) S := EV.of_d fun Γ σ F H Q s q =>
  PE.w (pe_ix ix_list hp pe_w hs) (by
    obtain ⟨a0, vs0, f1, f2, r, k⟩ := s.mutL hj
    refine ⟨_, f1, hb.dat s fun u F2 H2 s2 m2 r2 => ?_⟩
    obtain ⟨a1, vs1, g1, g2, r', _⟩ := s2.mutL hj
    rw [f1] at g1
    obtain rfl : a0 = a1 := by injection g1 with g1; injection g1 with g1; injection g1
    obtain ⟨w, e1, r3⟩ := r'.atI h
    exact ⟨a0, vs1, i, w, rfl, r2.int_of, SqL.of g2, e1, q w F2 H2 s2 m2 r3⟩)
theorem atI_neg1 {γ : Type} (xs : List γ) (x : γ) : atI (xs ++ [x]) (-1) = some x := atI_last xs x

/-! ## built-ins over lists -/
theorem Rp.sql {K : PySem.W.Frag} {F H : Hp} {v : V} {ds : List PyData} (h : Rp F v (.list ds)) (m : Same F H) : ∃ a vs, v = .ref a ∧ SqL K H a vs ∧ F a = some (.lst vs) ∧ RpAll F vs ds := by
  obtain ⟨a, vs, e, h1, r⟩ := h.lst_of
  exact ⟨a, vs, e, SqL.of (m _ _ h1), h1, r⟩
theorem ev_sum {ns : List Int} (hc : X.calm = true) (hm : X.mg "sum" = none) (ha : EV X S e (da ns) S1) (hg : Gl X "sum" := by rfl) (he : starEach [e] X.env = (false, eval e X.env) :: starEach [] X.env := by rfl) : EV X S (.Call (.Name "sum" p) [e] [] pos) (da ns.sum) S1 :=
  ev_bi (cr_sum hc) hg hm (by decide +kernel) (el_cons ha el_nil he) (fun Γ σ F H vs Q s r q => by
    obtain ⟨v, rfl, r1⟩ := r.one
    obtain ⟨a, us, rfl, h1, h2, r2⟩ := r1.sql (K := X.K) s.fh
    obtain rfl := r2.ints
    exact ⟨a, ns, rfl, h1, q _ [] F H s.same_of (Same.refl F) ⟨rfl, .int _⟩⟩) (by decide) (by decide) he rfl
theorem ev_any {ns : List Bool} (hc : X.calm = true) (hm : X.mg "any" = none) (ha : EV X S e (da ns) S1) (hg : Gl X "any" := by rfl) (he : starEach [e] X.env = (false, eval e X.env) :: starEach [] X.env := by rfl) : EV X S (.Call (.Name "any" p) [e] [] pos) (da (ns.any id)) S1 :=
  ev_bi (cr_any hc) hg hm (by decide +kernel) (el_cons ha el_nil he) (fun Γ σ F H vs Q s r q => by
    obtain ⟨v, rfl, r1⟩ := r.one
    obtain ⟨a, us, rfl, h1, h2, r2⟩ := r1.sql (K := X.K) s.fh
    obtain rfl := r2.bls
    exact ⟨a, ns, rfl, h1, q _ [] F H s.same_of (Same.refl F) ⟨rfl, .bl _⟩⟩) (by decide) (by decide) he rfl
theorem ev_all {ns : List Bool} (hc : X.calm = true) (hm : X.mg "all" = none) (ha : EV X S e (da ns) S1) (hg : Gl X "all" := by rfl) (he : starEach [e] X.env = (false, eval e X.env) :: starEach [] X.env := by rfl) : EV X S (.Call (.Name "all" p) [e] [] pos) (da (ns.all id)) S1 :=
  ev_bi (cr_all hc) hg hm (by decide +kernel) (el_cons ha el_nil he) (fun Γ σ F H vs Q s r q => by
    obtain ⟨v, rfl, r1⟩ := r.one
    obtain ⟨a, us, rfl, h1, h2, r2⟩ := r1.sql (K := X.K) s.fh
    obtain rfl := r2.bls
    exact ⟨a, ns, rfl, h1, q _ [] F H s.same_of (Same.refl F) ⟨rfl, .bl _⟩⟩) (by decide) (by decide) he rfl
theorem ev_abs {x : Int} (hm : X.mg "abs" = none) (ha : EV X S e (da x) S1) (hg : Gl X "abs" := by rfl) (he : starEach [e] X.env = (false, eval e X.env) :: starEach [] X.env := by rfl) : EV X S (.Call (.Name "abs" p) [e] [] pos) (da (if x < 0 then -x else x)) S1 :=
  ev_bi call_abs hg hm (by decide +kernel) (el_cons ha el_nil he) (fun Γ σ F H vs Q s r q => by
    obtain ⟨v, rfl, r1⟩ := r.one
    exact ⟨x, by rw [r1.int_of], q _ [] F H s.same_of (Same.refl F) ⟨rfl, .int _⟩⟩) (by decide) (by decide) he rfl
theorem ev_max2 {x y : Int} (hc : X.calm = true) (hm : X.mg "max" = none) (ha : EV X S a (da x) S1) (hb : EV X S1 b (da y) S2) (hg : Gl X "max" := by rfl) (he : starEach [a, b] X.env = (false, eval a X.env) :: starEach [b] X.env := by rfl) (he2 : starEach [b] X.env = (false, eval b X.env) :: starEach [] X.env := by rfl) (hpl : (backTo pos (starEach [b] X.env)).any (·.1) = false := by rfl) :
    EV X S (.Call (.Name "max" p) [a, b] [] pos) (da (if y > x then y else x)) S2 :=
  ev_bi (call_max2 hc) hg hm (by decide +kernel) (el_cons ha (el_cons hb el_nil he2) he) (fun Γ σ F H vs Q s r q => by
    obtain ⟨v, u, rfl, r1, r2⟩ := r.two
    exact ⟨x, y, by rw [r1.int_of, r2.int_of], q _ [] F H s.same_of (Same.refl F) ⟨rfl, .int _⟩⟩) (by decide) (by decide) he hpl
theorem ev_min2 {x y : Int} (hc : X.calm = true) (hm : X.mg "min" = none) (ha : EV X S a (da x) S1) (hb : EV X S1 b (da y) S2) (hg : Gl X "min" := by rfl) (he : starEach [a, b] X.env = (false, eval a X.env) :: starEach [b] X.env := by rfl) (he2 : starEach [b] X.env = (false, eval b X.env) :: starEach [] X.env := by rfl) (hpl : (backTo pos (starEach [b] X.env)).any (·.1) = false := by rfl) :
    EV X S (.Call (.Name "min" p) [a, b] [] pos) (da (if y < x then y else x)) S2 :=
  ev_bi (call_min2 hc) hg hm (by decide +kernel) (el_cons ha (el_cons hb el_nil he2) he) (fun Γ σ F H vs Q s r q => by
    obtain ⟨v, u, rfl, r1, r2⟩ := r.two
    exact ⟨x, y, by rw [r1.int_of, r2.int_of], q _ [] F H s.same_of (Same.refl F) ⟨rfl, .int _⟩⟩) (by decide) (by decide) he hpl
/-- the first of the least (greatest) of a list -/
theorem pick_rp {pins : List (Addr × Obj)} {σ : St} {F H : Hp} {s : Shared} {h' : Heap} {us : List V} {xs : List α} {its : List Value} {i : Nat} {v : Value} {x : α} (I : Inv X pins σ H s) (m : Same F H) (r : RpAll F us (xs.map Datum.toD)) (rv : Vals us its) (hi : its[i]? = some v) (hv : Holds h' v x) (kp : ∀ b o, s.heap.get? b = some o → h'.get? b = some o) :
    ∃ u, RelV u v ∧ Rp F u (Datum.toD x) := by
  have hlen := rv.length
  have hil := (List.getElem?_eq_some_iff.mp hi).1
  obtain ⟨d, hd, rd⟩ := r.at' (i := i) (v := us[i]'(by omega)) (List.getElem?_eq_getElem (by omega))
  obtain ⟨u', hu', ru'⟩ := Vals.get (i := i) rv (List.getElem?_eq_getElem (by omega))
  rw [hi] at hu'
  obtain rfl : v = u' := Option.some.inj hu'
  rw [List.getElem?_map] at hd
  cases ey : xs[i]? with
  | none => rw [ey] at hd; cases hd
  | some y =>
    rw [ey] at hd
    obtain rfl : Datum.toD y = d := Option.some.inj hd
    obtain ⟨as, q1⟩ := (rd.holds I m ru')
    obtain ⟨bs, q2⟩ := hv
    have := SeqAt.plain_unique _ _ _ _ _ (Datum.plain y) (PyProof.Rows.Reads.keeps kp q1) q2
    rw [← this]
    exact ⟨_, ru', rd⟩
def rBest (γ : Type) [DecidableEq γ] [DatumOrd γ] (f : γ → List γ → γ) : List V → Hp → VK → Prop := fun vs H Q => ∃ (F : Hp) (v : V) (x : γ) (xs : List γ), Same F H ∧ vs = [v] ∧ Rp F v (Datum.toD (x :: xs)) ∧ ∀ u, Rp F u (Datum.toD (f x xs)) → Q u H
theorem cr_minT {γ : Type} [DecidableEq γ] [DatumOrd γ] (hc : X.calm = true) (hu : X.A.units + 1 + Datum.depth γ < cLine) : CallR X (.builtin "min") (rBest γ PySem.W.minOf) := by
  intro pins s σ H vs us Q I r h
  obtain ⟨F, v, x, xs, m, rfl, hr, q⟩ := h
  obtain ⟨u, rfl, ru⟩ := vals1 r
  obtain ⟨a, ws, rfl, h1, r2⟩ := hr.lst_of
  cases ru
  obtain ⟨its, rv, hl⟩ := Inv.lstAt I (m _ _ h1)
  refine PySem.W.min_list_datum (I.ok.hd hc) hl (by simpa using r2.holds (xs := x :: xs) I m rv) hu fun i v h' tk hi hv kp => ?_
  obtain ⟨u, e1, e2⟩ := pick_rp (xs := x :: xs) I m r2 rv (by simpa using hi) hv kp
  exact ⟨u, H, I.kept (t' := tk) kp, e1, q u e2⟩
theorem cr_maxT {γ : Type} [DecidableEq γ] [DatumOrd γ] (hc : X.calm = true) (hu : X.A.units + 1 + Datum.depth γ < cLine) : CallR X (.builtin "max") (rBest γ PySem.W.maxOf) := by
  intro pins s σ H vs us Q I r h
  obtain ⟨F, v, x, xs, m, rfl, hr, q⟩ := h
  obtain ⟨u, rfl, ru⟩ := vals1 r
  obtain ⟨a, ws, rfl, h1, r2⟩ := hr.lst_of
  cases ru
  obtain ⟨its, rv, hl⟩ := Inv.lstAt I (m _ _ h1)
  refine PySem.W.max_list_datum (I.ok.hd hc) hl (by simpa using r2.holds (xs := x :: xs) I m rv) hu fun i v h' tk hi hv kp => ?_
  obtain ⟨u, e1, e2⟩ := pick_rp (xs := x :: xs) I m r2 rv (by simpa using hi) hv kp
  exact ⟨u, H, I.kept (t' := tk) kp, e1, q u e2⟩
def minL {γ : Type} [DecidableEq γ] [DatumOrd γ] [Inhabited γ] : List γ → γ
  | [] => default
  | x :: xs => PySem.W.minOf x xs
def maxL {γ : Type} [DecidableEq γ] [DatumOrd γ] [Inhabited γ] : List γ → γ
  | [] => default
  | x :: xs => PySem.W.maxOf x xs
theorem ev_min {γ : Type} [DecidableEq γ] [DatumOrd γ] [Inhabited γ] {n : Nat} {xs : List γ} (hr : Room n X.A) (hc : X.calm = true) (hm : X.mg "min" = none) (ha : EV X S e (da xs) S1) (hne : xs ≠ []) (hd : 1 + Datum.depth γ ≤ 64 := by decide) (hg : Gl X "min" := by rfl) (he : starEach [e] X.env = (false, eval e X.env) :: starEach [] X.env := by rfl) : EV X S (.Call (.Name "min" p) [e] [] pos) (da (minL xs)) S1 :=
  ev_bi (cr_minT (γ := γ) hc (by rw [Nat.add_assoc]; exact units_of hr hd)) hg hm (by decide +kernel) (el_cons ha el_nil he) (fun Γ σ F H vs Q s r q => by
    obtain ⟨v, rfl, r1⟩ := r.one
    cases xs with
    | nil => exact absurd rfl hne
    | cons x xs => exact ⟨F, v, x, xs, s.fh, rfl, r1, fun u hu => q u [] F H s.same_of (Same.refl F) ⟨rfl, hu⟩⟩) (by decide) (by decide) he rfl
theorem ev_max {γ : Type} [DecidableEq γ] [DatumOrd γ] [Inhabited γ] {n : Nat} {xs : List γ} (hr : Room n X.A) (hc : X.calm = true) (hm : X.mg "max" = none) (ha : EV X S e (da xs) S1) (hne : xs ≠ []) (hd : 1 + Datum.depth γ ≤ 64 := by decide) (hg : Gl X "max" := by rfl) (he : starEach [e] X.env = (false, eval e X.env) :: starEach [] X.env := by rfl) : EV X S (.Call (.Name "max" p) [e] [] pos) (da (maxL xs)) S1 :=
  ev_bi (cr_maxT (γ := γ) hc (by rw [Nat.add_assoc]; exact units_of hr hd)) hg hm (by decide +kernel) (el_cons ha el_nil he) (fun Γ σ F H vs Q s r q => by
    obtain ⟨v, rfl, r1⟩ := r.one
    cases xs with
    | nil => exact absurd rfl hne
    | cons x xs => exact ⟨F, v, x, xs, s.fh, rfl, r1, fun u hu => q u [] F H s.same_of (Same.refl F) ⟨rfl, hu⟩⟩) (by decide) (by decide) he rfl
/-- tuple(e), e a list -/
theorem ev_tupleOfD {ds : List PyData} (hm : X.mg "tuple" = none) (ha : EV X S e (dd (.list ds)) S1) (hg : Gl X "tuple" := by rfl) (he : starEach [e] X.env = (false, eval e X.env) :: starEach [] X.env := by rfl) : EV X S (.Call (.Name "tuple" p) [e] [] pos) (dd (.tuple ds)) S1 :=
  ev_ty call_tuple_of hg hm (by decide +kernel) (el_cons ha el_nil he) (fun Γ σ F H vs Q s r q => by
    obtain ⟨v, rfl, r1⟩ := r.one
    obtain ⟨a, us, rfl, h1, h2, r2⟩ := r1.sql (K := X.K) s.fh
    refine ⟨a, us, rfl, .inl ⟨h1, fun l hl => ?_⟩⟩
    obtain ⟨s2, m2, r3⟩ := s.newT hl r2
    exact q _ [] _ _ s2.same_of m2 ⟨rfl, r3⟩) (by decide) (by decide) he rfl
theorem ev_tupleOf {xs : List α} (hm : X.mg "tuple" = none) (ha : EV X S e (da xs) S1) (hg : Gl X "tuple" := by rfl) (he : starEach [e] X.env = (false, eval e X.env) :: starEach [] X.env := by rfl) : EV X S (.Call (.Name "tuple" p) [e] [] pos) (da (Tup.mk xs)) S1 := ev_tupleOfD hm ha hg he
theorem ev_tupleOfT {t : Tup α} (hm : X.mg "tuple" = none) (ha : EV X S e (da t) S1) (hg : Gl X "tuple" := by rfl) (he : starEach [e] X.env = (false, eval e X.env) :: starEach [] X.env := by rfl) : EV X S (.Call (.Name "tuple" p) [e] [] pos) (da t) S1 :=
  ev_ty call_tuple_of hg hm (by decide +kernel) (el_cons ha el_nil he) (fun Γ σ F H vs Q s r q => by
    obtain ⟨v, rfl, r1⟩ := r.one
    obtain ⟨a, us, rfl, h2, r2⟩ := Rp.tup_of r1
    exact ⟨a, us, rfl, .inr ⟨SqT.of (s.fh _ _ h2), q _ [] F H s.same_of (Same.refl F) ⟨rfl, r1⟩⟩⟩) (by decide) (by decide) he rfl
/-- list(e), e a tuple or a list -/
theorem ev_listOfT {t : Tup α} (hm : X.mg "list" = none) (ha : EV X S e (da t) S1) (hg : Gl X "list" := by rfl) (he : starEach [e] X.env = (false, eval e X.env) :: starEach [] X.env := by rfl) : EV X S (.Call (.Name "list" p) [e] [] pos) (la t.items) S1 :=
  ev_ty call_list_of hg hm (by decide +kernel) (el_cons ha el_nil he) (fun Γ σ F H vs Q s r q => by
    obtain ⟨v, rfl, r1⟩ := r.one
    obtain ⟨a, us, rfl, h2, r2⟩ := Rp.tup_of r1
    refine ⟨a, us, rfl, .inr (SqT.of (s.fh _ _ h2)), fun l hl => ?_⟩
    obtain ⟨s2, r3⟩ := s.newL hl r2
    exact q _ _ F _ s2 (Same.refl F) r3) (by decide) (by decide) he rfl
theorem ev_listOf {xs : List α} (hm : X.mg "list" = none) (ha : EV X S e (da xs) S1) (hg : Gl X "list" := by rfl) (he : starEach [e] X.env = (false, eval e X.env) :: starEach [] X.env := by rfl) : EV X S (.Call (.Name "list" p) [e] [] pos) (la xs) S1 :=
  ev_ty call_list_of hg hm (by decide +kernel) (el_cons ha el_nil he) (fun Γ σ F H vs Q s r q => by
    obtain ⟨v, rfl, r1⟩ := r.one
    obtain ⟨a, us, rfl, h2, r2⟩ := Rp.lst_of r1
    refine ⟨a, us, rfl, .inl (SqL.of (s.fh _ _ h2)), fun l hl => ?_⟩
    obtain ⟨s2, r3⟩ := s.newL hl r2
    exact q _ _ F _ s2 (Same.refl F) r3) (by decide) (by decide) he rfl
/-- a + b of lists -/
theorem ev_cat {ds es : List PyData} (ha : EV X S a (dd (.list ds)) S1) (hb : EV X S1 b (dd (.list es)) S2) (hz : ds.length + es.length ≤ sizeLine) : EV X S (.BinOp a .Add b pos) (ll (ds ++ es)) S2 :=
  ev_op op_cat ha hb fun Γ σ F H v u Q s r1 r2 q => by
    obtain ⟨a, vs, rfl, h1, q1⟩ := r1.lst_of
    obtain ⟨b, us, rfl, h2, q2⟩ := r2.lst_of
    refine ⟨a, b, vs, us, rfl, rfl, s.fh _ _ h1, s.fh _ _ h2, by rw [q1.length, q2.length]; exact hz, fun p hp => ?_⟩
    obtain ⟨s2, r3⟩ := s.newL hp (q1.append q2)
    exact q _ _ F _ s2 (Same.refl F) r3
/-- a * n of a list -/
theorem ev_rep {ds : List PyData} {n : Int} (ha : EV X S a (dd (.list ds)) S1) (hb : EV X S1 b (da n) S2) (hz : ds.length * n.toNat ≤ sizeLine) (hn : -(2 ^ 63) ≤ n ∧ n < 2 ^ 63) : EV X S (.BinOp a .Mult b pos) (ll (List.replicate n.toNat ds).flatten) S2 :=
  ev_op op_rep ha hb fun Γ σ F H v u Q s r1 r2 q => by
    obtain ⟨a, vs, rfl, h1, q1⟩ := r1.lst_of
    refine ⟨a, n, vs, rfl, r2.int_of, s.fh _ _ h1, hn.1, hn.2, by rw [q1.length]; exact hz, fun p hp => ?_⟩
    obtain ⟨s2, r3⟩ := s.newL hp (q1.rep n.toNat)
    exact q _ _ F _ s2 (Same.refl F) r3
/-- a + b of tuples -/
theorem ev_catT {ds es : List PyData} (ha : EV X S a (dd (.tuple ds)) S1) (hb : EV X S1 b (dd (.tuple es)) S2) (hz : ds.length + es.length ≤ sizeLine) : EV X S (.BinOp a .Add b pos) (dd (.tuple (ds ++ es))) S2 :=
  ev_op op_catA ha hb fun Γ σ F H v u Q s r1 r2 q => by
    obtain ⟨a, vs, rfl, h1, q1⟩ := r1.tup_of
    obtain ⟨b, us, rfl, h2, q2⟩ := r2.tup_of
    refine ⟨a, b, vs, us, rfl, rfl, SqT.of (s.fh _ _ h1), SqT.of (s.fh _ _ h2), by rw [q1.length, q2.length]; exact hz, fun e => ?_, fun _ e => ?_, fun _ _ p hp => ?_⟩
    · subst e; cases q1; exact q _ [] F H s.same_of (Same.refl F) ⟨rfl, r2⟩
    · subst e; cases q2; exact q _ [] F H s.same_of (Same.refl F) ⟨rfl, by simpa using r1⟩
    · obtain ⟨s2, m2, r3⟩ := s.newT hp (q1.append q2)
      exact q _ [] _ _ s2.same_of m2 ⟨rfl, r3⟩
/-- slices -/
def WO (X : Cx) (e : Option Expr) : TO := fun σ H Q => ∀ (pins : List (Addr × Obj)) (s : Shared), Inv X pins σ H s → wpAny (model X.prog X.w) X.A (evalPart e X.env) (fun u s' => ∃ o H', Inv X pins σ H' s' ∧ IsPart u o ∧ Q o H') X.xe s
theorem po_w {e : Option Expr} : PO X e (WO X e) := ⟨fun pins s _ _ _ I h => h pins s I⟩
def EO (X : Cx) (S : Sl) (e : Option Expr) (o : Option Int) (S' : Sl) : Prop := ∀ (Γ : Cxt) (σ : St) (F H : Hp) (Q : Option Int → Hp → Prop), Sat Γ S σ F H → (∀ F' H', Sat Γ S' σ F' H' → Same F F' → Q o H') → WO X e σ H Q
theorem eo_none : EO X S none none S := fun Γ σ F H Q s q => fun pins s' I => po_none.run pins s' σ H Q I (q F H s (Same.refl F))
theorem eo_some {i : Int} (h : EV X S e (da i) S1) : EO X S (some e) (some i) S1 := fun Γ σ F H Q s q => fun pins s' I => (po_some pe_w).run pins s' σ H Q I (h.dat s fun v F' H' s1 m r => ⟨i, r.int_of, q F' H' s1 m⟩)
def cutD {γ : Type} (xs : List γ) (lo hi : Option Int) : List γ := (xs.drop (HT.sIx xs.length 0 lo)).take (HT.sIx xs.length xs.length hi - HT.sIx xs.length 0 lo)
theorem cutD_map {γ δ : Type} (f : γ → δ) (xs : List γ) (lo hi : Option Int) : cutD (xs.map f) lo hi = (cutD xs lo hi).map f := by
  unfold cutD
  rw [List.length_map, List.map_take, List.map_drop]
theorem ev_slice {ds : List PyData} {lo hi : Option Expr} {l h : Option Int} {p2 : Pos} (ha : EV X S a (dd (.list ds)) S1) (hl : EO X S1 lo l S2) (hh : EO X S2 hi h S3) : EV X S (.Subscript a (.Slice lo hi none p2) pos) (ll (cutD ds l h)) S3 := fun Γ σ F H Q s q =>
  PE.w (pe_slice sl_list pe_w po_w po_w) (ha.dat s fun v F1 H1 s1 m1 r1 => hl Γ σ F1 H1 _ s1 fun F2 H2 s2 m2 => hh Γ σ F2 H2 _ s2 fun F3 H3 s3 m3 => by
    obtain ⟨a, vs, rfl, h1, q1⟩ := ((r1.mono m2).mono m3).lst_of
    refine ⟨a, vs, rfl, SqL.of (s3.fh _ _ h1), fun p hp => ?_⟩
    have q2 : RpAll F3 (cutV vs l h) (cutD ds l h) := by
      unfold cutV cutD
      rw [q1.length]
      exact (q1.drop _).take _
    obtain ⟨s4, r3⟩ := s3.newL hp q2
    exact q _ _ F3 _ s4 ((m1.trans m2).trans m3) r3)
theorem ev_sliceT {ds : List PyData} {lo hi : Option Expr} {l h : Option Int} {p2 : Pos} (ha : EV X S a (dd (.tuple ds)) S1) (hl : EO X S1 lo l S2) (hh : EO X S2 hi h S3) : EV X S (.Subscript a (.Slice lo hi none p2) pos) (dd (.tuple (cutD ds l h))) S3 := fun Γ σ F H Q s q =>
  PE.w (pe_slice sl_tupA pe_w po_w po_w) (ha.dat s fun v F1 H1 s1 m1 r1 => hl Γ σ F1 H1 _ s1 fun F2 H2 s2 m2 => hh Γ σ F2 H2 _ s2 fun F3 H3 s3 m3 => by
    have r3 := (r1.mono m2).mono m3
    obtain ⟨a, vs, rfl, h1, q1⟩ := r3.tup_of
    have q2 : RpAll F3 (cutV vs l h) (cutD ds l h) := by
      unfold cutV cutD
      rw [q1.length]
      exact (q1.drop _).take _
    refine ⟨a, vs, rfl, SqT.of (s3.fh _ _ h1), fun e => ?_, fun _ p hp => ?_⟩
    · refine q _ [] F3 H3 s3.same_of ((m1.trans m2).trans m3) ⟨rfl, ?_⟩
      have : cutD ds l h = ds := by
        unfold cutD
        rw [q1.length] at e
        rw [e.1, e.2, List.drop_zero, Nat.sub_zero, List.take_length]
      rw [this]; exact r3
    · obtain ⟨s4, m4, r4⟩ := s3.newT hp q2
      exact q _ [] _ _ s4.same_of (((m1.trans m2).trans m3).trans m4) ⟨rfl, r4⟩)
/-- e[::-1], a list -/
theorem ev_rev {ds : List PyData} {k : Nat} {p1 p2 p3 : Pos} (ha : EV X S a (dd (.list ds)) S1) : EV X S (.Subscript a (.Slice none none (some (.UnaryOp .USub (.Constant (.int 1) k p1) p2)) p3) pos) (ll ds.reverse) S1 := fun Γ σ F H Q s q =>
  PE.w (pe_revL pe_w) (ha.dat s fun v F1 H1 s1 m1 r1 => by
    obtain ⟨a, vs, rfl, h1, q1⟩ := r1.lst_of
    refine ⟨a, vs, rfl, SqL.of (s1.fh _ _ h1), fun p hp => ?_⟩
    obtain ⟨s2, r3⟩ := s1.newL hp q1.reverse
    exact q _ _ F1 _ s2 m1 r3)

/-! ## sorted -/
def leOf (γ : Type) [DecidableEq γ] [DatumOrd γ] (a b : γ) : Bool := !DatumOrd.lt b a
theorem dataLe_typed {γ : Type} [DecidableEq γ] [DatumOrd γ] : PySem.W.dataLe false (Datum.toD : γ → PyData) = leOf γ := by
  rw [PySem.W.dataLe_eq]
  funext a b
  show (!PySem.W.dataLt (Datum.toD b) (Datum.toD a)) = _
  rw [DatumOrd.lt_eq]; rfl
def rSortT (γ : Type) [DecidableEq γ] [DatumOrd γ] : List V → Hp → VK → Prop := fun vs H Q => ∃ (F : Hp) (v : V) (xs : List γ), Same F H ∧ vs = [v] ∧ Rp F v (Datum.toD xs) ∧ xs.length ≤ sizeLine ∧ ∀ p us, H p = none → RpAll F us ((xs.mergeSort (leOf γ)).map Datum.toD) → Q (.ref p) (upd H p (.lst us))
theorem each_rp {F : Hp} : ∀ {us : List V} {ws : List Value} {xs : List α}, RpAll F us (xs.map Datum.toD) → Vals us ws → EachIs (fun (v : Value) (x : α) => ∃ y, RelV y v ∧ Rp F y (Datum.toD x)) ws xs
  | us, ws, [], r, v => by cases r; cases v; exact .nil
  | us, ws, x :: xs, r, v => by
    cases r with
    | cons r1 r2 =>
      cases v with
      | cons v1 v2 => exact .cons ⟨_, v1, r1⟩ (each_rp r2 v2)
theorem rp_each {F : Hp} : ∀ {ws : List Value} {xs : List α}, EachIs (fun (v : Value) (x : α) => ∃ y, RelV y v ∧ Rp F y (Datum.toD x)) ws xs → ∃ us, RpAll F us (xs.map Datum.toD) ∧ Vals us ws
  | _, _, .nil => ⟨[], .nil, .nil⟩
  | _, _, .cons ⟨y, h1, h2⟩ t => by
    obtain ⟨us, q1, q2⟩ := rp_each t
    exact ⟨y :: us, .cons h2 q1, .cons h1 q2⟩
theorem cr_sortT' {γ : Type} [DecidableEq γ] [DatumOrd γ] (hs : ∀ bs : List γ, PySem.W.Sortable (bs.map (Datum.toD : γ → PyData))) (hu : X.A.units + 2 + Datum.depth γ < cLine) : CallR X (.builtin "sorted") (rSortT γ) := by
  intro pins s σ H vs us Q I r h
  obtain ⟨F, v, xs, m, rfl, hr, hz, q⟩ := h
  obtain ⟨u, rfl, ru⟩ := vals1 r
  obtain ⟨a, ws, rfl, h1, r2⟩ := hr.lst_of
  cases ru
  obtain ⟨its, rv, hl⟩ := Inv.lstAt I (m _ _ h1)
  have e0 := each_rp r2 rv
  refine PySem.W.sorted_data (enc := (Datum.toD : γ → PyData)) hl e0 (e0.mono fun v x ⟨y, h1, h2⟩ => h2.holds I m h1) (PySem.W.AllAlike.of fun b b' => DatumOrd.alike b b') (hs xs) hz (fun b _ => Nat.lt_of_le_of_lt (Nat.add_le_add_left (Datum.depth_le b) _) hu) fun out hlen ho => ?_
  rw [dataLe_typed] at ho
  obtain ⟨us, q1, q2⟩ := rp_each ho
  obtain ⟨ep, hep⟩ := PyProof.Rows.sortedAll_at s.heap its out.toArray
  have kp : ∀ b o, s.heap.get? b = some o → (PyProof.Rows.sortedAll s.heap its out.toArray).get? b = some o := fun b o e => PyProof.Rows.sortedAll_old e
  have hd : s.heap.objs.size ≤ s.heap.objs.size + 1 := Nat.le_succ _
  exact ⟨.ref (s.heap.objs.size + 1), upd H (s.heap.objs.size + 1) (.lst us), I.laid (t' := s.toks) kp hd ⟨by rw [q1.length, List.length_map, List.length_mergeSort]; exact hz, out, ep, q2, hep⟩, rfl, q _ us (I.hok.fresh hd) q1⟩
theorem ev_sorted {γ : Type} [DecidableEq γ] [DatumOrd γ] {n : Nat} {xs : List γ} (hs : ∀ bs : List γ, PySem.W.Sortable (bs.map (Datum.toD : γ → PyData))) (hr : Room n X.A) (hm : X.mg "sorted" = none) (ha : EV X S e (da xs) S1) (hz : xs.length ≤ sizeLine) (hd : 2 + Datum.depth γ ≤ 64 := by decide) (hg : Gl X "sorted" := by rfl) (he : starEach [e] X.env = (false, eval e X.env) :: starEach [] X.env := by rfl) :
    EV X S (.Call (.Name "sorted" p) [e] [] pos) (la (xs.mergeSort (leOf γ))) S1 :=
  ev_bi (cr_sortT' hs (by rw [Nat.add_assoc]; exact units_of hr hd)) hg hm (by decide +kernel) (el_cons ha el_nil he) (fun Γ σ F H vs Q s r q => by
    obtain ⟨v, rfl, r1⟩ := r.one
    refine ⟨F, v, xs, s.fh, rfl, r1, hz, fun p us hp r2 => ?_⟩
    obtain ⟨s2, r3⟩ := s.newL hp r2
    exact q _ _ F _ s2 (Same.refl F) r3) (by decide) (by decide) he rfl
theorem sortable_int (bs : List Int) : PySem.W.Sortable (bs.map (Datum.toD : Int → PyData)) := PySem.W.Sortable.others (enc := (Datum.toD : Int → PyData)) fun b => ⟨fun z => PyData.noConfusion z, fun xs z => PyData.noConfusion z⟩
theorem sortable_pair {γ δ : Type} [DecidableEq γ] [Datum γ] [DecidableEq δ] [Datum δ] (bs : List (γ × δ)) : PySem.W.Sortable (bs.map (Datum.toD : γ × δ → PyData)) := PySem.W.Sortable.tuples fun b => ⟨_, _, rfl⟩

/-! ## isinstance -/
def tyName : PyData → String
  | .none => "NoneType"
  | .bool _ => "bool"
  | .int _ => "int"
  | .str _ => "str"
  | .list _ => "list"
  | .tuple _ => "tuple"
  | .dict _ => "dict"
theorem Rp.ty {K : PySem.W.Frag} {F H : Hp} {v : V} {d : PyData} (h : Rp F v d) (m : Same F H) : TyX K H v (.type (tyName d)) := by
  cases h with
  | non => exact .base .non
  | bl b => exact .base (.bl b)
  | int i => exact .base (.int i)
  | str x => exact .base (.str x)
  | lst h r => exact .base (.lst (m _ _ h))
  | tup h r => exact .base (.tup (m _ _ h))
theorem ev_isi {T : String} {x : Str} {p2 : Pos} {k : Bool} (hk : kitB (tyName d) T = some k) (hm : X.mg "isinstance" = none) (hmT : X.mg x = none) (ha : EV X S e (dd d) S1) (hvT : bootBuiltins x = some (.type T) := by decide +kernel) (hgT : Gl X x := by rfl) (hg : Gl X "isinstance" := by rfl)
    (hn : x ≠ "__name__" := by decide) (hdb : (x == ("__debug__" : Str)) = false := by decide)
    (he : starEach [e, .Name x p2] X.env = (false, eval e X.env) :: starEach [.Name x p2] X.env := by rfl) (he2 : starEach [.Name x p2] X.env = (false, eval (.Name x p2) X.env) :: starEach [] X.env := by rfl) (hpl : (backTo pos (starEach [.Name x p2] X.env)).any (·.1) = false := by rfl) :
    EV X S (.Call (.Name "isinstance" p) [e, .Name x p2] [] pos) (da k) S1 := EV.of_d fun Γ σ F H Q s q =>
  PE.w (pe_callB call_isi hg hm (by decide +kernel) (pa_cons pe_w (pa_cons (pe_bltn (v := .ty T) hgT hmT hvT rfl hn hdb) pa_nil he2) he) (by decide) (by decide) he hpl) (ha.dat s fun v F1 H1 s1 m1 r1 =>
    ⟨v, .ty T, .type (tyName d), .type T, k, rfl, .ty T, r1.ty s1.fh, kit_ty hk, q _ F1 H1 s1 m1 (.bl k)⟩)
end
end Ev

namespace Ev
open PySem L2
open PySem.W (Datum Tup T3 T4 Holds HoldAll DatumOrd)
variable [Tb]

/-! ## lands and cells -/
structure Land where
  rows : List (List Int)
  deriving DecidableEq
abbrev Cell := Int × Int
def rowsT (L : Land) : Tup (Tup Int) := ⟨L.rows.map Tup.mk⟩
theorem rowsT_inj {L M : Land} : rowsT L = rowsT M ↔ L = M := by
  constructor
  · intro h
    have h2 : L.rows.map Tup.mk = M.rows.map Tup.mk := congrArg Tup.items h
    have h3 := congrArg (List.map Tup.items) h2
    rw [List.map_map, List.map_map] at h3
    have id1 : (Tup.items ∘ Tup.mk : List Int → List Int) = id := rfl
    rw [id1, List.map_id, List.map_id] at h3
    cases L; cases M; exact congrArg Land.mk h3
  · intro h; rw [h]
instance : Datum Land where
  toD L := Datum.toD (rowsT L)
  plain L := Datum.plain (rowsT L)
  eqv L M := by rw [Datum.eqv]; exact decide_eq_decide.mpr rowsT_inj
  depth := Datum.depth (Tup (Tup Int))
  depth_le L := Datum.depth_le (rowsT L)
def nR (L : Land) : Nat := L.rows.length
def nC (L : Land) : Nat := (L.rows.headD []).length
structure LandOk (L : Land) : Prop where
  r1 : 1 ≤ nR L
  r8 : nR L ≤ 8
  c1 : 1 ≤ nC L
  c8 : nC L ≤ 8
  rect : ∀ r ∈ L.rows, r.length = nC L
  hgt : ∀ r ∈ L.rows, ∀ h ∈ r, 0 ≤ h ∧ h ≤ 999
def IsCell (L : Land) (c : Cell) : Prop := (0 ≤ c.1 ∧ c.1 < nR L) ∧ 0 ≤ c.2 ∧ c.2 < nC L
instance (L : Land) (c : Cell) : Decidable (IsCell L c) := inferInstanceAs (Decidable (_ ∧ _))
def rowAt (L : Land) (i : Int) : List Int := L.rows.getD i.toNat []
def hAt (L : Land) (c : Cell) : Int := (rowAt L c.1).getD c.2.toNat 0
theorem atI_getD {α : Type} {xs : List α} {i : Int} (d : α) (h0 : 0 ≤ i) (h1 : i < xs.length) : atI xs i = some (xs.getD i.toNat d) := by
  unfold atI ixN
  rw [if_pos h0, if_pos h1]
  show xs[i.toNat]? = _
  rw [List.getD_eq_getElem?_getD, List.getElem?_eq_getElem (by omega)]; rfl
theorem row_atI {L : Land} {i : Int} (h0 : 0 ≤ i) (h1 : i < nR L) : atI ((rowsT L).items.map Datum.toD) i = some (Datum.toD (Tup.mk (rowAt L i))) := atI_map _ (atI_map _ (atI_getD [] h0 h1))
theorem row_mem {L : Land} {i : Int} (h0 : 0 ≤ i) (h1 : i < nR L) : rowAt L i ∈ L.rows := by
  have hl : i.toNat < L.rows.length := by unfold nR at h1; omega
  unfold rowAt
  rw [List.getD_eq_getElem?_getD, List.getElem?_eq_getElem hl]
  exact List.getElem_mem hl
theorem row_len {L : Land} (ok : LandOk L) {i : Int} (h0 : 0 ≤ i) (h1 : i < nR L) : (rowAt L i).length = nC L := ok.rect _ (row_mem h0 h1)
theorem row0_len {L : Land} (ok : LandOk L) : (rowAt L 0).length = nC L := row_len ok (Int.le_refl 0) (by have := ok.r1; omega)
theorem hAt_range {L : Land} (ok : LandOk L) {c : Cell} (h : IsCell L c) : 0 ≤ hAt L c ∧ hAt L c ≤ 999 := by
  have hl := row_len ok h.1.1 h.1.2
  have hm := row_mem h.1.1 h.1.2
  have hc : c.2.toNat < (rowAt L c.1).length := by have := h.2; omega
  unfold hAt
  rw [List.getD_eq_getElem?_getD, List.getElem?_eq_getElem hc]
  exact ok.hgt _ hm _ (List.getElem_mem hc)

/-! ## what is a land, of any data -/
def isWholeD : PyData → Int → Int → Bool
  | .int i, lo, hi => decide (lo ≤ i) && decide (i ≤ hi)
  | _, _, _ => false
def isLineD : PyData → Int → Bool
  | .tuple ds, n => decide ((ds.length : Int) = n) && (ds.map fun x => isWholeD x 0 999).all id
  | _, _ => false
def isLandD : PyData → Bool
  | .tuple ds => (decide (1 ≤ (ds.length : Int)) && decide ((ds.length : Int) ≤ 8)) && (match ds.headD .none with
    | .tuple r => (decide (1 ≤ (r.length : Int)) && decide ((r.length : Int) ≤ 8)) && (ds.map fun l => isLineD l r.length).all id
    | _ => false)
  | _ => false
def isCellD (n m : Int) : PyData → Bool
  | .tuple [a, b] => isWholeD a 0 (n - 1) && isWholeD b 0 (m - 1)
  | _ => false
theorem isLand_ok {L : Land} (ok : LandOk L) : isLandD (Datum.toD L) = true := by
  obtain ⟨rows⟩ := L
  obtain ⟨r1, r8, c1, c8, rect, hgt⟩ := ok
  unfold nR nC at *
  dsimp only at *
  cases rows with
  | nil => simp at r1
  | cons r0 rs =>
    show isLandD (.tuple ((((r0 :: rs).map Tup.mk)).map Datum.toD)) = true
    unfold isLandD
    simp only [List.length_map, List.map_cons, List.headD_cons]
    show ((decide _ && decide _) && ((decide (1 ≤ ((r0.map (Datum.toD : Int → PyData)).length : Int)) && decide (((r0.map (Datum.toD : Int → PyData)).length : Int) ≤ 8)) && _)) = true
    simp only [List.headD_cons, List.length_cons, List.length_map] at *
    rw [Bool.and_eq_true, Bool.and_eq_true, Bool.and_eq_true, Bool.and_eq_true]
    refine ⟨⟨decide_eq_true (by omega), decide_eq_true (by omega)⟩, ⟨decide_eq_true (by omega), decide_eq_true (by omega)⟩, ?_⟩
    have line : ∀ r, r ∈ r0 :: rs → isLineD (Datum.toD (Tup.mk r : Tup Int)) (r0.length : Int) = true := fun r hr => by
      show (decide _ && _) = true
      rw [Bool.and_eq_true]
      refine ⟨decide_eq_true (by rw [List.length_map]; exact_mod_cast rect r hr), ?_⟩
      rw [List.all_eq_true]
      intro b hb
      obtain ⟨x, hx, rfl⟩ := List.mem_map.mp hb
      obtain ⟨y, hy, rfl⟩ := List.mem_map.mp hx
      have := hgt r hr y hy
      show (decide (0 ≤ y) && decide (y ≤ 999)) = true
      rw [Bool.and_eq_true]; exact ⟨decide_eq_true this.1, decide_eq_true this.2⟩
    rw [List.all_cons, Bool.and_eq_true]
    refine ⟨line r0 List.mem_cons_self, ?_⟩
    rw [List.all_eq_true]
    intro b hb
    obtain ⟨x, hx, rfl⟩ := List.mem_map.mp hb
    obtain ⟨y, hy, rfl⟩ := List.mem_map.mp hx
    obtain ⟨z, hz, rfl⟩ := List.mem_map.mp hy
    exact line z (List.mem_cons_of_mem _ hz)
theorem isCell_iff {n m : Nat} (c : Cell) : isCellD n m (Datum.toD c) = decide ((0 ≤ c.1 ∧ c.1 < n) ∧ 0 ≤ c.2 ∧ c.2 < m) := by
  show ((decide (0 ≤ c.1) && decide (c.1 ≤ (n : Int) - 1)) && (decide (0 ≤ c.2) && decide (c.2 ≤ (m : Int) - 1))) = _
  rw [Bool.eq_iff_iff]
  simp only [Bool.and_eq_true, decide_eq_true_eq]
  omega

section
variable {X : Cx} {S S' S1 S2 S3 : Sl} {e a b c : Expr} {es rest : List Expr} {O : OP} {d d1 d2 d3 : PyData} {pos p : Pos}
theorem ev_lenD {ds : List PyData} (hm : X.mg "len" = none) (ha : EV X S e (dd (.tuple ds)) S1) (hg : Gl X "len" := by rfl) (he : starEach [e] X.env = (false, eval e X.env) :: starEach [] X.env := by rfl) : EV X S (.Call (.Name "len" p) [e] [] pos) (da (ds.length : Int)) S1 :=
  ev_len1 rfl hg hm (el_cons ha el_nil he) (fun F H v m r => by
    obtain ⟨l, vs, e, hl, r2⟩ := r.tup_of
    subst e
    exact ⟨vs.length, .inr ⟨vs, SqT.of (m _ _ hl), rfl⟩, by rw [r2.length]⟩) he
theorem ev_lenL {L : Land} (hm : X.mg "len" = none) (ha : EV X S e (da L) S1) (hg : Gl X "len" := by rfl) (he : starEach [e] X.env = (false, eval e X.env) :: starEach [] X.env := by rfl) : EV X S (.Call (.Name "len" p) [e] [] pos) (da (nR L : Int)) S1 :=
  (ev_lenD hm ha hg he).eqa (by simp [nR, rowsT])
theorem ev_row {L : Land} {i : Int} (ha : EV X S a (da L) S1) (hb : EV X S1 b (da i) S2) (h : 0 ≤ i ∧ i < nR L) (hs : PlainIx b := by intro _ _; rfl) : EV X S (.Subscript a b pos) (da (Tup.mk (rowAt L i))) S2 := ev_ixt ha hb (row_atI h.1 h.2) hs
theorem ev_row0 {L : Land} {j pos'} (ha : EV X S a (da L) S1) (ok : LandOk L) : EV X S (.Subscript a (.Constant (.int 0) j pos') pos) (da (Tup.mk (rowAt L 0))) S1 := ev_row ha (ev_int (i := 0)) ⟨Int.le_refl 0, by have := ok.r1; omega⟩
theorem ev_glob {x : Str} {i : Int} (hm : ∃ t, X.mg x = some (.int i t)) (hg : Gl X x := by rfl) (hd : (x == ("__debug__" : Str)) = false := by decide) : EV X S (.Name x pos) (da i) S := by
  obtain ⟨t, h⟩ := hm
  exact ev_con (v := .int i) (pe_glob hg h ⟨t, rfl⟩ hd) fun _ => .int i
end
/-- the names of the module and the built-ins that it leaves -/
structure Txt (mg : Str → Option Value) : Prop where
  most : ∃ t, mg "MOST" = some (.int 8 t)
  high : ∃ t, mg "HIGH" = some (.int 999 t)
  len : mg "len" = none
  isi : mg "isinstance" = none
  int : mg "int" = none
  bool : mg "bool" = none
  tuple : mg "tuple" = none
  list : mg "list" = none
  str : mg "str" = none
  all : mg "all" = none
  any : mg "any" = none
  range : mg "range" = none
  min : mg "min" = none
  max : mg "max" = none
  sum : mg "sum" = none
  abs : mg "abs" = none
  sorted : mg "sorted" = none
  set : mg "set" = none
  dict : mg "dict" = none
  zip : mg "zip" = none
  enum : mg "enumerate" = none
  reversed : mg "reversed" = none
theorem kitInt (d : PyData) : kitB (tyName d) "int" = some (match d with | .bool _ => true | .int _ => true | _ => false) := match d with
  | .none => show kitB "NoneType" "int" = some false by decide +kernel
  | .bool _ => show kitB "bool" "int" = some true by decide +kernel
  | .int _ => show kitB "int" "int" = some true by decide +kernel
  | .str _ => show kitB "str" "int" = some false by decide +kernel
  | .list _ => show kitB "list" "int" = some false by decide +kernel
  | .tuple _ => show kitB "tuple" "int" = some false by decide +kernel
  | .dict _ => show kitB "dict" "int" = some false by decide +kernel
theorem kitBool (d : PyData) : kitB (tyName d) "bool" = some (match d with | .bool _ => true | _ => false) := match d with
  | .none => show kitB "NoneType" "bool" = some false by decide +kernel
  | .bool _ => show kitB "bool" "bool" = some true by decide +kernel
  | .int _ => show kitB "int" "bool" = some false by decide +kernel
  | .str _ => show kitB "str" "bool" = some false by decide +kernel
  | .list _ => show kitB "list" "bool" = some false by decide +kernel
  | .tuple _ => show kitB "tuple" "bool" = some false by decide +kernel
  | .dict _ => show kitB "dict" "bool" = some false by decide +kernel
theorem kitTuple (d : PyData) : kitB (tyName d) "tuple" = some (match d with | .tuple _ => true | _ => false) := match d with
  | .none => show kitB "NoneType" "tuple" = some false by decide +kernel
  | .bool _ => show kitB "bool" "tuple" = some false by decide +kernel
  | .int _ => show kitB "int" "tuple" = some false by decide +kernel
  | .str _ => show kitB "str" "tuple" = some false by decide +kernel
  | .list _ => show kitB "list" "tuple" = some false by decide +kernel
  | .tuple _ => show kitB "tuple" "tuple" = some true by decide +kernel
  | .dict _ => show kitB "dict" "tuple" = some false by decide +kernel
theorem kitList (d : PyData) : kitB (tyName d) "list" = some (match d with | .list _ => true | _ => false) := match d with
  | .none => show kitB "NoneType" "list" = some false by decide +kernel
  | .bool _ => show kitB "bool" "list" = some false by decide +kernel
  | .int _ => show kitB "int" "list" = some false by decide +kernel
  | .str _ => show kitB "str" "list" = some false by decide +kernel
  | .list _ => show kitB "list" "list" = some true by decide +kernel
  | .tuple _ => show kitB "tuple" "list" = some false by decide +kernel
  | .dict _ => show kitB "dict" "list" = some false by decide +kernel
theorem kitStr (d : PyData) : kitB (tyName d) "str" = some (match d with | .str _ => true | _ => false) := match d with
  | .none => show kitB "NoneType" "str" = some false by decide +kernel
  | .bool _ => show kitB "bool" "str" = some false by decide +kernel
  | .int _ => show kitB "int" "str" = some false by decide +kernel
  | .str _ => show kitB "str" "str" = some true by decide +kernel
  | .list _ => show kitB "list" "str" = some false by decide +kernel
  | .tuple _ => show kitB "tuple" "str" = some false by decide +kernel
  | .dict _ => show kitB "dict" "str" = some false by decide +kernel
theorem bk2 {S' : Sl} : Bk S' [none, none] := Bk.none 2
theorem bk1 {S' : Sl} : Bk S' [none] := Bk.none 1
theorem bk3 {S' : Sl} : Bk S' [none, none, none] := Bk.none 3
theorem bk4 {S' : Sl} : Bk S' [none, none, none, none] := Bk.none 4
theorem pin0 {n : Nat} {S : Sl} {i : Nat} {O : OP} (h : (List.replicate n (none : Option OP))[i]? = some (some O)) : ∃ a O0, S[i]? = some (some O0) ∧ Pin O a ∧ Pin O0 a := absurd h (by rw [List.getElem?_replicate]; split <;> exact fun z => by cases z)
end Ev

namespace Ev
open PySem L2
open PySem.W (Datum Tup T3 T4 Holds HoldAll DatumOrd EachIs)
variable [Tb]
/-- so many noughts -/
def town (n : Nat) : List PyData := List.replicate n (.int 0)
def absI (x : Int) : Int := if x < 0 then -x else x
def maxI (x y : Int) : Int := if y > x then y else x
def minI (x y : Int) : Int := if y < x then y else x
theorem absI_eq (x : Int) : absI x = (x.natAbs : Int) := by unfold absI; split <;> omega
theorem maxI_eq (x y : Int) : maxI x y = max x y := by unfold maxI; rw [Int.max_def]; split <;> split <;> omega
theorem minI_eq (x y : Int) : minI x y = min x y := by unfold minI; rw [Int.min_def]; split <;> split <;> omega
def enumL {α : Type} (xs : List α) : List (Int × α) := (rng 0 xs.length).zip xs
theorem atI_lastD {α : Type} {xs : List α} {d : α} (h : xs ≠ []) : atI xs (-1) = some (xs.getLastD d) := by
  obtain ⟨ys, y, rfl⟩ : ∃ ys y, xs = ys ++ [y] := ⟨xs.dropLast, xs.getLast h, (List.dropLast_concat_getLast h).symm⟩
  rw [atI_last]; simp
section
variable {X : Cx} {S S' S1 S2 S3 : Sl} {e a b c : Expr} {es rest : List Expr} {O : OP} {d d1 d2 d3 : PyData} {pos p : Pos} {k : Bool}
variable {α β γ : Type} [DecidableEq α] [Datum α] [DecidableEq β] [Datum β] [DecidableEq γ] [Datum γ]
theorem ev_catL {xs ys : List α} (ha : EV X S a (da xs) S1) (hb : EV X S1 b (da ys) S2) (hz : xs.length + ys.length ≤ sizeLine) : EV X S (.BinOp a .Add b pos) (la (xs ++ ys)) S2 :=
  (ev_cat ha hb (by rw [List.length_map, List.length_map]; exact hz)).eq (by rw [← List.map_append])
theorem ev_lstA {xs : List α} (h : EL X S es (xs.map Datum.toD) S') (hz : xs.length ≤ 1000) : EV X S (.List es pos) (la xs) S' := ev_lst h (by rw [List.length_map]; exact Nat.le_of_lt (small1000 hz))
theorem ev_nil {j : Pos} : EV X S (.List [] j) (la ([] : List α)) S := ev_lst el_nil (Nat.zero_le _)
theorem ev_revA {xs : List α} {k : Nat} {p1 p2 p3 : Pos} (ha : EV X S a (da xs) S1) : EV X S (.Subscript a (.Slice none none (some (.UnaryOp .USub (.Constant (.int 1) k p1) p2)) p3) pos) (la xs.reverse) S1 := (ev_rev ha).eq (by rw [← List.map_reverse])
theorem ev_sliceA {xs : List α} {lo hi : Option Expr} {l h : Option Int} {p2 : Pos} (ha : EV X S a (da xs) S1) (hl : EO X S1 lo l S2) (hh : EO X S2 hi h S3) : EV X S (.Subscript a (.Slice lo hi none p2) pos) (la (cutD xs l h)) S3 := (ev_slice ha hl hh).eq (by rw [cutD_map])
theorem ev_sliceTA {xs : Tup α} {lo hi : Option Expr} {l h : Option Int} {p2 : Pos} (ha : EV X S a (da xs) S1) (hl : EO X S1 lo l S2) (hh : EO X S2 hi h S3) : EV X S (.Subscript a (.Slice lo hi none p2) pos) (da (Tup.mk (cutD xs.items l h))) S3 := (ev_sliceT ha hl hh).eqd (by rw [cutD_map]; rfl)
theorem ev_iteA {x y : α} (hc : ET X S c k S1) (ha : k = true → EV X S1 a (da x) S2) (hb : k = false → EV X S1 b (da y) S2) : EV X S (.IfExp c a b pos) (da (if k = true then x else y)) S2 :=
  ev_ite hc (fun h => (ha h).eqa (by rw [if_pos h])) (fun h => (hb h).eqa (by rw [h, if_neg Bool.false_ne_true]))
theorem isNon_opt [PySem.W.SomeDatum α] (x : Option α) : isNon (Datum.toD x) = x.isNone := by
  cases x with
  | none => rfl
  | some x =>
    have h0 := PySem.W.SomeDatum.left x
    show isNon (Datum.toD x) = false
    cases h : Datum.toD x with
    | none => rw [h] at h0; simp only [PyData.eqv] at h0; cases h0
    | _ => rfl
theorem ec_isNO [PySem.W.SomeDatum α] {x : Option α} {j pos'} (ha : EV X S a (da x) S1) : EC X S .Is a (.Constant .none j pos') x.isNone S1 := by
  have := ec_isN (j := j) (pos' := pos') ha
  rw [isNon_opt] at this; exact this
theorem ec_notNO [PySem.W.SomeDatum α] {x : Option α} {j pos'} (ha : EV X S a (da x) S1) : EC X S .IsNot a (.Constant .none j pos') (!x.isNone) S1 := by
  have := ec_notN (j := j) (pos' := pos') ha
  rw [isNon_opt] at this; exact this
theorem three_le : (3 : Nat) ≤ sizeLine := by decide
theorem ev_t3 {x : α} {y : β} {z : γ} {k} (ha : EV X S a (da x) S1) (hb : EV X S1 b (da y) S2) (hc : EV X S2 c (da z) S3)
    (hs : starEach [a, b, c] X.env = (false, eval a X.env) :: starEach [b, c] X.env := by rfl) (hs2 : starEach [b, c] X.env = (false, eval b X.env) :: starEach [c] X.env := by rfl) (hs3 : starEach [c] X.env = (false, eval c X.env) :: starEach [] X.env := by rfl) : EV X S (.Tuple [a, b, c] k pos) (da (T3.mk x y z)) S3 :=
  ev_tup (el_cons ha (el_cons hb (el_cons hc el_nil hs3) hs2) hs) three_le
theorem ev_t3a {x : T3 α β γ} {j pos'} (ha : EV X S a (da x) S1) : EV X S (.Subscript a (.Constant (.int 0) j pos') pos) (da x.a) S1 := ev_ixt ha (ev_int (i := 0)) rfl
theorem ev_t3b {x : T3 α β γ} {j pos'} (ha : EV X S a (da x) S1) : EV X S (.Subscript a (.Constant (.int 1) j pos') pos) (da x.b) S1 := ev_ixt ha (ev_int (i := 1)) rfl
theorem ev_t3c {x : T3 α β γ} {j pos'} (ha : EV X S a (da x) S1) : EV X S (.Subscript a (.Constant (.int 2) j pos') pos) (da x.c) S1 := ev_ixt ha (ev_int (i := 2)) rfl
theorem toD_land (rs : List (List Int)) : Datum.toD (Land.mk rs) = Datum.toD (Tup.mk (rs.map Tup.mk)) := rfl
theorem ev_landOf {rs : List (Tup Int)} (hm : X.mg "tuple" = none) (ha : EV X S e (da rs) S1) (hg : Gl X "tuple" := by rfl) (he : starEach [e] X.env = (false, eval e X.env) :: starEach [] X.env := by rfl) : EV X S (.Call (.Name "tuple" p) [e] [] pos) (da (Land.mk (rs.map Tup.items))) S1 :=
  (ev_tupleOf hm ha hg he).eqd (by rw [toD_land, List.map_map]; congr 1; rw [show (Tup.mk ∘ Tup.items : Tup Int → Tup Int) = id from rfl, List.map_id])
theorem ev_lenTown (j : Nat) {n : Nat} (hm : X.mg "len" = none) (hp : PE X e (tVar j)) (hj : S[j]? = some (some (ll (town n)))) (hg : Gl X "len" := by rfl) (he : starEach [e] X.env = (false, eval e X.env) :: starEach [] X.env := by rfl) : EV X S (.Call (.Name "len" p) [e] [] pos) (da ((n : Nat) : Int)) S :=
  (ev_lenO j hm hp hj hg he).eqa (by unfold town; rw [List.length_replicate])
theorem ev_lenOA (j : Nat) {xs : List α} (hm : X.mg "len" = none) (hp : PE X e (tVar j)) (hj : S[j]? = some (some (la xs))) (hg : Gl X "len" := by rfl) (he : starEach [e] X.env = (false, eval e X.env) :: starEach [] X.env := by rfl) : EV X S (.Call (.Name "len" p) [e] [] pos) (da (xs.length : Int)) S :=
  (ev_lenO j hm hp hj hg he).eqa (by rw [List.length_map])
/-- a list, a tuple of ints: least and greatest -/
theorem ev_absI {x : Int} (hm : X.mg "abs" = none) (ha : EV X S e (da x) S1) (hg : Gl X "abs" := by rfl) (he : starEach [e] X.env = (false, eval e X.env) :: starEach [] X.env := by rfl) : EV X S (.Call (.Name "abs" p) [e] [] pos) (da (absI x)) S1 := ev_abs hm ha hg he
theorem ev_max2I {x y : Int} (hc : X.calm = true) (hm : X.mg "max" = none) (ha : EV X S a (da x) S1) (hb : EV X S1 b (da y) S2) (hg : Gl X "max" := by rfl) (he : starEach [a, b] X.env = (false, eval a X.env) :: starEach [b] X.env := by rfl) (he2 : starEach [b] X.env = (false, eval b X.env) :: starEach [] X.env := by rfl) (hpl : (backTo pos (starEach [b] X.env)).any (·.1) = false := by rfl) : EV X S (.Call (.Name "max" p) [a, b] [] pos) (da (maxI x y)) S2 := ev_max2 hc hm ha hb hg he he2 hpl
theorem ev_min2I {x y : Int} (hc : X.calm = true) (hm : X.mg "min" = none) (ha : EV X S a (da x) S1) (hb : EV X S1 b (da y) S2) (hg : Gl X "min" := by rfl) (he : starEach [a, b] X.env = (false, eval a X.env) :: starEach [b] X.env := by rfl) (he2 : starEach [b] X.env = (false, eval b X.env) :: starEach [] X.env := by rfl) (hpl : (backTo pos (starEach [b] X.env)).any (·.1) = false := by rfl) : EV X S (.Call (.Name "min" p) [a, b] [] pos) (da (minI x y)) S2 := ev_min2 hc hm ha hb hg he he2 hpl
def rBestT (γ : Type) [DecidableEq γ] [DatumOrd γ] (f : γ → List γ → γ) : List V → Hp → VK → Prop := fun vs H Q => ∃ (F : Hp) (v : V) (x : γ) (xs : List γ), Same F H ∧ vs = [v] ∧ Rp F v (Datum.toD (Tup.mk (x :: xs))) ∧ ∀ u, Rp F u (Datum.toD (f x xs)) → Q u H
theorem Inv.tupAt {pins : List (Addr × Obj)} {s : Shared} {σ : St} {H : Hp} {l : Addr} {xs : List V} (I : Inv X pins σ H s) (h : H l = some (.tup xs)) : ∃ its : List Value, Vals xs its ∧ s.heap.IsTuple l its.toArray := by
  obtain ⟨its, r, pl, _⟩ := I.tuple (SqT.of h)
  exact ⟨its, r, pl⟩
theorem cr_minTT {γ : Type} [DecidableEq γ] [DatumOrd γ] (hc : X.calm = true) (hu : X.A.units + 1 + Datum.depth γ < cLine) : CallR X (.builtin "min") (rBestT γ PySem.W.minOf) := by
  intro pins s σ H vs us Q I r h
  obtain ⟨F, v, x, xs, m, rfl, hr, q⟩ := h
  obtain ⟨u, rfl, ru⟩ := vals1 r
  obtain ⟨a, ws, rfl, h1, r2⟩ := hr.tup_of
  cases ru
  obtain ⟨its, rv, hl⟩ := Inv.tupAt I (m _ _ h1)
  refine PySem.W.min_tuple_datum (I.ok.hd hc) hl (by simpa using r2.holds (xs := x :: xs) I m rv) hu fun i v h' tk hi hv kp => ?_
  obtain ⟨u, e1, e2⟩ := pick_rp (xs := x :: xs) I m r2 rv (by simpa using hi) hv kp
  exact ⟨u, H, I.kept (t' := tk) kp, e1, q u e2⟩
theorem cr_maxTT {γ : Type} [DecidableEq γ] [DatumOrd γ] (hc : X.calm = true) (hu : X.A.units + 1 + Datum.depth γ < cLine) : CallR X (.builtin "max") (rBestT γ PySem.W.maxOf) := by
  intro pins s σ H vs us Q I r h
  obtain ⟨F, v, x, xs, m, rfl, hr, q⟩ := h
  obtain ⟨u, rfl, ru⟩ := vals1 r
  obtain ⟨a, ws, rfl, h1, r2⟩ := hr.tup_of
  cases ru
  obtain ⟨its, rv, hl⟩ := Inv.tupAt I (m _ _ h1)
  refine PySem.W.max_tuple_datum (I.ok.hd hc) hl (by simpa using r2.holds (xs := x :: xs) I m rv) hu fun i v h' tk hi hv kp => ?_
  obtain ⟨u, e1, e2⟩ := pick_rp (xs := x :: xs) I m r2 rv (by simpa using hi) hv kp
  exact ⟨u, H, I.kept (t' := tk) kp, e1, q u e2⟩
theorem ev_minT {γ : Type} [DecidableEq γ] [DatumOrd γ] [Inhabited γ] {n : Nat} {xs : Tup γ} (hr : Room n X.A) (hc : X.calm = true) (hm : X.mg "min" = none) (ha : EV X S e (da xs) S1) (hne : xs.items ≠ []) (hd : 1 + Datum.depth γ ≤ 64 := by decide) (hg : Gl X "min" := by rfl) (he : starEach [e] X.env = (false, eval e X.env) :: starEach [] X.env := by rfl) : EV X S (.Call (.Name "min" p) [e] [] pos) (da (minL xs.items)) S1 :=
  ev_bi (cr_minTT (γ := γ) hc (by rw [Nat.add_assoc]; exact units_of hr hd)) hg hm (by decide +kernel) (el_cons ha el_nil he) (fun Γ σ F H vs Q s r q => by
    obtain ⟨v, rfl, r1⟩ := r.one
    obtain ⟨xs⟩ := xs
    cases xs with
    | nil => exact absurd rfl hne
    | cons x xs => exact ⟨F, v, x, xs, s.fh, rfl, r1, fun u hu => q u [] F H s.same_of (Same.refl F) ⟨rfl, hu⟩⟩) (by decide) (by decide) he rfl
theorem ev_maxT {γ : Type} [DecidableEq γ] [DatumOrd γ] [Inhabited γ] {n : Nat} {xs : Tup γ} (hr : Room n X.A) (hc : X.calm = true) (hm : X.mg "max" = none) (ha : EV X S e (da xs) S1) (hne : xs.items ≠ []) (hd : 1 + Datum.depth γ ≤ 64 := by decide) (hg : Gl X "max" := by rfl) (he : starEach [e] X.env = (false, eval e X.env) :: starEach [] X.env := by rfl) : EV X S (.Call (.Name "max" p) [e] [] pos) (da (maxL xs.items)) S1 :=
  ev_bi (cr_maxTT (γ := γ) hc (by rw [Nat.add_assoc]; exact units_of hr hd)) hg hm (by decide +kernel) (el_cons ha el_nil he) (fun Γ σ F H vs Q s r q => by
    obtain ⟨v, rfl, r1⟩ := r.one
    obtain ⟨xs⟩ := xs
    cases xs with
    | nil => exact absurd rfl hne
    | cons x xs => exact ⟨F, v, x, xs, s.fh, rfl, r1, fun u hu => q u [] F H s.same_of (Same.refl F) ⟨rfl, hu⟩⟩) (by decide) (by decide) he rfl

/-! the script -/
section
variable {K : PySem.W.Frag} {ns : List Int}
theorem ev_lenS (hm : X.mg "len" = none) (ha : EV X S e (scr X.K ns) S1) (hg : Gl X "len" := by rfl) (he : starEach [e] X.env = (false, eval e X.env) :: starEach [] X.env := by rfl) : EV X S (.Call (.Name "len" p) [e] [] pos) (da (ns.length : Int)) S1 := EV.of_d fun Γ σ F H Q s q =>
  PE.w (pe_callB call_len hg hm PySem.boot_len (pa_cons pe_w pa_nil he) (by decide) (by decide) he rfl) (EV.fzn (P := fscr X.K ns) ha s fun v F1 H1 s1 m1 ⟨a, e1, h1⟩ =>
    ⟨v, ns.length, rfl, by subst e1; exact .inl ⟨_, s1.fh.seq h1, by simp⟩, q _ F1 H1 s1 m1 (.int _)⟩)
theorem ev_ixS {i : Int} (ha : EV X S a (scr X.K ns) S1) (hb : EV X S1 b (da i) S2) (h : 0 ≤ i ∧ i < ns.length) (hs : PlainIx b := by intro _ _; rfl) : EV X S (.Subscript a b pos) (da (ns.getD i.toNat 0)) S2 := EV.of_d fun Γ σ F H Q s q =>
  PE.w (pe_ix ix_list pe_w pe_w hs) (EV.fzn (P := fscr X.K ns) ha s fun v F1 H1 s1 m1 ⟨a, e1, h1⟩ => hb.dat s1 fun u F2 H2 s2 m2 r2 =>
    ⟨a, _, i, _, e1, r2.int_of, s2.fh.seq (m2.seq h1), atI_map _ (atI_getD 0 h.1 h.2), q _ F2 H2 s2 (m1.trans m2) (.int _)⟩)
theorem dpAll_ints {K : PySem.W.Frag} {H : Hp} : ∀ ns : List Int, DpAll K H (ns.map V.int) (ns.map Datum.toD)
  | [] => .nil
  | n :: ns => .cons (.int n) (dpAll_ints ns)
def rTd (α : Type) [DecidableEq α] [Datum α] (g : α → α → V) : R2 := fun x y H Q => ∃ (K : PySem.W.Frag) (a b : α), True ∧ Q (g a b) H
theorem op_eqS (hu : X.A.units + 1 < cLine) : OpR X (compareOp .Eq) (fun x y H Q => ∃ ns ms : List Int, Dp X.K H x (Datum.toD ns) ∧ Dp X.K H y (Datum.toD ms) ∧ Q (.bl (decide (ns = ms))) H) := by
  intro pins s σ H x y v u Q I rx ry h
  obtain ⟨ns, ms, h1, h2, q⟩ := h
  exact PySem.W.eq_datum (α := List Int) (Dp.reads I _ x v h1 rx) (Dp.reads I _ y u h2 ry) hu ⟨.bl _, H, I, rfl, q⟩
theorem ec_eqS {n : Nat} {ms : List Int} (hr : Room n X.A) (ha : EV X S a (scr X.K ns) S1) (hb : EV X S1 b (da ms) S2) : EC X S .Eq a b (decide (ns = ms)) S2 := fun Γ σ F H Q s q =>
  PC.w (pc_of (op_eqS (hu_of hr)) pe_w pe_w) (EV.fzn (P := fscr X.K ns) ha s fun v F1 H1 s1 m1 ⟨a, e1, h1⟩ => hb.dat s1 fun u F2 H2 s2 m2 r2 =>
    ⟨ns, ms, by subst e1; exact .lst (s2.fh.seq (m2.seq h1)) (dpAll_ints ns), (r2.mono s2.fh).dp, q F2 H2 s2 (m1.trans m2)⟩)
end

/-! enumerate, zip -/
theorem zip_some {γ δ : Type} {xs : List γ} {ys : List δ} {i : Nat} {z : γ × δ} (h : (xs.zip ys)[i]? = some z) : xs[i]? = some z.1 ∧ ys[i]? = some z.2 := List.getElem?_zip_eq_some.mp h
theorem enumL_at {xs : List α} {i : Nat} {d : PyData} (h : ((enumL xs).map Datum.toD)[i]? = some d) : ∃ x, xs[i]? = some x ∧ d = .tuple [.int i, Datum.toD x] := by
  unfold enumL at h
  rw [List.getElem?_map] at h
  cases e : ((rng 0 xs.length).zip xs)[i]? with
  | none => rw [e] at h; cases h
  | some z =>
    obtain ⟨h1, h2⟩ := zip_some e
    rw [e] at h
    refine ⟨z.2, h2, ?_⟩
    have hl := (List.getElem?_eq_some_iff.mp h2).1
    unfold rng at h1
    rw [List.getElem?_map, List.getElem?_range hl] at h1
    have e1 : (0 : Int) + (i : Int) = z.1 := Option.some.inj h1
    have h' := (Option.some.inj h).symm
    rw [h']
    show PyData.tuple [.int z.1, _] = _
    rw [← e1, Int.zero_add]
theorem enumL_length (xs : List α) : (enumL xs).length = xs.length := by unfold enumL; rw [List.length_zip, rng_length, Nat.min_self]
theorem ei_enum {elts : List Expr} {kk : Nat} {tpos : Pos} {xs : List α} (hm : X.mg "enumerate" = none) (h : EV X S e (da xs) S1) (hg : Gl X "enumerate" := by rfl) (hs : starEach [e] X.env = [(false, eval e X.env)] := by rfl) : EI X S (.Tuple elts kk tpos) (.Call (.Name "enumerate" p) [e] [] pos) ((enumL xs).map Datum.toD) S1 := fun Γ σ F H R s q =>
  PI.w (pi_enum hg hm (pa_cons pe_w pa_nil hs) hs) (h.dat s fun v F1 H1 s1 m1 r1 => by
    obtain ⟨l, vs, e, hl, r2⟩ := r1.lst_of
    subst e
    refine ⟨l, vs, rfl, SqL.of (s1.fh _ _ hl), q _ F1 H1 s1 m1 fun i Γ S σ F H s m => ⟨fun d hd => ?_, fun hi => ⟨vs, SqL.of (s.fh _ _ (m _ _ hl)), by rw [r2.length, List.length_map]; rw [List.length_map, enumL_length] at hi; exact hi⟩⟩⟩
    obtain ⟨x, hx, rfl⟩ := enumL_at hd
    obtain ⟨u, e, rx⟩ := r2.at (i := i) (d := Datum.toD x) (by rw [List.getElem?_map, hx]; rfl)
    refine ⟨⟨vs, u, SqL.of (s.fh _ _ (m _ _ hl)), e⟩, fun y H' hy => ?_⟩
    obtain ⟨T, u', rfl, hT, rfl, hy⟩ := hy
    have := hy vs (SqL.of (s.fh _ _ (m _ _ hl)))
    rw [e] at this
    obtain rfl : u = u' := Option.some.inj this
    obtain ⟨s2, m2, r3⟩ := s.newT hT (vs := [.int i, u]) (ds := [.int i, Datum.toD x]) (.cons (.int _) (.cons (rx.mono m) .nil))
    exact ⟨_, s2, m2, r3, fun b o e => by rw [upd_ne (ne_of_none e hT)]; exact e⟩)
theorem zip_at {xs : List α} {ys : List β} {i : Nat} {d : PyData} (h : ((xs.zip ys).map Datum.toD)[i]? = some d) : ∃ x y, xs[i]? = some x ∧ ys[i]? = some y ∧ d = .tuple [Datum.toD x, Datum.toD y] := by
  rw [List.getElem?_map] at h
  cases e : (xs.zip ys)[i]? with
  | none => rw [e] at h; cases h
  | some z =>
    obtain ⟨h1, h2⟩ := zip_some e
    rw [e] at h
    exact ⟨z.1, z.2, h1, h2, (Option.some.inj h).symm⟩
theorem ei_zip {elts : List Expr} {kk : Nat} {tpos : Pos} {xs : List α} {ys : List β} (hm : X.mg "zip" = none) (ha : EV X S a (da xs) S1) (hb : EV X S1 b (da ys) S2) (hg : Gl X "zip" := by rfl) (hs : starEach [a, b] X.env = (false, eval a X.env) :: starEach [b] X.env := by rfl) (hs2 : starEach [b] X.env = (false, eval b X.env) :: starEach [] X.env := by rfl) (hpl : (backTo pos (starEach [b] X.env)).any (·.1) = false := by rfl) :
    EI X S (.Tuple elts kk tpos) (.Call (.Name "zip" p) [a, b] [] pos) ((xs.zip ys).map Datum.toD) S2 := fun Γ σ F H R s q =>
  PI.w (pi_zip hg hm (pa_cons pe_w (pa_cons pe_w pa_nil hs2) hs) hs hpl) (ha.dat s fun v F1 H1 s1 m1 r1 => hb.dat s1 fun u F2 H2 s2 m2 r2 => by
    obtain ⟨l, vs, rfl, hl, q1⟩ := (r1.mono m2).lst_of
    obtain ⟨k, us, rfl, hk, q2⟩ := r2.lst_of
    have l1 := q1.length
    have l2 := q2.length
    rw [List.length_map] at l1 l2
    refine ⟨l, k, vs, us, rfl, SqL.of (s2.fh _ _ hl), SqL.of (s2.fh _ _ hk), q _ F2 H2 s2 (m1.trans m2) fun i Γ S σ F H s m => ⟨fun d hd => ?_, fun hi => ⟨vs, us, SqL.of (s.fh _ _ (m _ _ hl)), SqL.of (s.fh _ _ (m _ _ hk)), by rw [List.length_map, List.length_zip] at hi; omega⟩⟩⟩
    obtain ⟨x, y, hx, hy, rfl⟩ := zip_at hd
    obtain ⟨v1, e1, rx⟩ := q1.at (i := i) (d := Datum.toD x) (by rw [List.getElem?_map, hx]; rfl)
    obtain ⟨u1, e2, ry⟩ := q2.at (i := i) (d := Datum.toD y) (by rw [List.getElem?_map, hy]; rfl)
    refine ⟨⟨vs, us, v1, u1, SqL.of (s.fh _ _ (m _ _ hl)), SqL.of (s.fh _ _ (m _ _ hk)), e1, e2⟩, fun z H' hz => ?_⟩
    obtain ⟨T, v2, u2, rfl, hT, rfl, g1, g2⟩ := hz
    have h1 := g1 vs (SqL.of (s.fh _ _ (m _ _ hl)))
    have h2 := g2 us (SqL.of (s.fh _ _ (m _ _ hk)))
    rw [e1] at h1
    rw [e2] at h2
    obtain rfl : v1 = v2 := Option.some.inj h1
    obtain rfl : u1 = u2 := Option.some.inj h2
    obtain ⟨s2, m2, r3⟩ := s.newT hT (vs := [v1, u1]) (ds := [Datum.toD x, Datum.toD y]) (.cons (rx.mono m) (.cons (ry.mono m) .nil))
    exact ⟨_, s2, m2, r3, fun b o e => by rw [upd_ne (ne_of_none e hT)]; exact e⟩)
theorem LCV.keep (i : Nat) {P : FP} (h : S[i]? = some (some (fz P))) (he : LCV X (S.set i none) e O S') (hi : i < S'.length := by decide) : LCV X S e O (S'.set i (some (fz P))) := by
  obtain ⟨te, h1, h2, h3⟩ := he
  refine ⟨te, h1, h2, fun Γ σ F H Q s q => ?_⟩
  obtain ⟨v, fp, e1, p1, _⟩ := s.slot h
  refine h3 Γ σ F H Q (s.drop i) fun w fp' F' H' s' m pw => q w fp' F' H' ?_ m pw
  have := s'.same_of.put (O := fz P) (v := v) ⟨rfl, P.mono m p1.2⟩ i
  rw [set_back e1] at this
  exact this
/-- a slot set aside while something is evaluated that has the same name within -/
theorem ev_keep (i : Nat) {P : FP} (h : S[i]? = some (some (fz P))) (he : EV X (S.set i none) e O S') (hi : i < S'.length := by decide) : EV X S e O (S'.set i (some (fz P))) := fun Γ σ F H Q s q => by
  obtain ⟨v, fp, e1, p1, _⟩ := s.slot h
  refine he Γ σ F H Q (s.drop i) fun w fp' F' H' s' m pw => q w fp' F' H' ?_ m pw
  have := s'.same_of.put (O := fz P) (v := v) ⟨rfl, P.mono m p1.2⟩ i
  rw [set_back e1] at this
  exact this
end
end Ev

namespace Ev
open PySem L2
open PySem.W (Datum Tup T3 T4 Holds HoldAll DatumOrd EachIs)
variable [Tb]
section
variable {X : Cx} {S S' S1 S2 S3 : Sl} {e a b c o : Expr} {es rest : List Expr} {O : OP} {d d1 d2 d3 : PyData} {pos p apos : Pos} {k : Bool}
variable {α β γ : Type} [DecidableEq α] [Datum α] [DecidableEq β] [Datum β] [DecidableEq γ] [Datum γ]
theorem ev_lenP {x : α × β} (hm : X.mg "len" = none) (ha : EV X S e (da x) S1) (hg : Gl X "len" := by rfl) (he : starEach [e] X.env = (false, eval e X.env) :: starEach [] X.env := by rfl) : EV X S (.Call (.Name "len" p) [e] [] pos) (da (2 : Int)) S1 :=
  ev_lenD hm ha hg he
theorem ev_appendA (j : Nat) {xs xs0 : List α} {x : α} (hp : PE X o (tVar j)) (hj0 : S[j]? = some (some (la xs0))) (ha : EV X S e (da x) S1) (hj : S1[j]? = some (some (la xs))) (hz : xs.length < sizeLine)
    (hbase : attributeBase o "append" X.env (eval o X.env) = eval o X.env := by rfl)
    (hfew : ((backTo pos (starEach [e] X.env)).all (fun x => !x.1) && (backToKw pos (keywordEach [] X.env)).all (fun x => x.1.isSome)
      && decide ([e].length + ([] : List Keyword).length + (if ([] : List Keyword).isEmpty then 0 else 1) < 30)) = true := by rfl)
    (hline : (apos.endLine == pos.line) = true := by rfl) (hs : starEach [e] X.env = (false, eval e X.env) :: starEach [] X.env := by rfl) (hplain : (backTo pos (starEach [] X.env)).any (·.1) = false := by rfl) :
    EV X S (.Call (.Attribute o "append" apos) [e] [] pos) (da ()) (S1.set j (some (la (xs ++ [x])))) := by
  have := ev_append j hp hj0 ha hj (by rw [List.length_map]; exact hz) hbase hfew hline hs hplain
  rw [show (la (xs ++ [x]) : OP) = ll (xs.map Datum.toD ++ [Datum.toD x]) by unfold la; rw [List.map_append]; rfl]
  exact this
theorem ev_extendA (j : Nat) {xs xs0 ys : List α} (hp : PE X o (tVar j)) (hj0 : S[j]? = some (some (la xs0))) (ha : EV X S e (da ys) S1) (hj : S1[j]? = some (some (la xs))) (hz : xs.length + ys.length ≤ sizeLine)
    (hbase : attributeBase o "extend" X.env (eval o X.env) = eval o X.env := by rfl)
    (hfew : ((backTo pos (starEach [e] X.env)).all (fun x => !x.1) && (backToKw pos (keywordEach [] X.env)).all (fun x => x.1.isSome)
      && decide ([e].length + ([] : List Keyword).length + (if ([] : List Keyword).isEmpty then 0 else 1) < 30)) = true := by rfl)
    (hline : (apos.endLine == pos.line) = true := by rfl) (hs : starEach [e] X.env = (false, eval e X.env) :: starEach [] X.env := by rfl) (hplain : (backTo pos (starEach [] X.env)).any (·.1) = false := by rfl) :
    EV X S (.Call (.Attribute o "extend" apos) [e] [] pos) (da ()) (S1.set j (some (la (xs ++ ys)))) := by
  have := ev_extend j hp hj0 ha hj (by rw [List.length_map, List.length_map]; exact hz) hbase hfew hline hs hplain
  rw [show (la (xs ++ ys) : OP) = ll (xs.map Datum.toD ++ ys.map Datum.toD) by unfold la; rw [List.map_append]]
  exact this
end
/-! ## cells of a land -/
theorem rng_mem {lo : Int} {n : Nat} {x : Int} : x ∈ rng lo n ↔ lo ≤ x ∧ x < lo + n := by
  unfold rng
  rw [List.mem_map]
  constructor
  · rintro ⟨i, hi, rfl⟩
    have := List.mem_range.mp hi
    omega
  · intro h
    exact ⟨(x - lo).toNat, List.mem_range.mpr (by omega), by omega⟩
def cellsOf (L : Land) : List Cell := (rng 0 (nR L)).flatMap fun d => (rng 0 (nC L)).map fun a => (d, a)
theorem mem_cellsOf {L : Land} {c : Cell} : c ∈ cellsOf L ↔ IsCell L c := by
  unfold cellsOf IsCell
  rw [List.mem_flatMap]
  constructor
  · rintro ⟨d, hd, h⟩
    obtain ⟨a, ha, rfl⟩ := List.mem_map.mp h
    rw [rng_mem] at hd ha
    dsimp only; omega
  · intro h
    exact ⟨c.1, rng_mem.mpr (by omega), List.mem_map.mpr ⟨c.2, rng_mem.mpr (by omega), rfl⟩⟩
theorem foldl_app {α β : Type} (f : α → List β) : ∀ (xs : List α) (acc : List β), xs.foldl (fun t x => t ++ f x) acc = acc ++ xs.flatMap f
  | [], acc => by simp
  | x :: xs, acc => by rw [List.foldl_cons, foldl_app f xs, List.flatMap_cons, List.append_assoc]
theorem flatMap_len {α β : Type} (f : α → List β) (m : Nat) (h : ∀ x, (f x).length = m) : ∀ xs : List α, (xs.flatMap f).length = xs.length * m
  | [] => by simp
  | x :: xs => by rw [List.flatMap_cons, List.length_append, h, flatMap_len f m h xs, List.length_cons, Nat.succ_mul]; omega
theorem cells_length (L : Land) : (cellsOf L).length = nR L * nC L := by
  unfold cellsOf
  rw [flatMap_len _ (nC L) (fun x => by rw [List.length_map, rng_length]), rng_length]
theorem cells64 {L : Land} (ok : LandOk L) : (cellsOf L).length ≤ 64 := by
  rw [cells_length]
  exact Nat.mul_le_mul ok.r8 ok.c8
theorem size64 {n : Nat} (h : n ≤ 64) : n < sizeLine := small1000 (by omega)
theorem size64' {n : Nat} (h : n ≤ 64) : n ≤ sizeLine := Nat.le_of_lt (size64 h)
theorem row_small {L : Land} (ok : LandOk L) {r : Tup Int} (h : r ∈ (rowsT L).items) : r.items.length ≤ 1000 := by
  obtain ⟨x, hx, rfl⟩ := List.mem_map.mp h
  have := ok.rect x hx
  have := ok.c8
  dsimp only; omega
theorem rows_len (L : Land) : (rowsT L).items.length = nR L := by unfold rowsT nR; rw [List.length_map]
theorem rows_small {L : Land} (ok : LandOk L) : (rowsT L).items.length ≤ sizeLine := by rw [rows_len]; exact size64' (by have := ok.r8; omega)
def m_whole (x lo hi : Int) : Bool := (decide (lo ≤ x) && decide (x ≤ hi))
theorem rg8 {n : Nat} (h : n ≤ 64) : RgOk1 (n : Int) := ⟨by omega, by omega⟩
theorem rg_rows {L : Land} (ok : LandOk L) : RgOk1 (nR L : Int) := rg8 (by have := ok.r8; omega)
theorem rg_row {L : Land} (ok : LandOk L) : RgOk1 (((Tup.mk (rowAt L 0)).items.length : Nat) : Int) := rg8 (by have := row0_len ok; have := ok.c8; dsimp only; omega)
theorem row_size {L : Land} (ok : LandOk L) : (rng 0 (((Tup.mk (rowAt L 0)).items.length : Nat) : Int).toNat).length ≤ sizeLine := by
  rw [rng_length]; exact size64' (by have := row0_len ok; have := ok.c8; dsimp only; omega)
theorem rowPairs {L : Land} (ok : LandOk L) (d : Int) : (rng 0 (((Tup.mk (rowAt L 0)).items.length : Nat) : Int).toNat).map (fun a => (d, a)) = (rng 0 (nC L)).map fun a => (d, a) := by
  have : (((Tup.mk (rowAt L 0)).items.length : Nat) : Int).toNat = nC L := by have := row0_len ok; dsimp only; omega
  rw [this]
theorem cells_fold {L : Land} (ok : LandOk L) : (rng 0 ((nR L : Nat) : Int).toNat).foldl (fun (t : List Cell) d => t ++ (rng 0 (((Tup.mk (rowAt L 0)).items.length : Nat) : Int).toNat).map (fun a => (d, a))) [] = cellsOf L := by
  rw [foldl_app]
  unfold cellsOf
  have := row0_len ok
  simp only [List.nil_append, Int.toNat_natCast, this]
theorem cells_size {L : Land} (ok : LandOk L) {pre post : List Int} {x : Int} {t : List Cell} (hx : rng 0 ((nR L : Nat) : Int).toNat = pre ++ x :: post)
    (ht : t = pre.foldl (fun (t : List Cell) d => t ++ (rng 0 (((Tup.mk (rowAt L 0)).items.length : Nat) : Int).toNat).map (fun a => (d, a))) []) (ys : List Cell) (hy : ys.length = ((Tup.mk (rowAt L 0)).items.length)) : t.length + ys.length ≤ sizeLine := by
  rw [ht, foldl_app, List.nil_append, flatMap_len _ (Tup.mk (rowAt L 0)).items.length (fun x => by rw [List.length_map, rng_length, Int.toNat_natCast]), hy]
  have h1 := congrArg List.length hx
  rw [rng_length, List.length_append, List.length_cons, Int.toNat_natCast] at h1
  have h2 := row0_len ok
  have h3 : pre.length ≤ 8 := by have := ok.r8; omega
  have h4 : (Tup.mk (rowAt L 0)).items.length ≤ 8 := by have := ok.c8; dsimp only; omega
  have := Nat.mul_le_mul h3 h4
  exact Nat.le_of_lt (small1000 (by omega))
theorem atI_col {L : Land} (ok : LandOk L) {c : Cell} (h : IsCell L c) : 0 ≤ c.2 ∧ c.2 < (((Tup.mk (rowAt L c.1)).items.length : Nat) : Int) := by
  have := row_len ok h.1.1 h.1.2
  have := h.2
  dsimp only; omega
theorem app_size {α β : Type} {xs pre post : List α} {x : α} {t t0 : List β} {step : List β → α → List β} (hx : xs = pre ++ x :: post) (h64 : xs.length ≤ 64) (ht : t = pre.foldl step t0) (hs : ∀ t x, (step t x).length ≤ t.length + 1) (h0 : t0.length ≤ 100) : t.length < sizeLine := by
  have key : ∀ (ys : List α) (t : List β), (ys.foldl step t).length ≤ t.length + ys.length := fun ys => by
    induction ys with
    | nil => intro t; simp
    | cons y ys ih => intro t; have := ih (step t y); have := hs t y; rw [List.foldl_cons, List.length_cons]; omega
  have h1 := congrArg List.length hx
  rw [List.length_append, List.length_cons] at h1
  have := key pre t0
  rw [ht]
  exact small1000 (by omega)
def lineB (r : Tup Int) (n : Int) : Bool := decide ((r.items.length : Int) = n) && (r.items.map fun x => m_whole x 0 999).all id
theorem land_lines {L : Land} (ok : LandOk L) : ((rowsT L).items.map fun r => lineB r (((Tup.mk (rowAt L 0)).items.length : Nat) : Int)).all id = true := by
  rw [List.all_eq_true]
  intro b hb
  obtain ⟨r, hr, rfl⟩ := List.mem_map.mp hb
  obtain ⟨x, hx, rfl⟩ := List.mem_map.mp hr
  have h1 := ok.rect x hx
  have h2 := row0_len ok
  show lineB (Tup.mk x) _ = true
  unfold lineB
  rw [Bool.and_eq_true]
  refine ⟨decide_eq_true (by dsimp only; omega), ?_⟩
  rw [List.all_eq_true]
  intro b hb
  obtain ⟨y, hy, rfl⟩ := List.mem_map.mp hb
  have := ok.hgt x hx y hy
  show m_whole y 0 999 = true
  unfold m_whole
  rw [Bool.and_eq_true]; exact ⟨decide_eq_true this.1, decide_eq_true this.2⟩
theorem is_cell_eq {L : Land} (ok : LandOk L) {c : Cell} : (m_whole c.1 0 ((nR L : Int) - 1) && m_whole c.2 0 ((((Tup.mk (rowAt L 0)).items.length : Nat) : Int) - 1)) = decide (IsCell L c) := by
  have h2 := row0_len ok
  have e : (((Tup.mk (rowAt L 0)).items.length : Nat) : Int) = (nC L : Int) := by rw [← h2]
  rw [e]
  unfold m_whole
  rw [Bool.eq_iff_iff, decide_eq_true_eq]
  unfold IsCell
  simp only [Bool.and_eq_true, decide_eq_true_eq]
  constructor
  · rintro ⟨⟨a, b⟩, c, d⟩; exact ⟨⟨a, by omega⟩, c, by omega⟩
  · rintro ⟨⟨a, b⟩, c, d⟩; exact ⟨⟨a, by omega⟩, c, by omega⟩
end Ev

namespace Ev
open PySem L2
open PySem.W (Datum Tup T3 T4 Holds HoldAll DatumOrd EachIs)
variable [Tb]
/-! ## what is drawn off the script -/
def cellAt (ns : List Int) (k : Int) : Int := if k < ns.length then ns.getD k.toNat 0 else if ns = [] then 0 else
  ns.getD (k % (ns.length : Int)).toNat 0 * 31 + k + ((rng 0 (minI (k / (ns.length : Int)) 60).toNat).foldl (fun t _ => t / 1000003) (ns.getD (k % (ns.length : Int)).toNat 0)) * 101
def mixed (ns : List Int) (k b : Int) : Int := ((((cellAt ns k * 1103515245 + 7919 * k + 12345) % 2147483647) ^ (5 : Int).toNat) % 2147483647 % 999983) % b
def draw (ns : List Int) (n : Nat) (b : Int) : Int := mixed ns ((n + 1 : Nat) : Int) b
theorem draw_range {ns : List Int} {n : Nat} {b : Int} (h : 0 < b) : 0 ≤ draw ns n b ∧ draw ns n b < b := ⟨Int.emod_nonneg _ (by omega), Int.emod_lt_of_pos _ h⟩
def pickD (ns : List Int) (n : Nat) (ds : List PyData) : PyData := ds.getD (draw ns n ds.length).toNat .none
def pick {α : Type} [Inhabited α] (ns : List Int) (n : Nat) (xs : List α) : α := xs.getD (draw ns n xs.length).toNat default
theorem pick_mem {α : Type} [Inhabited α] {ns : List Int} {n : Nat} {xs : List α} (h : xs ≠ []) : pick ns n xs ∈ xs := by
  have hl := List.length_pos_iff.mpr h
  have := draw_range (ns := ns) (n := n) (b := xs.length) (by omega)
  have hi : (draw ns n xs.length).toNat < xs.length := by omega
  unfold pick
  rw [List.getD_eq_getElem?_getD, List.getElem?_eq_getElem hi]
  exact List.getElem_mem hi
theorem pickD_map {α : Type} [DecidableEq α] [Datum α] [Inhabited α] {ns : List Int} {n : Nat} {xs : List α} (h : xs ≠ []) : pickD ns n (xs.map Datum.toD) = Datum.toD (pick ns n xs) := by
  have hl := List.length_pos_iff.mpr h
  have := draw_range (ns := ns) (n := n) (b := xs.length) (by omega)
  have hi : (draw ns n xs.length).toNat < xs.length := by omega
  unfold pickD pick
  rw [List.length_map, List.getD_eq_getElem?_getD, List.getD_eq_getElem?_getD, List.getElem?_map, List.getElem?_eq_getElem hi]; rfl
theorem pick_at (ns : List Int) (n : Nat) {ds : List PyData} (h : ds ≠ []) : atI ds (draw ns n ds.length) = some (pickD ns n ds) := by
  have hl := List.length_pos_iff.mpr h
  have := draw_range (ns := ns) (n := n) (b := ds.length) (by omega)
  exact atI_getD .none this.1 this.2
theorem rgMin {x : Int} (h : 0 ≤ x) : RgOk1 (minI x 60) := by unfold minI RgOk1; split <;> omega
theorem town_snoc (n : Nat) : town (n + 1) = town n ++ [.int 0] := by unfold town; rw [List.replicate_succ']
section
variable {X : Cx} {S S' S1 S2 S3 : Sl} {e a b c o : Expr} {es rest : List Expr} {O : OP} {d d1 d2 d3 : PyData} {pos p apos : Pos} {k : Bool}
theorem Sat.mutA {Γ : Cxt} {σ : St} {F H : Hp} {j : Nat} {l : Addr} {ds : List PyData} (s : Sat Γ S σ F H) (h : S[j]? = some (some (llA l ds))) :
    ∃ vs, σ[j]? = some (some (.ref l)) ∧ H l = some (.lst vs) ∧ RpAll F vs ds ∧ ∀ vs' ds', RpAll F vs' ds' → Sat Γ (S.set j (some (llA l ds'))) σ F (upd H l (.lst vs')) := by
  obtain ⟨v, fp, e, pp, _, s2⟩ := s.take h
  obtain ⟨rfl, rfl, vs, e3, r⟩ := pp
  refine ⟨vs, e, e3, r, fun vs' ds' r' => ?_⟩
  have := Sat.put (H := upd H l (.lst vs')) (fp := [l]) (O := llA l ds') (v := .ref l) (by rw [hide_upd']; exact s2) ⟨rfl, rfl, vs', upd_same, r'⟩ j
  rw [List.set_set, set_back e] at this
  exact this
theorem ev_appendT (j : Nat) {l : Addr} {n : Nat} (hp : PE X o (tVar j)) (hj : S[j]? = some (some (llA l (town n)))) (ha : EV X S e (da (0 : Int)) S) (hz : n < 1000000)
    (hbase : attributeBase o "append" X.env (eval o X.env) = eval o X.env := by rfl)
    (hfew : ((backTo pos (starEach [e] X.env)).all (fun x => !x.1) && (backToKw pos (keywordEach [] X.env)).all (fun x => x.1.isSome)
      && decide ([e].length + ([] : List Keyword).length + (if ([] : List Keyword).isEmpty then 0 else 1) < 30)) = true := by rfl)
    (hline : (apos.endLine == pos.line) = true := by rfl) (hs : starEach [e] X.env = (false, eval e X.env) :: starEach [] X.env := by rfl) (hplain : (backTo pos (starEach [] X.env)).any (·.1) = false := by rfl) :
    EV X S (.Call (.Attribute o "append" apos) [e] [] pos) (da ()) (S.set j (some (llA l (town (n + 1))))) := EV.of_d fun Γ σ F H Q s q =>
  PE.w (pe_bm PySem.F.plainAttrs_list PySem.F.slot_list_append PySem.F.type_list_append mt_append hp (pa_cons pe_w pa_nil hs) hbase hfew hline hs hplain) (by
    obtain ⟨vs0, f1, f2, _⟩ := s.mutA hj
    refine ⟨_, f1, .inl ⟨rfl, _, SqL.of f2⟩, ha.dat s fun v F1 H1 s1 m1 r1 => ?_⟩
    obtain ⟨vs, e1, e2, r2, k⟩ := s1.mutA hj
    refine ⟨l, vs, v, rfl, rfl, e2, ?_, q .non F1 _ (k _ _ (by rw [town_snoc]; exact r2.append (.cons r1 .nil))) m1 .non⟩
    rw [r2.length]
    unfold town
    rw [List.length_replicate]
    exact Nat.lt_trans hz (by decide))
theorem ev_lenTA (j : Nat) {l : Addr} {n : Nat} (hm : X.mg "len" = none) (hp : PE X e (tVar j)) (hj : S[j]? = some (some (llA l (town n)))) (hg : Gl X "len" := by rfl) (he : starEach [e] X.env = (false, eval e X.env) :: starEach [] X.env := by rfl) : EV X S (.Call (.Name "len" p) [e] [] pos) (da ((n : Nat) : Int)) S := EV.of_d fun Γ σ F H Q s q =>
  PE.w (pe_callB call_len hg hm PySem.boot_len (pa_cons hp pa_nil he) (by decide) (by decide) he rfl) (by
    obtain ⟨vs0, f1, f2, r, k⟩ := s.mutA hj
    exact ⟨_, f1, _, vs0.length, rfl, .inl ⟨vs0, SqL.of f2, rfl⟩, q _ F H s (Same.refl F) (by rw [r.length]; unfold town; rw [List.length_replicate]; exact .int _)⟩)
theorem ev_lenDL {ds : List PyData} (hm : X.mg "len" = none) (ha : EV X S e (dd (.list ds)) S1) (hg : Gl X "len" := by rfl) (he : starEach [e] X.env = (false, eval e X.env) :: starEach [] X.env := by rfl) : EV X S (.Call (.Name "len" p) [e] [] pos) (da (ds.length : Int)) S1 :=
  ev_len1 rfl hg hm (el_cons ha el_nil he) (fun F H v m r => by
    obtain ⟨l, vs, e, hl, r2⟩ := r.lst_of
    subst e
    exact ⟨vs.length, .inl ⟨vs, SqL.of (m _ _ hl), rfl⟩, by rw [r2.length]⟩) he
/-- llA is ll -/
theorem Sat.ofA {Γ : Cxt} {σ : St} {F H : Hp} {j : Nat} {l : Addr} {ds : List PyData} (s : Sat Γ S σ F H) (h : S[j]? = some (some (llA l ds))) : Sat Γ (S.set j (some (ll ds))) σ F H := by
  obtain ⟨v, fp, e, pp, _, s2⟩ := s.take h
  obtain ⟨rfl, rfl, vs, e3, r⟩ := pp
  have := Sat.put (fp := [l]) (O := ll ds) (v := .ref l) s2 ⟨l, _, rfl, rfl, e3, vs, rfl, r⟩ j
  rw [List.set_set, set_back e] at this
  exact this
theorem Sat.toA {Γ : Cxt} {σ : St} {F H : Hp} {j : Nat} {l : Addr} {ds : List PyData} (s : Sat Γ S σ F H) (h : S[j]? = some (some (ll ds))) (e0 : σ[j]? = some (some (.ref l))) : Sat Γ (S.set j (some (llA l ds))) σ F H := by
  obtain ⟨v, fp, e, pp, _, s2⟩ := s.take h
  obtain ⟨l', _, rfl, rfl, e3, vs, rfl, r⟩ := pp
  rw [e0] at e
  obtain rfl : l = l' := by injection e with e; injection e with e; injection e
  have := Sat.put (fp := [l]) (O := llA l ds) (v := .ref l) s2 ⟨rfl, rfl, vs, e3, r⟩ j
  rw [List.set_set, set_back e0] at this
  exact this
theorem set_get_back {S : Sl} {j : Nat} {x : Option OP} (h : S[j]? = some x) : S.set j x = S := List.ext_getElem? fun k => by
  by_cases q : j = k
  · subst q; rw [List.getElem?_set_self (List.getElem?_eq_some_iff.mp h).1]; exact h.symm
  · rw [List.getElem?_set_ne q]
/-- f(e, ..), the list of one's own at l (in slot j) is handed on as the k-th -/
theorem ev_callA {ar : List AR} {τ : Type} {ok : τ → Prop} {pre pre' : τ → Sl} {post : τ → OP} {lv n : Nat} {x : Str} (k j : Nat) {l : Addr} {ds ds' : List PyData} {P : Program} {w : World} {K : PySem.W.Frag} {mg : Str → Option Value} {base : Heap} (G : HF P w K mg base lv x (spF ok pre post pre')) (ha : EA X S (e :: es) ar S1)
    (t : τ) (hok : ok t) (hO : post t = O) (hj : S1[j]? = some (some (llA l ds))) (hX : X.prog = P ∧ X.w = w ∧ X.K = K ∧ X.mg = mg ∧ X.base = base := by exact ⟨rfl, rfl, rfl, rfl, rfl⟩) (hr : Room n X.A := by assumption) (hk : lv ≤ n := by decide) (hak : ar[k]? = some (AR.sl j) := by rfl)
    (hpre : pre t = (pres ar).set k (some (llA l ds)) := by rfl) (hpre' : (pre' t)[k]? = some (some (llA l ds')) := by rfl) (hg : Gl X x := by rfl) (hdb : (x == ("__debug__" : Str)) = false := by decide)
    (he : starEach (e :: es) X.env = (false, eval e X.env) :: starEach es X.env := by rfl) (hpl : (backTo pos (starEach es X.env)).any (·.1) = false := by rfl) : EV X S (.Call (.Name x p) (e :: es) [] pos) O (S1.set j (some (llA l ds'))) := by
  obtain ⟨rfl, rfl, rfl, rfl, rfl⟩ := hX
  obtain ⟨f, fd, ps, F0, hm, hk2, hb⟩ := G.ex
  refine fun Γ σ F H Q s q => PE.w (pe_call F0 (hr.mono hk) hg hm hk2 hb .nil pass0 pa_w hdb he hpl) (ha Γ σ F H _ s fun vs F1 H1 s1 m1 r1 => ?_)
  rw [List.append_nil]
  obtain ⟨v0, fpj, e1, pj, gj, sj⟩ := s1.take hj
  obtain ⟨rfl, rfl, ws, e4, rw0⟩ := pj
  obtain ⟨v0', ek, ek2⟩ := r1.sl hak
  rw [e1] at ek2
  obtain rfl : V.ref l = v0' := by injection ek2 with ek2; injection ek2
  have ga := gj l (by simp)
  have hkl : k < vs.length := (List.getElem?_eq_some_iff.mp ek).1
  refine ⟨t, hok, F1, fun a => a = l, ?_, fun v fp F' H' s' pp => ?_⟩
  · rw [hpre]
    refine ⟨by rw [List.length_map, List.length_set, r1.length]; simp [pres], s1.fh, Same.refl F1, fun a o e _ => .of e, s1.tb, fun a ha => .inl ha, s1.tup, sel k [l] fun _ => [], fun i O e => ?_, fun i a ha => ?_, fun i i' a hne ha => ?_, fun i hi => ?_⟩
    · by_cases z : i = k
      · subst z
        rw [List.getElem?_set_self (by rw [r1.length] at hkl; simpa [pres] using hkl)] at e
        cases e
        refine ⟨.ref l, by rw [List.getElem?_map, ek]; rfl, ?_⟩
        rw [sel_eq]; exact ⟨rfl, rfl, ws, e4, rw0⟩
      · rw [List.getElem?_set_ne (Ne.symm z)] at e
        obtain ⟨P, e1, e2⟩ := pres_at e
        obtain ⟨v, e3, e4⟩ := r1.at e1
        subst e2
        exact ⟨v, by rw [List.getElem?_map, e3]; rfl, by rw [sel_ne z]; exact ⟨rfl, e4⟩⟩
    · by_cases z : i = k
      · rw [z, sel_eq] at ha
        obtain rfl : a = l := by simpa using ha
        exact ⟨ga.1, ga.2.1, .inr rfl⟩
      · rw [sel_ne z] at ha; cases ha
    · by_cases z : i = k
      · rw [sel_ne (fun y => hne (z.trans y.symm))]; exact List.not_mem_nil
      · rw [sel_ne z] at ha; cases ha
    · by_cases z : i = k
      · subst z
        refine absurd ?_ (hi (llA l ds))
        rw [List.getElem?_set_self (by rw [r1.length] at hkl; simpa [pres] using hkl)]
      · rw [sel_ne z]
  · have m2 : Same F1 F' := s'.f0
    have hh : ∀ a o, a ≠ l → H1 a = some o → HK (hide H' fp) a o := fun a o z e => s'.h0 a o e z
    obtain ⟨v2, fp2, c1, ⟨c2, c3, us, c4, c5⟩, c6⟩ := s'.slot (hpre')
    subst c3
    have c7 := c6 l (by simp)
    refine q v fp F' H' ?_ (m1.trans m2) (by rw [← hO]; exact pp)
    obtain ⟨f', h1, h2, h3, h4⟩ := s1.ex
    obtain ⟨vj, ej, pj⟩ := h1 j _ hj
    obtain ⟨_, fj, _⟩ := pj
    have hjl : j < S1.length := (List.getElem?_eq_some_iff.mp hj).1
    have nb : ∀ i a, ¬ i = j → a ∈ f' i → a ≠ l := fun i a z ha e => h3 i j a z ha (by rw [fj, e]; simp)
    refine ⟨by rw [List.length_set]; exact s1.len, s'.fh, s1.f0.trans m2, fun a o e n => ?_, s'.tb, fun a ha => ?_, s'.tup, f', fun i O e => ?_, fun i a ha => ?_, h3, fun i hi => ?_⟩
    · intro nn
      refine hh a o (fun z => ?_) (s1.h0 a o e n nn) nn
      subst z
      rcases ga.2.2 with y | y
      · exact fr_no y e nn
      · exact n y
    · rcases s'.new a ha with y | y | y
      · exact s1.new a y
      · by_cases z : Γ.A0 a
        · exact .inr (.inr z)
        · exact .inr (.inl (fr_tr (fun o e n => s1.h0 a o e z n) y))
      · have y' : a = l := y
        subst y'
        exact .inr ga.2.2
    · by_cases z : i = j
      · subst z
        rw [List.getElem?_set_self hjl] at e
        cases e
        exact ⟨.ref l, e1, rfl, fj, us, c4, c5⟩
      · rw [List.getElem?_set_ne (Ne.symm z)] at e
        obtain ⟨v', e1, q'⟩ := h1 i O e
        refine ⟨v', e1, O.mono m2 (O.loc (fun a ha => ?_) q')⟩
        obtain ⟨o, e3, n3⟩ := O.own q' a ha
        rw [e3]; exact (hh a o (nb i a z ha) e3).eq n3.2.1
    · by_cases z : i = j
      · subst z
        rw [fj] at ha
        obtain rfl : a = l := by simpa using ha
        exact ⟨c7.1, c7.2.1, ga.2.2⟩
      · obtain ⟨q1, q2, q3⟩ := h2 i a ha
        refine ⟨?_, ?_, q3⟩
        · cases e2 : F' a with
          | none => rfl
          | some o =>
            rcases s'.new a (by rw [e2]; exact fun z => by cases z) with y | y | y
            · exact absurd q1 y
            · exact (let ⟨o2, e5, n5⟩ := ex_nt h1 h4 ha; (fr_no y e5 n5.2.1).elim)
            · exact absurd y (nb i a z ha)
        · obtain ⟨o2, e5, n5⟩ := ex_nt h1 h4 ha
          rw [hh a o2 (nb i a z ha) e5 n5.2.1]; exact fun z => by cases z
    · by_cases z : i = j
      · subst z
        exact absurd (List.getElem?_set_self hjl) (hi _)
      · refine h4 i fun O e => hi O ?_
        rw [List.getElem?_set_ne (Ne.symm z)]; exact e
end
theorem pinA {n k : Nat} {a : Addr} {ds ds' : List PyData} {S : Sl} (hS : S[k]? = some (some (llA a ds))) {i : Nat} {O : OP} (h : ((List.replicate n (none : Option OP)).set k (some (llA a ds')))[i]? = some (some O)) : ∃ a O0, S[i]? = some (some O0) ∧ Pin O a ∧ Pin O0 a := by
  by_cases q : k = i
  · subst q
    rw [List.getElem?_set] at h
    split at h
    · split at h
      · cases h; exact ⟨a, _, hS, pin_llA, pin_llA⟩
      · cases h
    · rename_i z; exact absurd rfl z
  · rw [List.getElem?_set_ne q, List.getElem?_replicate] at h
    split at h <;> cases h
theorem bkA {n k : Nat} {O : OP} {S' : Sl} (hS : S'[k]? = some (some O)) : Bk S' ((List.replicate n (none : Option OP)).set k (some O)) := fun i O' h => by
  by_cases q : k = i
  · subst q
    rw [List.getElem?_set] at h
    split at h
    · split at h
      · cases h; exact hS
      · cases h
    · rename_i z; exact absurd rfl z
  · rw [List.getElem?_set_ne q, List.getElem?_replicate] at h
    split at h <;> cases h

/-! scopes of comprehensions, in order -/
def exLC : Nat → Expr → List Scope
  | 0, _ => []
  | n + 1, e => match e with
    | .ListComp elt gs sc _ => sc :: (exLC n elt ++ gs.flatMap fun g => exLC n g.iter ++ g.ifs.flatMap (exLC n))
    | .Call f as _ _ => exLC n f ++ as.flatMap (exLC n)
    | .BoolOp _ vs _ => vs.flatMap (exLC n)
    | .BinOp l _ r _ => exLC n l ++ exLC n r
    | .UnaryOp _ o _ => exLC n o
    | .IfExp t b o _ => exLC n t ++ exLC n b ++ exLC n o
    | .Compare l _ rs _ => exLC n l ++ rs.flatMap (exLC n)
    | .Subscript v s _ => exLC n v ++ exLC n s
    | .Attribute v _ _ => exLC n v
    | .List es _ => es.flatMap (exLC n)
    | .Tuple es _ _ => es.flatMap (exLC n)
    | _ => []
def stLC : Nat → Stmt → List Scope
  | 0, _ => []
  | n + 1, s => match s with
    | .Return (some e) _ => exLC n e
    | .Assign _ e _ => exLC n e
    | .Expr e _ => exLC n e
    | .If c b o _ => exLC n c ++ b.flatMap (stLC n) ++ o.flatMap (stLC n)
    | .While c b o _ => exLC n c ++ b.flatMap (stLC n) ++ o.flatMap (stLC n)
    | .For _ i b o _ => exLC n i ++ b.flatMap (stLC n) ++ o.flatMap (stLC n)
    | _ => []
def lcAt (st : Stmt) (k : Nat) : Scope := ((defBody st).flatMap (stLC 30)).getD k (defScope st)
/-- a scope within another's block -/
def inS (scope out : Scope) : Scope := { scope with names := scope.names.map fun (n, k) => if (k == .free && out.kind == .function && out.names.lookup n == some .cell) then (n, .cell) else (n, k) }
section
variable {X : Cx} {S S' S1 S2 S3 : Sl} {pos : Pos} {β : Type} [DecidableEq β] [Datum β]
/-- as ev_lcS, over a range -/
theorem ev_lcR {elt tg iter : Expr} {scope : Scope} (own : List (Str × Nat)) {lo : Int} {m : Nat} {ix : List Nat} (f : Nat → β) (Sf : Nat → Sl) (G : Nat → Int → Sl) (hc : X.calm = true) (hN : X.N.Nodup) (hi : EI X S tg iter ((rng lo m).map Datum.toD) S1) (hS : S1 = Sf 0) (ok : BlkOk X.N X.env.scope scope own) (hz : m ≤ sizeLine)
    (hn : ∀ j, ∀ i ∈ own.map (·.2), ∀ O, (Sf j)[i]? ≠ some (some O)) (hx : ∀ i ∈ ix, i ∈ own.map (·.2))
    (hg : ∀ j (x : Int), Blk X scope fun X' => EG X' (Sf j) tg (Datum.toD x) ix (G j x))
    (he : ∀ j (x : Int), j < m → Blk X scope fun X' => ∃ T, EV X' (G j x) elt (da (f j)) T ∧ Wk T (Sf (j + 1)))
    (hs : ∀ x, foldedSetIterable iter X.env x = pure x := by intro _; rfl) : LCV X S (.ListComp elt [⟨tg, iter, [], 0⟩] scope pos) (la ((List.range m).map f)) (Sf m) := by
  have hl : (rng lo m).length = m := rng_length lo m
  have := ev_lcS (elt := elt) (pos := pos) own f Sf G hc hN hi hS ok (by rw [hl]; exact hz) hn hx hg (fun j x h _ => he j x (hl ▸ h)) hs
  rw [hl] at this
  exact this
end
/-! ## lands drawn -/
def tallOf (ns : List Int) (n : Nat) (b : Int) : Int := 1 + draw ns n b
def wideOf (ns : List Int) (n : Nat) (b : Int) : Int := 1 + draw ns (n + 1) b
def highs : List Int := [2, 3, 4, 6, 10, 1000]
def highOf (ns : List Int) (n : Nat) : Int := pick ns (n + 2) highs
def lineOf (ns : List Int) (n : Nat) (w : Nat) (h : Int) : List Int := (List.range w).map fun j => draw ns (n + j) h
def landOf (ns : List Int) (n : Nat) (b : Int) : Land := ⟨(List.range (tallOf ns n b).toNat).map fun i => lineOf ns (n + 3 + i * (wideOf ns n b).toNat) (wideOf ns n b).toNat (highOf ns n)⟩
def landN (ns : List Int) (n : Nat) (b : Int) : Nat := n + 3 + (tallOf ns n b).toNat * (wideOf ns n b).toNat
theorem highs_mem {h : Int} (m : h ∈ highs) : 0 < h ∧ h ≤ 1000 := by
  simp [highs] at m; omega
theorem high_range (ns : List Int) (n : Nat) : 0 < highOf ns n ∧ highOf ns n ≤ 1000 := highs_mem (pick_mem (by simp [highs]))
theorem tall_range {ns : List Int} {n : Nat} {b : Int} (h : 0 < b) : 1 ≤ tallOf ns n b ∧ tallOf ns n b ≤ b := by
  have := draw_range (ns := ns) (n := n) h
  unfold tallOf; omega
theorem wide_range {ns : List Int} {n : Nat} {b : Int} (h : 0 < b) : 1 ≤ wideOf ns n b ∧ wideOf ns n b ≤ b := by
  have := draw_range (ns := ns) (n := n + 1) h
  unfold wideOf; omega
theorem land_nR (ns : List Int) (n : Nat) (b : Int) : nR (landOf ns n b) = (tallOf ns n b).toNat := by unfold nR landOf; simp
theorem land_nC {ns : List Int} {n : Nat} {b : Int} (h : 0 < b) : nC (landOf ns n b) = (wideOf ns n b).toNat := by
  have := tall_range (ns := ns) (n := n) h
  unfold nC landOf
  obtain ⟨k, hk⟩ : ∃ k, (tallOf ns n b).toNat = k + 1 := ⟨(tallOf ns n b).toNat - 1, by omega⟩
  rw [hk, List.range_succ_eq_map]
  simp [lineOf]
theorem landOf_ok {ns : List Int} {n : Nat} {b : Int} (h : 0 < b) (h8 : b ≤ 8) : LandOk (landOf ns n b) := by
  have t := tall_range (ns := ns) (n := n) h
  have w := wide_range (ns := ns) (n := n) h
  refine ⟨by rw [land_nR]; omega, by rw [land_nR]; omega, by rw [land_nC h]; omega, by rw [land_nC h]; omega, fun r hr => ?_, fun r hr x hx => ?_⟩
  · rw [land_nC h]
    obtain ⟨i, _, rfl⟩ := List.mem_map.mp hr
    simp [lineOf]
  · obtain ⟨i, _, rfl⟩ := List.mem_map.mp hr
    obtain ⟨j, _, rfl⟩ := List.mem_map.mp hx
    have hh := high_range ns n
    have := draw_range (ns := ns) (n := n + 3 + i * (wideOf ns n b).toNat + j) hh.1
    omega
theorem landOf_bound {ns : List Int} {n : Nat} {b : Int} (h : 0 < b) : (nR (landOf ns n b) : Int) ≤ b ∧ (nC (landOf ns n b) : Int) ≤ b := by
  have t := tall_range (ns := ns) (n := n) h
  have w := wide_range (ns := ns) (n := n) h
  rw [land_nR, land_nC h]; omega
theorem landN_le {ns : List Int} {n : Nat} {b : Int} (h : 0 < b) (h8 : b ≤ 8) : landN ns n b ≤ n + 67 := by
  have t := tall_range (ns := ns) (n := n) h
  have w := wide_range (ns := ns) (n := n) h
  have : (tallOf ns n b).toNat * (wideOf ns n b).toNat ≤ 8 * 8 := Nat.mul_le_mul (by omega) (by omega)
  unfold landN; omega
theorem highs_at (ns : List Int) (n : Nat) : pickD ns n [Datum.toD (2 : Int), Datum.toD (3 : Int), Datum.toD (4 : Int), Datum.toD (6 : Int), Datum.toD (10 : Int), Datum.toD (1000 : Int)] = Datum.toD (pick ns n highs) := pickD_map (xs := highs) (by simp [highs])
end Ev

namespace Ev
open PySem L2
open PySem.W (Datum Tup T3 T4 Holds HoldAll DatumOrd EachIs)
variable [Tb]
section
variable {X : Cx} {S S' S1 S2 S3 : Sl} {e a b c : Expr} {es rest : List Expr} {O : OP} {d d1 d2 d3 : PyData} {pos p : Pos} {D : En} {st : Stmt} {sts body els : List Stmt} {k : Bool}
/-- over typed items, a state of which an invariant is kept -/
theorem sv_forI {tg iter : Expr} {α τ : Type} [DecidableEq α] [Datum α] {xs : List α} {ix : List Nat} (hc : X.calm = true) (hp : PassesOwn (model X.prog X.w) X.A X.env X.xe) (hi : EI X S tg iter (xs.map Datum.toD) S1) (Sf : τ → Sl) (G : τ → α → Sl) (I : Nat → τ → Prop) (t0 : τ) (h0 : I 0 t0) (hS : Wk S1 (Sf t0))
    (hg : ∀ t x, EG X (Sf t) tg (Datum.toD x) ix (G t x))
    (hb : ∀ i x t, xs[i]? = some x → I i t → BV X (G t x) body { nx := fun S' => ∃ t', I (i + 1) t' ∧ Wk S' (Sf t'), ct := fun S' => ∃ t', I (i + 1) t' ∧ Wk S' (Sf t'), bk := D.nx, rt := D.rt })
    (hd : ∀ t, I xs.length t → D.nx (Sf t)) (hs : ∀ x, foldedSetIterable iter X.env x = pure x := by intro _; rfl) : SV X S (.For tg iter body [] pos) D := fun Γ σ F H E s q =>
  PS.w (ps_for hp hc pi_w pg_w pb_w hs) (hi Γ σ F H _ s fun J F1 H1 s1 m1 jk => by
    refine ⟨fun i m σ H => m = xs.length - i ∧ i ≤ xs.length ∧ ∃ t, I i t ∧ ∃ F, Sat Γ (Sf t) σ F H ∧ Same F1 F, ⟨xs.length, by simp, Nat.zero_le _, t0, h0, F1, s1.wk hS, Same.refl F1⟩, ?_⟩
    rintro i m σ2 H2 ⟨rfl, hi, t, hI, F2, s2, m2⟩
    by_cases hlt : i < xs.length
    · obtain ⟨g1, g2⟩ := (jk i Γ _ σ2 F2 H2 s2 m2).1 (Datum.toD xs[i]) (by rw [List.getElem?_map, List.getElem?_eq_getElem hlt]; rfl)
      refine .inr ⟨g1, fun σ' H' => ∃ t, I (i + 1) t ∧ ∃ F, Sat Γ (Sf t) σ' F H' ∧ Same F1 F, fun σ' H' h1 => ⟨xs.length - (i + 1), by omega, rfl, hlt, h1⟩, fun x H3 hy => ?_⟩
      obtain ⟨F3, s3, m3, r3, _⟩ := g2 x H3 hy
      refine hg t xs[i] Γ σ2 F3 H3 x _ s3 r3 fun σ' s' o => ?_
      -- the frozen part of the loop's start stands: tell the body by its own Γ
      have key := hb i _ t (List.getElem?_eq_getElem hlt) hI
      obtain ⟨f, q1, q2, q3, q4⟩ := s'.ex
      let Γ' : Cxt := ⟨F3, H3, fun a => ∃ i, a ∈ f i⟩
      have sΓ : Sat Γ' (G t xs[i]) σ' F3 H3 := ⟨s'.len, s'.fh, Same.refl F3, fun a o e _ => .of e, s'.tb, fun a ha => .inl ha, s'.tup, f, q1, fun i a ha => ⟨(q2 i a ha).1, (q2 i a ha).2.1, .inr ⟨i, ha⟩⟩, q3, q4⟩
      have conv : ∀ (T : Sl) (τ : St) (F4 H4 : Hp) (fp : List Addr), Sat Γ' T τ F4 (hide H4 fp) → Sat Γ T τ F4 (hide H4 fp) ∧ Same F3 F4 := fun T τ F4 H4 fp s4 => by
        refine ⟨⟨s4.len, s4.fh, s'.f0.trans s4.f0, fun a o e n => ?_, s4.tb, fun a ha => ?_, s4.tup, ?_⟩, s4.f0⟩
        · intro nn
          refine s4.h0 a o (s'.h0 a o e n nn) (fun ⟨i, hi⟩ => ?_) nn
          rcases (q2 i a hi).2.2 with y | y
          · exact fr_no y e nn
          · exact n y
        · rcases s4.new a ha with y | y | ⟨i, y⟩
          · exact s'.new a y
          · by_cases z : Γ.A0 a
            · exact .inr (.inr z)
            · exact .inr (.inl (fr_tr (fun o e n => s'.h0 a o e z n) y))
          · exact .inr (q2 i a y).2.2
        · obtain ⟨f', p1, p2, p3, p4⟩ := s4.ex
          refine ⟨f', p1, fun i a ha => ⟨(p2 i a ha).1, (p2 i a ha).2.1, ?_⟩, p3, p4⟩
          rcases (p2 i a ha).2.2 with y | ⟨j, y⟩
          · by_cases z : Γ.A0 a
            · exact .inr z
            · exact .inl (fr_tr (fun o e n => s'.h0 a o e z n) y)
          · exact (q2 j a y).2.2
      have conv0 : ∀ (T : Sl) (τ : St) (F4 H4 : Hp), Sat Γ' T τ F4 H4 → Sat Γ T τ F4 H4 ∧ Same F3 F4 := fun T τ F4 H4 s4 => by
        have := conv T τ F4 H4 [] s4.same_of
        rw [hide_nil] at this; exact this
      refine key Γ' σ' F3 H3 _ sΓ ⟨fun T τ F4 H4 ⟨t', h1, h2⟩ s4 => ?_, fun O T τ v fp F4 H4 h s4 p => ?_, fun T τ F4 H4 h s4 => ?_, fun T τ F4 H4 ⟨t', h1, h2⟩ s4 => ?_⟩
      · obtain ⟨c1, c2⟩ := conv0 T τ F4 H4 s4
        exact ⟨t', h1, F4, c1.wk h2, (m2.trans m3).trans c2⟩
      · exact q.rt O T τ v fp F4 H4 h (conv T τ F4 H4 fp s4).1 p
      · exact q.nx T τ F4 H4 h (conv0 T τ F4 H4 s4).1
      · obtain ⟨c1, c2⟩ := conv0 T τ F4 H4 s4
        exact ⟨t', h1, F4, c1.wk h2, (m2.trans m3).trans c2⟩
    · have e : i = xs.length := by omega
      subst e
      exact .inl ⟨(jk _ Γ _ σ2 F2 H2 s2 m2).2 (by rw [List.length_map]; exact Nat.le_refl _), q.nx _ σ2 F2 H2 (hd t hI) s2⟩)

theorem ev_frzA {α : Type} [DecidableEq α] [Datum α] {xs : List α} (h : EV X S e (la xs) S') : EV X S e (da xs) S' := ev_frz h
def inL {α : Type} [DecidableEq α] (x : α) (xs : List α) : Bool := decide (x ∈ xs)
@[simp] theorem inL_iff {α : Type} [DecidableEq α] {x : α} {xs : List α} : inL x xs = true ↔ x ∈ xs := by unfold inL; exact decide_eq_true_iff
@[simp] theorem inL_not {α : Type} [DecidableEq α] {x : α} {xs : List α} : inL x xs = false ↔ x ∉ xs := by unfold inL; exact decide_eq_false_iff_not
theorem ec_inA {α : Type} [DecidableEq α] [Datum α] {n : Nat} {x : α} {xs : List α} (hr : Room n X.A) (ha : EV X S a (da x) S1) (hb : EV X S1 b (da xs) S2) (hd : 1 + Datum.depth α ≤ 64 := by decide) : EC X S .In a b (inL x xs) S2 := ec_in hr ha hb hd
theorem ec_notinA {α : Type} [DecidableEq α] [Datum α] {n : Nat} {x : α} {xs : List α} (hr : Room n X.A) (ha : EV X S a (da x) S1) (hb : EV X S1 b (da xs) S2) (hd : 1 + Datum.depth α ≤ 64 := by decide) : EC X S .NotIn a b (!inL x xs) S2 := by
  have := ec_notin hr ha hb hd
  rw [show decide (x ∉ xs) = !inL x xs by unfold inL; rw [decide_not]] at this
  exact this
theorem bv_gen {α : Type} {f : α → Sl} (x0 : α) (h : ∀ x, x = x0 → BV X (f x) sts D) : BV X (f x0) sts D := h _ rfl
theorem ev_nrw {α : Type} [DecidableEq α] [Datum α] [PySem.W.SomeDatum α] {x : Option α} (d0 : α) (h : x.isNone = false) (ha : EV X S e (da x) S') : EV X S e (da (x.getD d0)) S' := by
  cases x with
  | none => cases h
  | some y => exact ha
theorem pos_len {α : Type} {xs : List α} (h : xs ≠ []) : (0 : Int) < (xs.length : Int) := by have := List.length_pos_iff.mpr h; omega
theorem map_ne {α β : Type} {f : α → β} {xs : List α} (h : xs ≠ []) : xs.map f ≠ [] := by simpa using h
theorem Wk.ofEq {S T : Sl} (h : S = T) : Wk S T := h ▸ Wk.refl S
end
/-- the law's own promise: it answers True -/
def sp_law (K : PySem.W.Frag) : Sp := spF (τ := List Int) (fun _ => True) (fun t => [some (scr K t)]) (fun _ => da true) (fun _ => [none])
theorem law_pre {K : PySem.W.Frag} {H : Hp} {a : Addr} {ns : List Int} (hE : ∀ p ∈ Tb.T, H p.1 = some (.tbl #[])) (hS : SqL K H a (ns.map V.int)) : sp_law K [.ref a] H (fun v _ => v = .bl true) fun _ _ _ => False := by
  have hT : LamX.Tabs Tb.T H := fun p hp => LamX.TabS.nil (hE p hp)
  let F : Hp := fun b => if b ∈ Tb.T.map (·.1) then none else H b
  have sF : Same F H := fun b o e => by
    by_cases q : b ∈ Tb.T.map (·.1)
    · have : F b = none := if_pos q
      rw [this] at e; cases e
    · have : F b = H b := if_neg q
      rw [← this]; exact e
  have up : ∀ b o, H b = some o → (∀ ps, o ≠ .tbl ps) → F b = some o := fun b o e n => by
    by_cases q : b ∈ Tb.T.map (·.1)
    · obtain ⟨p, hp, e2⟩ := List.mem_map.mp q
      obtain ⟨ps, h1, _⟩ := hT p hp
      rw [e2, e] at h1
      exact absurd (Option.some.inj h1) (n ps)
    · exact (if_neg q).trans e
  refine ⟨ns, trivial, F, fun _ => False, ⟨rfl, sF, Same.refl F, fun a o e _ => .of e, ⟨hT, fun p hp => if_pos (List.mem_map.mpr ⟨p, hp, rfl⟩), fun p hp ps e pos cv hc => by rw [hE p hp] at e; cases e; simp [codeAmong] at hc⟩, fun a ha => .inl ha, fun a xs e => up a _ e fun _ z => (by cases z), (fun _ => [] : Nat → List Addr), ?_, ?_, ?_, ?_⟩, fun v fp F' H' _ p => (p.2).bl_of⟩
  · intro i O e
    match i, e with
    | 0, e =>
      cases e
      refine ⟨.ref a, rfl, rfl, a, rfl, ?_⟩
      rcases hS with (h | ⟨o, h⟩) | h
      · exact .inl (.inl (up _ _ h fun _ z => (by cases z)))
      · exact .inl (.inr ⟨o, up _ _ h fun _ z => (by cases z)⟩)
      · exact .inr h
    | i + 1, e => simp at e
  · intro i a ha; exact absurd ha List.not_mem_nil
  · intro i j a _ ha; exact absurd ha List.not_mem_nil
  · intro i _; rfl
theorem law_walk (hT : Tb.T = []) {l : PySem.W.OpenLaw} {q : Program} {loose : List Str} {XP : (Str → Option Value) → Heap → Prop} {YP : World → Heap → Prop} {d : DefRec} {K : Params → PySem.W.Frag} {x : Str} {k : Nat} (hn : l.most = some 63) (hdf : d.params.defaults = []) (hr : Room k callerA)
    (hY : ∀ (w : World) (h : Heap), YP w h → (K w.params).In h)
    (F : ∀ (w : World) (mg : Str → Option Value) (fa : Addr) (h : Heap), (K w.params).In h → h.Ns mainGlobals mg → mg d.name = some (.ref fa) →
      ∃ fd : FuncData, (∀ (s : Shared) (u : Value), BindsTo s fd ⟨[u], []⟩ [(x, u)]) ∧ ∀ base : Heap, (K w.params).In base → base.Ns mainGlobals mg → FnOk l.prog w (K w.params) mg base CX0 k fa fd [x] (sp_law (K w.params))) :
    PySem.W.WalkO q loose XP YP l.row.toRowW d [] (fun f vs => PySem.call f vs) :=
  L2.walk_of (n := 63) (k := k) (x := x) (CX := fun _ => CX0) (sp := fun w => sp_law (K w.params)) hn (by decide) hdf hr hY F (fun _ _ a ns hl _ hS => law_pre (by rw [hT]; exact fun p hp => absurd hp List.not_mem_nil) hS) fun _ _ _ _ _ z => z
end Ev

namespace Ev
open PySem L2
open PySem.W (Datum Tup T3 T4 Holds HoldAll DatumOrd EachIs)
variable [Tb]
/-! ## least and greatest -/
structure Ord3 {α : Type} (lt : α → α → Bool) : Prop where
  asym : ∀ a b, lt a b = true → lt b a = false
  neg : ∀ a b c, lt a b = false → lt b c = false → lt a c = false
theorem Ord3.irr {α : Type} {lt : α → α → Bool} (o : Ord3 lt) (a : α) : lt a a = false := by
  cases h : lt a a with
  | false => rfl
  | true => rw [o.asym a a h] at h; cases h
theorem foldMin {α : Type} {lt : α → α → Bool} (o : Ord3 lt) : ∀ (xs : List α) (x : α), let m := xs.foldl (fun a y => if lt y a = true then y else a) x
    m ∈ x :: xs ∧ lt x m = false ∧ ∀ y ∈ xs, lt y m = false
  | [], x => ⟨by simp, o.irr x, fun y h => by cases h⟩
  | z :: xs, x => by
    obtain ⟨h1, h2, h3⟩ := foldMin o xs (if lt z x = true then z else x)
    rw [List.foldl_cons]
    refine ⟨?_, ?_, fun y hy => ?_⟩
    · rcases List.mem_cons.mp h1 with e | e
      · rw [e]; split <;> simp
      · exact List.mem_cons_of_mem _ (List.mem_cons_of_mem _ e)
    · by_cases q : lt z x = true
      · simp only [q, if_true] at h2 ⊢
        exact o.neg x z _ (o.asym z x q) h2
      · simp only [q] at h2 ⊢; exact h2
    · rcases List.mem_cons.mp hy with e | e
      · subst e
        by_cases q : lt y x = true
        · simp only [q, if_true] at h2 ⊢; exact h2
        · simp only [q] at h2 ⊢
          exact o.neg y x _ (by simpa using q) h2
      · exact h3 y e
theorem ord_int : Ord3 (DatumOrd.lt (α := Int)) := ⟨fun a b h => by
  have h : decide (a < b) = true := h
  show decide (b < a) = false
  simp at h ⊢; omega, fun a b c h1 h2 => by
  have h1 : decide (a < b) = false := h1
  have h2 : decide (b < c) = false := h2
  show decide (a < c) = false
  simp at h1 h2 ⊢; omega⟩
theorem Ord3.flip {α : Type} {lt : α → α → Bool} (o : Ord3 lt) : Ord3 (fun a b => lt b a) := ⟨fun a b h => o.asym b a h, fun a b c h1 h2 => o.neg c b a h2 h1⟩
section
variable {γ : Type} [DecidableEq γ] [DatumOrd γ] [Inhabited γ]
theorem minL_spec (o : Ord3 (DatumOrd.lt (α := γ))) {xs : List γ} (h : xs ≠ []) : minL xs ∈ xs ∧ ∀ y ∈ xs, DatumOrd.lt y (minL xs) = false := by
  cases xs with
  | nil => exact absurd rfl h
  | cons x xs =>
    obtain ⟨h1, h2, h3⟩ := foldMin o xs x
    refine ⟨h1, fun y hy => ?_⟩
    rcases List.mem_cons.mp hy with e | e
    · subst e; exact h2
    · exact h3 y e
theorem maxL_spec (o : Ord3 (DatumOrd.lt (α := γ))) {xs : List γ} (h : xs ≠ []) : maxL xs ∈ xs ∧ ∀ y ∈ xs, DatumOrd.lt (maxL xs) y = false := by
  cases xs with
  | nil => exact absurd rfl h
  | cons x xs =>
    obtain ⟨h1, h2, h3⟩ := foldMin o.flip xs x
    refine ⟨h1, fun y hy => ?_⟩
    rcases List.mem_cons.mp hy with e | e
    · subst e; exact h2
    · exact h3 y e
end
theorem maxI_spec {xs : List Int} (h : xs ≠ []) : maxL xs ∈ xs ∧ ∀ y ∈ xs, y ≤ maxL xs := by
  obtain ⟨h1, h2⟩ := maxL_spec ord_int h
  refine ⟨h1, fun y hy => ?_⟩
  have : decide (maxL xs < y) = false := h2 y hy
  simp at this; omega
theorem minI_spec {xs : List Int} (h : xs ≠ []) : minL xs ∈ xs ∧ ∀ y ∈ xs, minL xs ≤ y := by
  obtain ⟨h1, h2⟩ := minL_spec ord_int h
  refine ⟨h1, fun y hy => ?_⟩
  have : decide (y < minL xs) = false := h2 y hy
  simp at this; omega
/-! ## cells in their order -/
def CLt (a b : Cell) : Prop := a.1 < b.1 ∨ (a.1 = b.1 ∧ a.2 < b.2)
theorem CLt.ne {a b : Cell} (h : CLt a b) : a ≠ b := fun e => by subst e; unfold CLt at h; omega
theorem CLt.asym {a b : Cell} (h : CLt a b) : ¬ CLt b a := fun q => by unfold CLt at h q; omega
theorem rng_sorted (lo : Int) (n : Nat) : (rng lo n).Pairwise (· < ·) := by
  unfold rng
  rw [List.pairwise_map]
  exact List.pairwise_lt_range.imp fun h => by omega
theorem cells_sorted (L : Land) : (cellsOf L).Pairwise CLt := by
  unfold cellsOf
  rw [List.pairwise_flatMap]
  refine ⟨fun d _ => ?_, (rng_sorted 0 _).imp fun {a b} h x hx y hy => ?_⟩
  · rw [List.pairwise_map]
    exact (rng_sorted 0 _).imp fun h => .inr ⟨rfl, h⟩
  · obtain ⟨_, _, rfl⟩ := List.mem_map.mp hx
    obtain ⟨_, _, rfl⟩ := List.mem_map.mp hy
    exact .inl h
theorem cells_nodup (L : Land) : (cellsOf L).Nodup := (cells_sorted L).imp fun h => h.ne
theorem cells_ne {L : Land} (ok : LandOk L) : cellsOf L ≠ [] := by
  have h1 := cells_length L
  have := Nat.mul_le_mul ok.r1 ok.c1
  intro e
  rw [e] at h1
  simp at h1; omega
theorem cells_range {L : Land} (ok : LandOk L) {c : Cell} (h : IsCell L c) : (0 ≤ c.1 ∧ c.1 < 8) ∧ 0 ≤ c.2 ∧ c.2 < 8 := by
  have := ok.r8; have := ok.c8; unfold IsCell at h; omega
theorem cells_near {L : Land} (ok : LandOk L) {a b : Cell} (ha : IsCell L a) (hb : IsCell L b) : (-100 ≤ a.1 ∧ a.1 ≤ 100 ∧ -100 ≤ a.2 ∧ a.2 ≤ 100) ∧ -100 ≤ b.1 ∧ b.1 ≤ 100 ∧ -100 ≤ b.2 ∧ b.2 ≤ 100 := by
  have := cells_range ok ha; have := cells_range ok hb; omega
theorem ord_cell : Ord3 (DatumOrd.lt (α := Cell)) := ⟨fun a b h => by
  have h : (if a.1 = b.1 then decide (a.2 < b.2) else decide (a.1 < b.1)) = true := h
  show (if b.1 = a.1 then decide (b.2 < a.2) else decide (b.1 < a.1)) = false
  split at h <;> split <;> simp at h ⊢ <;> omega, fun a b c h1 h2 => by
  have h1 : (if a.1 = b.1 then decide (a.2 < b.2) else decide (a.1 < b.1)) = false := h1
  have h2 : (if b.1 = c.1 then decide (b.2 < c.2) else decide (b.1 < c.1)) = false := h2
  show (if a.1 = c.1 then decide (a.2 < c.2) else decide (a.1 < c.1)) = false
  split at h1 <;> split at h2 <;> split <;> simp at h1 h2 ⊢ <;> omega⟩
theorem lt_cell {a b : Cell} : DatumOrd.lt a b = true ↔ CLt a b := by
  show (if a.1 = b.1 then decide (a.2 < b.2) else decide (a.1 < b.1)) = true ↔ _
  unfold CLt
  split <;> simp <;> omega
theorem ord_pair {α : Type} [DecidableEq α] [DatumOrd α] (o : Ord3 (DatumOrd.lt (α := α))) : Ord3 (DatumOrd.lt (α := Int × α)) := ⟨fun a b h => by
  have h : (if a.1 = b.1 then DatumOrd.lt a.2 b.2 else decide (a.1 < b.1)) = true := h
  show (if b.1 = a.1 then DatumOrd.lt b.2 a.2 else decide (b.1 < a.1)) = false
  split at h <;> split
  · exact o.asym _ _ h
  · omega
  · omega
  · simp at h ⊢; omega, fun a b c h1 h2 => by
  have h1 : (if a.1 = b.1 then DatumOrd.lt a.2 b.2 else decide (a.1 < b.1)) = false := h1
  have h2 : (if b.1 = c.1 then DatumOrd.lt b.2 c.2 else decide (b.1 < c.1)) = false := h2
  show (if a.1 = c.1 then DatumOrd.lt a.2 c.2 else decide (a.1 < c.1)) = false
  split at h1 <;> split at h2 <;> split
  · exact o.neg _ _ _ h1 h2
  · omega
  · omega
  · simp at h2 ⊢; omega
  · omega
  · simp at h1 ⊢; omega
  · simp at h1 h2; omega
  · simp at h1 h2 ⊢; omega⟩
theorem lt_pair {α : Type} [DecidableEq α] [DatumOrd α] {a b : Int × α} : DatumOrd.lt a b = (if a.1 = b.1 then DatumOrd.lt a.2 b.2 else decide (a.1 < b.1)) := rfl
/-- a fold that keeps some, is a filter -/
theorem foldl_keep {α β : Type} (p : α → Bool) (f : α → β) : ∀ (xs : List α) (acc : List β), xs.foldl (fun t x => if p x = true then t ++ [f x] else t) acc = acc ++ (xs.filter p).map f
  | [], acc => by simp
  | x :: xs, acc => by
    rw [List.foldl_cons, foldl_keep p f xs, List.filter_cons]
    split <;> simp
/-- of sorted cells that fit, the first is the least -/
theorem first_least {xs : List Cell} (hs : xs.Pairwise CLt) {p : Cell → Bool} {m : Cell} (hm : m ∈ xs) (hp : p m = true) (hl : ∀ y ∈ xs, p y = true → ¬ CLt y m) : (xs.filter p).map (fun z => z) ≠ [] ∧ ((xs.filter p).map fun z => z).getD 0 (0, 0) = m := by
  have hmf : m ∈ xs.filter p := List.mem_filter.mpr ⟨hm, hp⟩
  rw [List.map_id']
  cases e : xs.filter p with
  | nil => rw [e] at hmf; cases hmf
  | cons y ys =>
    refine ⟨by simp, ?_⟩
    show y = m
    have hy := List.mem_filter.mp (show y ∈ xs.filter p by rw [e]; simp)
    have hps := List.Pairwise.filter p hs
    rw [e] at hps hmf
    rcases List.mem_cons.mp hmf with q | q
    · exact q.symm
    · exact absurd ((List.pairwise_cons.mp hps).1 m q) (hl y hy.1 hy.2)
/-! ## the greatest height -/
theorem hAt_mem {L : Land} {c : Cell} (ok : LandOk L) (h : IsCell L c) : ∃ r ∈ L.rows, hAt L c ∈ r := by
  have hl := row_len ok h.1.1 h.1.2
  refine ⟨rowAt L c.1, row_mem h.1.1 h.1.2, ?_⟩
  have hc : c.2.toNat < (rowAt L c.1).length := by have := h.2; omega
  unfold hAt
  rw [List.getD_eq_getElem?_getD, List.getElem?_eq_getElem hc]
  exact List.getElem_mem hc
theorem mem_hAt {L : Land} (ok : LandOk L) {r : List Int} {x : Int} (hr : r ∈ L.rows) (hx : x ∈ r) : ∃ c, IsCell L c ∧ hAt L c = x := by
  obtain ⟨i, hi, rfl⟩ := List.mem_iff_getElem.mp hr
  obtain ⟨j, hj, rfl⟩ := List.mem_iff_getElem.mp hx
  have hl := ok.rect _ hr
  refine ⟨((i : Int), (j : Int)), ⟨⟨by dsimp only; omega, by unfold nR; dsimp only; omega⟩, by dsimp only; omega, by dsimp only; omega⟩, ?_⟩
  unfold hAt rowAt
  simp [hi, hj]
theorem row_ne {L : Land} (ok : LandOk L) {r : List Int} (hr : r ∈ L.rows) : r ≠ [] := by
  have := ok.rect r hr; have := ok.c1
  intro e; subst e; simp at *; omega
theorem rowsT_ne {L : Land} (ok : LandOk L) : (rowsT L).items ≠ [] := by
  have := ok.r1
  intro e
  have h2 := congrArg List.length e
  rw [rows_len] at h2; simp at h2; omega
theorem rowsT_row_ne {L : Land} (ok : LandOk L) {r : Tup Int} (h : r ∈ (rowsT L).items) : r.items ≠ [] := by
  obtain ⟨x, hx, rfl⟩ := List.mem_map.mp h
  exact row_ne ok hx
def mostOf (L : Land) : Int := maxL ((rowsT L).items.map fun r => maxL r.items)
theorem most_ge {L : Land} (ok : LandOk L) {c : Cell} (h : IsCell L c) : hAt L c ≤ mostOf L := by
  obtain ⟨r, hr, hx⟩ := hAt_mem ok h
  have h1 := (maxI_spec (row_ne ok hr)).2 _ hx
  have h2 := (maxI_spec (map_ne (f := fun r : Tup Int => maxL r.items) (rowsT_ne ok))).2 (maxL r) (List.mem_map.mpr ⟨⟨r⟩, List.mem_map.mpr ⟨r, hr, rfl⟩, rfl⟩)
  exact Int.le_trans h1 h2
theorem most_at {L : Land} (ok : LandOk L) : ∃ c, IsCell L c ∧ hAt L c = mostOf L := by
  have h1 := (maxI_spec (map_ne (f := fun r : Tup Int => maxL r.items) (rowsT_ne ok))).1
  obtain ⟨r, hr, e⟩ := List.mem_map.mp h1
  obtain ⟨x, hx, rfl⟩ := List.mem_map.mp hr
  obtain ⟨c, hc, e2⟩ := mem_hAt ok hx (maxI_spec (row_ne ok hx)).1
  exact ⟨c, hc, e2.trans e⟩
theorem most_of_none {L : Land} (ok : LandOk L) {c : Cell} (h : IsCell L c) (hn : (cellsOf L).filter (fun x => decide (hAt L c < hAt L x)) = []) : hAt L c = mostOf L := by
  obtain ⟨m, hm, e⟩ := most_at ok
  have h1 := most_ge ok h
  have h2 := List.filter_eq_nil_iff.mp hn m (mem_cellsOf.mpr hm)
  simp at h2; omega
theorem cat_small {a b c : Nat} (h : b ≤ c) (hc : a + c ≤ 500 := by decide) : a + b ≤ sizeLine := Nat.le_of_lt (small1000 (by omega))
theorem enum_len {α : Type} (xs : List α) : (enumL xs).length = xs.length := by unfold enumL; rw [List.length_zip, rng_length]; omega
def farOf (a b : Cell) : Int := (a.1 - b.1) ^ (2 : Int).toNat + (a.2 - b.2) ^ (2 : Int).toNat
end Ev

namespace Ev
open PySem L2
open PySem.W (Datum Tup T3 T4 Holds HoldAll DatumOrd EachIs)
variable [Tb]
theorem hide_app (H : Hp) (f g : List Addr) : hide H (f ++ g) = hide (hide H f) g := by
  funext a
  by_cases h1 : a ∈ f
  · rw [hide_in (List.mem_append.mpr (.inl h1))]
    by_cases h2 : a ∈ g
    · rw [hide_in h2]
    · rw [hide_out h2, hide_in h1]
  · by_cases h2 : a ∈ g
    · rw [hide_in (List.mem_append.mpr (.inr h2)), hide_in h2]
    · rw [hide_out (fun z => (List.mem_append.mp z).elim h1 h2), hide_out h2, hide_out h1]
section
variable {X : Cx} {S S' S1 S2 S3 : Sl} {e a b c : Expr} {es rest : List Expr} {O O1 O2 : OP} {d d1 d2 d3 : PyData} {pos p : Pos} {D : En} {st : Stmt} {sts body els : List Stmt} {k : Bool}
/-- a, b = e, f where the values may be one's own -/
theorem sv_parO (i j : Nat) {x y : Str} {px py pt : Pos} {kt k2 pt2} (hc : X.calm = true) (ha : EV X S a O1 S1) (hb : EV X S1 b O2 S2) (r : D.nx ((S2.set i (some O1)).set j (some O2))) (hN : X.N.Nodup) (hi : X.N[i]? = some x := by rfl) (hj : X.N[j]? = some y := by rfl) (hij : i ≠ j := by decide)
    (hx : X.env.scope.names.lookup x = some .local := by rfl) (hy : X.env.scope.names.lookup y = some .local := by rfl) (hw : swappedStores [.Tuple [.Name x px, .Name y py] kt pt] (.Tuple [a, b] k2 pt2) X.env = pure (some [x, y]) := by rfl)
    (hs : swapsWithSole [.Tuple [.Name x px, .Name y py] kt pt] (.Tuple [a, b] k2 pt2) pos.line X.env = pure false := by rfl) (hs1 : starEach [a, b] X.env = (false, eval a X.env) :: starEach [b] X.env := by rfl) (hs2 : starEach [b] X.env = (false, eval b X.env) :: starEach [] X.env := by rfl) : SV X S (.Assign [.Tuple [.Name x px, .Name y py] kt pt] (.Tuple [a, b] k2 pt2) pos) D := fun Γ σ F H E s q =>
  PS.w (ps_par hc hN hi hj hij hx hy (pa_cons pe_w (pa_cons pe_w pa_nil hs2) hs1) hw hs) (ha Γ σ F H _ s fun v fp F1 H1 s1 m1 p1 => hb.frame s1 (O1.own p1) fun u fp2 F2 H2 s2 m2 p2 keep => by
    refine ⟨v, u, rfl, q.nx _ _ F2 H2 r ?_⟩
    rw [hide_app] at s2
    have e1 : O1.p v fp F2 (hide H2 fp2) := O1.mono m2 (O1.loc (fun z hz => by rw [hide_out (keep z hz).2]; exact (keep z hz).1) p1)
    exact (s2.put e1 i).put p2 j)
theorem Sat.newT0 {Γ : Cxt} {σ : St} {F H : Hp} {fp : List Addr} {p : Addr} {vs : List V} (s : Sat Γ S σ F (hide H fp)) (hp : H p = none) :
    Sat Γ S σ (upd F p (.tup vs)) (hide (upd H p (.tup vs)) fp) ∨ p ∈ fp := by
  by_cases q : p ∈ fp
  · exact .inr q
  · refine .inl (Sat.grow (a := p) ?_ (by rw [hide_out q]; exact upd_same))
    have e : hide (hide (upd H p (.tup vs)) fp) [p] = hide H fp := by
      funext z
      by_cases h1 : z = p
      · subst h1; rw [hide_in (by simp), hide_out q, hp]
      · rw [hide_out (by simpa using h1)]
        by_cases h2 : z ∈ fp
        · rw [hide_in h2, hide_in h2]
        · rw [hide_out h2, hide_out h2, upd_ne h1]
    rw [e]; exact s
/-- a, b = e, f through a tuple, e one's own, f data -/
theorem sv_asgO (i j : Nat) {x y : Str} {px py pt : Pos} {kt k2 pt2} (hc : X.calm = true) (ha : EV X S a O1 S1) (hb : EV X S1 b (dd d2) S2) (r : D.nx ((S2.set i (some O1)).set j (some (dd d2)))) (hN : X.N.Nodup) (hi : X.N[i]? = some x := by rfl) (hj : X.N[j]? = some y := by rfl)
    (hx : Loc X.env.scope x := by first | exact Or.inl rfl | exact Or.inr rfl) (hy : Loc X.env.scope y := by first | exact Or.inl rfl | exact Or.inr rfl) (hfx : X.fn x = true ∨ X.env.scope.names.lookup x = some .local := by first | exact .inl rfl | exact .inr rfl | assumption) (hfy : X.fn y = true ∨ X.env.scope.names.lookup y = some .local := by first | exact .inl rfl | exact .inr rfl | assumption)
    (hs : swapsWithSole [.Tuple [.Name x px, .Name y py] kt pt] (.Tuple [a, b] k2 pt2) pos.line X.env = pure false := by rfl) (hw : swappedStores [.Tuple [.Name x px, .Name y py] kt pt] (.Tuple [a, b] k2 pt2) X.env = pure none := by rfl) (h1 : (assignEach [.Tuple [.Name x px, .Name y py] kt pt] X.env).map (·.2) = [assign (.Tuple [.Name x px, .Name y py] kt pt) X.env] := by rfl)
    (hn : (assignEach [.Name x px, .Name y py] X.env).length = 2 := by rfl) (hst : (assignEach [.Name x px, .Name y py] X.env).findIdx? (·.1) = none := by rfl) (hg1 : (assignEach [.Name x px, .Name y py] X.env).map (·.2) = assign (.Name x px) X.env :: (assignEach [.Name y py] X.env).map (·.2) := by rfl) (hg2 : (assignEach [.Name y py] X.env).map (·.2) = assign (.Name y py) X.env :: (assignEach [] X.env).map (·.2) := by rfl)
    (hs1 : starEach [a, b] X.env = (false, eval a X.env) :: starEach [b] X.env := by rfl) (hs2 : starEach [b] X.env = (false, eval b X.env) :: starEach [] X.env := by rfl) : SV X S (.Assign [.Tuple [.Name x px, .Name y py] kt pt] (.Tuple [a, b] k2 pt2) pos) D := fun Γ σ F H E s q =>
  PS.w (ps_asg (pe_tup (pa_cons pe_w (pa_cons pe_w pa_nil hs2) hs1)) (pg_tup hc (pgs_cons (pg_name hN hi hx hfx) (pgs_cons (pg_name hN hj hy hfy) pgs_nil hg2) hg1) hn hst) hs hw h1) (ha Γ σ F H _ s fun v fp F1 H1 s1 m1 p1 => hb.frame s1 (O1.own p1) fun u fp2 F2 H2 s2 m2 p2 keep => by
    obtain ⟨e2, r2⟩ := p2
    subst e2
    rw [List.nil_append] at s2
    refine ⟨two_le, fun p hp => ⟨p, [v, u], rfl, SqT.of upd_same, rfl, v, [u], rfl, u, [], rfl, rfl, q.nx _ _ (upd F2 p (.tup [v, u])) _ r ?_⟩⟩
    have np : p ∉ fp := fun z => by
      obtain ⟨o, e, _⟩ := O1.own p1 p z
      rw [(keep p z).1, e] at hp; cases hp
    have s3 := (s2.newT0 (vs := [v, u]) hp).resolve_right np
    have sF : Same F2 (upd F2 p (.tup [v, u])) := fun z o' e => by rw [upd_ne (ne_of_none (s2.fh _ _ e) (by rw [hide_out np]; exact hp))]; exact e
    have e1 : O1.p v fp (upd F2 p (.tup [v, u])) (upd H2 p (.tup [v, u])) := O1.mono sF (O1.mono m2 (O1.loc (fun z hz => by rw [upd_ne (show z ≠ p from fun e => np (by rw [← e]; exact hz))]; exact (keep z hz).1) p1))
    exact (s3.put e1 i).same_of.put (O := dd d2) ⟨rfl, r2.mono sF⟩ j)
end
/-! ## len(set(cells)) -/
def cellK (c : Cell) : List Int := [c.1, c.2]
section
variable {X : Cx} {S S' S1 S2 S3 : Sl} {e a b c : Expr}
def tLenSetT (K : PySem.W.Frag) (ta : TE) : TE := fun σ H Q => ta σ H fun x H1 => ∃ (l : Addr) (ks : List (Addr × List Int)), x = V.ref l ∧ SqL K H1 l (ks.map fun p => V.ref p.1) ∧ (∀ p ∈ ks, SqT K H1 p.1 (p.2.map V.int)) ∧ ks.length < 64 ∧
  ∀ n : Nat, (∃ L : List (Addr × List Int), L.length = n ∧ (L.map (·.2)).Nodup ∧ (∀ p ∈ L, p ∈ ks) ∧ ∀ p ∈ ks, p.2 ∈ L.map (·.2)) → Q (.int n) H1
open PySem.Spec PyProof.Rows in
theorem pe_lenSetT {a : Expr} {ta : TE} {p p2 q pos : Pos} (hc : X.calm = true) (hu : X.A.units + 64 < cLine) (hg : Gl X "len") (hm : X.mg "len" = none) (hg2 : Gl X "set") (hm2 : X.mg "set" = none) (ha : PE X a ta)
    (na : starEach [a] X.env = (false, eval a X.env) :: starEach [] X.env := by rfl) : PE X (.Call (.Name "len" p) [.Call (.Name "set" p2) [a] [] q] [] pos) (tLenSetT X.K ta) := by
  refine ⟨fun pins s σ H Q I h => ?_⟩
  refine Call_ (ld_blt I hg hm PySem.boot_len ?_)
  refine PyProof.Rows.callWith_builtin1 (PyProof.Rows.args_cons ?_ rfl) rfl rfl
  refine Call_ (ld_blt I hg2 hm2 PyProof.Rows.boot_set ?_)
  refine PyProof.Rows.callWith_type1 (PyProof.Rows.args_cons (thn (ha.run pins s σ H _ I h) fun v s1 ⟨x, H1, I1, r1, q1⟩ => PyProof.Rows.args_nil ?_) na) na rfl
  obtain ⟨l, ks, rfl, hq, hk, h1, q1⟩ := q1
  cases r1
  obtain ⟨its, r, pl, hz⟩ := I1.list hq
  refine call_set_tups (P := X.prog) (w := X.w) ks (I1.ok.hd hc) pl.isList (by simpa using refs_of_vals r) (fun p hp => I1.isT (hk p hp)) h1 (by omega) fun h' tk L es ep t R g k => ?_
  refine PyProof.Rows.args_nil ?_
  obtain ⟨o, ho, hex, hd⟩ := R.ob
  have I2 : Inv X pins σ H1 { s1 with heap := h', toks := tk } := I1.kept fun b o e => k b o e
  have hsz : es.size = L.length := SetTR.size (s := { s1 with heap := h', toks := tk }) R
  refine call_len_set ho hex hd (SetTR.fits (s := { s1 with heap := h', toks := tk }) R) (by rw [hsz]; have := R.few; omega) ⟨.int L.length, H1, I2.tok _, ⟨_, by rw [hsz]⟩, q1 _ ⟨L, rfl, R.nd, fun p hp => List.mem_of_mem_take (g.sub p hp), fun p hp => g.all p (by rw [List.take_length]; exact hp)⟩⟩
theorem cells_rp {K : PySem.W.Frag} {F H : Hp} (m : Same F H) : ∀ {vs : List V} {cs : List Cell}, RpAll F vs (cs.map Datum.toD) → ∃ ks : List (Addr × List Int), vs = ks.map (fun p => V.ref p.1) ∧ (∀ p ∈ ks, SqT K H p.1 (p.2.map V.int)) ∧ ks.map (·.2) = cs.map cellK
  | vs, [], h => by cases h; exact ⟨[], rfl, fun p hp => absurd hp List.not_mem_nil, rfl⟩
  | vs, c :: cs, h => by
    cases h with
    | cons h1 h2 =>
      obtain ⟨ks, rfl, q, e⟩ := cells_rp m h2
      obtain ⟨l, xs, rfl, hl, r⟩ := h1.tup_of
      have hx : xs = [V.int c.1, V.int c.2] := RpAll.ints (ns := [c.1, c.2]) r
      subst hx
      refine ⟨(l, cellK c) :: ks, rfl, fun p hp => ?_, by simp [e]⟩
      rcases List.mem_cons.mp hp with z | z
      · subst z; exact SqT.of (m _ _ hl)
      · exact q p z
theorem cellK_inj {a b : Cell} (h : cellK a = cellK b) : a = b := by
  unfold cellK at h; simp at h; exact Prod.ext h.1 h.2
/-- the number of distinct cells -/
def dist (cs : List Cell) : Nat := cs.eraseDups.length
theorem nodup_len {α : Type} [DecidableEq α] : ∀ (xs ys : List α), xs.Nodup → (∀ x ∈ xs, x ∈ ys) → xs.length ≤ ys.length
  | [], ys, _, _ => Nat.zero_le _
  | x :: xs, ys, h, s => by
    have hx := s x (by simp)
    have := nodup_len xs (ys.erase x) (List.nodup_cons.mp h).2 fun z hz => (List.mem_erase_of_ne (show z ≠ x from fun e => (List.nodup_cons.mp h).1 (by rw [← e]; exact hz))).mpr (s z (List.mem_cons_of_mem _ hz))
    rw [List.length_erase_of_mem hx] at this
    have := List.length_pos_of_mem hx
    simp; omega
/-- len(set(cs)) of cells without repetition -/
theorem ev_lenSetN {cs : List Cell} {n : Nat} {p p2 q pos : Pos} (hr : Room n X.A) (hc : X.calm = true) (hm : X.mg "len" = none) (hm2 : X.mg "set" = none) (ha : EV X S e (da cs) S1) (hn : cs.Nodup) (hz : cs.length < 64) (hg : Gl X "len" := by rfl) (hg2 : Gl X "set" := by rfl) (na : starEach [e] X.env = (false, eval e X.env) :: starEach [] X.env := by rfl) :
    EV X S (.Call (.Name "len" p) [.Call (.Name "set" p2) [e] [] q] [] pos) (da (cs.length : Int)) S1 := EV.of_d fun Γ σ F H Q s q =>
  PE.w (pe_lenSetT hc (units_of hr (Nat.le_refl 64)) hg hm hg2 hm2 pe_w na) (ha.dat s fun v F1 H1 s1 m1 r1 => by
    obtain ⟨l, vs, e, hl, r2⟩ := r1.lst_of
    subst e
    obtain ⟨ks, rfl, h1, h2⟩ := cells_rp (K := X.K) s1.fh r2
    have hlen : ks.length = cs.length := by have := congrArg List.length h2; simpa using this
    refine ⟨l, ks, rfl, SqL.of (s1.fh _ _ hl), h1, by rw [hlen]; exact hz, fun m ⟨L, e1, nd, sub, all⟩ => ?_⟩
    have knd : (ks.map (·.2)).Nodup := by
      rw [h2]; exact List.Pairwise.map _ (fun a b h e => h (cellK_inj e)) hn
    have l1 := nodup_len (L.map (·.2)) (ks.map (·.2)) nd fun z hz => by
      obtain ⟨p, hp, rfl⟩ := List.mem_map.mp hz
      exact List.mem_map.mpr ⟨p, sub p hp, rfl⟩
    have l2 := nodup_len (ks.map (·.2)) (L.map (·.2)) knd fun z hz => by
      obtain ⟨p, hp, rfl⟩ := List.mem_map.mp hz
      exact all p hp
    rw [List.length_map, List.length_map] at l1 l2
    have : m = cs.length := by omega
    subst this
    exact q _ F1 H1 s1 m1 (.int _))
end
end Ev

namespace Ev
open PySem L2
open PySem.W (Datum Tup T3 T4 Holds HoldAll DatumOrd EachIs)
variable [Tb]
/-! # dicts by cells -/
def ck (c : Cell) : List Key := [.inl c.1, .inl c.2]
theorem ck_inj {a b : Cell} : ck a = ck b ↔ a = b := by
  constructor
  · intro h
    unfold ck at h
    simp at h
    exact Prod.ext h.1 h.2
  · intro h; rw [h]
theorem ck_vals (c : Cell) : (ck c).map kV = [V.int c.1, V.int c.2] := rfl
inductive KvOk {β : Type} [DecidableEq β] [Datum β] (F : Hp) : List (Cell × β) → List (List Key × V) → Prop
  | nil : KvOk F [] []
  | cons {p : Cell × β} {ps : List (Cell × β)} {v : V} {kvs : List (List Key × V)} : Rp F v (Datum.toD p.2) → KvOk F ps kvs → KvOk F (p :: ps) ((ck p.1, v) :: kvs)
section
variable {β : Type} [DecidableEq β] [Datum β]
theorem KvOk.mono {F F' : Hp} (s : Same F F') : ∀ {ps : List (Cell × β)} {kvs : List (List Key × V)}, KvOk F ps kvs → KvOk F' ps kvs
  | _, _, .nil => .nil
  | _, _, .cons h t => .cons (h.mono s) (KvOk.mono s t)
theorem KvOk.length {F : Hp} : ∀ {ps : List (Cell × β)} {kvs : List (List Key × V)}, KvOk F ps kvs → kvs.length = ps.length
  | _, _, .nil => rfl
  | _, _, .cons _ t => congrArg Nat.succ (KvOk.length t)
def getK (ps : List (Cell × β)) (c : Cell) : Option β := (ps.find? fun p => decide (p.1 = c)).map (·.2)
def inK (ps : List (Cell × β)) (c : Cell) : Bool := (getK ps c).isSome
def putP (ps : List (Cell × β)) (c : Cell) (y : β) : List (Cell × β) := if inK ps c = true then ps.map (fun p => if p.1 = c then (p.1, y) else p) else ps ++ [(c, y)]
inductive ORp (F : Hp) : Option V → Option β → Prop
  | none : ORp F none none
  | some {v : V} {y : β} : Rp F v (Datum.toD y) → ORp F (some v) (some y)
theorem KvOk.val {F : Hp} : ∀ {ps : List (Cell × β)} {kvs : List (List Key × V)}, KvOk F ps kvs → ∀ c : Cell, ORp F (valV kvs (ck c)) (getK ps c)
  | _, _, .nil, c => .none
  | _, _, .cons (p := p) (ps := ps) (kvs := kvs) h t, c => by
    by_cases e : p.1 = c
    · rw [valV_pos (show (ck p.1, _).1 = ck c from congrArg ck e)]
      unfold getK
      rw [List.find?_cons_of_pos (by simpa using e)]
      exact .some h
    · rw [valV_neg (show ¬ (ck p.1, _).1 = ck c from fun z => e (ck_inj.mp z))]
      have := KvOk.val t c
      unfold getK at this ⊢
      rw [List.find?_cons_of_neg (by simpa using e)]
      exact this
theorem ORp.isSome {F : Hp} {o : Option V} {x : Option β} (h : ORp F o x) : o.isSome = x.isSome := by cases h <;> rfl
theorem KvOk.isIn {F : Hp} {ps : List (Cell × β)} {kvs : List (List Key × V)} (h : KvOk F ps kvs) (c : Cell) : (valV kvs (ck c)).isSome = inK ps c := (h.val c).isSome
theorem KvOk.repl {F : Hp} {v : V} {y : β} (r : Rp F v (Datum.toD y)) (c : Cell) : ∀ {ps : List (Cell × β)} {kvs : List (List Key × V)}, KvOk F ps kvs → KvOk F (ps.map fun p => if p.1 = c then (p.1, y) else p) (kvs.map fun kv => if kv.1 = ck c then (kv.1, v) else kv)
  | _, _, .nil => .nil
  | _, _, .cons (p := p) h t => by
    rw [List.map_cons, List.map_cons]
    by_cases e : p.1 = c
    · rw [if_pos e, if_pos (show (ck p.1, _).1 = ck c from congrArg ck e)]
      exact .cons (p := (p.1, y)) r (KvOk.repl r c t)
    · rw [if_neg e, if_neg (show ¬ (ck p.1, _).1 = ck c from fun z => e (ck_inj.mp z))]
      exact .cons h (KvOk.repl r c t)
theorem KvOk.snoc {F : Hp} {v : V} {y : β} {c : Cell} (r : Rp F v (Datum.toD y)) : ∀ {ps : List (Cell × β)} {kvs : List (List Key × V)}, KvOk F ps kvs → KvOk F (ps ++ [(c, y)]) (kvs ++ [(ck c, v)])
  | _, _, .nil => .cons (p := (c, y)) r .nil
  | _, _, .cons h t => .cons h (KvOk.snoc r t)
theorem KvOk.put {F : Hp} {ps : List (Cell × β)} {kvs : List (List Key × V)} {v : V} {y : β} (h : KvOk F ps kvs) (c : Cell) (r : Rp F v (Datum.toD y)) : KvOk F (putP ps c y) (putK kvs (ck c) v) := by
  unfold putP putK
  rw [valV_any, h.isIn c]
  split
  · exact KvOk.repl r c h
  · exact h.snoc r
def dW (ps : List (Cell × β)) : WP := ⟨fun o F => ∃ kvs, o = .dT kvs ∧ KvOk F ps kvs, fun s h => by
  obtain ⟨kvs, e, r⟩ := h
  exact ⟨kvs, e, r.mono s⟩, fun h => by
  obtain ⟨kvs, e', _⟩ := h
  rw [e']; exact NT.dT⟩
/-- a dict of one's own -/
abbrev dO (ps : List (Cell × β)) : OP := ow (dW ps)
/-- a dict that is changed no more -/
def dFP (ps : List (Cell × β)) : FP := ⟨fun v F => ∃ a kvs, v = .ref a ∧ F a = some (.dT kvs) ∧ KvOk F ps kvs, fun s h => by
  obtain ⟨a, kvs, e, e2, r⟩ := h
  exact ⟨a, kvs, e, s _ _ e2, r.mono s⟩⟩
abbrev dF (ps : List (Cell × β)) : OP := fz (dFP ps)
section
variable {X : Cx} {S S' S1 S2 S3 : Sl} {e a b c o i : Expr} {es rest : List Expr} {O O1 O2 : OP} {d d1 d2 d3 : PyData} {pos p : Pos} {D : En} {st : Stmt} {sts body els : List Stmt} {k : Bool} {ps ps0 : List (Cell × β)} {x : Cell} {y : β} {n : Nat}
theorem Sat.frzD {Γ : Cxt} {σ : St} {F H : Hp} {i : Nat} (s : Sat Γ S σ F H) (h : S[i]? = some (some (dO ps))) : ∃ F', Sat Γ (S.set i (some (dF ps))) σ F' H ∧ Same F F' := by
  obtain ⟨v, fp, e, q, q2, s2⟩ := s.take h
  obtain ⟨a, o, e1, e2, e3, kvs, e4, r⟩ := q
  subst e1 e2 e4
  have sF : Same F (upd F a (.dT kvs)) := fun b o' e => by
    rw [upd_ne (ne_of_none e (q2 a (by simp)).1)]; exact e
  have s3 := (s2.grow e3).same_of.put (O := dF ps) (v := .ref a) ⟨rfl, a, kvs, rfl, upd_same, r.mono sF⟩ i
  rw [List.set_set, set_back e] at s3
  exact ⟨_, s3, sF⟩
theorem bv_frzD (i : Nat) (hi : S[i]? = some (some (dO ps))) (h : BV X (S.set i (some (dF ps))) sts D) : BV X S sts D := fun Γ σ F H E s q => by
  obtain ⟨F1, s1, m1⟩ := s.frzD hi
  exact h Γ σ F1 H E s1 q
theorem ev_frzDS (i : Nat) (hi : S[i]? = some (some (dO ps))) (h : EV X (S.set i (some (dF ps))) e O S') : EV X S e O S' := fun Γ σ F H Q s q => by
  obtain ⟨F1, s1, m1⟩ := s.frzD hi
  exact h Γ σ F1 H Q s1 fun v fp F' H' s' m p => q v fp F' H' s' (m1.trans m) p
theorem ev_frzD (h : EV X S e (dO ps) S') : EV X S e (dF ps) S' := fun Γ σ F H Q s q =>
  h Γ σ F H Q s fun v fp F' H' s' m p => by
    obtain ⟨a, o, e1, e2, e3, kvs, e4, r⟩ := p
    subst e1 e2 e4
    have sF : Same F' (upd F' a (.dT kvs)) := fun b o' e => by
      rw [upd_ne (ne_of_none e (s'.fnone (a := a) (by simp)))]; exact e
    exact q _ [] _ _ (s'.grow e3).same_of (m.trans sF) ⟨rfl, a, kvs, rfl, upd_same, r.mono sF⟩
/-- the dict that an expression gives, to look into -/
def EVD (X : Cx) (S : Sl) (e : Expr) (ps : List (Cell × β)) (S' : Sl) : Prop := ∀ (Γ : Cxt) (σ : St) (F H : Hp) (Q : VK), Sat Γ S σ F H →
  (∀ a kvs F' H', Sat Γ S' σ F' H' → Same F F' → H' a = some (.dT kvs) → KvOk F' ps kvs → Q (.ref a) H') → WE X e σ H Q
theorem evd_own (j : Nat) (hp : PE X e (tVar j)) (hj : S[j]? = some (some (dO ps))) : EVD X S e ps S := fun Γ σ F H Q s q => by
  obtain ⟨a, o, e1, e2, ⟨kvs, rfl, r⟩, _⟩ := s.mut hj
  exact PE.w hp ⟨_, e1, q a kvs F H s (Same.refl F) e2 r⟩
theorem evd_frz (h : EV X S e (dF ps) S') : EVD X S e ps S' := fun Γ σ F H Q s q => h.fzn s fun v F1 H1 s1 m1 p => by
  obtain ⟨a, kvs, rfl, e2, r⟩ := p
  exact q a kvs F1 H1 s1 m1 (s1.fh _ _ e2) r
theorem cell_tup {F H : Hp} {v : V} (s : Same F H) (r : Rp F v (Datum.toD x)) : ∃ l, v = .ref l ∧ F l = some (.tup ((ck x).map kV)) ∧ H l = some (.tup ((ck x).map kV)) := by
  obtain ⟨l, xs, rfl, hl, r2⟩ := r.tup_of
  have hx : xs = [V.int x.1, V.int x.2] := RpAll.ints (ns := [x.1, x.2]) r2
  subst hx
  exact ⟨l, rfl, hl, s _ _ hl⟩
theorem ec_inD (hr : Room n X.A) (ha : EV X S a (da x) S1) (hb : EVD X S1 b ps S2) : EC X S .In a b (inK ps x) S2 := fun Γ σ F H Q s q =>
  PC.w (pc_din (hu_of hr) pe_w pe_w) (ha.dat s fun v F1 H1 s1 m1 r1 => hb Γ σ F1 H1 _ s1 fun a kvs F2 H2 s2 m2 e2 r2 => by
    obtain ⟨l, rfl, f1, h1⟩ := cell_tup (s2.fh) (r1.mono m2)
    refine ⟨a, _, rfl, DGet.t e2 h1, ?_⟩
    rw [r2.isIn]
    exact q F2 H2 s2 (m1.trans m2))
theorem ec_notinD (hr : Room n X.A) (ha : EV X S a (da x) S1) (hb : EVD X S1 b ps S2) : EC X S .NotIn a b (!inK ps x) S2 := fun Γ σ F H Q s q =>
  PC.w (pc_dnotin (hu_of hr) pe_w pe_w) (ha.dat s fun v F1 H1 s1 m1 r1 => hb Γ σ F1 H1 _ s1 fun a kvs F2 H2 s2 m2 e2 r2 => by
    obtain ⟨l, rfl, f1, h1⟩ := cell_tup (s2.fh) (r1.mono m2)
    refine ⟨a, _, rfl, DGet.t e2 h1, ?_⟩
    rw [r2.isIn]
    exact q F2 H2 s2 (m1.trans m2))
/-- d[x] = y, d one's own in slot j -/
theorem sv_dput (j : Nat) {pos' : Pos} (hr : Room n X.A) (hv : EV X S e (da y) S1) (hd : PE X o (tVar j)) (hj0 : S1[j]? = some (some (dO ps0))) (hk : EV X S1 i (da x) S2) (hj : S2[j]? = some (some (dO ps))) (hz : ps.length < sizeLine) (r : D.nx (S2.set j (some (dO (putP ps x y)))))
    (hs : swapsWith e (some (.Subscript o i pos')) pos.line X.env = pure false := by rfl) : SV X S (.Assign [.Subscript o i pos'] e pos) D := fun Γ σ F H E s q =>
  PS.w (ps_dput (hu_of hr) hd pe_w pe_w hs) (hv.dat s fun v F1 H1 s1 m1 r1 => by
    obtain ⟨a0, o0, f1, f2, _⟩ := s1.mut hj0
    refine ⟨_, f1, hk.dat s1 fun w F2 H2 s2 m2 r2 => ?_⟩
    obtain ⟨a, o, e1, e2, ⟨kvs, rfl, kr⟩, back⟩ := s2.mut hj
    rw [f1] at e1
    obtain rfl : a0 = a := by injection e1 with e1; injection e1 with e1; injection e1
    obtain ⟨l, rfl, g1, g2⟩ := cell_tup s2.fh r2
    refine ⟨a0, _, rfl, DPut.t e2 g2 (by rw [kr.length]; exact hz), q.nx _ _ F2 _ r (back (dW (putP ps x y)) _ ⟨_, rfl, kr.put x (r1.mono m2)⟩)⟩)
/-- {} -/
theorem ev_dnew : EV X S (.Dict [] [] pos) (dO ([] : List (Cell × β))) S := fun Γ σ F H Q s q =>
  PE.w pe_dnewT fun p hp => q (.ref p) [p] F _ (by rw [hide_upd hp]; exact s) (Same.refl F) ⟨p, _, rfl, rfl, upd_same, [], rfl, .nil⟩
end
end
end Ev

namespace Ev
open PySem L2
open PySem.W (Datum Tup T3 T4 Holds HoldAll DatumOrd EachIs)
variable [Tb]
section
variable {X : Cx}
open PySem.Spec PyProof.Rows in
/-- {k: v}, k a tuple of ints and texts -/
theorem pe_disp1 {k v : Expr} {pos : Pos} {tk tv : TE} (hu : X.A.units < cLine) (hk : PE X k tk) (hv : PE X v tv) : PE X (.Dict [some k] [v] pos)
    (fun σ H Q => ∀ p, H p = none → tk σ (upd H p (.dT [])) fun x H1 => tv σ H1 fun y H2 => ∃ (b : Addr) (ks : List Key), x = .ref b ∧ H2 b = some (.tup (ks.map kV)) ∧ H2 p = some (.dT []) ∧ Q (.ref p) (upd H2 p (.dT [(ks, y)]))) := by
  refine ⟨fun pins s σ H Q I q => ?_⟩
  have hn := I.hok.fresh (Nat.le_refl s.heap.objs.size)
  have I1 := I.laid (a := s.heap.objs.size) (o := .dT []) (h' := s.heap.push { cls := .type "dict", data := .dict #[] }) (t' := s.toks) (fun _ _ q => Heap.get?_push_of_some _ q) (Nat.le_refl _) (dt_empty s.heap I.big)
  rw [arm_eval_Dict]
  have hshape : (evalEachOpt [some k] X.env).zip ((evalEach [v] X.env).map fun v => do let x ← v; standAt pos; pure x) = (pairTrees [some k] [v] X.env pos).map fun p => (some p.1, p.2) := rfl
  rw [hshape, dictDisplay_pairs (pairTrees [some k] [v] X.env pos) (by simp [pairTrees]) (by simp [pairTrees])]
  refine wpAny_bind (wpAny_standAt (wpAny_bind (wpAny_subDictH (knd := tupleKind (mixKind X.prog X.w)) (Q := fun d s' => wpAny (model X.prog X.w) X.A (pure (Value.ref d)) _ X.xe s') hu (by simp [pairTrees]) ?_)))
  refine pairTrees_cons_walk (thn (hk.run pins _ σ _ _ I1 (q _ hn)) fun u s1 ⟨x, H1, I2, rx, q1⟩ => thn (hv.run pins s1 σ H1 _ I2 q1) fun w2 s2 ⟨y, H2, I3, ry, b, ks, ex, eb, ep, q2⟩ => pairTrees_nil_walk ?_)
  subst ex
  obtain rfl : u = Value.ref b := rx
  obtain ⟨z, hd, xs, kt, dd⟩ := dt_of I3.hok ep
  have hxs : xs = [] := by cases kt; rfl
  subst hxs
  refine ⟨[(ks, b, w2)], ⟨rfl, rfl, key_of I3.hok eb, trivial⟩, dd, fun h' tk dd' hs => wpAny_pure ⟨.ref s.heap.objs.size, upd H2 s.heap.objs.size (.dT [(ks, y)]), ?_, rfl, q2⟩⟩
  have he : ∃ q, h'.get? s.heap.objs.size = some q := let ⟨q, _, _, hq, _⟩ := dd'; ⟨q, hq⟩
  obtain ⟨o, es, e2, g1, g2, g3, g4, g5, g6⟩ := dd'
  have ne : b ≠ s.heap.objs.size := fun e => by subst e; rw [eb] at ep; cases ep
  refine d_write (t' := tk) I3 (by rw [ep]; exact True.intro) hs he (show ObjOk X.prog X.w (upd H2 s.heap.objs.size (.dT [(ks, y)])) h' s.heap.objs.size (.dT [(ks, y)]) from ⟨by show 1 ≤ sizeLine; decide, hd, [(ks, b, w2)], .cons ⟨rfl, by rw [upd_ne ne]; exact eb, ry⟩ .nil, o, es, e2, g1, g2, g3, g4, g6⟩)

theorem choose_list {α β : Type} {R : α → β → Prop} : ∀ (l : List α), (∀ x ∈ l, ∃ y, R x y) → ∃ m : List (α × β), m.map (·.1) = l ∧ ∀ z ∈ m, R z.1 z.2
  | [], _ => ⟨[], rfl, fun z h => absurd h List.not_mem_nil⟩
  | x :: l, h => by
    obtain ⟨y, hy⟩ := h x (by simp)
    obtain ⟨m, h1, h2⟩ := choose_list l fun z hz => h z (List.mem_cons_of_mem _ hz)
    refine ⟨(x, y) :: m, by rw [List.map_cons, h1], fun z hz => ?_⟩
    rcases List.mem_cons.mp hz with e | e
    · subst e; exact hy
    · exact h2 z e
/-- dict(xs), xs a list of pairs, the keys distinct tuples of ints and texts -/
def rDictT (K : PySem.W.Frag) : List V → Hp → VK → Prop := fun vs H Q => ∃ (a : Addr) (ts : List (Addr × Addr × List Key × V)), vs = [.ref a] ∧ SqL K H a (ts.map fun t => V.ref t.1) ∧ (∀ t ∈ ts, SqT K H t.1 [.ref t.2.1, t.2.2.2] ∧ H t.2.1 = some (.tup (t.2.2.1.map kV))) ∧ (ts.map fun t => t.2.2.1).Nodup ∧
  ∀ p, H p = none → Q (.ref p) (upd H p (.dT (ts.map fun t => (t.2.2.1, t.2.2.2))))
open PySem.Spec PyProof.Rows in
theorem cr_dictT (hcalm : X.calm = true) (hu : X.A.units + 2 < cLine) : CallR X (.type "dict") (rDictT X.K) := by
  intro pins s σ H xs us Q I r q
  obtain ⟨a, ts, ex, hq, hp, nd, q⟩ := q
  subst ex
  obtain ⟨u, eu, rx⟩ := vals1 r
  subst eu
  cases rx
  obtain ⟨its, rv, pl, hz⟩ := I.list hq
  have hits : its = ts.map fun t => Value.ref t.1 := by
    have : ∀ (l : List (Addr × Addr × List Key × V)) (us : List Value), Vals (l.map fun t => V.ref t.1) us → us = l.map fun t => Value.ref t.1 := fun l => by
      induction l with
      | nil => intro us h; cases h; rfl
      | cons t l ih =>
        intro us h
        cases h with
        | cons h1 h2 => cases h1; rw [ih _ h2]; rfl
    exact this _ _ rv
  -- the values of the pairs
  have vals : ∀ t ∈ ts, ∃ w, RelV t.2.2.2 w ∧ s.heap.IsTuple t.1 #[.ref t.2.1, w] := fun t ht => by
    obtain ⟨js, r2, p2, _⟩ := I.tuple (hp t ht).1
    cases r2 with
    | cons h1 h2 =>
      cases h2 with
      | cons h3 h4 =>
        cases h4
        cases h1
        exact ⟨_, h3, p2⟩
  obtain ⟨m, hm, hR⟩ := choose_list ts vals
  subst hm
  let prs : List (Value × Value) := m.map fun z => (Value.ref z.1.2.1, z.2)
  let ps : List (List Key × Addr × Value) := m.map fun z => (z.1.2.2.1, z.1.2.1, z.2)
  let Ts : Nat → Addr := fun j => ((m[j]?).map fun z => z.1.1).getD 0
  obtain ⟨o, n, ho, hc, hd, hdat⟩ := pl
  have atm : ∀ (j : Nat) (kk vv : Value), prs[j]? = some (kk, vv) → ∃ z, m[j]? = some z ∧ kk = Value.ref z.1.2.1 ∧ vv = z.2 := fun j kk vv e => by
    show ∃ z, _
    have e : (m.map fun z => (Value.ref z.1.2.1, z.2))[j]? = some (kk, vv) := e
    rw [List.getElem?_map] at e
    cases hz : m[j]? with
    | none => rw [hz] at e; cases e
    | some z => rw [hz] at e; injection e with e; injection e with e1 e2; exact ⟨z, rfl, e1.symm, e2.symm⟩
  have hlen : prs.length = m.length := List.length_map _
  have hits2 : its.length = m.length := by rw [hits]; simp
  have hz2 : m.length ≤ sizeLine := by simpa using hz
  have keyAt : ∀ x ∈ ps, (tupleKind (mixKind X.prog X.w)).is s.heap x.1 x.2.1 := fun x hx => by
    obtain ⟨z, hz, rfl⟩ := List.mem_map.mp hx
    exact key_of I.hok (hp z.1 (List.mem_map.mpr ⟨z, hz, rfl⟩)).2
  have hnd : (ps.map (·.1)).Nodup := by
    have : ps.map (·.1) = (m.map (·.1)).map fun t => t.2.2.1 := by
      show (m.map _).map _ = _
      rw [List.map_map, List.map_map]; rfl
    rw [this]; exact nd
  refine call_dict_pairsH (knd := tupleKind (mixKind X.prog X.w)) (ps := ps) (PairArg.list a its.toArray Ts prs) (I.ok.hd hcalm) (show X.A.in1.in1.units < cLine from hu) ⟨⟨o, n, ho, hc, hd, hdat⟩, by simp [hits2, hlen], fun j kk vv e => ?_⟩ ⟨by show (m.map _).length = prs.length; simp [hlen], fun i key v e => ?_⟩ (fun h' hk x hx => ?_) (by rw [hlen]; exact hz2) fun h' tk hd' k => ?_
  · obtain ⟨z, hz, rfl, rfl⟩ := atm j kk vv e
    obtain ⟨r1, r2⟩ := hR z (List.mem_of_getElem? hz)
    have hT : Ts j = z.1.1 := by show ((m[j]?).map fun z => z.1.1).getD 0 = _; rw [hz]; rfl
    rw [hT]
    refine ⟨?_, .inl r2⟩
    rw [hits]
    simp [hz]
  · obtain ⟨z, hz, rfl, rfl⟩ := atm i key v e
    exact ⟨z.1.2.2.1, z.1.2.1, by show (m.map _)[i]? = _; rw [List.getElem?_map, hz]; rfl, rfl⟩
  · obtain ⟨o2, it2, n2, g1, g2⟩ := keyAt x hx
    exact ⟨o2, it2, n2, hk _ _ (Nat.ne_of_lt (Heap.lt_size g1)) (by simp) g1, g2⟩
  · rw [storedAllH_nil_of_nodup ps hnd] at hd'
    obtain ⟨o3, es, ep, g1, g2, g3, g4, g5, g6⟩ := hd'
    have hm' : (s.heap.objs.size == sysModules) = false := beq_eq_false_iff_ne.mpr (Nat.ne_of_gt I.big)
    have hn := I.hok.fresh (Nat.le_refl s.heap.objs.size)
    refine ⟨.ref s.heap.objs.size, upd H s.heap.objs.size (.dT ((m.map (·.1)).map fun t => (t.2.2.1, t.2.2.2))), I.laid (t' := tk) (fun b o e => k b o (by simp) e) (Nat.le_refl _) (show ObjOk X.prog X.w _ h' s.heap.objs.size (.dT _) from ⟨by simpa using hz2, hm', ps, ?_, o3, es, ep, g1, g2, g3, g4, g6⟩), rfl, q _ hn⟩
    have pr : ∀ l : List ((Addr × Addr × List Key × V) × Value), (∀ z ∈ l, z ∈ m) → Paired (fun (p : List Key × V) (q : List Key × Addr × Value) => p.1 = q.1 ∧ upd H s.heap.objs.size (.dT ((m.map (·.1)).map fun t => (t.2.2.1, t.2.2.2))) q.2.1 = some (.tup (p.1.map kV)) ∧ RelV p.2 q.2.2) ((l.map (·.1)).map fun t => (t.2.2.1, t.2.2.2)) (l.map fun z => (z.1.2.2.1, z.1.2.1, z.2)) := fun l => by
      induction l with
      | nil => intro _; exact .nil
      | cons z l ih =>
        intro h
        have hz := h z (by simp)
        have ek := (hp z.1 (List.mem_map.mpr ⟨z, hz, rfl⟩)).2
        refine .cons ⟨rfl, ?_, (hR z hz).1⟩ (ih fun y hy => h y (List.mem_cons_of_mem _ hy))
        rw [upd_ne (ne_of_none ek hn)]; exact ek
    exact pr m fun z hz => hz
end
end Ev

namespace Ev
open PySem L2
open PySem.W (Datum Tup T3 T4 Holds HoldAll DatumOrd EachIs)
variable [Tb]
def mergeT (kvs more : List (List Key × V)) : List (List Key × V) := more.foldl (fun acc kv => putK acc kv.1 kv.2) kvs
theorem kt_merge {H : Hp} : ∀ {more : List (List Key × V)} {ms : List (List Key × Addr × Value)} {kvs : List (List Key × V)} {xs : List (List Key × Addr × Value)}, KT H more ms → KT H kvs xs → KT H (mergeT kvs more) (storedAllH xs ms) := by
  intro more ms kvs xs r
  unfold KT at r
  induction r generalizing kvs xs with
  | nil => intro q; exact q
  | @cons p q ps qs h t ih =>
    intro r0
    have e : KT H (putK kvs p.1 p.2) (storedH xs q.1 q.2.1 q.2.2) := by
      have := KT.put r0 p.1 h.2.1 h.2.2
      rw [← h.1]; exact this
    exact ih e
theorem length_mergeT : ∀ (more kvs : List (List Key × V)), (mergeT kvs more).length ≤ kvs.length + more.length
  | [], kvs => by show kvs.length ≤ kvs.length + 0; omega
  | p :: r, kvs => by
    have h1 := length_mergeT r (putK kvs p.1 p.2)
    have h2 := length_putK kvs p.1 p.2
    show (mergeT (putK kvs p.1 p.2) r).length ≤ _
    rw [List.length_cons]; omega
section
variable {X : Cx}
/-- d.update(o), both by tuples -/
def rUpdT (P : Program) (w : World) : V → List V → Hp → VK → Prop := fun x vs H Q => ∃ (d o : Addr) (kvs more : List (List Key × V)), x = .ref d ∧ vs = [.ref o] ∧ H d = some (.dT kvs) ∧ H o = some (.dT more) ∧ d ≠ o ∧ kvs.length + more.length ≤ sizeLine ∧ (more.map fun kv => (tupleKind (mixKind P w)).hash kv.1).Nodup ∧ Q .non (upd H d (.dT (mergeT kvs more)))
open PySem.Spec PyProof.Rows in
theorem mt_updT (hu : X.A.units + 1 < cLine) : MtR X "dict.update" (rUpdT X.prog X.w) := by
  intro pins s σ H x vs v us Q I rx rv h
  obtain ⟨d, o, kvs, more, rfl, rfl, hd, ho, hne, hz, hap, q⟩ := h
  cases rx
  obtain ⟨u, rfl, ru⟩ := vals1 rv
  cases ru
  obtain ⟨z1, s1, xs, k1, d1⟩ := dt_of I.hok hd
  obtain ⟨z2, s2, ms, k2, d2⟩ := dt_of I.hok ho
  have l1 : kvs.length = xs.length := Paired.length k1
  have l2 : more.length = ms.length := Paired.length k2
  have hm : more.map (fun kv => (tupleKind (mixKind X.prog X.w)).hash kv.1) = ms.map fun x => (tupleKind (mixKind X.prog X.w)).hash x.1 := by
    have : ∀ {a : List (List Key × V)} {b : List (List Key × Addr × Value)}, KT H a b → a.map (fun kv => (tupleKind (mixKind X.prog X.w)).hash kv.1) = b.map fun x => (tupleKind (mixKind X.prog X.w)).hash x.1 := fun {a b} k => by
      unfold KT at k
      induction k with
      | nil => rfl
      | cons h t ih => rw [List.map_cons, List.map_cons, ih, h.1]
    exact this k2
  have ty : ∀ x ∈ ms, s.TypeIs (.ref x.2.1) "tuple" := fun x hx => by
    obtain ⟨_, _, _, _, _, _, _, hk, _⟩ := id d2
    obtain ⟨o2, it2, n2, g1, g2, g3⟩ := hk x hx
    exact ⟨o2, g1, g2⟩
  refine call_update_dictH (knd := tupleKind (mixKind X.prog X.w)) (show X.A.in1.units < cLine from hu) hne s2 d1 d2 (.inr ⟨ty, hm ▸ hap⟩) (by omega) fun h' dd' dd2 hs => ?_
  have he : ∃ q, h'.get? d = some q := let ⟨q, _, _, hq, _⟩ := dd'; ⟨q, hq⟩
  obtain ⟨o3, es, ep, g1, g2, g3, g4, g5, g6⟩ := dd'
  have km := kt_merge k2 k1
  refine ⟨.non, _, d_write (t' := s.toks) I (by rw [hd]; exact True.intro) hs he (show ObjOk X.prog X.w (upd H d (.dT (mergeT kvs more))) h' d (.dT (mergeT kvs more)) from ⟨Nat.le_trans (length_mergeT more kvs) hz, s1, _, ?_, o3, es, ep, g1, g2, g3, g4, g6⟩), rfl, q⟩
  exact km.keeps fun b ys e => by rw [upd_ne (fun z => by subst z; rw [hd] at e; cases e)]; exact e
end
/-! ## the rules -/
section
variable {β : Type} [DecidableEq β] [Datum β]
variable {X : Cx} {S S' S1 S2 S3 : Sl} {e a b c o i : Expr} {es rest : List Expr} {O O1 O2 : OP} {d d1 d2 d3 : PyData} {pos p apos : Pos} {D : En} {ps ps0 qs : List (Cell × β)} {x : Cell} {y : β} {n : Nat}
/-- {c: y} -/
theorem ev_disp1 (hr : Room n X.A) (hk : EV X S a (da x) S1) (hv : EV X S1 b (da y) S2) : EV X S (.Dict [some a] [b] pos) (dO [(x, y)]) S2 := fun Γ σ F H Q s q =>
  PE.w (pe_disp1 (Nat.lt_of_succ_lt (hu_of hr)) pe_w pe_w) fun p hp => by
    have nt : ∀ a ∈ [p], ∃ o, upd H p (.dT []) a = some o ∧ NT o := fun a ha => by
      obtain rfl : a = p := by simpa using ha
      exact ⟨_, upd_same, NT.dT⟩
    refine hk.frame (fp0 := [p]) (by rw [hide_upd hp]; exact s) nt fun v fp F1 H1 s1 m1 p1 keep1 => ?_
    obtain ⟨e1, r1⟩ := p1
    subst e1
    rw [List.nil_append] at s1
    have hp1 : H1 p = some (.dT []) := by rw [(keep1 p (by simp)).1]; exact upd_same
    refine hv.frame (fp0 := [p]) s1 (fun a ha => by
      obtain rfl : a = p := by simpa using ha
      exact ⟨_, hp1, NT.dT⟩) fun u fp F2 H2 s2 m2 p2 keep2 => ?_
    obtain ⟨e2, r2⟩ := p2
    subst e2
    rw [List.nil_append] at s2
    have hp2 : H2 p = some (.dT []) := by rw [(keep2 p (by simp)).1]; exact hp1
    obtain ⟨l, rfl, f1, h1⟩ := cell_tup s2.fh (r1.mono m2)
    have hl : H2 l = some (.tup ((ck x).map kV)) := (hide_some h1).2
    refine ⟨l, ck x, rfl, hl, hp2, q (.ref p) [p] F2 _ (by rw [hide_upd']; exact s2) (m1.trans m2) ⟨p, _, rfl, rfl, upd_same, _, rfl, .cons (p := (x, y)) r2 .nil⟩⟩
theorem pairs_rp {K : PySem.W.Frag} {F H : Hp} (m : Same F H) : ∀ {vs : List V} {ps : List (Cell × β)}, RpAll F vs (ps.map Datum.toD) → ∃ ts : List (Addr × Addr × List Key × V), vs = ts.map (fun t => V.ref t.1) ∧ (∀ t ∈ ts, SqT K H t.1 [.ref t.2.1, t.2.2.2] ∧ H t.2.1 = some (.tup (t.2.2.1.map kV))) ∧ ts.map (fun t => t.2.2.1) = ps.map (fun p => ck p.1) ∧ KvOk F ps (ts.map fun t => (t.2.2.1, t.2.2.2))
  | vs, [], h => by cases h; exact ⟨[], rfl, fun t ht => absurd ht List.not_mem_nil, rfl, .nil⟩
  | vs, p :: ps, h => by
    cases h with
    | cons h1 h2 =>
      obtain ⟨ts, rfl, q, e, k⟩ := pairs_rp (K := K) m h2
      obtain ⟨l, xs, rfl, hl, r⟩ := h1.tup_of
      obtain ⟨v, u, rfl, r1, r2⟩ := RpAll.two (d := Datum.toD p.1) (e := Datum.toD p.2) r
      obtain ⟨l2, rfl, f1, g1⟩ := cell_tup m r1
      refine ⟨(l, l2, ck p.1, u) :: ts, rfl, fun t ht => ?_, by simp [e], .cons r2 k⟩
      rcases List.mem_cons.mp ht with z | z
      · subst z; exact ⟨SqT.of (m _ _ hl), g1⟩
      · exact q t z
/-- dict([(c, y), ..]), the cells distinct -/
theorem ev_dictP (hr : Room n X.A) (hc : X.calm = true) (hm : X.mg "dict" = none) (ha : EV X S e (da ps) S1) (hn : (ps.map (·.1)).Nodup) (hg : Gl X "dict" := by rfl) (he : starEach [e] X.env = (false, eval e X.env) :: starEach [] X.env := by rfl) : EV X S (.Call (.Name "dict" p) [e] [] pos) (dO ps) S1 :=
  ev_ty (cr_dictT hc (Nat.lt_of_le_of_lt (Nat.add_le_add_left (by decide : 2 ≤ 64) _) (units_of hr (Nat.le_refl 64)))) hg hm (by decide +kernel) (el_cons ha el_nil he) (fun Γ σ F H vs Q s r q => by
    obtain ⟨v, rfl, r1⟩ := r.one
    obtain ⟨a, us, rfl, h2, r2⟩ := Rp.lst_of r1
    obtain ⟨ts, rfl, g1, g2, g3⟩ := pairs_rp (K := X.K) s.fh r2
    refine ⟨a, ts, rfl, SqL.of (s.fh _ _ h2), g1, ?_, fun l hl => ?_⟩
    · rw [g2]
      have : ps.map (fun p => ck p.1) = (ps.map (·.1)).map ck := by rw [List.map_map]; rfl
      rw [this]
      exact List.Pairwise.map _ (fun a b h e => h (ck_inj.mp e)) hn
    · exact q _ [l] F _ (by rw [hide_upd hl]; exact s) (Same.refl F) ⟨l, _, rfl, rfl, upd_same, _, rfl, g3⟩) (by decide) (by decide) he rfl
end
end Ev

namespace Ev
open PySem L2
open PySem.W (Datum Tup T3 T4 Holds HoldAll DatumOrd EachIs)
variable [Tb]
/-! ## hashes of cells -/
def hashC (c : Cell) : Int := reduceHash (Builtin.Tuple.tupleHashOf [hashInt c.1, hashInt c.2])
theorem hash_ck {P : Program} {w : World} (c : Cell) : (tupleKind (mixKind P w)).hash (ck c) = hashC c := rfl
def grid : List Cell := (List.range 8).flatMap fun (a : Nat) => (List.range 8).map fun (b : Nat) => ((a : Int), (b : Int))
theorem grid_nodup : (grid.map hashC).Nodup := by decide +kernel
theorem mem_grid {c : Cell} (h : (0 ≤ c.1 ∧ c.1 < 8) ∧ 0 ≤ c.2 ∧ c.2 < 8) : c ∈ grid := by
  unfold grid
  refine List.mem_flatMap.mpr ⟨c.1.toNat, List.mem_range.mpr (by omega), List.mem_map.mpr ⟨c.2.toNat, List.mem_range.mpr (by omega), ?_⟩⟩
  exact Prod.ext (by show ((c.1.toNat : Nat) : Int) = c.1; omega) (by show ((c.2.toNat : Nat) : Int) = c.2; omega)
theorem nodup_map_inj {α β : Type} {f : α → β} : ∀ {l : List α}, (l.map f).Nodup → ∀ {a b : α}, a ∈ l → b ∈ l → f a = f b → a = b
  | [], _, a, b, ha, _, _ => absurd ha List.not_mem_nil
  | x :: l, h, a, b, ha, hb, e => by
    rw [List.map_cons, List.nodup_cons] at h
    rcases List.mem_cons.mp ha with p | p
    · rcases List.mem_cons.mp hb with q | q
      · rw [p, q]
      · subst p; exact absurd (List.mem_map.mpr ⟨b, q, e.symm⟩) h.1
    · rcases List.mem_cons.mp hb with q | q
      · subst q; exact absurd (List.mem_map.mpr ⟨a, p, e⟩) h.1
      · exact nodup_map_inj h.2 p q e
theorem hash_inj {a b : Cell} (ha : (0 ≤ a.1 ∧ a.1 < 8) ∧ 0 ≤ a.2 ∧ a.2 < 8) (hb : (0 ≤ b.1 ∧ b.1 < 8) ∧ 0 ≤ b.2 ∧ b.2 < 8) (e : hashC a = hashC b) : a = b := nodup_map_inj grid_nodup (mem_grid ha) (mem_grid hb) e
section
variable {β : Type} [DecidableEq β] [Datum β]
def mergeP (ps qs : List (Cell × β)) : List (Cell × β) := qs.foldl (fun acc q => putP acc q.1 q.2) ps
theorem KvOk.merge {F : Hp} : ∀ {qs : List (Cell × β)} {more : List (List Key × V)} {ps : List (Cell × β)} {kvs : List (List Key × V)}, KvOk F qs more → KvOk F ps kvs → KvOk F (mergeP ps qs) (mergeT kvs more)
  | _, _, _, _, .nil, h => h
  | _, _, _, _, .cons (p := p) r t, h => by
    have := KvOk.merge t (h.put p.1 r)
    exact this
theorem KvOk.keys {F : Hp} : ∀ {qs : List (Cell × β)} {more : List (List Key × V)}, KvOk F qs more → more.map (·.1) = qs.map fun p => ck p.1
  | _, _, .nil => rfl
  | _, _, .cons _ t => by rw [List.map_cons, List.map_cons, KvOk.keys t]
variable {X : Cx} {S S' S1 S2 S3 : Sl} {e a b c o i : Expr} {es rest : List Expr} {O O1 O2 : OP} {d d1 d2 d3 : PyData} {pos p apos : Pos} {D : En} {ps ps0 qs : List (Cell × β)} {x : Cell} {y : β} {n : Nat}
/-- d.update(e), d one's own in slot j, e a new dict -/
theorem ev_updD (j : Nat) (hr : Room n X.A) (hp : PE X o (tVar j)) (hj0 : S[j]? = some (some (dO ps0))) (ha : EV X S e (dO qs) S1) (hj : S1[j]? = some (some (dO ps))) (hz : ps.length + qs.length ≤ sizeLine) (hn : (qs.map (·.1)).Nodup) (hg : ∀ q ∈ qs, (0 ≤ q.1.1 ∧ q.1.1 < 8) ∧ 0 ≤ q.1.2 ∧ q.1.2 < 8)
    (hbase : attributeBase o "update" X.env (eval o X.env) = eval o X.env := by rfl)
    (hfew : ((backTo pos (starEach [e] X.env)).all (fun x => !x.1) && (backToKw pos (keywordEach [] X.env)).all (fun x => x.1.isSome)
      && decide ([e].length + ([] : List Keyword).length + (if ([] : List Keyword).isEmpty then 0 else 1) < 30)) = true := by rfl)
    (hline : (apos.endLine == pos.line) = true := by rfl) (hs : starEach [e] X.env = (false, eval e X.env) :: starEach [] X.env := by rfl) (hplain : (backTo pos (starEach [] X.env)).any (·.1) = false := by rfl) :
    EV X S (.Call (.Attribute o "update" apos) [e] [] pos) (da ()) (S1.set j (some (dO (mergeP ps qs)))) := EV.of_d fun Γ σ F H Q s q =>
  PE.w (pe_bm PySem.F.plainAttrs_dict PySem.F.slot_dict_update PySem.F.type_dict_update (mt_updT (hu_of hr)) hp (pa_cons pe_w pa_nil hs) hbase hfew hline hs hplain) (by
    obtain ⟨a0, o0, f1, f2, ⟨kvs0, rfl, kr0⟩, _⟩ := s.mut hj0
    refine ⟨_, f1, .inr (.inr (.inl ⟨rfl, .inr ⟨_, f2⟩⟩)), ha Γ σ F H _ s fun v fp F1 H1 s1 m1 p1 => ?_⟩
    obtain ⟨a2, o2, rfl, rfl, g2, more, rfl, kr2⟩ := p1
    obtain ⟨a1, o1, e1, e2, ⟨kvs, rfl, kr⟩, back⟩ := s1.mut hj
    rw [f1] at e1
    obtain rfl : a0 = a1 := by injection e1 with e1; injection e1 with e1; injection e1
    obtain ⟨n1, e3⟩ := hide_some e2
    have ne : a0 ≠ a2 := fun z => n1 (by simp [z])
    refine ⟨a0, a2, kvs, more, rfl, rfl, e3, g2, ne, by rw [kr.length, kr2.length]; exact hz, ?_, ?_⟩
    · have : more.map (fun kv => (tupleKind (mixKind X.prog X.w)).hash kv.1) = (qs.map (·.1)).map hashC := by
        have h1 := kr2.keys
        have h2 : more.map (fun kv => (tupleKind (mixKind X.prog X.w)).hash kv.1) = (more.map (·.1)).map fun k => (tupleKind (mixKind X.prog X.w)).hash k := by rw [List.map_map]; rfl
        rw [h2, h1, List.map_map, List.map_map]; rfl
      rw [this]
      have key : ∀ l : List Cell, l.Nodup → (∀ c ∈ l, (0 ≤ c.1 ∧ c.1 < 8) ∧ 0 ≤ c.2 ∧ c.2 < 8) → (l.map hashC).Nodup := fun l => by
        induction l with
        | nil => intro _ _; exact List.nodup_nil
        | cons c l ih =>
          intro h1 h2
          rw [List.map_cons, List.nodup_cons]
          refine ⟨fun m => ?_, ih (List.nodup_cons.mp h1).2 fun z hz => h2 z (List.mem_cons_of_mem _ hz)⟩
          obtain ⟨z, hz, e⟩ := List.mem_map.mp m
          have := hash_inj (h2 z (List.mem_cons_of_mem _ hz)) (h2 c (by simp)) e
          subst this
          exact (List.nodup_cons.mp h1).1 hz
      exact key _ hn fun c hc => by
        obtain ⟨q, hq, rfl⟩ := List.mem_map.mp hc
        exact hg q hq
    · have s2 := back (dW (mergeP ps qs)) (.dT (mergeT kvs more)) ⟨_, rfl, kr2.merge kr⟩
      have eH : upd (hide H1 [a2]) a0 (.dT (mergeT kvs more)) = hide (upd H1 a0 (.dT (mergeT kvs more))) [a2] := by
        funext z
        by_cases h1 : z = a0
        · subst h1; rw [upd_same, hide_out (by simpa using ne), upd_same]
        · rw [upd_ne h1]
          by_cases h2 : z = a2
          · subst h2; rw [hide_in (by simp), hide_in (by simp)]
          · rw [hide_out (by simpa using h2), hide_out (by simpa using h2), upd_ne h1]
      rw [eH] at s2
      refine q .non F1 _ (s2.show fun z hz => ?_) m1 .non
      obtain rfl : z = a2 := by simpa using hz
      exact ⟨_, by rw [upd_ne (Ne.symm ne)]; exact g2, fun xs e => by cases e⟩)
theorem keys_rp {F H : Hp} (ht : ∀ a xs, H a = some (.tup xs) → F a = some (.tup xs)) : ∀ {ps : List (Cell × β)} {kvs : List (List Key × V)} {bs : List Addr}, KvOk F ps kvs → IsKeys H kvs bs → RpAll F (bs.map V.ref) ((ps.map (·.1)).map Datum.toD)
  | _, _, bs, .nil, k => by cases k; exact .nil
  | _, _, bs, .cons (p := p) r t, k => by
    cases k with
    | cons h k2 =>
      refine .cons ?_ (keys_rp ht t k2)
      have := ht _ _ h
      exact .tup this (.cons (.int _) (.cons (.int _) .nil))
/-- list(d) -/
theorem ev_listD (hc : X.calm = true) (hm : X.mg "list" = none) (hd : EVD X S e ps S1) (hg : Gl X "list" := by rfl) (he : starEach [e] X.env = (false, eval e X.env) :: starEach [] X.env := by rfl) : EV X S (.Call (.Name "list" p) [e] [] pos) (la (ps.map (·.1))) S1 := fun Γ σ F H Q s q =>
  PE.w (pe_callTy (call_list_dT hc) hg hm (by decide +kernel) (pa_cons pe_w pa_nil he) (by decide) (by decide) he rfl) (hd Γ σ F H _ s fun a kvs F1 H1 s1 m1 e1 k1 => by
    refine ⟨a, kvs, rfl, .inl e1, fun p bs hp hk => ?_⟩
    obtain ⟨s2, r2⟩ := s1.newL hp (keys_rp s1.tup k1 hk)
    exact q _ _ F1 _ s2 m1 r2)
/-- sorted(list(d)) etc. go by the list -/
theorem ev_dgetO (j : Nat) (hr : Room n X.A) (hp : PE X o (tVar j)) (hj0 : S[j]? = some (some (dO ps0))) (hk : EV X S i (da x) S1) (hj : S1[j]? = some (some (dO ps))) (hg : getK ps x = some y) (hs : NoSl i := by intro _ _; rfl) : EV X S (.Subscript o i pos) (da y) S1 := EV.of_d fun Γ σ F H Q s q =>
  PE.w (pe_dget (hu_of hr) hp pe_w hs) (by
    obtain ⟨a0, o0, f1, f2, ⟨kvs0, rfl, kr0⟩, _⟩ := s.mut hj0
    refine ⟨_, f1, hk.dat s fun v F1 H1 s1 m1 r1 => ?_⟩
    obtain ⟨a1, o1, e1, e2, ⟨kvs, rfl, kr⟩, _⟩ := s1.mut hj
    rw [f1] at e1
    obtain rfl : a0 = a1 := by injection e1 with e1; injection e1 with e1; injection e1
    obtain ⟨l, rfl, g1, g2⟩ := cell_tup s1.fh r1
    have := kr.val x
    rw [hg] at this
    generalize hv : valV kvs (ck x) = ov at this
    cases this with
    | some rv => exact ⟨a0, _, rfl, hv ▸ DGet.t e2 g2, q _ F1 H1 s1 m1 rv⟩)
end
end Ev

namespace Ev
open PySem L2
open PySem.W (Datum Tup T3 T4 Holds HoldAll DatumOrd EachIs)
variable [Tb]
section
variable {α : Type} [DecidableEq α] [Datum α]
variable {X : Cx} {S S' S1 S2 S3 : Sl} {e a b c o i : Expr} {pos p apos : Pos} {k : Bool} {n : Nat} {op : CmpOp}
/-- a comparison with a list of one's own, which stays one's own -/
theorem ec_opO (j : Nat) {r : R2} {xs xs0 : List α} {y : List α} (ho : OpR X (compareOp op) r) (hp : PE X a (tVar j)) (hj0 : S[j]? = some (some (la xs0))) (hb : EV X S b (da y) S1) (hj : S1[j]? = some (some (la xs)))
    (h : ∀ (F H : Hp) (v u : V) (Q : VK), Same F H → Rp F v (Datum.toD xs) → Rp F u (Datum.toD y) → Q (.bl k) H → r v u H Q) : EC X S op a b k S1 := fun Γ σ F H Q s q =>
  PC.w (pc_of ho hp pe_w) (by
    obtain ⟨a0, vs0, f1, f2, _⟩ := s.mutL hj0
    refine ⟨_, f1, hb.dat s fun u F1 H1 s1 m1 r1 => ?_⟩
    obtain ⟨F', s2, m2⟩ := s1.frz hj
    have hl := (List.getElem?_eq_some_iff.mp hj).1
    obtain ⟨v, e1, rv⟩ := s2.dat (i := j) (by rw [List.getElem?_set_self hl])
    rw [f1] at e1
    obtain rfl : V.ref a0 = v := by injection e1 with e1; injection e1
    exact h F' H1 _ u Q s2.fh rv (r1.mono m2) (q F1 H1 s1 m1))
theorem ec_neO (j : Nat) {xs xs0 y : List α} (hr : Room n X.A) (hp : PE X a (tVar j)) (hj0 : S[j]? = some (some (la xs0))) (hb : EV X S b (da y) S1) (hj : S1[j]? = some (some (la xs))) (hd : Datum.depth (List α) ≤ 64 := by decide) : EC X S .NotEq a b (decide (xs ≠ y)) S1 :=
  ec_opO j (op_neT (α := List α) (units_of hr hd)) hp hj0 hb hj fun F H v u Q m r1 r2 q => ⟨F, xs, y, m, r1, r2, q⟩
theorem ec_eqO (j : Nat) {xs xs0 y : List α} (hr : Room n X.A) (hp : PE X a (tVar j)) (hj0 : S[j]? = some (some (la xs0))) (hb : EV X S b (da y) S1) (hj : S1[j]? = some (some (la xs))) (hd : Datum.depth (List α) ≤ 64 := by decide) : EC X S .Eq a b (decide (xs = y)) S1 :=
  ec_opO j (op_eqT (α := List α) (units_of hr hd)) hp hj0 hb hj fun F H v u Q m r1 r2 q => ⟨F, xs, y, m, r1, r2, q⟩
theorem ev_popA (j : Nat) {xs : List α} (d0 : α) (hp : PE X o (tVar j)) (hj : S[j]? = some (some (la xs))) (hne : xs ≠ [])
    (hbase : attributeBase o "pop" X.env (eval o X.env) = eval o X.env := by rfl) (hline : (apos.endLine == pos.line) = true := by rfl) : EV X S (.Call (.Attribute o "pop" apos) [] [] pos) (da (xs.getLastD d0)) (S.set j (some (la xs.dropLast))) := by
  obtain ⟨ys, y, rfl⟩ : ∃ ys y, xs = ys ++ [y] := ⟨xs.dropLast, xs.getLast hne, (List.dropLast_concat_getLast hne).symm⟩
  have h2 : la (ys ++ [y]) = ll (ys.map Datum.toD ++ [Datum.toD y]) := by unfold la; rw [List.map_append]; rfl
  have := ev_pop (d := Datum.toD y) (ds := ys.map Datum.toD) j hp (by rw [hj, h2]) hbase hline
  rw [List.dropLast_concat]
  have e : (ys ++ [y]).getLastD d0 = y := by simp
  rw [e]
  exact this
end
end Ev

namespace Ev
open PySem L2
open PySem.W (Datum Tup T3 T4 Holds HoldAll DatumOrd EachIs)
variable [Tb]
/-! # results: what a def's mirror tells -/
inductive Rs (α : Type) where
  | ok (a : α)
  | ex (c : Str) (d : PyData)
  | no
namespace Rs
variable {α β γ : Type}
def bind (m : Rs α) (f : α → Rs β) : Rs β := match m with
  | .ok a => f a
  | .ex c d => .ex c d
  | .no => .no
@[simp] theorem ok_bind (a : α) (f : α → Rs β) : (Rs.ok a).bind f = f a := rfl
@[simp] theorem ex_bind (c : Str) (d : PyData) (f : α → Rs β) : (Rs.ex c d : Rs α).bind f = .ex c d := rfl
theorem bind_ok {m : Rs α} {f : α → Rs β} {r : β} (h : m.bind f = .ok r) : ∃ a, m = .ok a ∧ f a = .ok r := by
  cases m with
  | ok a => exact ⟨a, rfl, h⟩
  | ex c d => cases h
  | no => cases h
theorem bind_of {m : Rs α} {f : α → Rs β} {a : α} (h : m = .ok a) : m.bind f = f a := by rw [h]; rfl
theorem inj {a b : α} (h : Rs.ok a = .ok b) : a = b := by injection h
theorem bind_assoc (m : Rs α) (f : α → Rs β) (g : β → Rs γ) : (m.bind f).bind g = m.bind fun a => (f a).bind g := by cases m <;> rfl
end Rs
open Classical in
/-- a guard: what the machine asks -/
noncomputable def gd {α : Type} (P : Prop) (k : Rs α) : Rs α := if P then k else .no
theorem gd_ok {α : Type} {P : Prop} {k : Rs α} {r : α} (h : gd P k = .ok r) : P ∧ k = .ok r := by
  unfold gd at h
  split at h
  · exact ⟨by assumption, h⟩
  · cases h
@[simp] theorem gd_pos {α : Type} {P : Prop} {k : Rs α} (h : P) : gd P k = k := if_pos h
/-- how a turn ends: on, by a return, by a break -/
inductive Ct (τ ρ : Type) where
  | nx (t : τ)
  | rt (r : ρ)
  | bk (t : τ)
def forM {α τ : Type} (b : α → τ → Rs τ) : List α → τ → Rs τ
  | [], t => .ok t
  | x :: xs, t => (b x t).bind fun t' => forM b xs t'
def forC {α τ ρ : Type} (b : α → τ → Rs (Ct τ ρ)) : List α → τ → Rs (Ct τ ρ)
  | [], t => .ok (.nx t)
  | x :: xs, t => (b x t).bind fun o => match o with
    | .nx t' => forC b xs t'
    | .rt r => .ok (.rt r)
    | .bk t' => .ok (.nx t')
def whM {τ : Type} (c : τ → Rs Bool) (b : τ → Rs τ) : Nat → τ → Rs τ
  | 0, _ => .no
  | n + 1, t => (c t).bind fun k => if k = true then (b t).bind fun t' => whM c b n t' else .ok t
def whC {τ ρ : Type} (c : τ → Rs Bool) (b : τ → Rs (Ct τ ρ)) : Nat → τ → Rs (Ct τ ρ)
  | 0, _ => .no
  | n + 1, t => (c t).bind fun k => if k = true then (b t).bind fun o => match o with
      | .nx t' => whC c b n t'
      | .rt r => .ok (.rt r)
      | .bk t' => .ok (.nx t')
    else .ok (.nx t)
def Ct.go {τ ρ σ : Type} (o : Ct τ ρ) (f : τ → Rs σ) (g : ρ → Rs σ) : Rs σ := match o with
  | .nx t => f t
  | .rt r => g r
  | .bk t => f t
/-- a comprehension -/
def lcM {α β : Type} (c : α → Rs Bool) (f : α → Rs β) : List α → Rs (List β)
  | [] => .ok []
  | x :: xs => (c x).bind fun k => if k = true then (f x).bind fun y => (lcM c f xs).bind fun ys => .ok (y :: ys) else lcM c f xs
/-- a comprehension whose items draw -/
def lcN {α β : Type} (f : α → Nat → Rs (β × Nat)) : List α → Nat → Rs (List β × Nat)
  | [], n => .ok ([], n)
  | x :: xs, n => (f x n).bind fun y => (lcN f xs y.2).bind fun ys => .ok (y.1 :: ys.1, ys.2)
theorem forM_take {α τ : Type} {b : α → τ → Rs τ} : ∀ {xs : List α} {t0 t1 : τ}, forM b xs t0 = .ok t1 → ∃ f : Nat → τ, f 0 = t0 ∧ f xs.length = t1 ∧ ∀ i x, xs[i]? = some x → b x (f i) = .ok (f (i + 1))
  | [], t0, t1, h => ⟨fun _ => t0, rfl, Rs.inj h, fun i x e => by simp at e⟩
  | x :: xs, t0, t1, h => by
    obtain ⟨t', h1, h2⟩ := Rs.bind_ok h
    obtain ⟨f, e0, e1, h3⟩ := forM_take h2
    refine ⟨fun i => match i with | 0 => t0 | i + 1 => f i, rfl, e1, fun i y e => ?_⟩
    cases i with
    | zero => simp at e; subst e; show b x t0 = .ok (f 0); rw [e0]; exact h1
    | succ i => exact h3 i y (by simpa using e)
def Rs.isT (m : Rs Bool) : Bool := match m with
  | .ok k => k
  | _ => false
def Rs.get? {α : Type} (m : Rs α) : Option α := match m with
  | .ok y => some y
  | _ => none
theorem lcM_take {α β : Type} {c : α → Rs Bool} {f : α → Rs β} : ∀ {xs : List α} {ys : List β}, lcM c f xs = .ok ys → (∀ x, x ∈ xs → c x = .ok (c x).isT) ∧ (∀ x, x ∈ xs → (c x).isT = true → ∃ y, (f x).get? = some y ∧ f x = .ok y) ∧ (xs.filter fun x => (c x).isT).filterMap (fun x => (f x).get?) = ys
  | [], ys, h => ⟨fun x h => absurd h List.not_mem_nil, fun x h => absurd h List.not_mem_nil, by simpa using Rs.inj h⟩
  | x :: xs, ys, h => by
    obtain ⟨k, h1, h2⟩ := Rs.bind_ok h
    cases k with
    | false =>
      obtain ⟨i1, i2, i3⟩ := lcM_take (xs := xs) (ys := ys) h2
      refine ⟨fun z hz => ?_, fun z hz q => ?_, ?_⟩
      · rcases List.mem_cons.mp hz with e | e
        · subst e; rw [h1]; rfl
        · exact i1 z e
      · rcases List.mem_cons.mp hz with e | e
        · subst e; rw [h1] at q; cases q
        · exact i2 z e q
      · rw [List.filter_cons_of_neg (by simp [h1, Rs.isT])]; exact i3
    | true =>
      obtain ⟨y, h3, h4⟩ := Rs.bind_ok (show (f x).bind _ = _ from h2)
      obtain ⟨ys', h5, h6⟩ := Rs.bind_ok h4
      obtain ⟨i1, i2, i3⟩ := lcM_take (xs := xs) (ys := ys') h5
      refine ⟨fun z hz => ?_, fun z hz q => ?_, ?_⟩
      · rcases List.mem_cons.mp hz with e | e
        · subst e; rw [h1]; rfl
        · exact i1 z e
      · rcases List.mem_cons.mp hz with e | e
        · subst e; rw [h3]; exact ⟨y, rfl, rfl⟩
        · exact i2 z e q
      · rw [List.filter_cons_of_pos (by simp [h1, Rs.isT]), List.filterMap_cons, h3]
        have := Rs.inj h6
        rw [← this]
        exact congrArg _ i3
/-! ## the rules -/
section
variable {X : Cx} {S S' S1 S2 S3 : Sl} {e a b c : Expr} {es rest : List Expr} {O O' : OP} {d d1 d2 d3 : PyData} {pos p : Pos} {D : En} {st : Stmt} {sts body els : List Stmt} {k : Bool} {op : CmpOp}
theorem bv_wk {T : Sl} (w : Wk S T) (h : BV X T sts D) : BV X S sts D := fun Γ σ F H E s q => h Γ σ F H E (s.wk w) q
theorem ev_andM {x v : Bool} {M : Rs Bool} (ha : EV X S a (da x) S1) (hv : (if x = true then M else .ok false) = .ok v) (hb : x = true → M = .ok v → EV X S1 (.BoolOp .And (b :: rest) pos) (da v) S1) : EV X S (.BoolOp .And (a :: b :: rest) pos) (da v) S1 :=
  (ev_and (y := v) ha fun h => hb h (by rw [if_pos h] at hv; exact hv)).eqa (by
    cases x with
    | true => rfl
    | false => simpa using Rs.inj hv)
theorem ev_orM {x v : Bool} {M : Rs Bool} (ha : EV X S a (da x) S1) (hv : (if x = true then .ok true else M) = .ok v) (hb : x = false → M = .ok v → EV X S1 (.BoolOp .Or (b :: rest) pos) (da v) S1) : EV X S (.BoolOp .Or (a :: b :: rest) pos) (da v) S1 :=
  (ev_or (y := v) ha fun h => hb h (by rw [h] at hv; simpa using hv)).eqa (by
    cases x with
    | false => rfl
    | true => simpa using Rs.inj hv)
theorem ew_andM {x v : Bool} {M : Rs Bool} (ha : ET X S a x S1) (hv : (if x = true then M else .ok false) = .ok v) (hb : x = true → M = .ok v → EW X S1 (.BoolOp .And (b :: rest) pos) v S1) : EW X S (.BoolOp .And (a :: b :: rest) pos) v S1 := by
  have h := ew_and (y := v) ha fun h => hb h (by rw [if_pos h] at hv; exact hv)
  have e : (x && v) = v := by
    cases x with
    | true => rfl
    | false => simpa using Rs.inj hv
  rw [e] at h; exact h
theorem ew_orM {x v : Bool} {M : Rs Bool} (ha : ET X S a x S1) (hv : (if x = true then .ok true else M) = .ok v) (hb : x = false → M = .ok v → EW X S1 (.BoolOp .Or (b :: rest) pos) v S1) : EW X S (.BoolOp .Or (a :: b :: rest) pos) v S1 := by
  have h := ew_or (y := v) ha fun h => hb h (by rw [h] at hv; simpa using hv)
  have e : (x || v) = v := by
    cases x with
    | false => rfl
    | true => simpa using Rs.inj hv
  rw [e] at h; exact h
theorem ET.eqb {y : Bool} (h : ET X S e k S') (q : k = y) : ET X S e y S' := q ▸ h
theorem EW.eqb {y : Bool} (h : EW X S e k S') (q : k = y) : EW X S e y S' := q ▸ h
theorem ev_iteM {α : Type} [DecidableEq α] [Datum α] {v : α} {M N : Rs α} (hc : ET X S c k S1) (hv : (if k = true then M else N) = .ok v) (ha : k = true → M = .ok v → EV X S1 a (da v) S2) (hb : k = false → N = .ok v → EV X S1 b (da v) S2) : EV X S (.IfExp c a b pos) (da v) S2 :=
  ev_ite hc (fun h => ha h (by rw [if_pos h] at hv; exact hv)) (fun h => hb h (by rw [h] at hv; simpa using hv))
/-- for: each turn hands on -/
theorem sv_forM {tg iter : Expr} {α τ : Type} [DecidableEq α] [Datum α] {xs : List α} {ix : List Nat} (hc : X.calm = true) (hi : EI X S tg iter (xs.map Datum.toD) S1) (hp : PassesOwn (model X.prog X.w) X.A X.env X.xe) (b : α → τ → Rs τ) (t0 t1 : τ) (h : forM b xs t0 = .ok t1) (Sf : τ → Sl) (G : τ → α → Sl) (hS : S1 = Sf t0)
    (hg : ∀ t x, EG X (Sf t) tg (Datum.toD x) ix (G t x))
    (hb : ∀ t x t', x ∈ xs → b x t = .ok t' → BV X (G t x) body { nx := fun S' => Wk S' (Sf t'), ct := fun S' => Wk S' (Sf t'), bk := fun _ => False, rt := fun _ _ => False })
    (hd : D.nx (Sf t1)) (hs : ∀ x, foldedSetIterable iter X.env x = pure x := by intro _; rfl) : SV X S (.For tg iter body [] pos) D := by
  obtain ⟨f, e0, e1, hf⟩ := forM_take h
  have split : ∀ (i : Nat) (d : PyData), (xs.map Datum.toD)[i]? = some d → ∃ x, xs[i]? = some x ∧ d = Datum.toD x := fun i d h => by
    rw [List.getElem?_map] at h
    cases e : xs[i]? with
    | none => rw [e] at h; cases h
    | some x => rw [e] at h; exact ⟨x, rfl, by injection h with h; exact h.symm⟩
  refine sv_forG (ix := ix) hc hp hi (fun i => Sf (f i)) (fun i => match xs[i]? with | some x => G (f i) x | none => []) (fun _ => True) trivial (by rw [e0]; exact hS) (fun i d h _ => ?_) (fun i d h _ => ?_) (fun _ => ?_) hs
  · obtain ⟨x, e, rfl⟩ := split i d h
    simp only [e]
    exact hg _ x
  · obtain ⟨x, e, rfl⟩ := split i d h
    simp only [e]
    intro Γ σ F H E s q
    refine hb _ x _ (List.mem_of_getElem? e) (hf i x e) Γ σ F H E s ⟨fun S σ F H h1 h2 => q.nx S σ F H ⟨trivial, h1⟩ h2, fun _ _ _ _ _ _ _ h1 => h1.elim, fun _ _ _ _ h1 => h1.elim, fun S σ F H h1 h2 => q.ct S σ F H ⟨trivial, h1⟩ h2⟩
  · rw [List.length_map, e1]; exact hd
def runC {α τ ρ : Type} (b : α → τ → Rs (Ct τ ρ)) (xs : List α) (t0 : τ) : Nat → Option τ
  | 0 => some t0
  | i + 1 => match runC b xs t0 i, xs[i]? with
    | some t, some x => match b x t with
      | .ok (.nx t') => some t'
      | _ => none
    | _, _ => none
/-- the ways out of a turn that may return or break -/
def ctD {τ ρ : Type} (Sf : τ → Sl) (Rt : ρ → OP → Sl → Prop) (o : Ct τ ρ) : En := { nx := fun S' => ∃ t', o = .nx t' ∧ Wk S' (Sf t'), ct := fun S' => ∃ t', o = .nx t' ∧ Wk S' (Sf t'), bk := fun S' => ∃ t', o = .bk t' ∧ Wk S' (Sf t'), rt := fun O S' => ∃ r, o = .rt r ∧ Rt r O S' }
theorem sv_forC {tg iter : Expr} {α τ ρ : Type} [DecidableEq α] [Datum α] {xs : List α} {ix : List Nat} (hc : X.calm = true) (hi : EI X S tg iter (xs.map Datum.toD) S1) (hp : PassesOwn (model X.prog X.w) X.A X.env X.xe) (b : α → τ → Rs (Ct τ ρ)) (t0 : τ) (o : Ct τ ρ) (h : forC b xs t0 = .ok o) (Sf : τ → Sl) (G : τ → α → Sl) (Rt : ρ → OP → Sl → Prop) (hS : S1 = Sf t0)
    (hg : ∀ t x, EG X (Sf t) tg (Datum.toD x) ix (G t x))
    (hb : ∀ t x o', x ∈ xs → b x t = .ok o' → BV X (G t x) body (ctD Sf Rt o'))
    (hd : ∀ t S', o = .nx t → Wk S' (Sf t) → D.nx S') (hr : ∀ r O S', o = .rt r → Rt r O S' → D.rt O S') (hs : ∀ x, foldedSetIterable iter X.env x = pure x := by intro _; rfl) : SV X S (.For tg iter body [] pos) D := by
  have split : ∀ (i : Nat) (d : PyData), (xs.map Datum.toD)[i]? = some d → ∃ x, xs[i]? = some x ∧ d = Datum.toD x := fun i d h => by
    rw [List.getElem?_map] at h
    cases e : xs[i]? with
    | none => rw [e] at h; cases h
    | some x => rw [e] at h; exact ⟨x, rfl, by injection h with h; exact h.symm⟩
  have wr : ∀ S : Sl, Wk S S := fun S => Wk.refl S
  refine sv_forG (ix := ix) hc hp hi (fun i => match runC b xs t0 i with | some t => Sf t | none => []) (fun i => match runC b xs t0 i, xs[i]? with | some t, some x => G t x | _, _ => []) (fun i => ∃ t, runC b xs t0 i = some t ∧ forC b (xs.drop i) t = .ok o) ⟨t0, rfl, h⟩ hS (fun i d h hI => ?_) (fun i d h hI => ?_) (fun hI => ?_) hs
  · obtain ⟨x, e, rfl⟩ := split i d h
    obtain ⟨t, ht, _⟩ := hI
    simp only [e, ht]
    exact hg _ x
  · obtain ⟨x, e, rfl⟩ := split i d h
    obtain ⟨t, ht, hf⟩ := hI
    simp only [e, ht]
    have hx := List.mem_of_getElem? e
    have hdr : xs.drop i = x :: xs.drop (i + 1) := by
      obtain ⟨hi, e'⟩ := List.getElem?_eq_some_iff.mp e
      rw [← e', List.getElem_cons_drop]
    rw [hdr] at hf
    obtain ⟨o', h1, h2⟩ := Rs.bind_ok hf
    have step : ∀ t', o' = .nx t' → runC b xs t0 (i + 1) = some t' := fun t' q => by
      show (match runC b xs t0 i, xs[i]? with | some t, some x => (match b x t with | .ok (.nx t') => some t' | _ => none) | _, _ => none) = some t'
      rw [ht, e]
      simp only [h1, q]
    intro Γ σ F H E s q
    refine hb t x o' hx h1 Γ σ F H E s ⟨fun S σ F H ⟨t', e1, w⟩ h2' => ?_, fun O S σ v fp F H ⟨r, e1, w⟩ h2' p' => ?_, fun S σ F H ⟨t', e1, w⟩ h2' => ?_, fun S σ F H ⟨t', e1, w⟩ h2' => ?_⟩
    · subst e1
      refine q.nx S σ F H ⟨⟨t', step t' rfl, h2⟩, ?_⟩ h2'
      simp only [step t' rfl]; exact w
    · subst e1
      refine q.rt O S σ v fp F H (hr r O S ?_ w) h2' p'
      exact (Rs.inj h2).symm
    · subst e1
      exact q.bk S σ F H (hd t' S (Rs.inj h2).symm w) h2'
    · subst e1
      refine q.ct S σ F H ⟨⟨t', step t' rfl, h2⟩, ?_⟩ h2'
      simp only [step t' rfl]; exact w
  · obtain ⟨t, ht, hf⟩ := hI
    rw [List.length_map] at ht hf ⊢
    rw [List.drop_length] at hf
    simp only [ht]
    exact hd t _ (Rs.inj hf).symm (wr _)
/-- while -/
theorem sv_whM {τ : Type} (hp : PassesOwn (model X.prog X.w) X.A X.env X.xe) (cn : τ → Rs Bool) (b : τ → Rs τ) (n : Nat) (t0 t1 : τ) (h : whM cn b n t0 = .ok t1) (Sf : τ → Sl) (hS : Wk S (Sf t0)) (hc : ∀ t k, cn t = .ok k → ET X (Sf t) c k (Sf t))
    (hb : ∀ t t', cn t = .ok true → b t = .ok t' → BV X (Sf t) body { nx := fun S' => Wk S' (Sf t'), ct := fun S' => Wk S' (Sf t'), bk := fun _ => False, rt := fun _ _ => False })
    (hd : D.nx (Sf t1)) : SV X S (.While c body [] pos) D := by
  refine sv_while (τ := Nat × τ) hp (fun q => Sf q.2) (fun q => whM cn b q.1 q.2 = .ok t1) (fun q => q.1) (fun q => match cn q.2 with | .ok k => k | _ => false) (n, t0) h hS (fun q hq => ?_) (fun q hq hk => ?_) (fun q hq hk => ?_)
  · obtain ⟨m, t⟩ := q
    cases m with
    | zero => cases hq
    | succ m =>
      obtain ⟨k, h1, _⟩ := Rs.bind_ok hq
      have := hc t k h1
      simp only [h1]; exact this
  · obtain ⟨m, t⟩ := q
    cases m with
    | zero => cases hq
    | succ m =>
      obtain ⟨k, h1, h2⟩ := Rs.bind_ok hq
      simp only [h1] at hk
      subst hk
      obtain ⟨t', h3, h4⟩ := Rs.bind_ok (by simpa using h2)
      intro Γ σ F H E s q
      refine hb t t' h1 h3 Γ σ F H E s ⟨fun S σ F H w h' => q.nx S σ F H ⟨(m, t'), h4, Nat.lt_succ_self m, w⟩ h', fun _ _ _ _ _ _ _ h1 => h1.elim, fun _ _ _ _ h1 => h1.elim, fun S σ F H w h' => q.ct S σ F H ⟨(m, t'), h4, Nat.lt_succ_self m, w⟩ h'⟩
  · obtain ⟨m, t⟩ := q
    cases m with
    | zero => cases hq
    | succ m =>
      obtain ⟨k, h1, h2⟩ := Rs.bind_ok hq
      simp only [h1] at hk
      subst hk
      have : t = t1 := by simpa using h2
      subst this
      exact hd
theorem sv_whC {τ ρ : Type} (hp : PassesOwn (model X.prog X.w) X.A X.env X.xe) (cn : τ → Rs Bool) (b : τ → Rs (Ct τ ρ)) (n : Nat) (t0 : τ) (o : Ct τ ρ) (h : whC cn b n t0 = .ok o) (Sf : τ → Sl) (Rt : ρ → OP → Sl → Prop) (hS : Wk S (Sf t0)) (hc : ∀ t k, cn t = .ok k → ET X (Sf t) c k (Sf t))
    (hb : ∀ t o', cn t = .ok true → b t = .ok o' → BV X (Sf t) body (ctD Sf Rt o'))
    (hd : ∀ t S', o = .nx t → Wk S' (Sf t) → D.nx S') (hr : ∀ r O S', o = .rt r → Rt r O S' → D.rt O S') : SV X S (.While c body [] pos) D := by
  refine sv_while (τ := Nat × τ) hp (fun q => Sf q.2) (fun q => whC cn b q.1 q.2 = .ok o) (fun q => q.1) (fun q => match cn q.2 with | .ok k => k | _ => false) (n, t0) h hS (fun q hq => ?_) (fun q hq hk => ?_) (fun q hq hk => ?_)
  · obtain ⟨m, t⟩ := q
    cases m with
    | zero => cases hq
    | succ m =>
      obtain ⟨k, h1, _⟩ := Rs.bind_ok hq
      have := hc t k h1
      simp only [h1]; exact this
  · obtain ⟨m, t⟩ := q
    cases m with
    | zero => cases hq
    | succ m =>
      obtain ⟨k, h1, h2⟩ := Rs.bind_ok hq
      simp only [h1] at hk
      subst hk
      obtain ⟨o', h3, h4⟩ := Rs.bind_ok (by simpa using h2)
      intro Γ σ F H E s q
      refine hb t o' h1 h3 Γ σ F H E s ⟨fun S σ F H ⟨t', e1, w⟩ h' => ?_, fun O S σ v fp F H ⟨r, e1, w⟩ h2' p' => ?_, fun S σ F H ⟨t', e1, w⟩ h' => ?_, fun S σ F H ⟨t', e1, w⟩ h' => ?_⟩
      · subst e1; exact q.nx S σ F H ⟨(m, t'), h4, Nat.lt_succ_self m, w⟩ h'
      · subst e1; exact q.rt O S σ v fp F H (hr r O S (Rs.inj h4).symm w) h2' p'
      · subst e1; exact q.bk S σ F H (hd t' S (Rs.inj h4).symm w) h'
      · subst e1; exact q.ct S σ F H ⟨(m, t'), h4, Nat.lt_succ_self m, w⟩ h'
  · obtain ⟨m, t⟩ := q
    cases m with
    | zero => cases hq
    | succ m =>
      obtain ⟨k, h1, h2⟩ := Rs.bind_ok hq
      simp only [h1] at hk
      subst hk
      have : Ct.nx t = o := by simpa using h2
      exact hd t _ this.symm (Wk.refl _)
section
variable {α β : Type} [DecidableEq α] [Datum α] [DecidableEq β] [Datum β]
theorem ev_lcM {γ : Type} {elt tg iter : Expr} {ifs : List Expr} {scope : Scope} (own : List (Str × Nat)) {xs : List γ} {enc : γ → PyData} {ix : List Nat} (cn : γ → Rs Bool) (f : γ → Rs β) {ys : List β} (h : lcM cn f xs = .ok ys) (G : γ → Sl) (hc : X.calm = true) (hN : X.N.Nodup) (hi : EI X S tg iter (xs.map enc) S1) (ok : BlkOk X.N X.env.scope scope own) (hz : xs.length ≤ sizeLine)
    (hn : ∀ i ∈ own.map (·.2), ∀ O, S1[i]? ≠ some (some O)) (hx : ∀ i ∈ ix, i ∈ own.map (·.2))
    (hg : ∀ x, x ∈ xs → Blk X scope fun X' => EG X' S1 tg (enc x) ix (G x))
    (ht : ∀ x k, x ∈ xs → cn x = .ok k → Blk X scope fun X' => ETs X' (G x) ifs k (G x))
    (he : ∀ x y, x ∈ xs → cn x = .ok true → f x = .ok y → Blk X scope fun X' => EV X' (G x) elt (da y) (G x))
    (hw : ∀ x, Wk (G x) S1)
    (hs : ∀ x, foldedSetIterable iter X.env x = pure x := by intro _; rfl) : LCV X S (.ListComp elt [⟨tg, iter, ifs, 0⟩] scope pos) (la ys) S1 := by
  obtain ⟨h1, h2, h3⟩ := lcM_take h
  let c' : γ → Bool := fun x => (cn x).isT
  let f' : γ → Option β := fun x => (f x).get?
  have h1 : ∀ x, x ∈ xs → cn x = .ok (c' x) := h1
  have h2 : ∀ x, x ∈ xs → c' x = true → ∃ y, f' x = some y ∧ f x = .ok y := h2
  have h3 : (xs.filter c').filterMap f' = ys := h3
  cases hy : xs.filter c' with
  | nil =>
    -- no item is taken
    rw [hy] at h3
    have e : ys = [] := h3.symm
    subst e
    by_cases hb : Nonempty β
    · obtain ⟨y0⟩ := hb
      refine (ev_lcF own c' (fun _ => y0) G hc hN hi ok hz hn hx hg (fun x hx => ht x _ hx (h1 x hx)) (fun x hx q => ?_) hw hs).eq (by rw [hy]; rfl)
      have : x ∈ xs.filter c' := List.mem_filter.mpr ⟨hx, q⟩
      rw [hy] at this; exact absurd this List.not_mem_nil
    · refine (ev_lcF (β := Unit) own c' (fun _ => ()) G hc hN hi ok hz hn hx hg (fun x hx => ht x _ hx (h1 x hx)) (fun x hx q => ?_) hw hs).eq (by rw [hy]; rfl)
      have : x ∈ xs.filter c' := List.mem_filter.mpr ⟨hx, q⟩
      rw [hy] at this; exact absurd this List.not_mem_nil
  | cons x0 r =>
    have hx0 := List.mem_filter.mp (show x0 ∈ xs.filter c' by rw [hy]; simp)
    obtain ⟨y0, hy0, _⟩ := h2 x0 hx0.1 hx0.2
    have e : (xs.filter c').map (fun x => (f' x).getD y0) = ys := by
      rw [← h3]
      have : ∀ l : List γ, (∀ x ∈ l, ∃ y, f' x = some y) → l.map (fun x => (f' x).getD y0) = l.filterMap f' := fun l => by
        induction l with
        | nil => intro _; rfl
        | cons z l ih =>
          intro q
          obtain ⟨y, hy⟩ := q z (by simp)
          rw [List.map_cons, List.filterMap_cons, hy, ih fun x hx => q x (List.mem_cons_of_mem _ hx)]
          rfl
      exact this _ fun x hx => by
        obtain ⟨m1, m2⟩ := List.mem_filter.mp hx
        obtain ⟨y, e1, _⟩ := h2 x m1 m2
        exact ⟨y, e1⟩
    refine (ev_lcF own c' (fun x => (f' x).getD y0) G hc hN hi ok hz hn hx hg (fun x hx => ht x _ hx (h1 x hx)) (fun x hx q => ?_) hw hs).eq (by rw [e])
    obtain ⟨y, e1, e2⟩ := h2 x hx q
    rw [e1]
    exact he x y hx (by rw [h1 x hx, q]) e2
theorem lcN_take {γ : Type} {f : γ → Nat → Rs (β × Nat)} : ∀ {xs : List γ} {n : Nat} {ys : List β} {n' : Nat}, lcN f xs n = .ok (ys, n') → ∃ (t : Nat → Nat) (y : Nat → PyData), t 0 = n ∧ t xs.length = n' ∧ (∀ i x, xs[i]? = some x → ∃ z, y i = Datum.toD z ∧ f x (t i) = .ok (z, t (i + 1))) ∧ accN (fun _ => true) y xs.length = ys.map Datum.toD := fun {xs} => by
  have acc : ∀ (y : Nat → PyData) (m : Nat), accN (fun _ => true) y m = (List.range m).map y := fun y m => by
    induction m with
    | zero => rfl
    | succ m ih => unfold accN; rw [if_pos rfl, ih, List.range_succ, List.map_append]; rfl
  induction xs with
  | nil =>
    intro n ys n' h
    have e := Rs.inj h
    injection e with e1 e2
    subst e1 e2
    exact ⟨fun _ => n, fun _ => .none, rfl, rfl, fun i x e => by simp at e, rfl⟩
  | cons x xs ih =>
    intro n ys n' h
    obtain ⟨⟨y0, n1⟩, h1, h2⟩ := Rs.bind_ok h
    obtain ⟨⟨ys', n2⟩, h3, h4⟩ := Rs.bind_ok h2
    have e := Rs.inj h4
    injection e with e1 e2
    subst e1 e2
    obtain ⟨t, y, t0, tl, hs, ha⟩ := ih h3
    refine ⟨fun i => match i with | 0 => n | i + 1 => t i, fun i => match i with | 0 => Datum.toD y0 | i + 1 => y i, rfl, tl, fun i z e => ?_, ?_⟩
    · cases i with
      | zero =>
        simp at e; subst e
        exact ⟨y0, rfl, by show f x n = .ok (y0, t 0); rw [t0]; exact h1⟩
      | succ i => exact hs i z (by simpa using e)
    · rw [acc] at ha ⊢
      rw [List.length_cons, List.range_succ_eq_map, List.map_cons, List.map_map, List.map_cons, ← ha]
      rfl
/-- [elt for tg in iter], each item draws -/
theorem ev_lcN {γ : Type} {elt tg iter : Expr} {scope : Scope} (own : List (Str × Nat)) {xs : List γ} {enc : γ → PyData} {ix : List Nat} (f : γ → Nat → Rs (β × Nat)) {n n' : Nat} {ys : List β} (h : lcN f xs n = .ok (ys, n')) (Sf : Nat → Sl) (G : Nat → γ → Sl) (hc : X.calm = true) (hN : X.N.Nodup) (hi : EI X S tg iter (xs.map enc) S1) (hS : S1 = Sf n) (ok : BlkOk X.N X.env.scope scope own) (hz : xs.length ≤ sizeLine)
    (hn : ∀ n, ∀ i ∈ own.map (·.2), ∀ O, (Sf n)[i]? ≠ some (some O)) (hx : ∀ i ∈ ix, i ∈ own.map (·.2))
    (hg : ∀ n x, Blk X scope fun X' => EG X' (Sf n) tg (enc x) ix (G n x))
    (he : ∀ n x y n1, x ∈ xs → f x n = .ok (y, n1) → Blk X scope fun X' => ∃ T, EV X' (G n x) elt (da y) T ∧ Wk T (Sf n1))
    (hs : ∀ x, foldedSetIterable iter X.env x = pure x := by intro _; rfl) : LCV X S (.ListComp elt [⟨tg, iter, [], 0⟩] scope pos) (la ys) (Sf n') := by
  obtain ⟨t, y, t0, tl, hst, ha⟩ := lcN_take h
  have hd : ∀ (j : Nat) (d : PyData), (xs.map enc)[j]? = some d → ∃ x, xs[j]? = some x ∧ d = enc x ∧ x ∈ xs := fun j d h => by
    rw [List.getElem?_map] at h
    cases e : xs[j]? with
    | none => rw [e] at h; cases h
    | some x => rw [e] at h; exact ⟨x, rfl, by injection h with h; exact h.symm, List.mem_of_getElem? e⟩
  have key := ev_lcG (elt := elt) (ifs := []) (pos := pos) own hc hN hi ok (by rw [List.length_map]; exact hz) (fun j => Sf (t j)) (fun j => match xs[j]? with | some x => G (t j) x | none => []) (fun j => true)
    y (by rw [t0]; exact hS) (fun j _ => hn _) hx
    (fun j d h => by obtain ⟨x, e, rfl, m⟩ := hd j d h; simp only [e]; exact hg _ x)
    (fun j d h s H C cl fp => ets_nil)
    (fun j d h q s H C cl fp => by
      obtain ⟨x, e, rfl, m⟩ := hd j d h
      obtain ⟨z, e1, e2⟩ := hst j x e
      simp only [e]
      rw [e1]
      exact he _ x z _ m e2 s H C cl fp)
    (fun j d h z => by cases z) hs
  rw [List.length_map, ha, tl] at key
  exact key
end
end
/-! ## mathematics of the loops -/
theorem forM_inv {α τ : Type} {b : α → τ → Rs τ} (I : Nat → τ → Prop) : ∀ {xs : List α} {t0 : τ}, I 0 t0 → (∀ i x t, xs[i]? = some x → I i t → ∃ t', b x t = .ok t' ∧ I (i + 1) t') → ∃ t1, forM b xs t0 = .ok t1 ∧ I xs.length t1 := fun {xs t0} h0 hs => by
  induction xs generalizing t0 I with
  | nil => exact ⟨t0, rfl, h0⟩
  | cons x xs ih =>
    obtain ⟨t', h1, h2⟩ := hs 0 x t0 rfl h0
    obtain ⟨t1, h3, h4⟩ := ih (fun i t => I (i + 1) t) h2 fun i y t e hi => hs (i + 1) y t (by simpa using e) hi
    exact ⟨t1, (Rs.bind_of h1).trans h3, h4⟩
theorem forM_pure {α τ : Type} {b : α → τ → Rs τ} (f : τ → α → τ) (xs : List α) (t0 : τ) (h : ∀ x t, x ∈ xs → b x t = .ok (f t x)) : forM b xs t0 = .ok (xs.foldl f t0) := by
  induction xs generalizing t0 with
  | nil => rfl
  | cons x xs ih =>
    show (b x t0).bind _ = _
    rw [h x t0 (by simp)]
    exact ih _ fun y t hy => h y t (List.mem_cons_of_mem _ hy)
theorem whM_inv {τ : Type} {c : τ → Rs Bool} {b : τ → Rs τ} (I : τ → Prop) (μ : τ → Nat) : ∀ {n : Nat} {t0 : τ}, I t0 → μ t0 < n → (∀ t, I t → ∃ k, c t = .ok k ∧ (k = true → ∃ t', b t = .ok t' ∧ I t' ∧ μ t' < μ t)) → ∃ t1, whM c b n t0 = .ok t1 ∧ I t1 ∧ c t1 = .ok false := fun {n} => by
  induction n with
  | zero => intro t0 _ h; omega
  | succ n ih =>
    intro t0 h0 hm hs
    obtain ⟨k, h1, h2⟩ := hs t0 h0
    cases k with
    | false => exact ⟨t0, (Rs.bind_of h1).trans rfl, h0, h1⟩
    | true =>
      obtain ⟨t', h3, h4, h5⟩ := h2 rfl
      obtain ⟨t1, h6, h7⟩ := ih h4 (by omega) hs
      refine ⟨t1, (Rs.bind_of h1).trans ?_, h7⟩
      show (b t0).bind _ = _
      exact (Rs.bind_of h3).trans h6
theorem lcM_pure {α β : Type} {c : α → Rs Bool} {f : α → Rs β} (c' : α → Bool) (f' : α → β) : ∀ {xs : List α}, (∀ x, x ∈ xs → c x = .ok (c' x)) → (∀ x, x ∈ xs → c' x = true → f x = .ok (f' x)) → lcM c f xs = .ok ((xs.filter c').map f')
  | [], _, _ => rfl
  | x :: xs, h1, h2 => by
    have ih := lcM_pure c' f' (xs := xs) (fun z hz => h1 z (List.mem_cons_of_mem _ hz)) (fun z hz => h2 z (List.mem_cons_of_mem _ hz))
    show (c x).bind _ = _
    rw [h1 x (by simp)]
    cases q : c' x with
    | false => rw [List.filter_cons_of_neg (by simp [q])]; exact ih
    | true =>
      rw [List.filter_cons_of_pos q]
      show (f x).bind _ = _
      rw [h2 x (by simp) q, ih]; rfl
theorem lcM_map {α β : Type} {f : α → Rs β} (f' : α → β) {xs : List α} (h : ∀ x, x ∈ xs → f x = .ok (f' x)) : lcM (fun _ => .ok true) f xs = .ok (xs.map f') := by
  rw [lcM_pure (fun _ => true) f' (fun _ _ => rfl) fun x hx _ => h x hx, List.filter_eq_self.mpr fun _ _ => rfl]
theorem forC_inv {α τ ρ : Type} {b : α → τ → Rs (Ct τ ρ)} (I : Nat → τ → Prop) (R : ρ → Prop) : ∀ {xs : List α} {t0 : τ}, I 0 t0 → (∀ i x t, xs[i]? = some x → I i t → (∃ t', b x t = .ok (.nx t') ∧ I (i + 1) t') ∨ ∃ r, b x t = .ok (.rt r) ∧ R r) → (∃ t1, forC b xs t0 = .ok (.nx t1) ∧ I xs.length t1) ∨ ∃ r, forC b xs t0 = .ok (.rt r) ∧ R r := fun {xs t0} h0 hs => by
  induction xs generalizing t0 I with
  | nil => exact .inl ⟨t0, rfl, h0⟩
  | cons x xs ih =>
    rcases hs 0 x t0 rfl h0 with ⟨t', h1, h2⟩ | ⟨r, h1, h2⟩
    · rcases ih (fun i t => I (i + 1) t) h2 fun i y t e hi => hs (i + 1) y t (by simpa using e) hi with ⟨t1, h3, h4⟩ | ⟨r, h3, h4⟩
      · exact .inl ⟨t1, (Rs.bind_of h1).trans h3, h4⟩
      · exact .inr ⟨r, (Rs.bind_of h1).trans h3, h4⟩
    · exact .inr ⟨r, Rs.bind_of h1, h2⟩
end Ev

namespace Ev
open PySem L2
open PySem.W (Datum Tup T3 T4 Holds HoldAll DatumOrd EachIs)
variable [Tb]
/-! # sets -/
section
open PySem.Spec PyProof.Rows
variable {P : Program} {w : World} {A : Around} {E : Value → Shared → Prop} {s : Shared}
abbrev noSet (w : World) : Obj := { cls := .type "set", dict := none, data := .set #[] 0 (.fresh 0 0 (!w.params.followText "set-order")) }
set_option maxHeartbeats 3200000 in
/-- set(xs), xs a list of ints: with what sorted asks -/
theorem call_setL {l : Addr} {its : Array Value} (ns : List Int) {Q : Value → Shared → Prop} (hh : A.handled = none) (hl : s.heap.IsList l its) (hi : IntsAre its.toList ns) (hb : ns.length + 1 < scanBound)
    (fin : ∀ (h' : Heap) (tk c : Nat), SetR w h' s.heap.objs.size (fun j => decide (j ∈ ns)) c → c ≤ ns.length → (∀ b o, s.heap.get? b = some o → h'.get? b = some o) → Q (.ref s.heap.objs.size) { s with heap := h', toks := tk }) :
    wpAny (model P w) A (call (.type "set") [.ref l]) Q E s := by
  have hz : its.size = ns.length := by have q := IntsAre.length hi; rw [Array.length_toList] at q; exact q
  obtain ⟨cc, rs, hmro⟩ := F.called_set.mro
  have a1 := F.called_set.made; have a2 := F.called_set.sub; have a3 := F.called_set.notType; have a4 := F.called_set.canCreate; have a5 := F.typeCall_set_1 (.ref l)
  refine wpAny_call (codeAny_of_tree ?_); show wpAny _ _ (callAny (.type "set") _) _ _ _
  refine wpAny_pure ⟨Code.quiet_builtin _ (by decide +kernel), codeAny_builtin F.entry_type_call ?_⟩; rw [Around.under_plain (weight_type_call_type "set" [.ref l] []) rfl]
  repeat (any_goals (first | assumption | wp_step))
  refine codeAny_mono (code_set_led1 (.ref l) (E := E) (Q₁ := fun obj t => obj = .ref s.heap.objs.size ∧ t = { s with heap := s.heap.push (noSet w) }) ⟨rfl, rfl⟩) fun r t hr => ?_
  cases r with
  | error e => exact hr
  | ok fl =>
    cases fl with
    | ret obj =>
      obtain ⟨rfl, rfl⟩ := hr
      have gS : (s.heap.push (noSet w)).get? s.heap.objs.size = some (noSet w) := Heap.get?_push_size _ rfl
      have tS : Shared.TypeIs { s with heap := s.heap.push (noSet w) } (.ref s.heap.objs.size) "set" := ⟨_, gS, rfl⟩
      have b1 := F.called_set.init.lookup; have b2 := F.called_set.init.bind (.ref s.heap.objs.size)
      repeat (any_goals (first | assumption | wp_step))
      refine codeAny_mono (codeAny_call_builtin (R := wants (fun r t => r = .none ∧ ∃ h' tk c, t = { s with heap := h', toks := tk } ∧ SetR w h' s.heap.objs.size (fun j => decide (j ∈ ns)) c ∧ c ≤ ns.length ∧
          (∀ b o, s.heap.get? b = some o → h'.get? b = some o)) E) F.called_set.init.plain F.entry_set_init (check_set_init_1 tS ?_)) fun r2 t2 hr2 => ?_
      · obtain ⟨⟨kc, kd, kdata, ks⟩, hol, hcl, nl, hdl⟩ := hl
        simp only at hcl hdl; subst hcl; subst hdl
        have gL : (s.heap.push (noSet w)).get? l = some { cls := .type "list", dict := kd, data := .seq its nl, slots := ks } := Heap.get?_push_of_some _ hol
        have c1 := F.sub_list_set; have c2 := F.sub_list_frozenset; have c3 : (Value.type "list" == Value.type "dict") = false := by decide
        have iL : (s.heap.push (noSet w)).IsList l its := ⟨_, gL, rfl, nl, rfl⟩
        unfold Builtin.«set.__init__» noKeywords Builtin.Frozenset.updateFrom
        generalize hPI : pyIter = PI
        wp_walk
        subst hPI
        refine wpAny_pyIter_list iL (wpAny_bind (wpAny_runValue ?_))
        have lt1 : l < s.heap.objs.size := Heap.lt_size hol
        have h3 : A.in1.in1.in1.handled = none := by simp [hh]
        have n1 : l ≠ (s.heap.push (noSet w)).objs.size := by rw [Heap.size_push]; exact Nat.ne_of_lt (Nat.lt_succ_of_lt lt1)
        have n2 : s.heap.objs.size ∉ [(s.heap.push (noSet w)).objs.size, l] := by
          rw [Heap.size_push]; simp only [List.mem_cons, List.not_mem_nil, or_false, not_or]; exact ⟨Nat.ne_of_lt (Nat.lt_succ_self _), Nat.ne_of_gt lt1⟩
        have hv : ∀ (i : Nat) (v : Value), its[i]? = some v → ∃ k t, ns[i]? = some k ∧ v = .int k t := fun i v hv => by
          have hi' : i < ns.length := by rw [← hz]; exact (Array.getElem?_eq_some_iff.mp hv).1
          obtain ⟨t, e⟩ := IntsAre.int_at hi i v (by rw [Array.getElem?_toList]; exact hv)
          exact ⟨ns[i], t, List.getElem?_eq_getElem hi', by rw [e, List.getD_eq_getElem?_getD, List.getElem?_eq_getElem hi'] <;> rfl⟩
        refine set_update_ints ((Walks.list h3 _ l n1 its).toS) s.heap.objs.size n2 ns hz hb hv (its.size - 0) 0 _ (by omega) (Nat.zero_le _) ⟨⟨_, Heap.get?_push_size _ rfl, rfl, rfl⟩, (iL.push _)⟩ ?k1 ?k2
        case k1 => exact ⟨0, Nat.le_refl 0, setR_new_at (Heap.get?_push_of_some _ gS)⟩
        case k2 =>
          intro t c' hm hc' hS
          obtain ⟨h', g2, d', tk', os'⟩ := t
          have e1 : g2 = s.gens := hm.gens
          have e2 : d' = s.drawn := hm.drawn
          have e3 : os' = s.os := hm.os
          subst e1 e2 e3
          show wpAny _ _ _ _ _ _
          refine wpAny_pure ?_
          show wpAny _ _ (ret Value.none) _ _ _
          rw [hz] at hc'
          refine wpAny_pure ⟨rfl, h', tk', c', rfl, hS, hc', fun b o e => ?_⟩
          have m0 : b < s.heap.objs.size := Heap.lt_size e
          refine hm.heap b o ?_ (Heap.get?_push_of_some _ (Heap.get?_push_of_some _ e))
          rw [Heap.size_push]; simp only [List.mem_cons, List.not_mem_nil, or_false, not_or]; exact ⟨Nat.ne_of_lt m0, Nat.ne_of_lt (Nat.lt_succ_of_lt m0)⟩
      · cases r2 with
        | error e => exact hr2
        | ok f2 =>
          cases f2 with
          | ret r =>
            obtain ⟨rfl, h', tk, c, rfl, q1, q2, q3⟩ := hr2
            repeat (any_goals (first | assumption | wp_step))
            exact fin _ _ _ q1 q2 q3
          | _ => exact hr2.elim
    | _ => exact hr.elim
end
section
variable {X : Cx} {S S' S1 S2 S3 : Sl} {e a b c o i : Expr} {es rest : List Expr} {O O1 O2 : OP} {d d1 d2 d3 : PyData} {pos p apos : Pos} {D : En} {n : Nat}
/-- set(xs) of ints -/
def rSetL (K : PySem.W.Frag) (w : World) : List V → Hp → VK → Prop := fun xs H Q => ∃ (l : Addr) (ns : List Int), xs = [V.ref l] ∧ SqL K H l (ns.map V.int) ∧ ns.length < 64 ∧
  ∀ a c, H a = none → c ≤ ns.length → Q (.ref a) (upd H a (SetO w a (fun j => decide (j ∈ ns)) c))
open PySem.Spec PyProof.Rows in
theorem cr_setL (hc : X.calm = true) : CallR X (.type "set") (rSetL X.K X.w) := by
  intro pins s σ H xs us Q I r h
  obtain ⟨l, ns, rfl, hl, hz, q⟩ := h
  rw [Vals.ref1 r]
  obtain ⟨its, rv, pl, _⟩ := I.list hl
  have hn : H s.heap.objs.size = none := I.hok.fresh (Nat.le_refl _)
  exact call_setL ns (I.ok.hd hc) pl.isList (by simpa using rv.ints) (by unfold scanBound; omega) fun h' tk c R hc' k => ⟨.ref s.heap.objs.size, _, I.laid (t' := tk) k (Nat.le_refl _) (setO_new R), rfl, q _ c hn hc'⟩
end
end Ev

namespace Ev
open PySem L2
open PySem.W (Datum Tup T3 T4 Holds HoldAll DatumOrd EachIs)
variable [Tb]
/-! # sorted(set(..)) -/
def insS {α : Type} [DecidableEq α] (lt : α → α → Bool) (x : α) : List α → List α
  | [] => [x]
  | y :: ys => if x = y then y :: ys else if lt x y = true then x :: y :: ys else y :: insS lt x ys
def sortS {α : Type} [DecidableEq α] (lt : α → α → Bool) (xs : List α) : List α := xs.foldr (insS lt) []
section
variable {α : Type} [DecidableEq α] {lt : α → α → Bool}
theorem mem_insS {x z : α} : ∀ {ys : List α}, z ∈ insS lt x ys ↔ z = x ∨ z ∈ ys
  | [] => by simp [insS]
  | y :: ys => by
    unfold insS
    split
    · rename_i e; subst e; simp
    · split
      · simp
      · rw [List.mem_cons, mem_insS (ys := ys), List.mem_cons]
        constructor
        · rintro (h | h | h)
          · exact .inr (.inl h)
          · exact .inl h
          · exact .inr (.inr h)
        · rintro (h | h | h)
          · exact .inr (.inl h)
          · exact .inl h
          · exact .inr (.inr h)
theorem mem_sortS {z : α} : ∀ {xs : List α}, z ∈ sortS lt xs ↔ z ∈ xs
  | [] => by simp [sortS]
  | x :: xs => by
    show z ∈ insS lt x (sortS lt xs) ↔ _
    rw [mem_insS, mem_sortS, List.mem_cons]
structure Tri (lt : α → α → Bool) : Prop where
  tri : ∀ a b, ¬ a = b → lt a b = false → lt b a = true
  tr : ∀ a b c, lt a b = true → lt b c = true → lt a c = true
  ir : ∀ a, lt a a = false
theorem insS_sorted (o : Tri lt) (x : α) : ∀ {ys : List α}, ys.Pairwise (fun a b => lt a b = true) → (insS lt x ys).Pairwise (fun a b => lt a b = true)
  | [], _ => by simp [insS]
  | y :: ys, h => by
    obtain ⟨h1, h2⟩ := List.pairwise_cons.mp h
    unfold insS
    split
    · exact h
    · rename_i ne
      split
      · rename_i l
        refine List.pairwise_cons.mpr ⟨fun z hz => ?_, h⟩
        rcases List.mem_cons.mp hz with e | e
        · subst e; exact l
        · exact o.tr _ _ _ l (h1 z e)
      · rename_i l
        refine List.pairwise_cons.mpr ⟨fun z hz => ?_, insS_sorted o x h2⟩
        rcases mem_insS.mp hz with e | e
        · subst e; exact o.tri _ _ ne (by simpa using l)
        · exact h1 z e
theorem sortS_sorted (o : Tri lt) : ∀ xs : List α, (sortS lt xs).Pairwise (fun a b => lt a b = true)
  | [] => List.Pairwise.nil
  | x :: xs => insS_sorted o x (sortS_sorted o xs)
theorem strict_ext (o : Tri lt) : ∀ {xs ys : List α}, xs.Pairwise (fun a b => lt a b = true) → ys.Pairwise (fun a b => lt a b = true) → (∀ z, z ∈ xs ↔ z ∈ ys) → xs = ys
  | [], [], _, _, _ => rfl
  | [], y :: ys, _, _, h => absurd ((h y).mpr (by simp)) List.not_mem_nil
  | x :: xs, [], _, _, h => absurd ((h x).mp (by simp)) List.not_mem_nil
  | x :: xs, y :: ys, hx, hy, h => by
    obtain ⟨x1, x2⟩ := List.pairwise_cons.mp hx
    obtain ⟨y1, y2⟩ := List.pairwise_cons.mp hy
    have no : ∀ a b, lt a b = true → lt b a = true → False := fun a b h1 h2 => by
      have := o.tr _ _ _ h1 h2
      rw [o.ir] at this; cases this
    have e : x = y := by
      rcases List.mem_cons.mp ((h x).mp (by simp)) with q | q
      · exact q
      · rcases List.mem_cons.mp ((h y).mpr (by simp)) with r | r
        · exact r.symm
        · exact (no _ _ (x1 y r) (y1 x q)).elim
    subst e
    rw [strict_ext o x2 y2 fun z => ?_]
    have := h z
    constructor
    · intro m
      rcases List.mem_cons.mp (this.mp (List.mem_cons_of_mem _ m)) with q | q
      · subst q; have := x1 _ m; rw [o.ir] at this; cases this
      · exact q
    · intro m
      rcases List.mem_cons.mp (this.mpr (List.mem_cons_of_mem _ m)) with q | q
      · subst q; have := y1 _ m; rw [o.ir] at this; cases this
      · exact q
end
def ltI (a b : Int) : Bool := decide (a < b)
theorem tri_int : Tri ltI := ⟨fun a b h1 h2 => by unfold ltI at *; simp at *; omega, fun a b c h1 h2 => by unfold ltI at *; simp at *; omega, fun a => by unfold ltI; simp⟩
def ltC (a b : Cell) : Bool := decide (a.1 < b.1) || (decide (a.1 = b.1) && decide (a.2 < b.2))
theorem ltC_iff {a b : Cell} : ltC a b = true ↔ CLt a b := by unfold ltC CLt; simp
theorem tri_cell : Tri ltC := ⟨fun a b h1 h2 => by
    rw [ltC_iff]
    have : ¬ CLt a b := fun z => by rw [ltC_iff.mpr z] at h2; cases h2
    unfold CLt at *
    have h3 : ¬ (a.1 = b.1 ∧ a.2 = b.2) := fun z => h1 (Prod.ext z.1 z.2)
    omega, fun a b c h1 h2 => by
    rw [ltC_iff] at *
    unfold CLt at *; omega, fun a => by
    cases h : ltC a a with
    | false => rfl
    | true => rw [ltC_iff] at h; unfold CLt at h; omega⟩
abbrev sortSetI (ns : List Int) : List Int := sortS ltI ns
abbrev sortSetC (cs : List Cell) : List Cell := sortS ltC cs
section
variable {X : Cx} {S S' S1 S2 S3 : Sl} {e a b c o i : Expr} {es rest : List Expr} {O O1 O2 : OP} {d d1 d2 d3 : PyData} {pos p p2 q' apos : Pos} {D : En} {n : Nat}
theorem hide_one {H : Hp} {a p : Addr} {o u : HO} (ha : H a = none) (hp : upd H a o p = none) : hide (upd (upd H a o) p u) [p] = upd H a o := hide_upd hp
theorem Sat.junk {Γ : Cxt} {σ : St} {F H : Hp} {a : Addr} {o : HO} (s : Sat Γ S σ F H) (ha : H a = none) (ho : ∀ xs, o ≠ .tup xs) : Sat Γ S σ F (upd H a o) :=
  Sat.show (fp := [a]) (by rw [hide_upd ha]; exact s) fun b hb => by
    obtain rfl : b = a := by simpa using hb
    exact ⟨_, upd_same, ho⟩
/-- sorted(set(xs)), ints -/
theorem ev_sortSetI {ns : List Int} (hc : X.calm = true) (hm : X.mg "sorted" = none) (hm2 : X.mg "set" = none) (ha : EV X S e (da ns) S1) (hz : ns.length < 64) (hg : Gl X "sorted" := by rfl) (hg2 : Gl X "set" := by rfl)
    (he : starEach [e] X.env = (false, eval e X.env) :: starEach [] X.env := by rfl) (he2 : starEach [.Call (.Name "set" p2) [e] [] q'] X.env = (false, eval (.Call (.Name "set" p2) [e] [] q') X.env) :: starEach [] X.env := by rfl) : EV X S (.Call (.Name "sorted" p) [.Call (.Name "set" p2) [e] [] q'] [] pos) (la (sortSetI ns)) S1 := fun Γ σ F H Q s q =>
  PE.w (pe_callB (cr_sortedSet hc) hg hm (by decide +kernel) (pa_cons (pe_callTy (cr_setL hc) hg2 hm2 (by decide +kernel) (pa_cons pe_w pa_nil he) (by decide) (by decide) he rfl) pa_nil he2) (by decide) (by decide) he2 rfl) (ha.dat s fun v F1 H1 s1 m1 r1 => by
    obtain ⟨l, vs, rfl, hl, r2⟩ := r1.lst_of
    have hx : vs = ns.map V.int := RpAll.ints r2
    subst hx
    refine ⟨l, ns, rfl, SqL.of (s1.fh _ _ hl), hz, fun a c hfree hle => ⟨a, _, c, rfl, upd_same, by omega, fun ks p hpw hmem hlen hp => ?_⟩⟩
    have ek : ks = sortSetI ns := strict_ext tri_int (hpw.imp fun {a b} h => by unfold ltI; simpa using h) (sortS_sorted tri_int ns) fun z => by rw [hmem, mem_sortS]; simp
    subst ek
    have s2 := s1.junk (o := SetO X.w a (fun j => decide (j ∈ ns)) c) hfree (fun xs z => by cases z)
    exact q _ [p] F1 _ (by rw [hide_one hfree hp]; exact s2) m1 ⟨p, _, rfl, rfl, upd_same, _, rfl, RpAll.of_ints⟩)
theorem code64 (c : Cell) : TS.code 64 [c.1, c.2] = c.1 * 64 + c.2 := code_pair _ _
def cellI (c : Cell) : List Int := [c.1, c.2]
/-- sorted(set(xs)), cells -/
theorem ev_sortSetC {n : Nat} {cs : List Cell} (hr : Room n X.A) (hc : X.calm = true) (hm : X.mg "sorted" = none) (hm2 : X.mg "set" = none) (ha : EV X S e (da cs) S1) (hz : cs.length < 64) (hb : ∀ c ∈ cs, (0 ≤ c.1 ∧ c.1 < 8) ∧ 0 ≤ c.2 ∧ c.2 < 8) (hg : Gl X "sorted" := by rfl) (hg2 : Gl X "set" := by rfl)
    (he : starEach [e] X.env = (false, eval e X.env) :: starEach [] X.env := by rfl) (he2 : starEach [.Call (.Name "set" p2) [e] [] q'] X.env = (false, eval (.Call (.Name "set" p2) [e] [] q') X.env) :: starEach [] X.env := by rfl) : EV X S (.Call (.Name "sorted" p) [.Call (.Name "set" p2) [e] [] q'] [] pos) (la (sortSetC cs)) S1 := fun Γ σ F H Q s q =>
  PE.w (pe_callB (cr_sortedT hc) hg hm (by decide +kernel) (pa_cons (pe_callTy (cr_setOfT hc (units_of hr (Nat.le_refl 64))) hg2 hm2 (by decide +kernel) (pa_cons pe_w pa_nil he) (by decide) (by decide) he rfl) pa_nil he2) (by decide) (by decide) he2 rfl) (ha.dat s fun v F1 H1 s1 m1 r1 => by
    obtain ⟨l, vs, rfl, hl, r2⟩ := r1.lst_of
    obtain ⟨ks, rfl, hk, ek⟩ := cells_rp (K := X.K) s1.fh r2
    have kc : ∀ p ∈ ks, ∃ c ∈ cs, p.2 = cellK c := fun p hp => by
      have : p.2 ∈ ks.map (·.2) := List.mem_map.mpr ⟨p, hp, rfl⟩
      rw [ek] at this
      obtain ⟨c, h1, h2⟩ := List.mem_map.mp this
      exact ⟨c, h1, h2.symm⟩
    have hkl : ks.length = cs.length := by
      have := congrArg List.length ek
      simpa using this
    refine ⟨l, ks, rfl, SqL.of (s1.fh _ _ hl), hk, by omega, fun a L hfree hsub hall => ⟨a, L, 2, 64, rfl, upd_same, fun p hp => ?_, by decide, fun p hp => ?_, fun L' p pm nd hlen pw hp => ?_⟩⟩
    · have ne : ∀ b o, H1 b = some o → b ≠ a := fun b o e => ne_of_none e hfree
      have sm : Same H1 (upd H1 a (SetTO X.prog X.w a L)) := fun b o e => by rw [upd_ne (ne b o e)]; exact e
      rcases hk p (hsub p hp) with h | h
      · rcases h with h | ⟨o, h⟩
        · exact .inl (.inl (sm _ _ h))
        · exact .inl (.inr ⟨o, sm _ _ h⟩)
      · exact .inr h
    · obtain ⟨c, h1, h2⟩ := kc p (hsub p hp)
      rw [h2]
      have := hb c h1
      refine ⟨rfl, fun z hz => ?_⟩
      simp [cellK] at hz
      rcases hz with rfl | rfl <;> omega
    · have hL' : ∀ q ∈ L', ∃ c ∈ cs, q.2 = cellK c := fun q hq => kc q (hsub q (pm.mem_iff.mp hq))
      -- the cells of the sorted list
      have key : ∀ M : List (Addr × List Int), (∀ q ∈ M, q ∈ ks) → ∃ ds : List Cell, M.map (·.2) = ds.map cellK ∧ RpAll F1 (M.map fun q => V.ref q.1) (ds.map Datum.toD) := fun M => by
        induction M with
        | nil => intro _; exact ⟨[], rfl, .nil⟩
        | cons q M ih =>
          intro h
          obtain ⟨ds, h1, h2⟩ := ih fun z hz => h z (List.mem_cons_of_mem _ hz)
          obtain ⟨c, h3, h4⟩ := kc q (h q (by simp))
          refine ⟨c :: ds, by rw [List.map_cons, List.map_cons, h1, h4], .cons ?_ h2⟩
          -- q's tuple stands frozen
          have memq : V.ref q.1 ∈ ks.map fun p => V.ref p.1 := List.mem_map.mpr ⟨q, h q (by simp), rfl⟩
          obtain ⟨i, hi⟩ := List.getElem?_of_mem (h q (by simp))
          obtain ⟨d, e1, e2⟩ := r2.at' (i := i) (v := V.ref q.1) (by rw [List.getElem?_map, hi]; rfl)
          rw [List.getElem?_map] at e1
          cases hx : cs[i]? with
          | none => rw [hx] at e1; cases e1
          | some c' =>
            rw [hx] at e1
            injection e1 with e1
            have ec : cellK c' = q.2 := by
              have := congrArg (fun z => z[i]?) ek
              simp only [List.getElem?_map, hi, hx, Option.map_some] at this
              injection this with this
              exact this.symm
            have : c' = c := cellK_inj (ec.trans h4)
            subst this
            rw [← e1] at e2; exact e2
      obtain ⟨ds, g1, g2⟩ := key L' fun q hq => hsub q (pm.mem_iff.mp hq)
      have mem_ds : ∀ z, z ∈ ds ↔ z ∈ cs := fun z => by
        have inj : ∀ (M : List Cell), cellK z ∈ M.map cellK ↔ z ∈ M := fun M => by
          constructor
          · intro h
            obtain ⟨y, h1, h2⟩ := List.mem_map.mp h
            exact cellK_inj h2 ▸ h1
          · exact fun h => List.mem_map.mpr ⟨z, h, rfl⟩
        rw [← inj ds, ← g1, ← inj cs, ← ek]
        constructor
        · intro h
          obtain ⟨q, h1, h2⟩ := List.mem_map.mp h
          exact List.mem_map.mpr ⟨q, hsub q (pm.mem_iff.mp h1), h2⟩
        · intro h
          obtain ⟨q, h1, h2⟩ := List.mem_map.mp h
          have := hall q h1
          rw [← h2]
          obtain ⟨q2, h3, h4⟩ := List.mem_map.mp this
          exact List.mem_map.mpr ⟨q2, pm.mem_iff.mpr h3, h4⟩
      have srt : ds.Pairwise fun a b => ltC a b = true := by
        have p1 : (L'.map (·.2)).Pairwise fun x y => TS.code 64 x ≤ TS.code 64 y := List.pairwise_map.mpr pw
        rw [g1] at p1 nd
        have p2 := (List.pairwise_map.mp p1).and (List.pairwise_map.mp nd)
        refine List.Pairwise.imp_of_mem (fun {a b} ma mb h => ?_) p2
        have ba := hb a ((mem_ds a).mp ma)
        have bb := hb b ((mem_ds b).mp mb)
        have h1 := h.1
        have h2 := h.2
        rw [ltC_iff]
        rcases pair_lt (x := a.1) (y := a.2) (x' := b.1) (y' := b.2) h1 (fun z => h2 (by unfold cellK; exact z)) (by omega) (by omega) (by omega) (by omega) with z | z
        · exact .inl z
        · exact .inr z
      have ed : ds = sortSetC cs := strict_ext tri_cell srt (sortS_sorted tri_cell cs) fun z => by rw [mem_ds, mem_sortS]
      subst ed
      have s2 := s1.junk (o := SetTO X.prog X.w a L) hfree (fun xs z => by cases z)
      exact q _ [p] F1 _ (by rw [hide_one hfree hp]; exact s2) m1 ⟨p, _, rfl, rfl, upd_same, _, rfl, g2⟩)
end
end Ev

namespace Ev
open PySem L2
open PySem.W (Datum Tup T3 T4 Holds HoldAll DatumOrd EachIs SomeDatum)
variable [Tb]
/-! # further rules for mirrors -/
def ofO {α : Type} (o : Option α) : Rs α := match o with
  | some a => .ok a
  | none => .no
theorem ofO_ok {α : Type} {o : Option α} {a : α} (h : ofO o = .ok a) : o = some a := by
  cases o with
  | none => cases h
  | some b => rw [Rs.inj h]
@[simp] theorem ofO_some {α : Type} (a : α) : ofO (some a) = .ok a := rfl
theorem ifok_t {α : Type} {c : Bool} {A B : Rs α} {r : α} (h : (if c = true then A else B) = .ok r) (hc : c = true) : A = .ok r := by rw [if_pos hc] at h; exact h
theorem ifok_f {α : Type} {c : Bool} {A B : Rs α} {r : α} (h : (if c = true then A else B) = .ok r) (hc : c = false) : B = .ok r := by rw [hc] at h; simpa using h
theorem Ct.go_nx {τ ρ σ : Type} {t : τ} {f : τ → Rs σ} {g : ρ → Rs σ} {r : σ} (h : (Ct.nx t : Ct τ ρ).go f g = .ok r) : f t = .ok r := h
theorem Ct.go_rt {τ ρ σ : Type} {t : ρ} {f : τ → Rs σ} {g : ρ → Rs σ} {r : σ} (h : (Ct.rt t : Ct τ ρ).go f g = .ok r) : g t = .ok r := h
@[simp] theorem Ct.go_nx' {τ ρ σ : Type} (t : τ) (f : τ → Rs σ) (g : ρ → Rs σ) : (Ct.nx t : Ct τ ρ).go f g = f t := rfl
@[simp] theorem Ct.go_rt' {τ ρ σ : Type} (t : ρ) (f : τ → Rs σ) (g : ρ → Rs σ) : (Ct.rt t : Ct τ ρ).go f g = g t := rfl
/-- a def handed on: it keeps the promise sp -/
def fnP (P : Program) (w : World) (K : PySem.W.Frag) (mg : Str → Option Value) (base : Heap) (k : Nat) (sp : Sp) : FP :=
  ⟨fun v _ => ∃ (f : Addr) (fd : FuncData) (ps : List Str), v = .ref f ∧ FnOk P w K mg base CX0 k f fd ps sp ∧ PySem.W.keepIn K (.ref f) = true ∧ Binds K fd ps [], fun _ h => h⟩
/-- the def of a name, as a value -/
theorem fnv_of {P : Program} {w : World} {K : PySem.W.Frag} {mg : Str → Option Value} {base : Heap} {j k : Nat} {x : Str} {sp sp' : Sp} (G : HF P w K mg base j x sp) (l : j ≤ k) (h : ∀ vs H Q E, sp' vs H Q E → sp vs H Q E) : ∃ (f : Addr), mg x = some (.ref f) ∧ ∀ F : Hp, (fnP P w K mg base k sp').p (.ref f) F := by
  obtain ⟨f, fd, ps, F0, hm, hk, hb⟩ := (G.mono l).ex
  exact ⟨f, hm, fun F => ⟨f, fd, ps, rfl, F0.imp h, hk, hb⟩⟩
section
variable {X : Cx} {S S' S1 S2 S3 : Sl} {e a b c o i : Expr} {es rest : List Expr} {O O1 O2 O' : OP} {d d1 d2 d3 : PyData} {pos p apos : Pos} {D : En} {st : Stmt} {sts body els : List Stmt} {k : Bool} {op : CmpOp} {n : Nat}
theorem bv_join {τ : Type} (J : τ → Prop) (Sf : τ → Sl) (h1 : ∀ t, J t → BV X (Sf t) sts D) (h2 : SV X S st { D with nx := fun S' => ∃ t, J t ∧ Wk S' (Sf t) }) : BV X S (st :: sts) D :=
  bv_cons fun Γ σ F H E s q => h2 Γ σ F H E s ⟨fun T σ' F' H' ⟨t, ht, w⟩ s' => q.nx T σ' F' H' (bv_wk w (h1 t ht)) s', q.rt, q.bk, q.ct⟩
theorem ev_iteR {ρ : Type} {v : ρ} {M N : Rs ρ} (hc : ET X S c k S1) (hv : (if k = true then M else N) = .ok v) (ha : k = true → M = .ok v → EV X S1 a O S2) (hb : k = false → N = .ok v → EV X S1 b O S2) : EV X S (.IfExp c a b pos) O S2 :=
  ev_ite hc (fun h => ha h (ifok_t hv h)) (fun h => hb h (ifok_f hv h))
theorem ev_fn {x : Str} {P : Program} {w : World} {K : PySem.W.Frag} {mg : Str → Option Value} {base : Heap} {k : Nat} {sp : Sp} (h : ∃ (f : Addr), mg x = some (.ref f) ∧ ∀ F : Hp, (fnP P w K mg base k sp).p (.ref f) F)
    (hX : X.mg = mg := by exact rfl) (hg : Gl X x := by rfl) (hd : (x == ("__debug__" : Str)) = false := by decide) : EV X S (.Name x pos) (fz (fnP P w K mg base k sp)) S := by
  obtain ⟨f, hm, hp⟩ := h
  subst hX
  exact EV.of_f fun Γ σ F H Q s q => PE.w (pe_glob (v := .ref f) hg hm rfl hd) (q _ F H s (Same.refl F) (hp F))
/-- a call of a def that a slot holds -/
theorem ev_callF {τ : Type} {ok : τ → Prop} {pre pre' : τ → Sl} {post : τ → OP} {k n : Nat} {x : Str} {P : Program} {w : World} {K : PySem.W.Frag} {mg : Str → Option Value} {base : Heap} {ar : List AR} (i : Nat) (ha : EA X S (e :: es) ar S1) (hp : PE X (.Name x p) (tVar i)) (hi : S[i]? = some (some (fz (fnP P w K mg base k (spF ok pre post pre'))))) (hvis : X.N[i]? = some x) (t : τ) (hok : ok t)
    (hX : X.prog = P ∧ X.w = w ∧ X.K = K ∧ X.mg = mg ∧ X.base = base := by exact ⟨rfl, rfl, rfl, rfl, rfl⟩) (hv : Vis X.env.scope x := by first | exact Or.inl rfl | exact Or.inr rfl | exact Or.inr (Or.inl rfl) | exact Or.inr (Or.inr rfl)) (hr : Room n X.A := by assumption) (hk : k ≤ n := by decide) (hpre : pre t = pres ar := by rfl) (hO : post t = O := by rfl) (hdb : (x == ("__debug__" : Str)) = false := by decide) (hcd : (x == ("__classdict__" : Str)) = false := by decide)
    (he : starEach (e :: es) X.env = (false, eval e X.env) :: starEach es X.env := by rfl) (hpl : (backTo pos (starEach es X.env)).any (·.1) = false := by rfl) : EV X S (.Call (.Name x p) (e :: es) [] pos) O S1 := by
  obtain ⟨rfl, rfl, rfl, rfl, rfl⟩ := hX
  subst hO
  refine fun Γ σ F H Q s q => ?_
  obtain ⟨v0, fp0, e0, ⟨_, f, fd, ps, rfl, F0, hk2, hb⟩, _⟩ := s.slot hi
  refine PE.w (pe_callL F0 (hr.mono hk) hvis hv hk2 hb .nil pass0 pa_w hdb hcd he hpl) ⟨e0, ha Γ σ F H _ s fun vs F1 H1 s1 m1 r1 => ?_⟩
  rw [List.append_nil]
  refine ⟨t, hok, F1, fun _ => False, ?_, fun v fp F' H' s' pp => ?_⟩
  · rw [hpre]
    refine ⟨by rw [List.length_map, r1.length]; simp [pres], s1.fh, Same.refl F1, fun a o e _ => .of e, s1.tb, fun a ha => .inl ha, s1.tup, fun _ => [], fun i O e => ?_, fun i a ha => (by cases ha), fun i j a _ ha => (by cases ha), fun _ _ => rfl⟩
    obtain ⟨P, e1, e2⟩ := pres_at e
    obtain ⟨v, e3, e4⟩ := r1.at e1
    subst e2
    exact ⟨v, by rw [List.getElem?_map, e3]; rfl, rfl, e4⟩
  · have m2 : Same F1 F' := s'.f0
    have hh : ∀ a o, H1 a = some o → HK (hide H' fp) a o := fun a o e => s'.h0 a o e (fun z => z.elim)
    refine q v fp F' H' ?_ (m1.trans m2) pp
    obtain ⟨f', h1, h2, h3, h4⟩ := s1.ex
    refine ⟨s1.len, s'.fh, s1.f0.trans m2, fun a o e n => (s1.h0 a o e n).tr (hh a), s'.tb, fun a ha => ?_, s'.tup, f', fun i O e => ?_, fun i a ha => ?_, h3, h4⟩
    · rcases s'.new a ha with y | y | y
      · exact s1.new a y
      · by_cases z : Γ.A0 a
        · exact .inr (.inr z)
        · exact .inr (.inl (fr_tr (fun o e n => s1.h0 a o e z n) y))
      · exact y.elim
    · obtain ⟨v', e1, q'⟩ := h1 i O e
      refine ⟨v', e1, O.mono m2 (O.loc (fun a ha => ?_) q')⟩
      obtain ⟨o, e3, n3⟩ := O.own q' a ha
      rw [e3]; exact (hh a o e3).eq n3.2.1
    · obtain ⟨q1, q2, q3⟩ := h2 i a ha
      refine ⟨?_, ?_, q3⟩
      · cases e2 : F' a with
        | none => rfl
        | some o =>
          rcases s'.new a (by rw [e2]; exact fun z => by cases z) with y | y | y
          · exact absurd q1 y
          · exact (let ⟨o2, e5, n5⟩ := ex_nt h1 h4 ha; (fr_no y e5 n5.2.1).elim)
          · exact y.elim
      · obtain ⟨o2, e5, n5⟩ := ex_nt h1 h4 ha
        rw [hh a o2 e5 n5.2.1]; exact fun z => by cases z
section
variable {α : Type} [DecidableEq α] [Datum α] [SomeDatum α]
theorem ev_someO {x : α} (h : EV X S e (da x) S1) : EV X S e (da (some x)) S1 := h
theorem ev_noneO (h : EV X S e (da ()) S1) : EV X S e (da (none : Option α)) S1 := h
end
section
variable {γ : Type} [DecidableEq γ] [DatumOrd γ] {x y : γ}
def rLtT (γ : Type) [DecidableEq γ] [DatumOrd γ] (f : γ → γ → Bool) : R2 := fun v u H Q => ∃ (F : Hp) (x y : γ), Same F H ∧ Rp F v (Datum.toD x) ∧ Rp F u (Datum.toD y) ∧ Q (.bl (f x y)) H
theorem op_ltD (hu : X.A.units + Datum.depth γ < cLine) : OpR X (compareOp .Lt) (rLtT γ fun x y => DatumOrd.lt x y) := by
  intro pins s σ H v u w z Q I rv ru h
  obtain ⟨F, x, y, m, r1, r2, q⟩ := h
  exact PySem.W.lt_datum (r1.holds I m rv) (r2.holds I m ru) hu ⟨.bl _, H, I, rfl, q⟩
theorem op_gtD (hu : X.A.units + Datum.depth γ < cLine) : OpR X (compareOp .Gt) (rLtT γ fun x y => DatumOrd.lt y x) := by
  intro pins s σ H v u w z Q I rv ru h
  obtain ⟨F, x, y, m, r1, r2, q⟩ := h
  exact PySem.W.gt_datum (r1.holds I m rv) (r2.holds I m ru) hu ⟨.bl _, H, I, rfl, q⟩
theorem op_leD (hu : X.A.units + Datum.depth γ < cLine) : OpR X (compareOp .LtE) (rLtT γ fun x y => !DatumOrd.lt y x) := by
  intro pins s σ H v u w z Q I rv ru h
  obtain ⟨F, x, y, m, r1, r2, q⟩ := h
  exact PySem.W.le_datum (r1.holds I m rv) (r2.holds I m ru) hu ⟨.bl _, H, I, rfl, q⟩
theorem op_geD (hu : X.A.units + Datum.depth γ < cLine) : OpR X (compareOp .GtE) (rLtT γ fun x y => !DatumOrd.lt x y) := by
  intro pins s σ H v u w z Q I rv ru h
  obtain ⟨F, x, y, m, r1, r2, q⟩ := h
  exact PySem.W.ge_datum (r1.holds I m rv) (r2.holds I m ru) hu ⟨.bl _, H, I, rfl, q⟩
theorem ec_ltD (hr : Room n X.A) (ha : EV X S a (da x) S1) (hb : EV X S1 b (da y) S2) (hd : Datum.depth γ ≤ 64 := by decide) : EC X S .Lt a b (DatumOrd.lt x y) S2 :=
  ec_op (op_ltD (γ := γ) (units_of hr hd)) ha hb fun F H v u Q m r1 r2 q => ⟨F, x, y, m, r1, r2, q⟩
theorem ec_gtD (hr : Room n X.A) (ha : EV X S a (da x) S1) (hb : EV X S1 b (da y) S2) (hd : Datum.depth γ ≤ 64 := by decide) : EC X S .Gt a b (DatumOrd.lt y x) S2 :=
  ec_op (op_gtD (γ := γ) (units_of hr hd)) ha hb fun F H v u Q m r1 r2 q => ⟨F, x, y, m, r1, r2, q⟩
theorem ec_leD (hr : Room n X.A) (ha : EV X S a (da x) S1) (hb : EV X S1 b (da y) S2) (hd : Datum.depth γ ≤ 64 := by decide) : EC X S .LtE a b (!DatumOrd.lt y x) S2 :=
  ec_op (op_leD (γ := γ) (units_of hr hd)) ha hb fun F H v u Q m r1 r2 q => ⟨F, x, y, m, r1, r2, q⟩
theorem ec_geD (hr : Room n X.A) (ha : EV X S a (da x) S1) (hb : EV X S1 b (da y) S2) (hd : Datum.depth γ ≤ 64 := by decide) : EC X S .GtE a b (!DatumOrd.lt x y) S2 :=
  ec_op (op_geD (γ := γ) (units_of hr hd)) ha hb fun F H v u Q m r1 r2 q => ⟨F, x, y, m, r1, r2, q⟩
end
section
variable {β : Type} [DecidableEq β] [Datum β] {ps ps0 : List (Cell × β)} {x : Cell} {y : β}
/-- d[x], d told to all -/
theorem ev_dgetF (hr : Room n X.A) (hd : EV X S o (dF ps) S1) (hk : EV X S1 i (da x) S2) (hg : getK ps x = some y) (hs : NoSl i := by intro _ _; rfl) : EV X S (.Subscript o i pos) (da y) S2 := EV.of_d fun Γ σ F H Q s q =>
  PE.w (pe_dget (hu_of hr) pe_w pe_w hs) (hd.fzn s fun v F1 H1 s1 m1 pv => by
    obtain ⟨a, kvs, rfl, e2, kr⟩ := pv
    refine hk.dat s1 fun w F2 H2 s2 m2 r2 => ?_
    obtain ⟨l, rfl, g1, g2⟩ := cell_tup s2.fh r2
    have kr2 := kr.mono m2
    have hv := kr2.val x
    rw [hg] at hv
    cases hvv : valV kvs (ck x) with
    | none => rw [hvv] at hv; cases hv
    | some u =>
      rw [hvv] at hv
      cases hv with
      | some h => exact ⟨a, u, rfl, hvv ▸ DGet.t (s2.fh _ _ (m2 _ _ e2)) g2, q u F2 H2 s2 (m1.trans m2) h⟩)
theorem get_ans {F H : Hp} {kvs : List (List Key × V)} {u : V} {z : β} (kr : KvOk F ps kvs) (r3 : Rp F u (Datum.toD z)) : Rp F ((valV kvs (ck x)).getD u) (Datum.toD ((getK ps x).getD z)) := by
  have hv := kr.val x
  cases hvv : valV kvs (ck x) with
  | none => rw [hvv] at hv; cases hg : getK ps x with
    | none => exact r3
    | some y => rw [hg] at hv; cases hv
  | some u' => rw [hvv] at hv; cases hg : getK ps x with
    | none => rw [hg] at hv; cases hv
    | some y => rw [hg] at hv; cases hv with | some h => exact h
theorem get_ansN [SomeDatum β] {F : Hp} {kvs : List (List Key × V)} (kr : KvOk F ps kvs) : Rp F ((valV kvs (ck x)).getD .non) (Datum.toD (getK ps x)) := by
  have hv := kr.val x
  cases hvv : valV kvs (ck x) with
  | none => rw [hvv] at hv; cases hg : getK ps x with
    | none => exact .non
    | some y => rw [hg] at hv; cases hv
  | some u' => rw [hvv] at hv; cases hg : getK ps x with
    | none => rw [hg] at hv; cases hv
    | some y => rw [hg] at hv; cases hv with | some h => exact h
/-- d.get(x, z), d one's own -/
theorem ev_dgetDefO {z : β} (j : Nat) (hr : Room n X.A) (hp : PE X o (tVar j)) (hj : S[j]? = some (some (dO ps))) (hk : EV X S i (da x) S) (hz : EV X S e (da z) S) (m : M2 X o "get" apos i e pos := by exact ⟨rfl, rfl, rfl, rfl⟩) : EV X S (.Call (.Attribute o "get" apos) [i, e] [] pos) (da ((getK ps x).getD z)) S := EV.of_d fun Γ σ F H Q s q =>
  PE.w (pe_dget2 (hu_of hr) hp pe_w pe_w m) (by
    obtain ⟨a, o, e1, e2, ⟨kvs, rfl, kr⟩, _⟩ := s.mut hj
    refine ⟨_, e1, a, rfl, .inr ⟨kvs, .inl e2⟩, hk.dat s fun w F2 H2 s2 m2 r2 => hz.dat s2 fun u F3 H3 s3 m3 r3 => ?_⟩
    obtain ⟨a', o', f1, f2, ⟨kvs', rfl, kr'⟩, _⟩ := s3.mut hj
    rw [e1] at f1
    obtain rfl : a = a' := by injection f1 with f1; injection f1 with f1; injection f1
    obtain ⟨l, rfl, g1, g2⟩ := cell_tup s3.fh (r2.mono m3)
    exact ⟨_, DGet.t f2 g2, q _ F3 H3 s3 (m2.trans m3) (get_ans (H := H3) kr' r3)⟩)
theorem ev_dgetDefF {z : β} (hr : Room n X.A) (hd : EV X S o (dF ps) S1) (hk : EV X S1 i (da x) S2) (hz : EV X S2 e (da z) S3) (m : M2 X o "get" apos i e pos := by exact ⟨rfl, rfl, rfl, rfl⟩) : EV X S (.Call (.Attribute o "get" apos) [i, e] [] pos) (da ((getK ps x).getD z)) S3 := EV.of_d fun Γ σ F H Q s q =>
  PE.w (pe_dget2 (hu_of hr) pe_w pe_w pe_w m) (hd.fzn s fun v F1 H1 s1 m1 pv => by
    obtain ⟨a, kvs, rfl, e2, kr⟩ := pv
    refine ⟨a, rfl, .inr ⟨kvs, .inl (s1.fh _ _ e2)⟩, hk.dat s1 fun w F2 H2 s2 m2 r2 => hz.dat s2 fun u F3 H3 s3 m3 r3 => ?_⟩
    obtain ⟨l, rfl, g1, g2⟩ := cell_tup s3.fh (r2.mono m3)
    exact ⟨_, DGet.t (s3.fh _ _ (m3 _ _ (m2 _ _ e2))) g2, q _ F3 H3 s3 ((m1.trans m2).trans m3) (get_ans (H := H3) (kr.mono (m2.trans m3)) r3)⟩)
/-- d.get(x) -/
theorem ev_dgetNO [SomeDatum β] (j : Nat) (hr : Room n X.A) (hp : PE X o (tVar j)) (hj : S[j]? = some (some (dO ps))) (hk : EV X S i (da x) S) (m : M1 X o "get" apos i pos := by exact ⟨rfl, rfl, rfl, rfl⟩) : EV X S (.Call (.Attribute o "get" apos) [i] [] pos) (da (getK ps x)) S := EV.of_d fun Γ σ F H Q s q =>
  PE.w (pe_dget1 (hu_of hr) hp pe_w m) (by
    obtain ⟨a, o, e1, e2, ⟨kvs, rfl, kr⟩, _⟩ := s.mut hj
    refine ⟨_, e1, a, rfl, .inr ⟨kvs, .inl e2⟩, hk.dat s fun w F2 H2 s2 m2 r2 => ?_⟩
    obtain ⟨a', o', f1, f2, ⟨kvs', rfl, kr'⟩, _⟩ := s2.mut hj
    rw [e1] at f1
    obtain rfl : a = a' := by injection f1 with f1; injection f1 with f1; injection f1
    obtain ⟨l, rfl, g1, g2⟩ := cell_tup s2.fh r2
    exact ⟨_, DGet.t f2 g2, q _ F2 H2 s2 m2 (get_ansN kr')⟩)
theorem ev_dgetNF [SomeDatum β] (hr : Room n X.A) (hd : EV X S o (dF ps) S1) (hk : EV X S1 i (da x) S2) (m : M1 X o "get" apos i pos := by exact ⟨rfl, rfl, rfl, rfl⟩) : EV X S (.Call (.Attribute o "get" apos) [i] [] pos) (da (getK ps x)) S2 := EV.of_d fun Γ σ F H Q s q =>
  PE.w (pe_dget1 (hu_of hr) pe_w pe_w m) (hd.fzn s fun v F1 H1 s1 m1 pv => by
    obtain ⟨a, kvs, rfl, e2, kr⟩ := pv
    refine ⟨a, rfl, .inr ⟨kvs, .inl (s1.fh _ _ e2)⟩, hk.dat s1 fun w F2 H2 s2 m2 r2 => ?_⟩
    obtain ⟨l, rfl, g1, g2⟩ := cell_tup s2.fh r2
    exact ⟨_, DGet.t (s2.fh _ _ (m2 _ _ e2)) g2, q _ F2 H2 s2 (m1.trans m2) (get_ansN (kr.mono m2))⟩)
/-- d[k], x = v, u: d one's own in slot j, x in slot l -/
theorem sv_dputP (j l : Nat) {z : Str} {pz pt pt2 ps' : Pos} {kt k2} (hr : Room n X.A) (hc : X.calm = true) (hv : EV X S a (da y) S1) (hb : EV X S1 b (dd d2) S2) (hd : PE X o (tVar j)) (hj0 : S2[j]? = some (some (dO ps))) (hk : EV X S2 i (da x) S2) (hz : ps.length < sizeLine) (r : D.nx ((S2.set j (some (dO (putP ps x y)))).set l (some (dd d2)))) (hN : X.N.Nodup) (hl : X.N[l]? = some z := by rfl)
    (hx : Loc X.env.scope z := by first | exact Or.inl rfl | exact Or.inr rfl) (hf : X.fn z = true ∨ X.env.scope.names.lookup z = some .local := by first | exact .inl rfl | exact .inr rfl | assumption)
    (hs : swapsWithSole [.Tuple [.Subscript o i ps', .Name z pz] kt pt] (.Tuple [a, b] k2 pt2) pos.line X.env = pure false := by rfl) (hw : swappedStores [.Tuple [.Subscript o i ps', .Name z pz] kt pt] (.Tuple [a, b] k2 pt2) X.env = pure none := by rfl) (h1 : (assignEach [.Tuple [.Subscript o i ps', .Name z pz] kt pt] X.env).map (·.2) = [assign (.Tuple [.Subscript o i ps', .Name z pz] kt pt) X.env] := by rfl)
    (hn : (assignEach [.Subscript o i ps', .Name z pz] X.env).length = 2 := by rfl) (hst : (assignEach [.Subscript o i ps', .Name z pz] X.env).findIdx? (·.1) = none := by rfl) (hg1 : (assignEach [.Subscript o i ps', .Name z pz] X.env).map (·.2) = assign (.Subscript o i ps') X.env :: (assignEach [.Name z pz] X.env).map (·.2) := by rfl) (hg2 : (assignEach [.Name z pz] X.env).map (·.2) = assign (.Name z pz) X.env :: (assignEach [] X.env).map (·.2) := by rfl)
    (hsub : ∀ v, assign (.Subscript o i ps') X.env v = (do let ov ← holding [v] (eval o X.env); let iv ← holding [v, ov] (eval i X.env); standAt ps'; holding [v, ov, iv] (setItem ov iv v); release [v, ov, iv] []) := by intro _; rfl)
    (hs1 : starEach [a, b] X.env = (false, eval a X.env) :: starEach [b] X.env := by rfl) (hs2 : starEach [b] X.env = (false, eval b X.env) :: starEach [] X.env := by rfl) : SV X S (.Assign [.Tuple [.Subscript o i ps', .Name z pz] kt pt] (.Tuple [a, b] k2 pt2) pos) D := fun Γ σ F H E s q =>
  PS.w (ps_asg (pe_tup (pa_cons pe_w (pa_cons pe_w pa_nil hs2) hs1)) (pg_tup hc (pgs_cons (pg_sub hd pe_w (set_dict (hu_of hr)) hsub) (pgs_cons (pg_name hN hl hx hf) pgs_nil hg2) hg1) hn hst) hs hw h1) (hv.dat s fun v F1 H1 s1 m1 r1 => hb.dat s1 fun u F2 H2 s2 m2 r2 => by
    refine ⟨two_le, fun p hp => ?_⟩
    obtain ⟨s3, m3, r3⟩ := s2.newT hp (.cons (r1.mono m2) (.cons r2 .nil))
    refine ⟨p, [v, u], rfl, SqT.of upd_same, rfl, v, [u], rfl, ?_⟩
    obtain ⟨a0, o0, f1, f2, _, _⟩ := s3.mut hj0
    refine ⟨_, f1, hk.dat s3 fun w F4 H4 s4 m4 r4 => ?_⟩
    obtain ⟨a1, o1, e1, e2, ⟨kvs, rfl, kr⟩, back⟩ := s4.mut hj0
    rw [f1] at e1
    obtain rfl : a0 = a1 := by injection e1 with e1; injection e1 with e1; injection e1
    obtain ⟨t, rfl, g1, g2⟩ := cell_tup s4.fh r4
    refine ⟨a0, _, rfl, DPut.t e2 g2 (by rw [kr.length]; exact hz), u, [], rfl, rfl, q.nx _ _ F4 _ r ?_⟩
    have s5 := back (dW (putP ps x y)) _ ⟨_, rfl, kr.put x (((r1.mono m2).mono m3).mono m4)⟩
    exact s5.same_of.put (O := dd d2) ⟨rfl, (r2.mono m3).mono m4⟩ l)
end
section
variable {α : Type} [DecidableEq α] [Datum α]
/-- x in xs, xs one's own -/
theorem ec_inOA (j : Nat) {x : α} {xs : List α} (hr : Room n X.A) (ha : EV X S a (da x) S) (hp : PE X b (tVar j)) (hj : S[j]? = some (some (la xs))) (hd : 1 + Datum.depth α ≤ 64 := by decide) : EC X S .In a b (inL x xs) S := fun Γ σ F H Q s q =>
  PC.w (pc_of (op_inT (α := α) (by rw [Nat.add_assoc]; exact units_of hr hd)) pe_w hp) (ha.dat s fun v F1 H1 s1 m1 r1 => by
    obtain ⟨a0, vs0, f1, f2, _⟩ := s1.mutL hj
    refine ⟨_, f1, ?_⟩
    obtain ⟨F', s2, m2⟩ := s1.frz hj
    have hl := (List.getElem?_eq_some_iff.mp hj).1
    obtain ⟨w, e1, rv⟩ := s2.dat (i := j) (by rw [List.getElem?_set_self hl])
    rw [f1] at e1
    obtain rfl : V.ref a0 = w := by injection e1 with e1; injection e1
    exact ⟨F', x, xs, s2.fh, r1.mono m2, rv, q F1 H1 s1 m1⟩)
theorem ec_notinOA (j : Nat) {x : α} {xs : List α} (hr : Room n X.A) (ha : EV X S a (da x) S) (hp : PE X b (tVar j)) (hj : S[j]? = some (some (la xs))) (hd : 1 + Datum.depth α ≤ 64 := by decide) : EC X S .NotIn a b (!inL x xs) S := fun Γ σ F H Q s q =>
  PC.w (pc_of (op_notInT (α := α) (by rw [Nat.add_assoc]; exact units_of hr hd)) pe_w hp) (ha.dat s fun v F1 H1 s1 m1 r1 => by
    obtain ⟨a0, vs0, f1, f2, _⟩ := s1.mutL hj
    refine ⟨_, f1, ?_⟩
    obtain ⟨F', s2, m2⟩ := s1.frz hj
    have hl := (List.getElem?_eq_some_iff.mp hj).1
    obtain ⟨w, e1, rv⟩ := s2.dat (i := j) (by rw [List.getElem?_set_self hl])
    rw [f1] at e1
    obtain rfl : V.ref a0 = w := by injection e1 with e1; injection e1
    have e : (!inL x xs) = decide (x ∉ xs) := by unfold inL; simp
    exact ⟨F', x, xs, s2.fh, r1.mono m2, rv, by rw [if_pos rfl, ← e]; exact q F1 H1 s1 m1⟩)
end
end
section
variable {X : Cx} {S S1 : Sl} {pos : Pos} {α : Type} [DecidableEq α] [Datum α]
/-- a, b, c = a list of three -/
theorem eg_unl3 {ts : List Expr} {xs : List α} {ix : List Nat} {kk : Nat} (d0 : α) (hc : X.calm = true) (hl : xs.length = 3) (h : EGs X S ts [Datum.toD (xs.getD 0 d0), Datum.toD (xs.getD 1 d0), Datum.toD (xs.getD 2 d0)] ix S1) (hn : (assignEach ts X.env).length = 3 := by rfl) (hst : (assignEach ts X.env).findIdx? (·.1) = none := by rfl) : EG X S (.Tuple ts kk pos) (Datum.toD xs) ix S1 := fun Γ σ F H v Q s r q => by
  obtain ⟨x, y, z, rfl⟩ : ∃ x y z, xs = [x, y, z] := by
    match xs, hl with
    | [x, y, z], _ => exact ⟨x, y, z, rfl⟩
  obtain ⟨l, vs, e, hl2, r2⟩ := r.lst_of
  exact PG.w (pg_unl hc pgs_w hn hst) ⟨l, vs, e, SqL.of (s.fh _ _ hl2), r2.length, h Γ σ F H vs Q s r2 q⟩
end
theorem sortable_list {γ : Type} [DecidableEq γ] [Datum γ] (bs : List (List γ)) : PySem.W.Sortable (bs.map (Datum.toD : List γ → PyData)) := PySem.W.Sortable.others (enc := (Datum.toD : List γ → PyData)) fun b => ⟨fun z => PyData.noConfusion z, fun xs z => PyData.noConfusion z⟩
theorem sortable_t3 {γ δ ε : Type} [DecidableEq γ] [Datum γ] [DecidableEq δ] [Datum δ] [DecidableEq ε] [Datum ε] (bs : List (T3 γ δ ε)) : PySem.W.Sortable (bs.map (Datum.toD : T3 γ δ ε → PyData)) := PySem.W.Sortable.tuples fun b => ⟨_, _, rfl⟩
end Ev

namespace Ev
open PySem L2 PySem.Spec PyProof.Rows
open PySem.W (Datum Tup T3 T4 Holds HoldAll DatumOrd EachIs SomeDatum)
variable [Tb]
/-! # enumerate over tuples -/
section
variable {prog : Program} {w : World} {A : Around} {E : Value → Shared → Prop} {s : Shared}
set_option maxHeartbeats 1000000 in
theorem meets_enum1 {v : Value} {o : Obj} {H : Heap → Prop} (B : Begins v o H) :
    Meets (Builtin.«enumerate.__new__» ⟨[.type "enumerate", v], []⟩) (fun _ R s => H s.heap ∧
      R (.ok (.ret (.ref (s.heap.push o).objs.size))) { s with heap := (s.heap.push o).push { cls := .type "enumerate", data := .fields #[.none, .bool false, .ref s.heap.objs.size, rawInt 0, .none, .none] } }) :=
  .of_wp fun prog w A R s h => by
    obtain ⟨hp, g, d, tk, os⟩ := s; obtain ⟨h1, h⟩ := h
    have hsub := sub_enumerate
    have q1 : ∀ {A' : Around} {E : Value → Shared → Prop} {Q : Value → Shared → Prop}, Q (.ref hp.objs.size) ⟨hp.push o, g, d, tk, os⟩ → wpAny (model prog w) A' (pyIter v) Q E ⟨hp, g, d, tk, os⟩ :=
      fun q => B.iter prog w _ _ ⟨hp, g, d, tk, os⟩ _ h1 q
    wp_walk using q1
    refine wpAny_stack_any fun st => wpAny_pure ?_
    split
    · rename_i c _ _ _ _ _
      cases (c == Value.type "enumerate")
      · wp_walk using q1
        exact ⟨_, rfl, h⟩
      · wp_walk using q1
        exact ⟨_, rfl, h⟩
    · wp_walk using q1
      exact ⟨_, rfl, h⟩
theorem call_enumT {t : Addr} {items : Array Value} {Q : Value → Shared → Prop} (hT : s.heap.IsTuple t items)
    (h : ∀ h', IsEnum h' (s.heap.objs.size + 1) s.heap.objs.size 0 .none → h'.IsTupleIter s.heap.objs.size t 0 → h'.objs.size = s.heap.objs.size + 2 →
      (∀ b o, s.heap.get? b = some o → h'.get? b = some o) → Q (.ref (s.heap.objs.size + 1)) { s with heap := h' }) :
    wpAny (model prog w) A (call (.type "enumerate") [.ref t]) Q E s := by
  have B := begins_tuple t items
  refine callType_new F.called_enumerate (by decide) (F.typeCall_enumerate_1 _) (F.newCall_enumerate_1 _) (fun obj => F.args_object_init_2 obj _) F.entry_enumerate_new
    (meets_enum1 B) ⟨hT, ?_⟩
  have hz : (s.heap.push { cls := .type "tuple_iterator", data := .fields #[.ref t, .int 0 0] }).objs.size = s.heap.objs.size + 1 := Heap.size_push ..
  show _ ∧ _
  rw [hz]
  have he : IsEnum ((s.heap.push { cls := .type "tuple_iterator", data := .fields #[.ref t, .int 0 0] }).push { cls := .type "enumerate", data := .fields #[.none, .bool false, .ref s.heap.objs.size, rawInt 0, .none, .none] }) (s.heap.objs.size + 1) s.heap.objs.size 0 .none := by
    have := Heap.get?_push_size (s.heap.push { cls := .type "tuple_iterator", data := .fields #[.ref t, .int 0 0] }) (o := { cls := .type "enumerate", data := .fields #[.none, .bool false, .ref s.heap.objs.size, rawInt 0, .none, .none] }) rfl
    rw [hz] at this; exact this
  exact ⟨⟨_, he, rfl⟩, h _ he ⟨_, Heap.get?_push_of_some _ (Heap.get?_push_size _ rfl), rfl, rfl⟩ (by rw [Heap.size_push, hz]) fun b o x => Heap.get?_push_of_some _ (Heap.get?_push_of_some _ x)⟩
end
/-- the tuple at a, each item in a new pair -/
def IteT (K : PySem.W.Frag) (a : Addr) : It :=
  ⟨fun i H => ∃ (xs : List V) (x : V), SqT K H a xs ∧ xs[i]? = some x, fun i H v H' => ∃ T x, v = .ref T ∧ H T = none ∧ H' = upd H T (.tup [.int (i : Nat), x]) ∧ ∀ xs, SqT K H a xs → xs[i]? = some x, fun i H => ∃ xs : List V, SqT K H a xs ∧ xs.length ≤ i⟩
theorem turn_enumT {P : Program} {w : World} {K : PySem.W.Frag} {elts : List Expr} {kk : Nat} {tpos : Pos} (a e it : Addr) :
    Turn P w K (.Tuple elts kk tpos) (IteT K a) [e, it] e (fun i h => (∃ old, IsEnum h e it ((i : Nat) : Int) old) ∧ h.IsTupleIter it a i ∧ e ≠ it) where
  mem := by simp
  obj := fun i h st b hb => by
    obtain ⟨⟨old, he⟩, ⟨o, ho, hc, hd⟩, _⟩ := st
    have e' : b = e ∨ b = it := by simpa using hb
    rcases e' with z | z
    · rw [z]; exact ⟨_, he, fun v q => nomatch q⟩
    · rw [z]; exact ⟨o, ho, fun v q => by rw [hd] at q; cases q⟩
  keep := fun i h h' st k => let ⟨⟨old, he⟩, hi, hne⟩ := st; ⟨⟨old, k e (by simp) _ he⟩, hi.at fun o q => k it (by simp) o q, hne⟩
  item := by
    intro X hP hw hK hc i pins s σ H E I hf st hg
    subst hP hw hK
    obtain ⟨⟨old, he⟩, hit, hne⟩ := st
    obtain ⟨xs, x, hq, hx⟩ := hg
    obtain ⟨its, rv, p, hz⟩ := I.tuple hq
    obtain ⟨u, hu, ru⟩ := rv.get hx
    have hit' := hit
    have hel : e < s.heap.objs.size := Heap.lt_size he
    have hil : it < s.heap.objs.size := by obtain ⟨_, q, _⟩ := hit; exact Heap.lt_size q
    have pt : s.heap.IsTuple a its.toArray := p
    have hai : a ≠ it := fun z => by
      obtain ⟨o1, h1, c1, _⟩ := pt
      obtain ⟨o2, h2, c2, _⟩ := hit
      rw [z] at h1; rw [h1] at h2
      have q := Option.some.inj h2
      rw [← q, c1] at c2
      injection c2 with c3
      exact absurd c3 (by decide)
    have hae : a ≠ e := fun z => by
      obtain ⟨o1, h1, c1, _⟩ := pt
      rw [z] at h1
      have h2 := he
      unfold IsEnum at h2
      rw [h1] at h2
      have q := Option.some.inj h2
      rw [q] at c1
      injection c1 with c3
      exact absurd c3 (by decide)
    have hcalm := (I.ok.hd hc)
    have hlt : i < its.toArray.size := by
      have := (List.getElem?_eq_some_iff.mp hu).1
      simpa using this
    refine wpAny_pyNext_enum_itemD (Draws.tuple (A := X.A.in1) hcalm it a hai its.toArray) he ⟨hit, pt⟩ hlt hne (by simp [hne, Ne.symm hae]) fun y h' tk hy ho st' hT hsz hk => ?_
    have hyu : y = u := by
      have : its.toArray[i]? = some u := by simpa using hu
      rw [this] at hy; exact (Option.some.inj hy).symm
    subst hyu
    refine ⟨_, rfl, wpAny_letOwnedTupleGo_enum (s := { s with heap := h', toks := tk + 1 }) ho fun h'' he' sb => ?_⟩
    have hT2 : h''.get? s.heap.objs.size = some { cls := .type "tuple", data := .seq #[.int i tk, y] } := (sb.2 _ (Nat.ne_of_gt hel)).trans hT
    have new : ObjOk X.prog X.w (upd H s.heap.objs.size (.tup [.int (i : Nat), x])) h'' s.heap.objs.size (.tup [.int (i : Nat), x]) :=
      ⟨by show 2 ≤ sizeLine; decide, [.int i tk, y], .cons ⟨_, rfl⟩ (.cons ru .nil), ⟨_, hT2, rfl, _, rfl⟩⟩
    have I1 : Inv X pins σ (upd H s.heap.objs.size (.tup [.int (i : Nat), x])) { s with heap := h'', toks := tk + 1 } :=
      I.turnedNew (ch := [e, it]) (fun b ob hb q => (sb.2 b (fun z => hb (by simp [z]))).trans (hk b ob (fun z => hb (by simp [z])) (fun z => hb (by simp [z])) q)) hf (Nat.le_refl _) new
    refine ⟨.ref s.heap.objs.size, _, I1, rfl, ⟨_, x, rfl, I.hok.fresh (Nat.le_refl _), rfl, fun ys hy => by rw [I.tuple_inj hy hq]; exact hx⟩, ⟨⟨y, ?_⟩, st'.1.at fun o q => (sb.2 it (Ne.symm hne)).trans q, hne⟩, fun b hb => ?_⟩
    · have e1 : ((i + 1 : Nat) : Int) = (i : Int) + 1 := by omega
      rw [e1]; exact he'
    · have hb' : b < s.heap.objs.size := by
        have e' : b = e ∨ b = it := by simpa using hb
        rcases e' with z | z
        · rw [z]; exact hel
        · rw [z]; exact hil
      rw [upd_ne (Nat.ne_of_lt hb')]
      exact (hf b hb).1
  done := by
    intro X hP hw hK hc i pins s σ H E I hf st hg
    subst hP hw hK
    obtain ⟨⟨old, he⟩, hit, hne⟩ := st
    obtain ⟨xs, hq, hx⟩ := hg
    obtain ⟨its, rv, p, hz⟩ := I.tuple hq
    have hl := rv.length
    have pt : s.heap.IsTuple a its.toArray := p
    have hai : a ≠ it := fun z => by
      obtain ⟨o1, h1, c1, _⟩ := pt
      obtain ⟨o2, h2, c2, _⟩ := hit
      rw [z] at h1; rw [h1] at h2
      have q := Option.some.inj h2
      rw [← q, c1] at c2
      injection c2 with c3
      exact absurd c3 (by decide)
    have hcalm := (I.ok.hd hc)
    have D : Draws X.prog X.w X.A.in1 it [it, a] i (fun _ _ => True) (fun j h => j = i ∧ h.IsTupleIter it a i ∧ h.IsTuple a its.toArray) := {
      live := fun _ _ st => let ⟨o, ho, _⟩ := st.2.1; ⟨o, ho⟩
      frame := fun _ _ _ st hk => ⟨st.1, st.2.1.at fun o e => hk it (by simp) o e, st.2.2.at fun o e => hk a (by simp) o e⟩
      item := fun j s Q E hi st hQ => absurd st.1 (Nat.ne_of_lt hi)
      done := fun s Q E st hE => wpAny_nextOf_tuple_end hcalm st.2.1 st.2.2 (by simp; omega) hE }
    obtain ⟨f0, f1, f2, f3, f4, f5⟩ := hf it (by simp)
    exact wpAny_pyNext_enum_endD D he ⟨rfl, hit, pt⟩ fun h' eb => ⟨rfl, I.turned (t' := s.toks) (fun b o hb q => eb b o hb q) f0 f1 f3 f4 f5⟩
  self := fun A i s Q E st h => let ⟨⟨_, he⟩, _⟩ := st; wpAny_pyIter_enum he h
def iEnumT (K : PySem.W.Frag) (ta : TA) : TI := fun σ H R => ta σ H fun vs H1 => ∃ a xs, vs = [.ref a] ∧ SqT K H1 a xs ∧ R (IteT K a) H1
theorem pi_enumT {X : Cx} {e : Expr} {ta : TA} {p pos tpos : Pos} {elts : List Expr} {kk : Nat} (hg : Gl X "enumerate") (hm : X.mg "enumerate" = none) (ha : PA X [e] ta) (hs : starEach [e] X.env = [(false, eval e X.env)] := by rfl) :
    PI X (.Tuple elts kk tpos) (.Call (.Name "enumerate" p) [e] [] pos) (iEnumT X.K ta) := by
  refine ⟨fun pins s σ H R I h => ?_⟩
  refine PyProof.Rows.Call_ (ld_blt I hg hm PyProof.Rows.boot_enumerate (PyProof.Rows.callWith_type1 (thn (ha.run pos pins s σ H _ I h) fun us s1 ⟨vs, H1, I1, r1, q1⟩ => ?_) hs rfl))
  obtain ⟨a, xs, ex, hq, q⟩ := q1
  subst ex
  cases r1 with
  | cons r rr =>
    cases rr
    cases r
    obtain ⟨its, rv, p', hz⟩ := I1.tuple hq
    refine call_enumT (show s1.heap.IsTuple a its.toArray from p') fun h' he hit hsz hk => wpAny_pyIter_enum he ?_
    have I2 : Inv X pins σ H1 { s1 with heap := h' } := I1.kept (t' := s1.toks) hk
    refine ⟨s1.heap.objs.size + 1, [s1.heap.objs.size + 1, s1.heap.objs.size], _, _, H1, rfl, I2, turn_enumT a (s1.heap.objs.size + 1) s1.heap.objs.size, ⟨⟨.none, he⟩, hit, Nat.succ_ne_self _⟩, fun b hb => ?_, q⟩
    have e' : b = s1.heap.objs.size + 1 ∨ b = s1.heap.objs.size := by simpa using hb
    have hle : s1.heap.objs.size ≤ b := by
      rcases e' with z | z
      · rw [z]; exact Nat.le_add_right _ _
      · rw [z]; exact Nat.le_refl _
    exact I1.fpOk hle (I1.hok.fresh hle)
section
variable {X : Cx} {S S1 : Sl} {e : Expr} {p pos : Pos} {α : Type} [DecidableEq α] [Datum α]
theorem ei_enumT {elts : List Expr} {kk : Nat} {tpos : Pos} {xs : Tup α} (hm : X.mg "enumerate" = none) (h : EV X S e (da xs) S1) (hg : Gl X "enumerate" := by rfl) (hs : starEach [e] X.env = [(false, eval e X.env)] := by rfl) : EI X S (.Tuple elts kk tpos) (.Call (.Name "enumerate" p) [e] [] pos) ((enumL xs.items).map Datum.toD) S1 := fun Γ σ F H R s q =>
  PI.w (pi_enumT hg hm (pa_cons pe_w pa_nil hs) hs) (h.dat s fun v F1 H1 s1 m1 r1 => by
    obtain ⟨l, vs, e, hl, r2⟩ := r1.tup_of
    subst e
    refine ⟨l, vs, rfl, SqT.of (s1.fh _ _ hl), q _ F1 H1 s1 m1 fun i Γ S σ F H s m => ⟨fun d hd => ?_, fun hi => ⟨vs, SqT.of (s.fh _ _ (m _ _ hl)), by rw [r2.length, List.length_map]; rw [List.length_map, enumL_length] at hi; exact hi⟩⟩⟩
    obtain ⟨x, hx, rfl⟩ := enumL_at hd
    obtain ⟨u, e, rx⟩ := r2.at (i := i) (d := Datum.toD x) (by rw [List.getElem?_map, hx]; rfl)
    refine ⟨⟨vs, u, SqT.of (s.fh _ _ (m _ _ hl)), e⟩, fun y H' hy => ?_⟩
    obtain ⟨T, u', rfl, hT, rfl, hy⟩ := hy
    have := hy vs (SqT.of (s.fh _ _ (m _ _ hl)))
    rw [e] at this
    obtain rfl : u = u' := Option.some.inj this
    obtain ⟨s2, m2, r3⟩ := s.newT hT (vs := [.int i, u]) (ds := [.int i, Datum.toD x]) (.cons (.int _) (.cons (rx.mono m) .nil))
    exact ⟨_, s2, m2, r3, fun b o e => by rw [upd_ne (ne_of_none e hT)]; exact e⟩)
theorem ei_enumLand {elts : List Expr} {kk : Nat} {tpos : Pos} {L : Land} (hm : X.mg "enumerate" = none) (h : EV X S e (da L) S1) (hg : Gl X "enumerate" := by rfl) (hs : starEach [e] X.env = [(false, eval e X.env)] := by rfl) : EI X S (.Tuple elts kk tpos) (.Call (.Name "enumerate" p) [e] [] pos) ((enumL (rowsT L).items).map Datum.toD) S1 :=
  ei_enumT (xs := rowsT L) hm h hg hs
/-- a walk over a display of three things of one kind -/
theorem ei_t3 {tg : Expr} {x y z : α} (h : EV X S e (da (T3.mk x y z)) S1) : EI X S tg e ([x, y, z].map Datum.toD) S1 := ei_tup (ds := [x, y, z].map Datum.toD) h
theorem ei_pr {tg : Expr} {x y : α} (h : EV X S e (da (x, y)) S1) : EI X S tg e ([x, y].map Datum.toD) S1 := ei_tup (ds := [x, y].map Datum.toD) h
end
section
variable {X : Cx} {S S1 S2 S3 : Sl} {a b c : Expr} {D : En} {O1 : OP} {pos : Pos} {d2 d3 : PyData}
/-- a, b, c = e, f, g with local names, e one's own, f and g data -/
theorem sv_par3O (i j l : Nat) {x y z : Str} {px py pz pt : Pos} {kt k2 pt2} (hc : X.calm = true) (ha : EV X S a O1 S1) (hb : EV X S1 b (dd d2) S2) (hd : EV X S2 c (dd d3) S3) (r : D.nx (((S3.set i (some O1)).set j (some (dd d2))).set l (some (dd d3)))) (hN : X.N.Nodup) (hi : X.N[i]? = some x := by rfl) (hj : X.N[j]? = some y := by rfl) (hl : X.N[l]? = some z := by rfl) (hij : i ≠ j := by decide) (hil : i ≠ l := by decide) (hjl : j ≠ l := by decide)
    (hx : X.env.scope.names.lookup x = some .local := by rfl) (hy : X.env.scope.names.lookup y = some .local := by rfl) (hz : X.env.scope.names.lookup z = some .local := by rfl) (hw : swappedStores [.Tuple [.Name x px, .Name y py, .Name z pz] kt pt] (.Tuple [a, b, c] k2 pt2) X.env = pure (some [x, y, z]) := by rfl)
    (hs : swapsWithSole [.Tuple [.Name x px, .Name y py, .Name z pz] kt pt] (.Tuple [a, b, c] k2 pt2) pos.line X.env = pure false := by rfl) (hs1 : starEach [a, b, c] X.env = (false, eval a X.env) :: starEach [b, c] X.env := by rfl) (hs2 : starEach [b, c] X.env = (false, eval b X.env) :: starEach [c] X.env := by rfl) (hs3 : starEach [c] X.env = (false, eval c X.env) :: starEach [] X.env := by rfl) : SV X S (.Assign [.Tuple [.Name x px, .Name y py, .Name z pz] kt pt] (.Tuple [a, b, c] k2 pt2) pos) D := fun Γ σ F H E s q =>
  PS.w (ps_par3 hc hN hi hj hl hij hil hjl hx hy hz (pa_cons pe_w (pa_cons pe_w (pa_cons pe_w pa_nil hs3) hs2) hs1) hw hs) (ha Γ σ F H _ s fun v fp F1 H1 s1 m1 p1 => hb.frame s1 (O1.own p1) fun u fp2 F2 H2 s2 m2 p2 keep => by
    obtain ⟨e2, r2⟩ := p2
    subst e2
    rw [List.nil_append] at s2
    have p1' : O1.p v fp F2 H2 := O1.mono m2 (O1.loc (fun z hz => (keep z hz).1) p1)
    refine hd.frame s2 (O1.own p1') fun w fp3 F3 H3 s3 m3 p3 keep3 => ?_
    obtain ⟨e3, r3⟩ := p3
    subst e3
    rw [List.nil_append] at s3
    have p1'' : O1.p v fp F3 H3 := O1.mono m3 (O1.loc (fun z hz => (keep3 z hz).1) p1')
    refine ⟨v, u, w, rfl, q.nx _ _ F3 H3 r ?_⟩
    exact ((s3.put p1'' i).same_of.put (O := dd d2) ⟨rfl, r2.mono m3⟩ j).same_of.put (O := dd d3) ⟨rfl, r3⟩ l)
end
end Ev

namespace Ev
open PySem L2 PySem.Spec PyProof.Rows
open PySem.W (Datum Tup T3 T4 Holds HoldAll DatumOrd EachIs SomeDatum)
variable [Tb]
/-! # lambdas with parameters -/
/-- the lambda's names: its parameters, captured ones and globals -/
structure LamP (sc scope : Scope) (ps : List Str) : Prop where
  kind : scope.kind = .function
  co : scope.isCoroutine = false
  gen : scope.isGenerator = false
  own : ∀ y ∈ scope.names, (y.2 = .local → y.1 ∈ ps) ∧ y.2 ≠ .cell
  par : ∀ a ∈ ps, scope.names.lookup a = some .local
  free : ∀ y ∈ scope.names, y.2 = .free → sc.names.lookup y.1 = some .cell ∨ sc.names.lookup y.1 = some .free
def lamPB (sc scope : Scope) (ps : List Str) : Bool :=
  decide (scope.kind = .function) && !scope.isCoroutine && !scope.isGenerator && (scope.names.all fun y => (!decide (y.2 = .local) || decide (y.1 ∈ ps)) && !decide (y.2 = .cell) && (!decide (y.2 = .free) || decide (sc.names.lookup y.1 = some .cell) || decide (sc.names.lookup y.1 = some .free))) && ps.all fun a => decide (scope.names.lookup a = some .local)
theorem lamP_by {sc scope : Scope} {ps : List Str} (h : lamPB sc scope ps = true) : LamP sc scope ps := by
  unfold lamPB at h
  simp only [Bool.and_eq_true, Bool.or_eq_true, Bool.not_eq_true', decide_eq_true_eq, decide_eq_false_iff_not, List.all_eq_true] at h
  obtain ⟨⟨⟨⟨h1, h2⟩, h3⟩, h4⟩, h5⟩ := h
  refine ⟨h1, h2, h3, fun y hy => ⟨fun e => ?_, (h4 y hy).1.2⟩, h5, fun y hy e => ?_⟩
  · rcases (h4 y hy).1.1 with z | z
    · exact absurd e z
    · exact z
  · rcases (h4 y hy).2 with (z | z) | z
    · exact absurd e z
    · exact .inl z
    · exact .inr z
theorem LamP.has {X : Cx} {scope : Scope} {ps : List Str} (L : LamP X.env.scope scope ps) (ok : X.Ok) : ∀ y ∈ scope.names, y.2 = .free → ∃ c, X.env.cells.lookup y.1 = some c := fun y hy e => by
  rcases L.free y hy e with k | k
  · exact ok.has _ (.inl k)
  · exact ok.has _ (.inr k)
def lamC (X : Cx) (A : Around) (outer : List Env) (s : Shared) (H : Hp) (scope : Scope) (f c' : Addr) (ps : List Str) : Cx where
  prog := X.prog
  w := X.w
  K := X.K
  mg := X.mg
  base := X.base
  A := A.deeper (LamX.lamEnv X scope s.heap.objs.size f c')
  N := X.N ++ ps
  s_0 := s
  H_0 := H
  env := LamX.lamEnv X scope s.heap.objs.size f c'
  outer := outer
  stack := LamX.lamEnv X scope s.heap.objs.size f c' :: outer
  ex := []
  fn := fun _ => false
  calm := true
  pn := []
  xe := fun _ _ => False
theorem lookup_zip {ps : List Str} {us : List Value} (nd : ps.Nodup) {i : Nat} {a : Str} {u : Value} (h1 : ps[i]? = some a) (h2 : us[i]? = some u) : (ps.zip us).reverse.lookup a = some u := by
  induction ps generalizing us i with
  | nil => simp at h1
  | cons b ps ih =>
    cases us with
    | nil => simp at h2
    | cons w us =>
      obtain ⟨n1, n2⟩ := List.nodup_cons.mp nd
      rw [List.zip_cons_cons, List.reverse_cons, List.lookup_append]
      cases i with
      | zero =>
        simp at h1 h2
        subst h1 h2
        have : (ps.zip us).reverse.lookup b = none := by
          rw [List.lookup_eq_none_iff]
          intro p hp
          have := (List.of_mem_zip (List.mem_reverse.mp hp)).1
          simp
          intro e; exact n1 (e ▸ this)
        rw [this]; simp
      | succ i =>
        rw [ih n2 (by simpa using h1) (by simpa using h2)]; rfl
section
variable {X : Cx} {pins : List (Addr × Obj)} {σ : L2.St} {H HZ : Hp} {s s1 : Shared}
theorem lam_start {A : Around} {outer : List Env} {scope : Scope} {f c' : Addr} {ps : List Str} {us : List Value} {vs : List V} {h₁ : Heap} {tk : Nat} (I : Inv X pins σ H s) (L : LamP X.env.scope scope ps) (hN : (X.N ++ ps).Nodup) (rv : Vals vs us) (hlen : vs.length = ps.length) (e0 : Env0 X.prog X.w X.K X.mg X.base A outer s1 HZ) (hd : A.handled = none)
    (un : Un (frs X.stack) [] H HZ s.heap s1.heap) (hns : h₁.Ns s1.heap.objs.size fun y => (ps.zip us).reverse.lookup y) (kp : ∀ b o, s1.heap.get? b = some o → h₁.get? b = some o) :
    Inv (lamC X A outer s1 HZ scope f c' ps) [] (σ ++ vs.map some) HZ { s1 with heap := h₁, toks := tk } := by
  have hfree := L.has I.ok
  have cm : ∀ {y c}, (cloFrom X.env.cells scope.names []).lookup y = some c → X.env.cells.lookup y = some c := fun {y c} e => by
    rcases cloFrom_mem (PySem.mem_of_lookup e) with hm | ⟨h1, h2⟩
    · cases hm
    · obtain ⟨c1, hc⟩ := hfree _ h1 rfl
      have hc : X.env.cells.lookup y = some c1 := hc
      have e2 : c = c1 := by
        rw [h2, hc] <;> rfl
      rw [e2]
      exact hc
  have look : ∀ {y}, scope.names.lookup y = some .free → ∃ c, (cloFrom X.env.cells scope.names []).lookup y = some c := fun {y} hl => by
    have hy : (y, NameKind.free) ∈ scope.names := PySem.mem_of_lookup hl
    exact mem_lookup (cloFrom_has (cells := X.env.cells) (acc := []) hy)
  have cellK : ∀ {c : Addr} {v : Option Value}, H c = none → s.heap.IsCell c v → h₁.IsCell c v := fun {c v} n ⟨o, ho, hd⟩ => by
    obtain ⟨sl, q⟩ := un.any ho n (by simp)
    exact ⟨_, kp _ _ q, hd⟩
  have noA : ∀ b : Addr, b ∉ (lamC X A outer s1 HZ scope f c' ps).ex := fun b z => absurd (show b ∈ ([] : List Addr) from z) (by simp)
  refine ⟨⟨e0.mod, L.kind, rfl, rfl, Nat.le_refl _, fun y z c e1 e2 => I.ok.inj y z c (cm e1) (cm e2), fun y hy => ?_, fun y c z _ => ?_, fun _ => hd, Around.frames_deeper e0.frames, .inr ⟨rfl, rfl⟩, fun b z => absurd z (noA b), e0.bs, e0.bsz, fun b _ _ => noA b,
      fun b z => absurd z (noA b), e0.funs, e0.frf⟩,
    rfl, e0.bare, Un.kept kp, ⟨_, hns, fun i y v e1 e2 e3 => ?_⟩, fun y c e => ?_, e0.hok.fresh (Nat.le_refl _), fun y c e => ?_, fun q hq => absurd (show q ∈ ([] : List (Addr × Obj)) ++ [] from hq) (by simp), e0.hok.kept kp, ?_⟩
  · have hy : scope.names.lookup y = some .cell ∨ scope.names.lookup y = some .free := hy
    rcases hy with hy | hy
    · exact absurd rfl (L.own _ (PySem.mem_of_lookup hy)).2
    · exact look hy
  · have z : false = true := z
    cases z
  · have e1 : (X.N ++ ps)[i]? = some y := e1
    have e3 : Vis scope y := e3
    have hsl : σ.length = X.N.length := I.len
    by_cases hi : i < X.N.length
    · rw [List.getElem?_append_left hi] at e1
      rw [List.getElem?_append_left (by omega)] at e2
      have nps : y ∉ ps := fun z => by
        have := List.nodup_append.mp hN
        exact this.2.2 y (List.mem_of_getElem? e1) y z rfl
      rcases e3 with k | k | k
      · exact absurd ((L.own _ (PySem.mem_of_lookup k)).1 rfl) nps
      · exact absurd rfl (L.own _ (PySem.mem_of_lookup k)).2
      · obtain ⟨m, hn, hl⟩ := I.loc
        have hvis : Vis X.env.scope y := (L.free _ (PySem.mem_of_lookup k) rfl).elim (fun k => .inr (.inl k)) (fun k => .inr (.inr k))
        obtain ⟨w', r, q⟩ := hl i y v e1 e2 hvis
        obtain ⟨c2, h2⟩ := look k
        refine ⟨w', r, .inr ⟨.inr k, c2, h2, ?_⟩⟩
        have c1 := cm h2
        rcases q with ⟨k', _⟩ | ⟨_, c3, e', z⟩
        · have k' : X.env.scope.names.lookup y = some .local := k'
          rcases L.free _ (PySem.mem_of_lookup k) rfl with k2 | k2 <;> rw [show X.env.scope.names.lookup y = _ from k2] at k' <;> cases k'
        · rw [c1] at e'
          cases e'
          exact cellK (I.freeC y _ c1) z
    · rw [List.getElem?_append_right (by omega)] at e1
      rw [List.getElem?_append_right (by omega), hsl, List.getElem?_map] at e2
      cases hv : vs[i - X.N.length]? with
      | none => rw [hv] at e2; cases e2
      | some v' =>
        rw [hv] at e2
        obtain rfl : v' = v := by injection e2 with e2; injection e2
        obtain ⟨u, hu, ru⟩ := rv.get hv
        refine ⟨u, ru, .inl ⟨L.par y (List.mem_of_getElem? e1), ?_⟩⟩
        exact lookup_zip (List.nodup_append.mp hN).2.1 e1 hu
  · obtain ⟨w', z⟩ := I.cell y c (cm e)
    exact ⟨w', cellK (I.freeC y c (cm e)) z⟩
  · obtain ⟨v, o, ho, hd⟩ := I.cell y c (cm e)
    exact un.free c o ho (I.freeC y c (cm e)) (by simp)
  · show (σ ++ vs.map some).length = (X.N ++ ps).length
    rw [List.length_append, List.length_append, List.length_map, hlen, I.len]
/-- the lambda f called, in the def that made it, at depth A -/
theorem lam_run {A : Around} {scope : Scope} {f c' : Addr} {params : Arguments} {body : Expr} {pm ctv : Value} {ps : List Str} {us : List Value} {vs : List V} {k : Nat} {tb : TE} {Q : VK} (I : Inv X pins σ H s) (L : LamP X.env.scope scope ps) (hN : (X.N ++ ps).Nodup) (rv : Vals vs us) (hlen : vs.length = ps.length) (e0 : Env0 X.prog X.w X.K X.mg X.base A X.stack s H)
    (hf : s.heap.get? f = some (PySem.W.kla_obj "<lambda>" (X.env.qual ++ "<lambda>") params body scope (cloFrom X.env.cells scope.names []) pm c' ctv)) (hco : H c' = some (LamX.CodeO c' (X.env.qual ++ "<lambda>")))
    (hbind : bindArgs (PySem.W.kla_fn "<lambda>" (X.env.qual ++ "<lambda>") params body scope (cloFrom X.env.cells scope.names []) pm (.ref c') ctv) ⟨us, []⟩ = pure (ps.zip us)) (hr : Room (k + 1) A)
    (hbody : Room k (A.deeper (LamX.lamEnv X scope s.heap.objs.size f c')) → PE (lamC X A X.stack s H scope f c' ps) body tb) (h : tb (σ ++ vs.map some) H Q) :
    wpAny (model X.prog X.w) A (call (.ref f) us []) (fun u s' => CE X.stack X.prog X.w H s Q u s') (fun _ _ => False) s := by
  refine wpAny_call ?_
  obtain ⟨⟨oc, ws, t, hoc, hdc, hvc⟩, _, _⟩ := I.hok c' _ hco
  refine PySem.W.kla_callFunE hr.depth hf rfl L.co L.gen rfl ⟨c', oc, ws, t, rfl, hoc, hdc, hvc⟩ ?_
  rw [hbind]
  refine wpAny_pure (wpAny_newFunctionEnv (fun y hy => (L.own y hy).2) (fun y hy => L.par y.1 (List.of_mem_zip hy).1) (fun h₁ hns hsb => ⟨I.nolimit.fresh _ hsb, ?_⟩) L.kind)
  show codeAny _ _ (.expr body (LamX.lamEnv X scope s.heap.objs.size f c')) _ _
  have kp : ∀ b o, s.heap.get? b = some o → h₁.get? b = some o := fun b o e => hsb.extBut b o (Nat.ne_of_lt (Heap.lt_size e)) (Heap.get?_push_of_some _ e)
  have J : Inv (lamC X A X.stack s H scope f c' ps) [] (σ ++ vs.map some) H { s with heap := h₁, toks := s.toks + (ps.zip us).length } := lam_start I L hN rv hlen e0 hr.hd Un.refl hns kp
  refine PySem.W.kla_codeExpr (wpAny_mono ((hbody (hr.deeper _)).run [] _ _ H Q J h) (fun v s' hq => ?_) fun e s' hq => hq.elim)
  obtain ⟨w', H', J', rv', q⟩ := hq
  exact ⟨w', H', J'.os, J'.bare, J'.base, J'.hok, rv', q⟩
/-- the lambda is made: what is known of it, and of the heap's account -/
structure Made (X : Cx) (H : Hp) (P : Addr) (T : List (Addr × Str)) (q : Str) (params : Arguments) (body : Expr) (scope : Scope) (f c' : Addr) (H1 : Hp) (s s' : Shared) : Prop where
  obj : ∃ pm ctv, s'.heap.get? f = some (PySem.W.kla_obj "<lambda>" q params body scope (cloFrom X.env.cells scope.names []) pm c' ctv)
  frs : s.heap.objs.size ≤ f
  non : H1 f = none
  keep : ∀ a o, H a = some o → a ≠ P → H1 a = some o
  tblP : ∃ ps, H P = some (.tbl ps)
  tabs : LamX.Tabs T H1
  old : ∀ a o, H1 a = some o → (∃ ps, o = .tbl ps) ∨ a = c' ∨ H a = some o
  code : H1 c' = some (LamX.CodeO c' q)
  new : H c' = none ∨ ∃ ps pos, H P = some (.tbl ps) ∧ codeAmong pos ps.toList = some (.ref c')
  cod : ∀ p ∈ T, ∀ ps, H1 p.1 = some (.tbl ps) → ∀ pos cv, codeAmong pos ps.toList = some cv → (cv = .ref c' ∧ p.2 = q) ∨ ∃ ps0, H p.1 = some (.tbl ps0) ∧ codeAmong pos ps0.toList = some cv
theorem lam_make3 {T : List (Addr × Str)} {c P : Addr} {params : Arguments} {body : Expr} {scope : Scope} {pos : Pos} {E : Value → Shared → Prop} {Q : Value → Shared → Prop} (I : Inv X pins σ H s) (TB : LamX.TabB X.base X.mg c P) (hcode : X.env.code = .ref c)
    (hm : (P, X.env.qual ++ "<lambda>") ∈ T) (hu : ∀ p ∈ T, p.1 = P → p.2 = X.env.qual ++ "<lambda>") (hT : LamX.Tabs T H) (hdef : defaultsOf params X.env = ([], [])) (hfree : ∀ y ∈ scope.names, y.2 = .free → ∃ c, X.env.cells.lookup y.1 = some c)
    (h : ∀ (f c' : Addr) (H1 : Hp) (s' : Shared), Inv X pins σ H1 s' → Made X H P T (X.env.qual ++ "<lambda>") params body scope f c' H1 s s' → Q (.ref f) s') :
    wpAny (model X.prog X.w) X.A (eval (.Lambda params body scope pos) X.env) Q E s := by
  obtain ⟨ps, hP, ht, ha⟩ := hT _ hm
  refine PySem.W.kla_eval hdef ?_
  have bP : s.heap.BuiltinsAt X.mg P := TB.bm.keeps I.bk
  have hP' : s.heap.get? P = some { cls := .none, data := .fields ps } := I.hok P _ hP
  cases hc : codeAmong pos ps.toList with
  | none =>
    refine PySem.W.kla_makeFunction (mg := X.mg) (c := c) (P := P) (ps := ps) (closure_ok hfree) I.ok.glob (I.mod.glob.keeps I.bk) hcode (TB.code.keeps I.bk) hP' ht hc TB.gP bP fun c' ctv h' tk hx hge hlt hrec htb => ?_
    obtain ⟨c2, oc, vs, t, e2, hoc, hd, hv⟩ := hrec
    cases e2
    have hsz : s.heap.objs.size ≤ h'.objs.size := Nat.le_trans hge (Nat.le_of_lt hlt)
    have nC : H c' = none := I.hok.fresh hge
    have nPc : P ≠ c' := ne_of_none hP nC
    have I1 := LamX.inv_table (t' := tk) (more := #[rawInt pos.line, rawInt pos.col, .ref c']) (h' := h'.push (PySem.W.kla_obj "<lambda>" (X.env.qual ++ "<lambda>") params body scope (cloFrom X.env.cells scope.names []) ((X.mg "__name__").getD .none) c' ctv)) I hP
      (fun b o hb e => Heap.get?_push_of_some _ (hx b o hb e)) (Heap.get?_push_of_some _ htb) hge ⟨oc, vs, t, Heap.get?_push_of_some _ hoc, hd, hv⟩
    have hE : LamX.ExtN H (upd (upd H P (.tbl (ps ++ #[rawInt pos.line, rawInt pos.col, .ref c']))) c' (LamX.CodeO c' (X.env.qual ++ "<lambda>"))) := fun b o e n => by
      rw [upd_ne (ne_of_none e nC), upd_ne (fun z => n ps (Option.some.inj (e.symm.trans (by rw [z]; exact hP))))]
      exact e
    have eL : (ps ++ #[rawInt pos.line, rawInt pos.col, .ref c']).toList = ps.toList ++ [rawInt pos.line, rawInt pos.col, .ref c'] := by simp
    refine h h'.objs.size c' _ _ I1 ⟨⟨_, _, Heap.get?_push_size _ rfl⟩, hsz, ?_, fun a o e n => by rw [upd_ne (ne_of_none e nC), upd_ne n]; exact e, ⟨ps, hP⟩, fun p hp => ?_, fun a o e => ?_, upd_same, .inl nC, fun p hp ps' e pos' cv hcv => ?_⟩
    · have n1 : h'.objs.size ≠ c' := Nat.ne_of_gt hlt
      have n2 : h'.objs.size ≠ P := Nat.ne_of_gt (Nat.lt_of_lt_of_le (Heap.lt_size hP') hsz)
      rw [upd_ne n1, upd_ne n2]
      exact I.hok.fresh hsz
    · by_cases hb : p.1 = P
      · rw [hu p hp hb, hb]
        refine ⟨_, by rw [upd_ne nPc, upd_same], by rw [eL]; exact PySem.TriplesOk_snoc _ _ _ _ ht, fun p' cv hcv => ?_⟩
        rw [eL] at hcv
        rcases LamX.among_app _ ht hcv with z | z
        · obtain ⟨c0, e1, e2⟩ := ha p' cv z
          exact ⟨c0, e1, hE _ _ e2 LamX.codeO_ne⟩
        · exact ⟨c', z, upd_same⟩
      · obtain ⟨ps', a1, a2, a3⟩ := hT p hp
        refine ⟨ps', by rw [upd_ne (ne_of_none a1 nC), upd_ne hb]; exact a1, a2, fun p' cv hcv => ?_⟩
        obtain ⟨c0, e1, e2⟩ := a3 p' cv hcv
        exact ⟨c0, e1, hE _ _ e2 LamX.codeO_ne⟩
    · by_cases h1 : a = c'
      · exact .inr (.inl h1)
      · rw [upd_ne h1] at e
        by_cases h2 : a = P
        · rw [h2, upd_same] at e
          exact .inl ⟨_, (Option.some.inj e).symm⟩
        · rw [upd_ne h2] at e
          exact .inr (.inr e)
    · by_cases hb : p.1 = P
      · rw [hb, upd_ne nPc, upd_same] at e
        cases e
        rw [eL] at hcv
        rcases LamX.among_app _ ht hcv with z | z
        · exact .inr ⟨ps, by rw [hb]; exact hP, z⟩
        · exact .inl ⟨z, hu p hp hb⟩
      · obtain ⟨ps0, a1, _⟩ := hT p hp
        rw [upd_ne (ne_of_none a1 nC), upd_ne hb] at e
        exact .inr ⟨ps', e, hcv⟩
  | some cv =>
    obtain ⟨c', e, hco⟩ := ha pos cv hc
    subst e
    refine PySem.W.kla_makeFunctionHit (mg := X.mg) (c := c) (P := P) (ps := ps) (closure_ok hfree) I.ok.glob (I.mod.glob.keeps I.bk) hcode (TB.code.keeps I.bk) hP' ht hc bP fun ctv h' tk hx hsz => ?_
    have I1 : Inv X pins σ H { s with heap := h'.push (PySem.W.kla_obj "<lambda>" (X.env.qual ++ "<lambda>") params body scope (cloFrom X.env.cells scope.names []) ((X.mg "__name__").getD .none) c' ctv), toks := tk } := I.kept fun b o e => Heap.get?_push_of_some _ (hx b o e)
    exact h h'.objs.size c' H _ I1 ⟨⟨_, _, Heap.get?_push_size _ rfl⟩, hsz, I.hok.fresh hsz, fun a o e _ => e, ⟨ps, hP⟩, hT, fun a o e => .inr (.inr e), hco, .inr ⟨ps, pos, hP, hc⟩, fun p hp ps' e pos' cv' hcv => .inr ⟨ps', e, hcv⟩⟩
/-- the object at f is this lambda -/
def LamO (f : Addr) (q : Str) (params : Arguments) (body : Expr) (scope : Scope) (cl : List (Str × Addr)) (c' : Addr) : HO := .ext fun h => ∃ pm ctv, h.get? f = some (PySem.W.kla_obj "<lambda>" q params body scope cl pm c' ctv)
/-- a lambda, as a value -/
def lamF (q : Str) (params : Arguments) (body : Expr) (scope : Scope) (cl : List (Str × Addr)) : FP :=
  ⟨fun v F => ∃ f c', v = .ref f ∧ F f = some (LamO f q params body scope cl c') ∧ F c' = some (LamX.CodeO c' q), fun s h => by
    obtain ⟨f, c', h1, h2, h3⟩ := h
    exact ⟨f, c', h1, s _ _ h2, s _ _ h3⟩⟩
theorem ev_lam {S : Sl} {c P : Addr} {params : Arguments} {body : Expr} {scope : Scope} {pos : Pos} (ps : List Str) (TB : LamX.TabB X.base X.mg c P) (hcode : X.env.code = .ref c) (hm : (P, X.env.qual ++ "<lambda>") ∈ Tb.T) (hu : ∀ p ∈ Tb.T, p.1 = P → p.2 = X.env.qual ++ "<lambda>")
    (L : LamP X.env.scope scope ps) (hdef : defaultsOf params X.env = ([], [])) : EV X S (.Lambda params body scope pos) (fz (lamF (X.env.qual ++ "<lambda>") params body scope (cloFrom X.env.cells scope.names []))) S := fun Γ σ F H Q sa q pins s I => by
  refine lam_make3 I TB hcode hm hu sa.tb.tabs hdef (L.has I.ok) fun f c' H1 s' I1 M => ?_
  have eqq : True := trivial
  generalize hq : X.env.qual ++ "<lambda>" = qq at M q ⊢
  have nf : H f = none := I.hok.fresh M.frs
  have fcne : f ≠ c' := fun z => by have := M.non; rw [z, M.code] at this; cases this
  -- the lambda itself is known from now on
  let o1 : HO := LamO f qq params body scope (cloFrom X.env.cells scope.names []) c'
  obtain ⟨pm, ctv, hob⟩ := M.obj
  have I2 : Inv X pins σ (upd H1 f o1) s' := Inv.take (o := o1) (t' := s'.toks) I1 (fun b ob _ e => e) (I.fpOk M.frs M.non) ⟨⟨pm, ctv, hob⟩, ⟨_, hob⟩, fun h1 h2 ⟨pm, ctv, a⟩ st => ⟨pm, ctv, st _ a⟩⟩
  have cF : F c' = none ∨ F c' = some (LamX.CodeO c' qq) := by
    cases e : F c' with
    | none => exact .inl rfl
    | some o =>
      have e2 := sa.fh _ _ e
      rcases M.new with z | ⟨ps, pos, z1, z2⟩
      · rw [z] at e2; cases e2
      · obtain ⟨c2, e3, e4⟩ := sa.tb.cod _ hm ps z1 pos _ z2
        cases e3
        rw [e] at e4
        rw [e4]
        have := hq
        subst this
        exact .inr rfl
  let F2 : Hp := upd (upd F c' (LamX.CodeO c' qq)) f o1
  have Ff : F f = none := by
    cases e : F f with
    | none => rfl
    | some o => have := sa.fh _ _ e; rw [nf] at this; cases this
  have F2f : F2 f = some o1 := upd_same
  have F2c : F2 c' = some (LamX.CodeO c' qq) := by show upd _ f o1 c' = _; rw [upd_ne (Ne.symm fcne), upd_same]
  have F2o : ∀ a, a ≠ f → a ≠ c' → F2 a = F a := fun a h1 h2 => by show upd _ f o1 a = _; rw [upd_ne h1, upd_ne h2]
  have H2o : ∀ a, a ≠ f → upd H1 f o1 a = H1 a := fun a h1 => upd_ne h1
  have sF : Same F F2 := fun a o e => by
    have n1 : a ≠ f := ne_of_none e Ff
    by_cases h2 : a = c'
    · subst h2
      rcases cF with z | z
      · rw [z] at e; cases e
      · rw [z] at e; rw [F2c]; exact e
    · rw [F2o a n1 h2]; exact e
  obtain ⟨psP, hPt⟩ := M.tblP
  have fP : f ≠ P := fun z => by rw [z, hPt] at nf; cases nf
  have cP : c' ≠ P := fun z => by
    obtain ⟨ps, h1, _⟩ := M.tabs _ hm
    have h1 : H1 P = some (.tbl ps) := h1
    have := M.code
    rw [z, h1] at this
    unfold LamX.CodeO at this; cases this
  have up : ∀ a o, H a = some o → a ≠ P → upd H1 f o1 a = some o := fun a o e n => by
    rw [H2o a (ne_of_none e nf)]
    exact M.keep a o e n
  have nP : ∀ a o, H a = some o → (∀ ps, o ≠ .tbl ps) → a ≠ P := fun a o e n z => by
    rw [z, hPt] at e; exact n psP (Option.some.inj e).symm
  have FP' : F P = none := sa.tb.off _ hm
  have sat : Sat Γ S σ F2 (upd H1 f o1) := by
    obtain ⟨fp, x1, x2, x3, x4⟩ := sa.ex
    have fpn : ∀ i a, a ∈ fp i → a ≠ f ∧ a ≠ c' ∧ a ≠ P ∧ upd H1 f o1 a = H a := fun i a ha => by
      obtain ⟨o, e, n⟩ := ex_nt x1 x4 ha
      have n1 := ne_of_none e nf
      have n2 := nP a o e n.2.1
      refine ⟨n1, fun z => ?_, n2, by rw [up a o e n2, e]⟩
      have := M.keep a o e n2
      rw [z, M.code] at this
      exact n.2.2 _ (Option.some.inj this).symm
    refine ⟨sa.len, fun a o e => ?_, sa.f0.trans sF, fun a o e n nn => ?_, ⟨M.tabs.ext fun a o e => ?_, fun p hp => ?_, fun p hp ps e pos cv hc => ?_⟩, fun a ha => ?_, fun a xs e => ?_, fp, fun i O e => ?_, fun i a ha => ?_, x3, x4⟩
    · by_cases h1 : a = f
      · rw [h1] at e ⊢; rw [F2f] at e; rw [← e]; exact upd_same
      · by_cases h2 : a = c'
        · rw [h2] at e ⊢; rw [F2c] at e; rw [H2o _ (Ne.symm fcne), M.code, ← e]
        · rw [F2o a h1 h2] at e
          exact up a o (sa.fh _ _ e) (fun z => by rw [z, FP'] at e; cases e)
    · have := sa.h0 a o e n nn
      exact up a o this (nP a o this nn)
    · rw [H2o a (ne_of_none e M.non)]; exact e
    · obtain ⟨ps, h1, _⟩ := M.tabs p hp
      have n1 : p.1 ≠ f := ne_of_none h1 M.non
      have n2 : p.1 ≠ c' := fun z => by
        rw [z, M.code] at h1
        unfold LamX.CodeO at h1; cases h1
      rw [F2o _ n1 n2]; exact sa.tb.off p hp
    · have n1 : p.1 ≠ f := fun z => by
        obtain ⟨ps, h1, _⟩ := M.tabs p hp
        rw [z, M.non] at h1; cases h1
      rw [H2o _ n1] at e
      rcases M.cod p hp ps e pos cv hc with ⟨z1, z2⟩ | ⟨ps0, z1, z2⟩
      · exact ⟨c', z1, by rw [z2]; exact F2c⟩
      · obtain ⟨c2, e3, e4⟩ := sa.tb.cod p hp ps0 z1 pos cv z2
        exact ⟨c2, e3, sF _ _ e4⟩
    · by_cases h1 : a = f
      · subst h1
        by_cases z : Γ.A0 a
        · exact .inr (.inr z)
        · exact .inr (.inl (fr_tr (fun o e n => sa.h0 a o e z n) (.inl nf)))
      · by_cases h2 : a = c'
        · subst h2
          rcases cF with z0 | z0
          · rcases M.new with z1 | ⟨ps, pos, z1, z2⟩
            · by_cases z : Γ.A0 a
              · exact .inr (.inr z)
              · exact .inr (.inl (fr_tr (fun o e n => sa.h0 a o e z n) (.inl z1)))
            · obtain ⟨c2, e3, e4⟩ := sa.tb.cod _ hm ps z1 pos _ z2
              cases e3
              rw [z0] at e4; cases e4
          · exact sa.new a (by rw [z0]; exact fun z => by cases z)
        · rw [F2o a h1 h2] at ha
          exact sa.new a ha
    · have n1 : a ≠ f := fun z => by
        rw [z, upd_same] at e
        have e' : o1 = .tup xs := Option.some.inj e
        have : LamO f qq params body scope (cloFrom X.env.cells scope.names []) c' = .tup xs := e'
        unfold LamO at this; cases this
      rw [H2o a n1] at e
      rcases M.old a _ e with ⟨ps, z⟩ | z | z
      · cases z
      · rw [z, M.code] at e; unfold LamX.CodeO at e; cases e
      · exact sF _ _ (sa.tup a xs z)
    · obtain ⟨v, e1, p⟩ := x1 i O e
      exact ⟨v, e1, O.mono sF (O.loc (fun a ha => (fpn i a ha).2.2.2) p)⟩
    · obtain ⟨n1, n2, n3, n4⟩ := fpn i a ha
      obtain ⟨q1, q2, q3⟩ := x2 i a ha
      exact ⟨by rw [F2o a n1 n2]; exact q1, by rw [n4]; exact q2, q3⟩
  exact ⟨.ref f, upd H1 f o1, I2, rfl, q (.ref f) [] F2 (upd H1 f o1) sat.same_of sF ⟨rfl, f, c', rfl, F2f, F2c⟩⟩
end
end Ev

namespace Ev
open PySem L2 PySem.Spec PyProof.Rows
open PySem.W (Datum Tup T3 T4 Holds HoldAll DatumOrd EachIs SomeDatum KeepsBut AllAlike Sortable SortsAt dataKind KeyedOut copyHeap copyHeap_at copyHeap_old dataLe keyToks)
variable [Tb]
/-! # sorted by a key that is called -/
section
variable {prog : Program} {w : World} {A : Around} {E : Value → Shared → Prop} {s : Shared} {a kS : Addr} {b : Bool} {vs : List Value} {e1 : Nat} {P : PySem.Fin → Shared → Prop}
theorem keyG_rest {f : Value} (J : Nat → Array Value → Shared → Prop) (hZ : vs.length ≤ sizeLine) (h0 : J 0 #[] s)
    (hJ : ∀ i kA s', J i kA s' → kA.size = i)
    (turn : ∀ i x kA s', vs[i]? = some x → J i kA s' → wpAny (model prog w) A (call f [x]) (fun v s'' => ∃ e, s''.heap.get? kS = some (seqObj "list" kA e) ∧ ∀ h' c, Heap.SameBut kS s''.heap h' → h'.get? kS = some (seqObj "list" (kA.push v) c) → J (i + 1) (kA.push v) { s'' with heap := h' }) (fun _ _ => False) s')
    (done : ∀ kA s', J vs.length kA s' → (∃ e, s'.heap.get? kS = some (seqObj "list" kA e)) ∧ wpAny (model prog w) A (ksk_end a b vs.toArray e1 (.ref kS) kA) P E s') :
    wpAny (model prog w) A (ksk_rest a f b vs.toArray e1 (.ref kS)) P E s := by
  unfold ksk_rest
  refine wpAny_bind (wpAny_rule ?_)
  first
    | rw [List.forIn_toArray]
    | (rw [← Array.forIn_toList]; simp only [List.toList_toArray])
    | rw [← Array.forIn_toList]
  refine wpAny_bind (ksk_fold (fun i s' => ∃ kA, J i kA s') vs 0 s ⟨#[], h0⟩ ?step ?done)
  case step =>
    rintro j x s' hx ⟨kA, hj⟩
    simp only [Nat.zero_add] at hj ⊢
    have hjl : j < vs.length := (List.getElem?_eq_some_iff.mp hx).1
    have hz : kA.size ≤ vs.length := by rw [hJ _ _ _ hj]; omega
    refine wpAny_bind (wpAny_attempt (wpAny_mono (turn j x kA s' hx hj) (fun v s'' he => ?_) fun _ _ hF => hF.elim))
    obtain ⟨e, nk, hn⟩ := he
    try dsimp only
    have s1 := Heap.SameBut.update s''.heap kS (Obj.mapSeq (·.push v))
    obtain ⟨c2, hc2⟩ : ∃ c2, (s''.heap.update kS (Obj.mapSeq (·.push v))).get? kS = some (seqObj "list" (kA.push v) c2) := ⟨_, get?_update_seq nk (·.push v)⟩
    refine wpAny_bind (listUpdate_at nk rfl ?_ (Nat.le_trans hz hZ) (Nat.le_trans (Nat.le_of_eq (Array.size_push ..)) (Nat.succ_le_succ (Nat.le_trans hz hZ))))
    exact wpAny_pure ⟨rfl, kA.push v, hn _ c2 s1 hc2⟩
  case done =>
    rintro s' ⟨kA, hj⟩
    rw [Nat.zero_add] at hj
    obtain ⟨⟨e, nk⟩, q⟩ := done kA s' hj
    try dsimp only
    exact wpAny_bind (listItems_at nk rfl q)
/-- the list's own object at a is emptied, the keys' list stands at kS -/
theorem keyG_tree {f : Value} {n : Nat} (ho : s.heap.get? a = some (seqObj "list" vs.toArray n)) (hZ : vs.length ≤ sizeLine)
    (h : ∀ h' e1 kS, s.heap.objs.size ≤ kS → (∀ b o, b ≠ a → s.heap.get? b = some o → h'.get? b = some o) → h'.get? a = some (seqObj "list" #[] e1) → h'.get? kS = some (seqObj "list" #[] 0) → wpAny (model prog w) A (ksk_rest a f b vs.toArray e1 (.ref kS)) P E { s with heap := h' }) :
    wpAny (model prog w) A (ksk_tree a f b) P E s := by
  have ha : a < s.heap.objs.size := Heap.lt_size ho
  obtain ⟨e1, ho1⟩ : ∃ e1, (s.heap.update a (Obj.mapSeq fun _ => (#[] : Array Value))).get? a = some (seqObj "list" #[] e1) := ⟨_, get?_update_seq ho fun _ => #[]⟩
  have s1 := Heap.SameBut.update s.heap a (Obj.mapSeq fun _ => (#[] : Array Value))
  unfold ksk_tree
  refine wpAny_bind (listItems_at ho rfl ?_)
  refine wpAny_bind (listUpdate_at ho rfl ?_ (by rw [List.size_toArray]; exact hZ) (Nat.zero_le _))
  refine wpAny_bind (seqEpoch_at ho1 rfl ?_)
  refine wpAny_bind (wpAny_newTuple ?_ (by show vs.length ≤ _; exact hZ))
  refine wpAny_bind (wpAny_newList ?_ (Nat.zero_le _))
  refine wpAny_holding ?_
  have hkS : ((s.heap.update a (Obj.mapSeq fun _ => (#[] : Array Value))).push (seqObj "tuple" vs.toArray 0)).objs.size = s.heap.objs.size + 1 := by rw [size_push', Heap.size_update]
  refine h _ e1 _ (by rw [hkS]; exact Nat.le_succ _) (fun b o hb e => Heap.get?_push_of_some _ (Heap.get?_push_of_some _ ((s1.2 b hb).trans e))) (Heap.get?_push_of_some _ (Heap.get?_push_of_some _ ho1)) (Heap.get?_push_size _ rfl)
end
theorem dataLe_key {α γ : Type} [DecidableEq γ] [DatumOrd γ] (k : α → γ) : dataLe false (fun x => Datum.toD (k x)) = fun a b => leOf γ (k a) (k b) := by
  rw [PySem.W.dataLe_eq]
  funext a b
  show (!PySem.W.dataLt (Datum.toD (k b)) (Datum.toD (k a))) = _
  rw [DatumOrd.lt_eq]; rfl
theorem Sat.push {Γ : Cxt} {S : Sl} {σ : L2.St} {F H : Hp} {v : V} {d : PyData} (s : Sat Γ S σ F H) (r : Rp F v d) : Sat Γ (S ++ [some (dd d)]) (σ ++ [some v]) F H := by
  have e := ((s.ext 1).same_of.put (O := dd d) ⟨rfl, r⟩ S.length)
  have e1 : (S ++ List.replicate 1 (none : Option OP)).set S.length (some (dd d)) = S ++ [some (dd d)] := by simp
  have e2 : (σ ++ List.replicate 1 (none : Option V)).set S.length (some v) = σ ++ [some v] := by rw [← s.len]; simp
  rw [e1, e2] at e; exact e
theorem Sat.cut {Γ : Cxt} {S : Sl} {σ : L2.St} {F H : Hp} {o : Option OP} {u : Option V} (hl : σ.length = S.length) (s : Sat Γ (S ++ [o]) (σ ++ [u]) F H) : Sat Γ S σ F H :=
  s.sub hl fun i O e => by
    have hi : i < S.length := (List.getElem?_eq_some_iff.mp e).1
    refine ⟨by rw [List.getElem?_append_left hi]; exact e, fun v q => ?_⟩
    rw [List.getElem?_append_left (by omega)] at q; exact q
theorem each_reads {X : Cx} {pins : List (Addr × Obj)} {σ : L2.St} {F H : Hp} {s : Shared} (I : Inv X pins σ H s) (m : Same F H) : ∀ {ks : List V} {us : List Value} {ds : List PyData}, RpAll F ks ds → Vals ks us → EachIs (fun v d => ∃ as, Reads s.heap v d as) us ds
  | _, _, _, .nil, .nil => .nil
  | _, _, _, .cons r rs, .cons v vs => .cons (Dp.reads I _ _ _ (r.mono m).dp v) (each_reads I m rs vs)
section
variable {X : Cx} {pins : List (Addr × Obj)} {σ : L2.St} {H : Hp} {s : Shared} {α γ : Type} [DecidableEq α] [Datum α] [DecidableEq γ] [DatumOrd γ]
theorem sort_lam {n : Nat} {Γ : Cxt} {S : Sl} {F : Hp} {l f c' : Addr} {params : Arguments} {body : Expr} {scope : Scope} {p : Str} {xs : List α} (k : α → γ) {Q : VK} (I : Inv X pins σ H s) (sa : Sat Γ S σ F H) (hxs : Rp F (.ref l) (Datum.toD xs)) (hz : xs.length ≤ sizeLine)
    (hfF : F f = some (LamO f (X.env.qual ++ "<lambda>") params body scope (cloFrom X.env.cells scope.names []) c')) (hcF : F c' = some (LamX.CodeO c' (X.env.qual ++ "<lambda>")))
    (L : LamP X.env.scope scope [p]) (hN : (X.N ++ [p]).Nodup) (hbind : ∀ (u : Value) (q : Str) (cl : List (Str × Addr)) (pm cv ctv : Value), bindArgs (PySem.W.kla_fn "<lambda>" q params body scope cl pm cv ctv) ⟨[u], []⟩ = pure [(p, u)]) (hr : Room (n + 3) X.A) (hs : ∀ bs : List γ, Sortable (bs.map (Datum.toD : γ → PyData))) (hd : 2 + Datum.depth γ ≤ 64)
    (hbody : ∀ x ∈ xs, ∀ (s : Shared) (H : Hp), Room n (lamC X X.A.in1.in1 X.stack s H scope f c' [p]).A → EV (lamC X X.A.in1.in1 X.stack s H scope f c' [p]) (S ++ [some (da x)]) body (da (k x)) (S ++ [some (da x)]))
    (q : ∀ a H' F' ks, Sat Γ S σ F' H' → Same F F' → H' a = none → RpAll F' ks ((xs.mergeSort fun a b => leOf γ (k a) (k b)).map Datum.toD) → Q (.ref a) (upd H' a (.lst ks))) :
    wpAny (model X.prog X.w) X.A (call (.builtin "sorted") [.ref l] [(Str.ofString "key", .ref f)]) (EP X pins σ Q) X.xe s := by
  obtain ⟨l', ys, el, hl, rys⟩ := hxs.lst_of
  cases el
  obtain ⟨its, rv, hli⟩ := Inv.lstAt I (sa.fh _ _ hl)
  have e0 := each_rp rys rv
  have hlen : its.length = xs.length := by
    have h1 := rys.length
    have h2 := rv.length
    rw [List.length_map] at h1
    omega
  refine PySem.W.sorted_of_sort hli (by omega) (ksk_s1 _ _) (fun _ => ksk_l1 _ _) fun E' => ?_
  rw [ksk_t1]
  have hal : AllAlike (xs.map fun x => Datum.toD (k x)) := by
    have := PySem.W.AllAlike.of (enc := (Datum.toD : γ → PyData)) (bs := xs.map k) fun b b' => DatumOrd.alike b b'
    rw [List.map_map] at this
    exact this
  have hsk : Sortable (xs.map fun x => Datum.toD (k x)) := by
    have := hs (xs.map k)
    rw [List.map_map] at this
    exact this
  refine keyG_tree (copyHeap_at s.heap its) (by omega) fun h3 e1 kS hkS hk3 ha3 hS3 => ?_
  have cz : s.heap.objs.size + 1 < (copyHeap s.heap its).objs.size := Heap.lt_size (copyHeap_at s.heap its)
  have keep3 : ∀ b o, s.heap.get? b = some o → h3.get? b = some o := fun b o e => hk3 b o (Nat.ne_of_lt (Nat.lt_succ_of_lt (Heap.lt_size e))) (copyHeap_old e)
  have ask : s.heap.objs.size + 1 ≠ kS := fun z => by rw [← z] at hkS; exact absurd cz (Nat.not_lt_of_le hkS)
  have szA : s.heap.objs.size ≤ s.heap.objs.size + 1 := Nat.le_succ _
  have szK : s.heap.objs.size ≤ kS := Nat.le_trans (Nat.le_of_lt (Nat.lt_of_le_of_lt szA cz)) hkS
  have I3 : Inv X pins σ H { { s with heap := copyHeap s.heap its } with heap := h3 } := I.kept (t' := s.toks) keep3
  have fA0 := I.fpOk (H' := H) szA (I.hok.fresh szA)
  have fK0 := I.fpOk (H' := H) szK (I.hok.fresh szK)
  -- turn by turn
  let J : Nat → Array Value → Shared → Prop := fun i kA s' => ∃ (H' F' : Hp) (ks : List V), Inv X pins σ H' s' ∧ Sat Γ S σ F' H' ∧ Same F F' ∧ RpAll F' ks ((xs.take i).map fun x => Datum.toD (k x)) ∧ Vals ks kA.toList ∧ kA.size = i ∧
    (∃ e, s'.heap.get? kS = some (seqObj "list" kA e)) ∧ FpOk X pins H' kS ∧ s'.heap.get? (s.heap.objs.size + 1) = some (seqObj "list" #[] e1) ∧ FpOk X pins H' (s.heap.objs.size + 1)
  refine keyG_rest J (by omega) ⟨H, F, [], I3, sa, Same.refl F, .nil, .nil, rfl, ⟨0, hS3⟩, fK0, ha3, fA0⟩ (fun i kA s' h => by obtain ⟨_, _, _, _, _, _, _, _, h, _⟩ := h; exact h) (fun i u kA s' hu hJ => ?_) fun kA s' hJ => ?_
  · obtain ⟨H', F', ks, I', sa', m', rk, rvk, hsz, ⟨e, nk⟩, fK, na, fA⟩ := hJ
    have hi : i < xs.length := by have := (List.getElem?_eq_some_iff.mp hu).1; omega
    have hx : xs[i]? = some xs[i] := List.getElem?_eq_getElem hi
    have hmem : xs[i] ∈ xs := List.getElem_mem hi
    obtain ⟨w, ru, rw0⟩ : ∃ w, RelV w u ∧ Rp F w (Datum.toD xs[i]) := by
      have := e0.zip (u, xs[i]) (List.mem_of_getElem? (i := i) (by rw [List.getElem?_zip_eq_some]; exact ⟨hu, hx⟩))
      exact this
    obtain ⟨⟨pm, ctv, hob⟩, _, _⟩ := I'.hok f _ (sa'.fh _ _ (m' _ _ hfF))
    have hr2 : Room (n + 1) X.A.in1.in1 := hr.in1.in1
    have sa2 := sa'.push (rw0.mono m')
    refine wpAny_mono (lam_run (A := X.A.in1.in1) (us := [u]) (vs := [w]) (k := n) (Q := fun v H2 => ∃ F2, Sat Γ S σ F2 H2 ∧ Same F' F2 ∧ Rp F2 v (Datum.toD (k xs[i]))) I' L hN (.cons ru .nil) rfl I'.env0.in1.in1 hob (sa'.fh _ _ (m' _ _ hcF)) (hbind _ _ _ _ _ _) hr2 (fun _ => pe_w) ?_) (fun v s2 hc => ?_) fun _ _ z => z
    · exact (hbody _ hmem s' H' (hr2.deeper _)).dat sa2 fun v F2 H2 s2 m2 r2 => ⟨F2, s2.cut sa'.len, m2, r2⟩
    · obtain ⟨x, H2, os, bare, un, hok, rx, F2, sa3, m3, r3⟩ := hc
      have I2 : Inv X pins σ H2 s2 := I'.call' os un hok bare (fun b hb => absurd hb (by simp))
      have kK : kS ∉ frs X.stack := fun z => by
        rcases List.mem_cons.mp (I'.stkSub _ z) with e | e
        · exact fK.2.1 e
        · exact fK.2.2.1 e
      have kA' : s.heap.objs.size + 1 ∉ frs X.stack := fun z => by
        rcases List.mem_cons.mp (I'.stkSub _ z) with e | e
        · exact fA.2.1 e
        · exact fA.2.2.1 e
      have nk2 := un.keep _ _ nk fK.1 kK (by simp)
      have na2 := un.keep _ _ na fA.1 kA' (by simp)
      have fK2 : FpOk X pins H2 kS := ⟨un.free _ _ nk fK.1 (by simp), fK.2⟩
      have fA2 : FpOk X pins H2 (s.heap.objs.size + 1) := ⟨un.free _ _ na fA.1 (by simp), fA.2⟩
      refine ⟨e, nk2, fun h' c sb hc2 => ⟨H2, F2, ks ++ [x], ?_, sa3, m'.trans m3, ?_, ?_, ?_, ⟨c, hc2⟩, fK2, (sb.2 _ ask).trans na2, fA2⟩⟩
      · exact I2.turnedL (t' := s2.toks) (ch := [kS]) (fun b o hb q => (sb.2 b (by simpa using hb)).trans q) (fun b hb => (show b = kS from (by simpa using hb)) ▸ fK2)
      · rw [List.take_succ, hx]
        rw [List.map_append]
        exact (rk.mono m3).append (.cons r3 .nil)
      · rw [Array.toList_push]
        exact rvk.append (.cons rx .nil)
      · rw [Array.size_push, hsz]
  · obtain ⟨H', F', ks, I', sa', m', rk, rvk, hsz, ⟨e, nk⟩, fK, na, fA⟩ := hJ
    refine ⟨⟨e, nk⟩, ?_⟩
    have rk' : RpAll F' ks (xs.map fun x => Datum.toD (k x)) := by
      rw [hlen, List.take_of_length_le (Nat.le_refl _)] at rk; exact rk
    have hk' := each_reads I' sa'.fh rk' rvk
    let hid : Hp := fun b => if b = kS then some (.lst []) else none
    have hidK : hid kS = some (.lst []) := if_pos rfl
    have hidO : ∀ b, b ≠ kS → hid b = none := fun b h => if_neg h
    have kp : KeepsBut (s.heap.objs.size + 1) (hidT s'.heap hid) s'.heap := fun b o _ e => (of_hidT e).1
    have hkn : (hidT s'.heap hid).get? kS = none := by
      cases z : (hidT s'.heap hid).get? kS with
      | none => rfl
      | some o => have := (of_hidT z).2; rw [hidK] at this; cases this
    refine PySem.W.keyH_end (κ := dataKind s'.heap (xs.map fun x => Datum.toD (k x))) (h₁ := hidT s'.heap hid) kp hkn nk na (Ne.symm ask) (SortsAt.data hk' hal hsk fun d hd' => ?_) (by rw [hsz]) (by omega) fun h4 tk c kp4 ho4 => ⟨rfl, ?_⟩
    · obtain ⟨x, _, rfl⟩ := List.mem_map.mp hd'
      have := Datum.depth_le (k x)
      have := units_of (k := 2 + Datum.depth γ) hr hd
      show X.A.units + 1 + 1 + _ < cLine
      omega
    · have ko : KeyedOut false (xs.map fun x => Datum.toD (k x)) its _ := ⟨s'.heap, kA.toList, hal, rfl, hk'⟩
      have ho := PySem.W.keyedOut_each (fun x => Datum.toD (k x)) ko (e0.mono fun v x ⟨y, h1, h2⟩ => (⟨y, h1, h2.mono m'⟩ : ∃ y, RelV y v ∧ Rp F' y (Datum.toD x)))
      rw [dataLe_key] at ho
      obtain ⟨os, q1, q2⟩ := rp_each ho
      have I4 : Inv X pins σ H' { s' with heap := h4, toks := tk } := I'.turnedL (ch := [s.heap.objs.size + 1, kS]) (fun b o hb q => kp4 b o (fun z => hb (by simp [z])) (hidT_get q (hidO b fun z => hb (by simp [z])))) (fun b hb => by
        rcases List.mem_cons.mp hb with z | z
        · rw [z]; exact fA
        · have e : b = kS := by simpa using z
          rw [e]; exact fK)
      refine ⟨.ref (s.heap.objs.size + 1), upd H' (s.heap.objs.size + 1) (.lst os), ?_, rfl, q _ H' F' os sa' m' fA.1 q1⟩
      exact Inv.take (s := { s' with heap := h4, toks := tk }) (h' := h4) (o := .lst os) (t' := tk) I4 (fun b ob _ e => e) fA ⟨by rw [q1.length, List.length_map, List.length_mergeSort]; exact hz, _, c, q2, ho4⟩
end
section
variable {X : Cx} {S S1 : Sl} {e : Expr} {α γ : Type} [DecidableEq α] [Datum α] [DecidableEq γ] [DatumOrd γ]
/-- sorted(e, key=lambda p: body) -/
theorem ev_sortKey {m n : Nat} {c P : Addr} {params : Arguments} {body : Expr} {scope : Scope} {lpos kpos pos p1 : Pos} {p : Str} {xs : List α} (k : α → γ) (hs : ∀ bs : List γ, Sortable (bs.map (Datum.toD : γ → PyData))) (hr : Room m X.A) (hm : X.mg "sorted" = none) (ha : EV X S e (da xs) S1) (hz : xs.length ≤ sizeLine)
    (TB : LamX.TabB X.base X.mg c P) (hcode : X.env.code = .ref c) (hmT : (P, X.env.qual ++ "<lambda>") ∈ Tb.T) (hu : ∀ p ∈ Tb.T, p.1 = P → p.2 = X.env.qual ++ "<lambda>") (L : LamP X.env.scope scope [p]) (hN : (X.N ++ [p]).Nodup)
    (hbody : ∀ x ∈ xs, ∀ (f c' : Addr) (s : Shared) (H : Hp), Room n (lamC X X.A.in1.in1 X.stack s H scope f c' [p]).A → EV (lamC X X.A.in1.in1 X.stack s H scope f c' [p]) (S1 ++ [some (da x)]) body (da (k x)) (S1 ++ [some (da x)]))
    (hmn : n + 3 ≤ m := by decide) (hd : 2 + Datum.depth γ ≤ 64 := by decide) (hg : Gl X "sorted" := by rfl) (hdef : defaultsOf params X.env = ([], []) := by rfl)
    (hbind : ∀ (u : Value) (q : Str) (cl : List (Str × Addr)) (pm cv ctv : Value), bindArgs (PySem.W.kla_fn "<lambda>" q params body scope cl pm cv ctv) ⟨[u], []⟩ = pure [(p, u)] := by intro _ _ _ _ _ _; rfl)
    (hst : starEach [e] X.env = (false, eval e X.env) :: starEach [] X.env := by rfl) (he : backTo pos (starEach [e] X.env) = (false, eval e X.env) :: backTo pos (starEach [] X.env) := by rfl) (hpl : (backTo pos (starEach [e] X.env)).any (·.1) = false := by rfl)
    (hall : (backToKw pos (keywordEach [⟨some "key", .Lambda params body scope lpos, kpos⟩] X.env)).all (·.1.isSome) = true := by rfl) (hnone : (backToKw pos (keywordEach [⟨some "key", .Lambda params body scope lpos, kpos⟩] X.env)).any (·.1.isNone) = false := by rfl) (hks : (backToKw pos (keywordEach [⟨some "key", .Lambda params body scope lpos, kpos⟩] X.env)).filterMap (·.1) = [Str.ofString "key"] := by rfl) :
    EV X S (.Call (.Name "sorted" p1) [e] [⟨some "key", .Lambda params body scope lpos, kpos⟩] pos) (la (xs.mergeSort fun a b => leOf γ (k a) (k b))) S1 := fun Γ σ F H Q sa q pins s I => by
  refine wpAny_Call_Name_kw (ld_blt I hg hm (show bootBuiltins "sorted" = some (.builtin "sorted") by decide +kernel) ?_ (by decide) (by decide))
  have hA : (tCons (WE X e) tNil : TA) σ H fun vs H1 => ∃ v F1, vs = [v] ∧ Sat Γ S1 σ F1 H1 ∧ Same F F1 ∧ Rp F1 v (Datum.toD xs) := ha.dat sa fun v F1 H1 s1 m1 r1 => ⟨v, F1, rfl, s1, m1, r1⟩
  refine PyProof.Rows.callWith_kw (thn ((pa_cons pe_w pa_nil hst).run pos pins s σ H _ I hA) fun us s1 ⟨vs, H1, I1, r1, q1⟩ => ?_) he hpl hall hnone
  obtain ⟨v, F1, rfl, sa1, m1, rx⟩ := q1
  have hB : (tCons (WE X (.Lambda params body scope lpos)) tNil : TA) σ H1 fun zs H2 => ∃ z F2, zs = [z] ∧ Sat Γ S1 σ F2 H2 ∧ Same F1 F2 ∧ (lamF (X.env.qual ++ "<lambda>") params body scope (cloFrom X.env.cells scope.names [])).p z F2 :=
    (ev_lam [p] TB hcode hmT hu L hdef).fzn sa1 fun z F2 H2 s2 m2 r2 => ⟨z, F2, rfl, s2, m2, r2⟩
  refine thn ((pk_cons pe_w pk_nil).run pos pins s1 σ H1 _ I1 hB) fun ws s2 ⟨zs, H2, I2, r2, q2⟩ => ?_
  obtain ⟨z, F2, rfl, sa2, m2, f, c', rfl, hf, hc⟩ := q2
  obtain ⟨u1, rfl, ru1⟩ := vals1 r1
  obtain ⟨u2, rfl, ru2⟩ := vals1 r2
  obtain rfl : u2 = Value.ref f := ru2
  obtain ⟨l, ys, rfl, _, _⟩ := rx.lst_of
  obtain rfl : u1 = Value.ref l := ru1
  rw [hks]
  refine sort_lam (n := n) k I2 sa2 (rx.mono m2) hz hf hc L hN hbind (hr.mono hmn) hs hd (fun x hx s H hr => hbody x hx f c' s H hr) fun a H' F' ks sa' m' hn rk => ?_
  obtain ⟨t1, t2⟩ := sa'.newL hn rk
  exact q _ _ F' _ t1 ((m1.trans m2).trans m') t2
end
/-! ## a def whose code object is known -/
structure FunC (K : PySem.W.Frag) (x qual : Str) (st : Stmt) (f : Addr) (fd : FuncData) (c : Addr) : Prop where
  ex : ∃ (oc : Value) (od : Option Addr) (kV doc pm : Value) (an : Option Addr) (ct : Value) (osl : Array (Option Value)),
    fd = PySem.W.fnOf x qual (defArgs st) (defBody st) (defScope st) .none kV doc pm an (.ref c) ct ∧ K.lookup f = some ⟨oc, od, .func fd, osl⟩ ∧ PySem.W.codeIn K (.ref c) qual = true
  kp : PySem.W.keepIn K (.ref f) = true
theorem FunC.mk' {K : PySem.W.Frag} {x qual : Str} {st : Stmt} {f c : Addr} {oc : Value} {od an : Option Addr} {osl : Array (Option Value)} {kV doc pm cdv ct : Value} (l : K.lookup f = some ⟨oc, od, .func (PySem.W.fnOf x qual (defArgs st) (defBody st) (defScope st) .none kV doc pm an cdv ct), osl⟩)
    (h : PySem.W.codeIn K cdv qual = true) (k : PySem.W.keepIn K (.ref f) = true) (e : cdv = .ref c) : FunC K x qual st f (PySem.W.fnOf x qual (defArgs st) (defBody st) (defScope st) .none kV doc pm an cdv ct) c := by
  subst e
  exact ⟨⟨oc, od, kV, doc, pm, an, ct, osl, rfl, l, h⟩, k⟩
theorem FunC.ok {P : Program} {w : World} {K : PySem.W.Frag} {mg : Str → Option Value} {base : Heap} {x qual : Str} {st : Stmt} {f c : Addr} {fd : FuncData} {N ps : List Str} {k : Nat} {sp : Sp} (F : FunC K x qual st f fd c) (S : FnScope N ps (defScope st)) (len : ∀ vs H Q E, sp vs H Q E → vs.length = ps.length)
    (hbody : ∀ (A : Around) (outer : List Env) (s : Shared) (H : Hp) (vs : List V) (Q : VK) (E : XK), Room k (A.deeper (envOfC qual (defScope st) s.heap.objs.size f (.ref c))) → sp vs H Q E →
      ∃ t, PSs (cxOf CX0 P w K mg base N qual (defScope st) f (.ref c) A outer s H E).nox (defBody st) t ∧ t { nx := fun _ H' => Q .non H', rt := Q } (L2.start N vs) H) : FnOk P w K mg base CX0 (k + 1) f fd ps sp := by
  obtain ⟨oc, od, kV, doc, pm, an, ct, osl, rfl, lk, hcd⟩ := F.ex
  refine L2.fn_of lk hcd S len fun A outer s H vs Q E hr hsp => ?_
  obtain ⟨t, h, q⟩ := hbody A outer s H vs Q E hr hsp
  exact ⟨t, h.nox, q⟩
theorem fn_ofC {c : Addr} {P : Program} {w : World} {K : PySem.W.Frag} {mg : Str → Option Value} {base : Heap} {x qual : Str} {st : Stmt} {f : Addr} {fd : FuncData} {N ps : List Str} {k : Nat} {τ : Type} {ok : τ → Prop} {pre pre' : τ → Sl} {post : τ → OP}
    (F : FunC K x qual st f fd c) (Sc : FnScope N ps (defScope st)) (hl : ∀ t, (pre t).length = ps.length) (hl' : ∀ t, (pre' t).length = ps.length)
    (hpin : ∀ (t : τ) (i : Nat) (O : OP), (pre' t)[i]? = some (some O) → ∃ a O0, (pre t)[i]? = some (some O0) ∧ Pin O a ∧ Pin O0 a)
    (body : ∀ (X : Cx), X.prog = P → X.w = w → X.K = K → X.mg = mg → X.base = base → (∃ A outer s H E, X = (cxOf CX0 P w K mg base N qual (defScope st) f (.ref c) A outer s H E).nox) → Room k X.A → ∀ t, ok t → BV X (pre t ++ List.replicate (N.length - ps.length) none) (defBody st) (retD (post t) (pre' t))) :
    FnOk P w K mg base CX0 (k + 1) f fd ps (spF ok pre post pre') := by
  have hlv : ∀ vs H Q E, spF ok pre post pre' vs H Q E → vs.length = ps.length := fun vs H Q E h => by
    obtain ⟨t, _, F, A0, s, _⟩ := h
    have := s.len
    rw [List.length_map, hl] at this
    exact this
  refine F.ok Sc hlv (fun A outer s H vs Q E hr h => ⟨_, pb_w, ?_⟩)
  have hvl := hlv vs H Q E h
  obtain ⟨t, hok, F1, A0, s0, q⟩ := h
  have b := body (cxOf CX0 P w K mg base N qual (defScope st) f (.ref c) A outer s H E).nox rfl rfl rfl rfl rfl ⟨A, outer, s, H, E, rfl⟩ hr t hok
  have s1 := s0.ext (N.length - ps.length)
  have back : ∀ (S' : Sl) (σ' : L2.St) (v : V) (fp : List Addr) (F' H' : Hp), Bk S' (pre' t) → Sat ⟨F1, H, A0⟩ S' σ' F' (hide H' fp) → Sat ⟨F1, H, A0⟩ (pre' t) (vs.map some) F' (hide H' fp) := fun S' σ' v fp F' H' bk s' => by
    refine s'.sub (by rw [List.length_map, hl', hvl]) fun i O e => ⟨bk i O e, fun u hu => ?_⟩
    obtain ⟨a, O0, e0, p1, p0⟩ := hpin t i O e
    obtain ⟨v0, fp0, e1, q1, _⟩ := s0.slot e0
    obtain ⟨v1, fp1, e2, q2, _⟩ := s'.slot (bk i O e)
    rw [e1, p0 _ _ _ _ q1]
    rw [hu] at e2
    injection e2 with e2; injection e2 with e2
    rw [e2, p1 _ _ _ _ q2]
  have hst : L2.start N vs = vs.map some ++ List.replicate (N.length - ps.length) none := by unfold L2.start; rw [hvl]
  rw [hst]
  refine b ⟨F1, H, A0⟩ _ F1 H _ s1 ⟨fun S' σ' F' H' h s' => ?_, fun O S' σ' v fp F' H' h s' p => ?_, fun _ _ _ _ h _ => h.elim, fun _ _ _ _ h _ => h.elim⟩
  · exact q .non [] F' H' (back S' σ' .non [] F' H' h.2 s'.same_of) (by rw [h.1]; exact ⟨rfl, .non⟩)
  · exact q v fp F' H' (back S' σ' v fp F' H' h.2 s') (by rw [← h.1]; exact p)
theorem hf_ofC {c : Addr} {P : Program} {w : World} {K : PySem.W.Frag} {mg : Str → Option Value} {base : Heap} {x qual : Str} {st : Stmt} {f : Addr} {fd : FuncData} {N ps : List Str} {k : Nat} {τ : Type} {ok : τ → Prop} {pre pre' : τ → Sl} {post : τ → OP}
    (F : FunC K x qual st f fd c) (Sc : FnScope N ps (defScope st)) (hmg : mg x = some (.ref f)) (hb : Binds K fd ps []) (hl : ∀ t, (pre t).length = ps.length) (hl' : ∀ t, (pre' t).length = ps.length)
    (hpin : ∀ (t : τ) (i : Nat) (O : OP), (pre' t)[i]? = some (some O) → ∃ a O0, (pre t)[i]? = some (some O0) ∧ Pin O a ∧ Pin O0 a)
    (body : ∀ (X : Cx), X.prog = P → X.w = w → X.K = K → X.mg = mg → X.base = base → (∃ A outer s H E, X = (cxOf CX0 P w K mg base N qual (defScope st) f (.ref c) A outer s H E).nox) → Room k X.A → ∀ t, ok t → BV X (pre t ++ List.replicate (N.length - ps.length) none) (defBody st) (retD (post t) (pre' t))) :
    HF P w K mg base (k + 1) x (spF ok pre post pre') :=
  ⟨f, fd, ps, fn_ofC F Sc hl hl' hpin body, hmg, F.kp, hb⟩

/-! ## keys that the mirror tells -/
def gv {γ : Type} [Inhabited γ] (r : Rs γ) : γ := match r with
  | .ok y => y
  | _ => default
open Classical in
/-- sorted by a key that may not come through -/
noncomputable def skM {α γ : Type} [DecidableEq γ] [DatumOrd γ] [Inhabited γ] (f : α → Rs γ) (xs : List α) : Rs (List α) :=
  if ∀ x ∈ xs, f x = .ok (gv (f x)) then .ok (xs.mergeSort fun a b => leOf γ (gv (f a)) (gv (f b))) else .no
theorem skM_spec {α γ : Type} [DecidableEq γ] [DatumOrd γ] [Inhabited γ] (o : Ord3 (DatumOrd.lt (α := γ))) {f : α → Rs γ} {xs : List α} (k : α → γ) (h : ∀ x ∈ xs, f x = .ok (k x)) : ∃ ys, skM f xs = .ok ys ∧ ys.Perm xs ∧ ys.Pairwise fun a b => DatumOrd.lt (k b) (k a) = false := by
  have e : ∀ x ∈ xs, gv (f x) = k x := fun x hx => by rw [h x hx]; rfl
  refine ⟨xs.mergeSort fun a b => leOf γ (gv (f a)) (gv (f b)), ?_, List.mergeSort_perm _ _, ?_⟩
  · unfold skM
    rw [if_pos fun x hx => by rw [e x hx]; exact h x hx]
  · have pw := List.pairwise_mergeSort (le := fun a b => leOf γ (gv (f a)) (gv (f b))) (fun a b c h1 h2 => by
      unfold leOf at *
      rw [Bool.not_eq_true'] at h1 h2 ⊢
      exact o.neg _ _ _ h2 h1) (fun a b => by
      unfold leOf
      rw [Bool.or_eq_true, Bool.not_eq_true', Bool.not_eq_true']
      by_cases q : DatumOrd.lt (gv (f b)) (gv (f a)) = true
      · exact .inr (o.asym _ _ q)
      · exact .inl (by simpa using q)) xs
    refine pw.imp_of_mem fun {a b} ha hb q => ?_
    have ha' := (List.mergeSort_perm xs _).mem_iff.mp ha
    have hb' := (List.mergeSort_perm xs _).mem_iff.mp hb
    rw [← e a ha', ← e b hb']
    unfold leOf at q
    simpa using q
theorem skM_ok {α γ : Type} [DecidableEq γ] [DatumOrd γ] [Inhabited γ] {f : α → Rs γ} {xs ys : List α} (h : skM f xs = .ok ys) : (∀ x ∈ xs, f x = .ok (gv (f x))) ∧ xs.mergeSort (fun a b => leOf γ (gv (f a)) (gv (f b))) = ys := by
  unfold skM at h
  split at h
  · rename_i q; exact ⟨q, Rs.inj h⟩
  · cases h
section
variable {X : Cx} {S S1 : Sl} {e : Expr} {α γ : Type} [DecidableEq α] [Datum α] [DecidableEq γ] [DatumOrd γ] [Inhabited γ]
theorem ev_sortKeyM {m n : Nat} {c P : Addr} {params : Arguments} {body : Expr} {scope : Scope} {lpos kpos pos p1 : Pos} {p : Str} {xs ys : List α} (fM : α → Rs γ) (hv : skM fM xs = .ok ys) (hs : ∀ bs : List γ, Sortable (bs.map (Datum.toD : γ → PyData))) (hr : Room m X.A) (hm : X.mg "sorted" = none) (ha : EV X S e (da xs) S1) (hz : xs.length ≤ sizeLine)
    (TB : LamX.TabB X.base X.mg c P) (hcode : X.env.code = .ref c) (hmT : (P, X.env.qual ++ "<lambda>") ∈ Tb.T) (hu : ∀ p ∈ Tb.T, p.1 = P → p.2 = X.env.qual ++ "<lambda>") (L : LamP X.env.scope scope [p]) (hN : (X.N ++ [p]).Nodup)
    (hbody : ∀ x y, fM x = .ok y → ∀ (f c' : Addr) (s : Shared) (H : Hp), Room n (lamC X X.A.in1.in1 X.stack s H scope f c' [p]).A → EV (lamC X X.A.in1.in1 X.stack s H scope f c' [p]) (S1 ++ [some (da x)]) body (da y) (S1 ++ [some (da x)]))
    (hmn : n + 3 ≤ m := by decide) (hd : 2 + Datum.depth γ ≤ 64 := by decide) (hg : Gl X "sorted" := by rfl) (hdef : defaultsOf params X.env = ([], []) := by rfl)
    (hbind : ∀ (u : Value) (q : Str) (cl : List (Str × Addr)) (pm cv ctv : Value), bindArgs (PySem.W.kla_fn "<lambda>" q params body scope cl pm cv ctv) ⟨[u], []⟩ = pure [(p, u)] := by intro _ _ _ _ _ _; rfl)
    (hst : starEach [e] X.env = (false, eval e X.env) :: starEach [] X.env := by rfl) (he : backTo pos (starEach [e] X.env) = (false, eval e X.env) :: backTo pos (starEach [] X.env) := by rfl) (hpl : (backTo pos (starEach [e] X.env)).any (·.1) = false := by rfl)
    (hall : (backToKw pos (keywordEach [⟨some "key", .Lambda params body scope lpos, kpos⟩] X.env)).all (·.1.isSome) = true := by rfl) (hnone : (backToKw pos (keywordEach [⟨some "key", .Lambda params body scope lpos, kpos⟩] X.env)).any (·.1.isNone) = false := by rfl) (hks : (backToKw pos (keywordEach [⟨some "key", .Lambda params body scope lpos, kpos⟩] X.env)).filterMap (·.1) = [Str.ofString "key"] := by rfl) :
    EV X S (.Call (.Name "sorted" p1) [e] [⟨some "key", .Lambda params body scope lpos, kpos⟩] pos) (la ys) S1 := by
  obtain ⟨h1, h2⟩ := skM_ok hv
  rw [← h2]
  exact ev_sortKey (n := n) (fun x => gv (fM x)) hs hr hm ha hz TB hcode hmT hu L hN (fun x hx f c' s H hr => hbody x _ (h1 x hx) f c' s H hr) hmn hd hg hdef hbind hst he hpl hall hnone hks
end
/-! ## l.index(x); what cannot be -/
def idxA {α : Type} [DecidableEq α] (x : α) (xs : List α) : Nat := xs.idxOf x
theorem idxA_lt {α : Type} [DecidableEq α] {x : α} {xs : List α} (h : x ∈ xs) : idxA x xs < xs.length := List.idxOf_lt_length_of_mem h
theorem getElem_idxA {α : Type} [DecidableEq α] {x : α} {xs : List α} (h : idxA x xs < xs.length) : xs[idxA x xs]'h = x := List.getElem_idxOf h
theorem ev_absurd {X : Cx} {S : Sl} {e : Expr} {O : OP} (h : False) : EV X S e O S := h.elim
section
variable {X : Cx} {S S1 S2 : Sl} {o i : Expr} {pos apos : Pos} {α : Type} [DecidableEq α] [Datum α]
def rIdxA (X : Cx) (x : α) (xs : List α) : V → List V → Hp → VK → Prop := fun v vs H Q => ∃ (F : Hp) (y : V), Same F H ∧ vs = [y] ∧ Rp F v (Datum.toD xs) ∧ Rp F y (Datum.toD x) ∧ Q (.int ((xs.idxOf x : Nat) : Int)) H
theorem mt_idxA {x : α} {xs : List α} (hx : x ∈ xs) (hu : X.A.units + 1 + Datum.depth α < cLine) : MtR X "list.index" (rIdxA X x xs) := by
  intro pins s σ H v vs u us Q I rv rvs h
  obtain ⟨F, y, m, rfl, r1, r2, q⟩ := h
  obtain ⟨w, rfl, rw0⟩ := vals1 rvs
  obtain ⟨l, ys, rfl, h1, r3⟩ := r1.lst_of
  cases rv
  obtain ⟨its, rv', hl⟩ := Inv.lstAt I (m _ _ h1)
  have hh := (RpAll.holds I m r3 rv' : HoldAll s.heap its xs)
  have hz : xs.length ≤ sizeLine := by
    obtain ⟨its2, rv2, _, hz⟩ := I.list (SqL.of (m _ _ h1))
    have := r3.length
    rw [List.length_map] at this
    omega
  exact PySem.W.index_list_datum hl hh (r2.holds I m rw0) hu hz hx ⟨.int _, H, I.tok _, ⟨_, rfl⟩, q⟩
theorem ev_indexA {n : Nat} {x : α} {xs : List α} (hr : Room n X.A) (ha : EV X S o (da xs) S1) (hk : EV X S1 i (da x) S2) (hx : x ∈ xs) (hd : 1 + Datum.depth α ≤ 64 := by decide)
    (hbase : attributeBase o "index" X.env (eval o X.env) = eval o X.env := by rfl)
    (hfew : ((backTo pos (starEach [i] X.env)).all (fun x => !x.1) && (backToKw pos (keywordEach [] X.env)).all (fun x => x.1.isSome)
      && decide ([i].length + ([] : List Keyword).length + (if ([] : List Keyword).isEmpty then 0 else 1) < 30)) = true := by rfl)
    (hline : (apos.endLine == pos.line) = true := by rfl) (hs : starEach [i] X.env = (false, eval i X.env) :: starEach [] X.env := by rfl) (hplain : (backTo pos (starEach [] X.env)).any (·.1) = false := by rfl) :
    EV X S (.Call (.Attribute o "index" apos) [i] [] pos) (da ((idxA x xs : Nat) : Int)) S2 := EV.of_d fun Γ σ F H Q s q =>
  PE.w (pe_bm PySem.F.plainAttrs_list PySem.F.slot_list_index PySem.F.type_list_index (mt_idxA hx (by rw [Nat.add_assoc]; exact units_of hr hd)) pe_w (pa_cons pe_w pa_nil hs) hbase hfew hline hs hplain) (ha.dat s fun v F1 H1 s1 m1 r1 => by
    obtain ⟨l, ys, rfl, h1, r3⟩ := r1.lst_of
    exact ⟨.inl ⟨rfl, _, SqL.of (s1.fh _ _ h1)⟩, hk.dat s1 fun w F2 H2 s2 m2 r2 => ⟨F2, w, s2.fh, rfl, .lst (m2 _ _ h1) (r3.mono m2), r2, q _ F2 H2 s2 (m1.trans m2) (.int _)⟩⟩)
end
end Ev

namespace Ev
open PySem L2 PySem.Spec PyProof.Rows
open PySem.W (Datum Tup T3 T4 Holds HoldAll DatumOrd EachIs SomeDatum)
variable [Tb]
/-! # closures that are called elsewhere -/
/-- the cell at c is the object ob, and holds u -/
def CellO (c : Addr) (u : V) (ob : Obj) : HO := .ext fun h => h.get? c = some ob ∧ ∃ x, RelV u x ∧ h.IsCell c (some x)
/-- the account without the cells cs -/
def hcut (H : Hp) (cs : List Addr) : Hp := fun b => if b ∈ cs then none else H b
theorem hcut_in {H : Hp} {cs : List Addr} {b : Addr} (h : b ∈ cs) : hcut H cs b = none := if_pos h
theorem hcut_out {H : Hp} {cs : List Addr} {b : Addr} (h : b ∉ cs) : hcut H cs b = H b := if_neg h
theorem hcut_some {H : Hp} {cs : List Addr} {b : Addr} {o : HO} (h : hcut H cs b = some o) : b ∉ cs ∧ H b = some o := by
  by_cases q : b ∈ cs
  · rw [hcut_in q] at h; cases h
  · rw [hcut_out q] at h; exact ⟨q, h⟩
section
variable {P : Program} {w : World} {K : PySem.W.Frag} {mg : Str → Option Value} {base : Heap} {A : Around} {outer : List Env} {s : Shared} {H H' : Hp} {h h' : Heap} {cs : List Addr}
def Exts (H : Hp) (cs : List Addr) : Prop := ∀ c ∈ cs, ∃ φ, H c = some (.ext φ)
theorem hok_cut (x : HOk P w H h) (he : Exts H cs) : HOk P w (hcut H cs) h := fun a o e => by
  obtain ⟨_, e2⟩ := hcut_some e
  refine (x a o e2).stay (fun b u _ q => q) (fun b q => ?_) fun b xs q => ?_
  · rw [hcut_out]
    · exact q
    · intro z; obtain ⟨φ, e3⟩ := he b z; rw [e3] at q; cases q
  · rw [hcut_out]
    · exact q
    · intro z; obtain ⟨φ, e3⟩ := he b z; rw [e3] at q; cases q
/-- the cells put back -/
def hjoin (H H' : Hp) (cs : List Addr) : Hp := fun b => if b ∈ cs then H b else H' b
theorem hjoin_in {b : Addr} (q : b ∈ cs) : hjoin H H' cs b = H b := if_pos q
theorem hjoin_out {b : Addr} (q : b ∉ cs) : hjoin H H' cs b = H' b := if_neg q
theorem env0_cut (e : Env0 P w K mg base A outer s H) (he : Exts H cs) : Env0 P w K mg base A outer s (hcut H cs) :=
  ⟨e.frames, e.mod, fun b o q => ⟨(e.bs b o q).1, by
    by_cases z : b ∈ cs
    · exact hcut_in z
    · rw [hcut_out z]; exact (e.bs b o q).2⟩, e.bsz, e.funs, fun b hb => by
    by_cases z : b ∈ cs
    · exact hcut_in z
    · rw [hcut_out z]; exact e.frf b hb, hok_cut e.hok he, e.bare⟩
/-- what a run told of the account without the cells tells of the account with them -/
theorem un_join {fs : List Addr} (u : Un fs [] (hcut H cs) H' h h') (hok : HOk P w H h) (hf : ∀ b ∈ fs, b ∉ cs) (he : Exts H cs) : Un fs [] H (hjoin H H' cs) h h' where
  keep := fun b o e n hb hx => u.keep b o e (by
    by_cases z : b ∈ cs
    · exact hcut_in z
    · rw [hcut_out z]; exact n) hb hx
  slot := fun b o e n hb hx => u.slot b o e (by
    by_cases z : b ∈ cs
    · exact hcut_in z
    · rw [hcut_out z]; exact n) hb hx
  free := fun b o e n hx => by
    have z : b ∉ cs := fun z => by obtain ⟨φ, e3⟩ := he b z; rw [e3] at n; cases n
    rw [hjoin_out z]
    exact u.free b o e (by rw [hcut_out z]; exact n) hx
  there := u.there
  tups := fun b xs e => by
    have z : b ∉ cs := fun z => by obtain ⟨φ, e3⟩ := he b z; rw [e3] at e; cases e
    rw [hjoin_out z]; exact u.tups b xs (by rw [hcut_out z]; exact e)
  frzs := fun b o v e => by
    have z : b ∉ cs := fun z => by obtain ⟨φ, e3⟩ := he b z; rw [e3] at e; cases e
    rw [hjoin_out z]; exact u.frzs b o v (by rw [hcut_out z]; exact e)
  tbls := fun b ps e => by
    have z : b ∉ cs := fun z => by obtain ⟨φ, e3⟩ := he b z; rw [e3] at e; cases e
    obtain ⟨more, q⟩ := u.tbls b ps (by rw [hcut_out z]; exact e)
    exact ⟨more, by rw [hjoin_out z]; exact q⟩
theorem hok_join {fs : List Addr} (u : Un fs [] (hcut H cs) H' h h') (hok : HOk P w H h) (hok' : HOk P w H' h') (hf : ∀ b ∈ fs, b ∉ cs) (he : Exts H cs) : HOk P w (hjoin H H' cs) h' := fun a o e => by
  by_cases z : a ∈ cs
  · rw [hjoin_in z] at e
    obtain ⟨φ, e3⟩ := he a z
    rw [e3] at e
    cases e
    obtain ⟨p1, ⟨ob, p2⟩, p3⟩ := hok a _ e3
    have q := u.keep a ob p2 (hcut_in z) (fun hb => hf a hb z) (by simp)
    exact ⟨p3 h h' p1 fun o' eo => by rw [p2] at eo; cases eo; exact q, ⟨ob, q⟩, p3⟩
  · rw [hjoin_out z] at e
    refine (hok' a o e).stay (fun b v _ q => q) (fun b q => ?_) fun b xs q => ?_
    · by_cases y : b ∈ cs
      · obtain ⟨φ, e3⟩ := he b y
        obtain ⟨_, ⟨ob, p2⟩, _⟩ := hok b _ e3
        have := u.free b ob p2 (hcut_in y) (by simp)
        rw [this] at q; cases q
      · rw [hjoin_out y]; exact q
    · by_cases y : b ∈ cs
      · obtain ⟨φ, e3⟩ := he b y
        obtain ⟨_, ⟨ob, p2⟩, _⟩ := hok b _ e3
        have := u.free b ob p2 (hcut_in y) (by simp)
        rw [this] at q; cases q
      · rw [hjoin_out y]; exact q
end
/-- a closure's names: caps captured, ps its parameters; cl its cells -/
structure Clo (scope : Scope) (caps ps : List Str) (cl : List (Str × Addr)) : Prop where
  kind : scope.kind = .function
  co : scope.isCoroutine = false
  gen : scope.isGenerator = false
  own : ∀ y ∈ scope.names, (y.2 = .local → y.1 ∈ ps) ∧ y.2 ≠ .cell
  par : ∀ a ∈ ps, scope.names.lookup a = some .local
  free : ∀ y ∈ scope.names, y.2 = .free → y.1 ∈ caps
  nd : (caps ++ ps).Nodup
  inj : ∀ y z c, cl.lookup y = some c → cl.lookup z = some c → y = z
  has : ∀ y ∈ caps, ∃ c, cl.lookup y = some c
  only : ∀ y c, cl.lookup y = some c → y ∈ caps
/-- its cells -/
def cellsC (caps : List Str) (cl : List (Str × Addr)) : List Addr := caps.filterMap fun y => cl.lookup y
theorem mem_cellsC {caps : List Str} {cl : List (Str × Addr)} {c : Addr} : c ∈ cellsC caps cl ↔ ∃ y ∈ caps, cl.lookup y = some c := by
  unfold cellsC; rw [List.mem_filterMap]
/-- what the cells hold -/
def CellsAt (H : Hp) (caps : List Str) (cl : List (Str × Addr)) (cvs : List V) : Prop := cvs.length = caps.length ∧ ∀ (i : Nat) (y : Str), caps[i]? = some y → ∃ c u ob, cl.lookup y = some c ∧ cvs[i]? = some u ∧ H c = some (CellO c u ob)
theorem CellsAt.exts {H : Hp} {caps : List Str} {cl : List (Str × Addr)} {cvs : List V} (h : CellsAt H caps cl cvs) : Exts H (cellsC caps cl) := fun c hc => by
  obtain ⟨y, hy, e⟩ := mem_cellsC.mp hc
  obtain ⟨i, hi⟩ := List.mem_iff_getElem?.mp hy
  obtain ⟨c', u, ob, e1, _, e2⟩ := h.2 i y hi
  rw [e] at e1; cases e1
  exact ⟨_, e2⟩
abbrev cloEnv (q : Str) (scope : Scope) (L f c' : Addr) (cl : List (Str × Addr)) : Env := PySem.W.envX q scope L f (.ref c') cl
def cloC (P : Program) (w : World) (K : PySem.W.Frag) (mg : Str → Option Value) (base : Heap) (N : List Str) (q : Str) (scope : Scope) (f c' : Addr) (cl : List (Str × Addr)) (A : Around) (outer : List Env) (s : Shared) (H : Hp) : Cx where
  prog := P
  w := w
  K := K
  mg := mg
  base := base
  A := A.deeper (cloEnv q scope s.heap.objs.size f c' cl)
  N := N
  s_0 := s
  H_0 := H
  env := cloEnv q scope s.heap.objs.size f c' cl
  outer := outer
  stack := cloEnv q scope s.heap.objs.size f c' cl :: outer
  ex := []
  fn := fun _ => false
  calm := true
  pn := []
  xe := fun _ _ => False
section
variable {P : Program} {w : World} {K : PySem.W.Frag} {mg : Str → Option Value} {base : Heap} {A : Around} {outer : List Env} {s : Shared} {HZ : Hp} {q : Str} {scope : Scope} {f c' : Addr} {cl : List (Str × Addr)} {caps ps : List Str} {us : List Value} {vs cvs : List V}
theorem clo_start {h₁ : Heap} {tk : Nat} (L : Clo scope caps ps cl) (C : CellsAt HZ caps cl cvs) (rv : Vals vs us) (hlen : vs.length = ps.length) (e0 : Env0 P w K mg base A outer s HZ) (hd : A.handled = none)
    (hns : h₁.Ns s.heap.objs.size fun y => (ps.zip us).reverse.lookup y) (kp : ∀ b o, s.heap.get? b = some o → h₁.get? b = some o) :
    Inv (cloC P w K mg base (caps ++ ps) q scope f c' cl A outer s (hcut HZ (cellsC caps cl))) [] (cvs.map some ++ vs.map some) (hcut HZ (cellsC caps cl)) { s with heap := h₁, toks := tk } := by
  have e1 := env0_cut e0 C.exts
  have cellK : ∀ {y c}, cl.lookup y = some c → ∃ u x, (∃ i, caps[i]? = some y ∧ cvs[i]? = some u) ∧ RelV u x ∧ s.heap.IsCell c (some x) := fun {y c} e => by
    obtain ⟨i, hi⟩ := List.mem_iff_getElem?.mp (L.only y c e)
    obtain ⟨c2, u, ob, z1, z2, z3⟩ := C.2 i y hi
    rw [e] at z1; cases z1
    obtain ⟨⟨_, x, r, ic⟩, _, _⟩ := e0.hok c _ z3
    exact ⟨u, x, ⟨i, hi, z2⟩, r, ic⟩
  have up : ∀ {c v}, s.heap.IsCell c v → h₁.IsCell c v := fun {c v} ⟨o, ho, hd⟩ => ⟨o, kp _ _ ho, hd⟩
  have inC : ∀ {y c}, cl.lookup y = some c → c ∈ cellsC caps cl := fun {y c} e => mem_cellsC.mpr ⟨y, L.only y c e, e⟩
  have noA : ∀ b : Addr, b ∉ (cloC P w K mg base (caps ++ ps) q scope f c' cl A outer s (hcut HZ (cellsC caps cl))).ex := fun b z => absurd (show b ∈ ([] : List Addr) from z) (by simp)
  refine ⟨⟨e1.mod, L.kind, rfl, rfl, Nat.le_refl _, fun y z c a b => L.inj y z c a b, fun y hy => ?_, fun y c z _ => ?_, fun _ => hd, Around.frames_deeper e1.frames, .inr ⟨rfl, rfl⟩, fun b z => absurd z (noA b), e1.bs, e1.bsz, fun b _ _ => noA b,
      fun b z => absurd z (noA b), e1.funs, e1.frf⟩,
    rfl, e1.bare, Un.kept kp, ⟨_, hns, fun i y v e1 e2 e3 => ?_⟩, fun y c e => ?_, e1.hok.fresh (Nat.le_refl _), fun y c e => hcut_in (inC e), fun z hz => absurd (show z ∈ ([] : List (Addr × Obj)) ++ [] from hz) (by simp), e1.hok.kept kp, ?_⟩
  · have hy : scope.names.lookup y = some .cell ∨ scope.names.lookup y = some .free := hy
    rcases hy with hy | hy
    · exact absurd rfl (L.own _ (PySem.mem_of_lookup hy)).2
    · exact L.has y (L.free _ (PySem.mem_of_lookup hy) rfl)
  · have z : false = true := z
    cases z
  · have e1 : (caps ++ ps)[i]? = some y := e1
    have e3 : Vis scope y := e3
    by_cases hi : i < caps.length
    · rw [List.getElem?_append_left hi] at e1
      rw [List.getElem?_append_left (by rw [List.length_map, C.1]; exact hi), List.getElem?_map] at e2
      have nps : y ∉ ps := fun z => (List.nodup_append.mp L.nd).2.2 y (List.mem_of_getElem? e1) y z rfl
      rcases e3 with k | k | k
      · exact absurd ((L.own _ (PySem.mem_of_lookup k)).1 rfl) nps
      · exact absurd rfl (L.own _ (PySem.mem_of_lookup k)).2
      · obtain ⟨c, u, ob, z1, z2, z3⟩ := C.2 i y e1
        rw [z2] at e2
        obtain rfl : u = v := by injection e2 with e2; injection e2
        obtain ⟨⟨_, x, r, ic⟩, _, _⟩ := e0.hok c _ z3
        exact ⟨x, r, .inr ⟨.inr k, c, z1, up ic⟩⟩
    · rw [List.getElem?_append_right (by omega)] at e1
      rw [List.getElem?_append_right (by rw [List.length_map, C.1]; omega), List.length_map, C.1, List.getElem?_map] at e2
      cases hv : vs[i - caps.length]? with
      | none => rw [hv] at e2; cases e2
      | some v' =>
        rw [hv] at e2
        obtain rfl : v' = v := by injection e2 with e2; injection e2
        obtain ⟨u, hu, ru⟩ := rv.get hv
        refine ⟨u, ru, .inl ⟨L.par y (List.mem_of_getElem? e1), ?_⟩⟩
        exact lookup_zip (List.nodup_append.mp L.nd).2.1 e1 hu
  · obtain ⟨u, x, _, _, ic⟩ := cellK (show cl.lookup y = some c from e)
    exact ⟨_, up ic⟩
  · show (cvs.map some ++ vs.map some).length = (caps ++ ps).length
    rw [List.length_append, List.length_append, List.length_map, List.length_map, hlen, C.1]
/-- the closure f called, wherever its object, its code object and its cells are known -/
theorem clo_run {params : Arguments} {body : Expr} {pm ctv : Value} {k : Nat} {tb : TE} {Q : VK} (L : Clo scope caps ps cl) (C : CellsAt HZ caps cl cvs) (rv : Vals vs us) (hlen : vs.length = ps.length) (e0 : Env0 P w K mg base A outer s HZ) (hof : ∀ b ∈ frs outer, b ∉ cellsC caps cl) (lim : s.heap.NoLimit)
    (hf : s.heap.get? f = some (PySem.W.kla_obj "<lambda>" q params body scope cl pm c' ctv)) (hco : HZ c' = some (LamX.CodeO c' q))
    (hbind : bindArgs (PySem.W.kla_fn "<lambda>" q params body scope cl pm (.ref c') ctv) ⟨us, []⟩ = pure (ps.zip us)) (hr : Room (k + 1) A)
    (hbody : Room k (A.deeper (cloEnv q scope s.heap.objs.size f c' cl)) → PE (cloC P w K mg base (caps ++ ps) q scope f c' cl A outer s (hcut HZ (cellsC caps cl))) body tb) (h : tb (cvs.map some ++ vs.map some) (hcut HZ (cellsC caps cl)) fun v H' => (∀ c ∈ cellsC caps cl, H' c = none) → Q v (hjoin HZ H' (cellsC caps cl))) :
    wpAny (model P w) A (call (.ref f) us []) (fun u s' => CE outer P w HZ s Q u s') (fun _ _ => False) s := by
  refine wpAny_call ?_
  obtain ⟨⟨oc, ws, t, hoc, hdc, hvc⟩, _, _⟩ := e0.hok c' _ hco
  refine PySem.W.kla_callFunE hr.depth hf rfl L.co L.gen rfl ⟨c', oc, ws, t, rfl, hoc, hdc, hvc⟩ ?_
  rw [hbind]
  refine wpAny_pure (wpAny_newFunctionEnv (fun y hy => (L.own y hy).2) (fun y hy => L.par y.1 (List.of_mem_zip hy).1) (fun h₁ hns hsb => ⟨lim.fresh _ hsb, ?_⟩) L.kind)
  show codeAny _ _ (.expr body (cloEnv q scope s.heap.objs.size f c' cl)) _ _
  have kp : ∀ b o, s.heap.get? b = some o → h₁.get? b = some o := fun b o e => hsb.extBut b o (Nat.ne_of_lt (Heap.lt_size e)) (Heap.get?_push_of_some _ e)
  have J := clo_start (q := q) (f := f) (c' := c') (tk := s.toks + (ps.zip us).length) L C rv hlen e0 hr.hd hns kp
  refine PySem.W.kla_codeExpr (wpAny_mono ((hbody (hr.deeper _)).run [] _ _ _ _ J h) (fun v s' hq => ?_) fun e s' hq => hq.elim)
  obtain ⟨w', H', J', rv', q'⟩ := hq
  have ub : Un (frs outer) [] (hcut HZ (cellsC caps cl)) H' s.heap s'.heap := J'.base
  exact ⟨w', _, J'.os, J'.bare, un_join ub e0.hok hof C.exts, hok_join ub e0.hok J'.hok hof C.exts, rv', q' fun c hc => let ⟨y, _, e⟩ := mem_cellsC.mp hc; J'.freeC y c e⟩
end
/-! ## data without the cells -/
/-- lists and tuples are kept -/
def LT (F F' : Hp) : Prop := ∀ a xs, (F a = some (.lst xs) → F' a = some (.lst xs)) ∧ (F a = some (.tup xs) → F' a = some (.tup xs))
mutual
theorem Rp.lt {F F' : Hp} (s : LT F F') : ∀ {v : V} {d : PyData}, Rp F v d → Rp F' v d
  | _, _, .non => .non
  | _, _, .bl b => .bl b
  | _, _, .int i => .int i
  | _, _, .str x => .str x
  | _, _, .lst h r => .lst ((s _ _).1 h) (RpAll.lt s r)
  | _, _, .tup h r => .tup ((s _ _).2 h) (RpAll.lt s r)
theorem RpAll.lt {F F' : Hp} (s : LT F F') : ∀ {vs : List V} {ds : List PyData}, RpAll F vs ds → RpAll F' vs ds
  | _, _, .nil => .nil
  | _, _, .cons h r => .cons (Rp.lt s h) (RpAll.lt s r)
end
theorem lt_cut {F : Hp} {cs : List Addr} (he : Exts F cs) : LT F (hcut F cs) := by
  have k : ∀ a o, F a = some o → (∀ φ, o ≠ .ext φ) → hcut F cs a = some o := by
    intro a o e ne
    rw [hcut_out]
    · exact e
    · intro z
      obtain ⟨φ, e3⟩ := he a z
      rw [e3] at e
      exact ne φ (Option.some.inj e).symm
  exact fun a xs => ⟨fun e => k a _ e (fun φ z => by cases z), fun e => k a _ e (fun φ z => by cases z)⟩
theorem lt_join {F F' : Hp} {cs : List Addr} (hn : ∀ c ∈ cs, F' c = none) : LT F' (hjoin F F' cs) := by
  have k : ∀ a o, F' a = some o → hjoin F F' cs a = some o := by
    intro a o e
    rw [hjoin_out]
    · exact e
    · intro z
      rw [hn a z] at e
      cases e
  exact fun a xs => ⟨fun e => k a _ e, fun e => k a _ e⟩
/-- slots of data alone -/
def dsl (ds : List PyData) : Sl := ds.map fun d => some (dd d)
theorem Sat.ofData {F H : Hp} {vs : List V} {ds : List PyData} (m : Same F H) (tb : TbOk F H) (tp : ∀ a xs, H a = some (.tup xs) → F a = some (.tup xs)) (r : RpAll F vs ds) : Sat ⟨F, H, fun _ => False⟩ (dsl ds) (vs.map some) F H := by
  refine ⟨by unfold dsl; rw [List.length_map, List.length_map, r.length], m, Same.refl F, fun a o e _ => .of e, tb, fun a ha => .inl ha, tp, fun _ => [], fun i O e => ?_, fun i a ha => absurd ha List.not_mem_nil, fun i j a _ ha => absurd ha List.not_mem_nil, fun _ _ => rfl⟩
  unfold dsl at e
  rw [List.getElem?_map] at e
  cases q : ds[i]? with
  | none => rw [q] at e; cases e
  | some d =>
    rw [q] at e
    obtain ⟨v, e1, r1⟩ := r.at q
    have : O = dd d := by injection e with e; injection e with e; exact e.symm
    subst this
    exact ⟨v, by rw [List.getElem?_map, e1]; rfl, rfl, r1⟩
/-- a closure, as a value: called with data ds for which ok ds d stands it answers d -/
def clF (P : Program) (w : World) (K : PySem.W.Frag) (mg : Str → Option Value) (base : Heap) (k : Nat) (ok : List PyData → PyData → Prop) : FP :=
  ⟨fun v F => ∃ fa : Addr, v = .ref fa ∧ (∃ q params body scope cl c', F fa = some (LamO fa q params body scope cl c')) ∧ ∀ (F1 : Hp), Same F F1 → ∀ (A : Around) (outer : List Env) (s : Shared) (H : Hp) (us : List Value) (vs : List V) (ds : List PyData) (d : PyData) (Q : VK), Env0 P w K mg base A outer s H → ok ds d → Same F1 H → TbOk F1 H → (∀ a xs, H a = some (.tup xs) → F1 a = some (.tup xs)) → RpAll F1 vs ds → Room k A → Vals vs us →
      (∀ (x : V) (F' H' : Hp), Same F1 F' → Same F' H' → TbOk F' H' → (∀ a xs, H' a = some (.tup xs) → F' a = some (.tup xs)) → (∀ a o, H a = some o → (∀ ps, o ≠ .tbl ps) → H' a = some o) → (∀ a, F' a ≠ none → F1 a ≠ none ∨ Fr1 (H a)) → Rp F' x d → Q x H') →
      wpAny (model P w) A (call (.ref fa) us []) (fun u s' => CE outer P w H s Q u s') (fun _ _ => False) s, fun m h => by
    obtain ⟨fa, e, ⟨q1, q2, q3, q4, q5, q6, q7⟩, q⟩ := h
    exact ⟨fa, e, ⟨q1, q2, q3, q4, q5, q6, m _ _ q7⟩, fun F1 m1 => q F1 (m.trans m1)⟩⟩
theorem code_nc {P : Program} {w : World} {H : Hp} {h : Heap} {a c : Addr} {q : Str} {u : V} {ob : Obj} (hok : HOk P w H h) (e : H a = some (LamX.CodeO a q)) (e2 : H c = some (CellO c u ob)) : a ≠ c := fun z => by
  subst z
  obtain ⟨⟨oc, vs, t, g1, g2, g3⟩, _, _⟩ := hok a _ e
  obtain ⟨⟨_, x, r, o, g4, g5⟩, _, _⟩ := hok a _ e2
  rw [g1] at g4; cases g4
  rw [g2] at g5; cases g5
theorem CellsAt.cells {H : Hp} {caps : List Str} {cl : List (Str × Addr)} {cvs : List V} (h : CellsAt H caps cl cvs) : ∀ c ∈ cellsC caps cl, ∃ u ob, H c = some (CellO c u ob) := fun c hc => by
  obtain ⟨y, hy, e⟩ := mem_cellsC.mp hc
  obtain ⟨i, hi⟩ := List.mem_iff_getElem?.mp hy
  obtain ⟨c', u, ob, e1, _, e2⟩ := h.2 i y hi
  rw [e] at e1; cases e1
  exact ⟨_, _, e2⟩
theorem CellsAt.mono {H H' : Hp} {caps : List Str} {cl : List (Str × Addr)} {cvs : List V} (h : CellsAt H caps cl cvs) (m : Same H H') : CellsAt H' caps cl cvs := ⟨h.1, fun i y e => by
  obtain ⟨c, u, ob, e1, e2, e3⟩ := h.2 i y e
  exact ⟨c, u, ob, e1, e2, m _ _ e3⟩⟩
theorem tbOk_cut {P : Program} {w : World} {F H : Hp} {h : Heap} {cs : List Addr} (t : TbOk F H) (hok : HOk P w H h) (hc : ∀ c ∈ cs, ∃ u ob, H c = some (CellO c u ob)) (fh : Same F H) : TbOk (hcut F cs) (hcut H cs) := by
  have nt : ∀ a ps, H a = some (.tbl ps) → a ∉ cs := fun a ps e z => by
    obtain ⟨u, ob, e2⟩ := hc a z
    rw [e] at e2; cases e2
  have nc : ∀ a q, H a = some (LamX.CodeO a q) → a ∉ cs := fun a q e z => by
    obtain ⟨u, ob, e2⟩ := hc a z
    exact code_nc hok e e2 rfl
  refine ⟨fun p hp => ?_, fun p hp => ?_, fun p hp ps e pos cv q => ?_⟩
  · obtain ⟨ps, a1, a2, a3⟩ := t.tabs p hp
    refine ⟨ps, by rw [hcut_out (nt _ _ a1)]; exact a1, a2, fun pos cv q => ?_⟩
    obtain ⟨c, e1, e2⟩ := a3 pos cv q
    exact ⟨c, e1, by rw [hcut_out (nc _ _ e2)]; exact e2⟩
  · by_cases z : p.1 ∈ cs
    · exact hcut_in z
    · rw [hcut_out z]; exact t.off p hp
  · obtain ⟨_, e⟩ := hcut_some e
    obtain ⟨c, e1, e2⟩ := t.cod p hp ps e pos cv q
    exact ⟨c, e1, by rw [hcut_out (nc _ _ (fh _ _ e2))]; exact e2⟩
theorem tbOk_join {F F1 H H1 : Hp} {cs : List Addr} (t : TbOk F1 H1) (t0 : TbOk F H) (hn : ∀ c ∈ cs, H1 c = none) (fh : Same F1 H1) (hc : ∀ c ∈ cs, ∃ u ob, H c = some (CellO c u ob)) : TbOk (hjoin F F1 cs) (hjoin H H1 cs) := by
  have nn : ∀ a o, H1 a = some o → a ∉ cs := fun a o e z => by rw [hn a z] at e; cases e
  have nt : ∀ p ∈ Tb.T, p.1 ∉ cs := fun p hp z => by
    obtain ⟨ps, a1, _⟩ := t.tabs p hp
    exact nn _ _ a1 z
  refine ⟨fun p hp => ?_, fun p hp => ?_, fun p hp ps e pos cv q => ?_⟩
  · obtain ⟨ps, a1, a2, a3⟩ := t.tabs p hp
    refine ⟨ps, by rw [hjoin_out (nt p hp)]; exact a1, a2, fun pos cv q => ?_⟩
    obtain ⟨c, e1, e2⟩ := a3 pos cv q
    exact ⟨c, e1, by rw [hjoin_out (nn _ _ e2)]; exact e2⟩
  · rw [hjoin_out (nt p hp)]; exact t.off p hp
  · rw [hjoin_out (nt p hp)] at e
    obtain ⟨c, e1, e2⟩ := t.cod p hp ps e pos cv q
    exact ⟨c, e1, by rw [hjoin_out (nn _ _ (fh _ _ e2))]; exact e2⟩
/-- a made closure, its cells known, keeps the promise ok -/
theorem clF_of {P : Program} {w : World} {K : PySem.W.Frag} {mg : Str → Option Value} {base : Heap} {k : Nat} {ok : List PyData → PyData → Prop} {q : Str} {params : Arguments} {body : Expr} {scope : Scope} {cl : List (Str × Addr)} {caps ps : List Str} {cvs : List V} {cds : List PyData} {v : V} {F : Hp}
    (L : Clo scope caps ps cl) (hps : ∀ ds d, ok ds d → ds.length = ps.length)
    (hbind : ∀ (pm ctv : Value) (c' : Addr) (us : List Value), us.length = ps.length → bindArgs (PySem.W.kla_fn "<lambda>" q params body scope cl pm (.ref c') ctv) ⟨us, []⟩ = pure (ps.zip us))
    (hbody : ∀ (A : Around) (outer : List Env) (s : Shared) (H : Hp) (f c' : Addr) ds d, ok ds d → Room k (A.deeper (cloEnv q scope s.heap.objs.size f c' cl)) → ∃ S', EV (cloC P w K mg base (caps ++ ps) q scope f c' cl A outer s H) (dsl (cds ++ ds)) body (dd d) S')
    (hl : (lamF q params body scope cl).p v F) (C : CellsAt F caps cl cvs) (rc : RpAll F cvs cds) : (clF P w K mg base (k + 1) ok).p v F := by
  obtain ⟨f, c', rfl, hf, hc⟩ := hl
  refine ⟨f, rfl, ⟨_, _, _, _, _, _, hf⟩, fun F1 m1 A outer s H us vs ds d Q e0 hk mH tb tp rv hr vals hq => ?_⟩
  have C1 := C.mono m1
  have CH := C1.mono mH
  have hlen : vs.length = ps.length := by rw [rv.length]; exact hps ds d hk
  obtain ⟨⟨pm, ctv, hob⟩, _, _⟩ := e0.hok f _ (mH _ _ (m1 _ _ hf))
  have lim : s.heap.NoLimit := e0.mod.nolimit.keeps fun b o e => (e0.bs b o e).1
  refine clo_run (tb := fun σ H' Q' => WE (cloC P w K mg base (caps ++ ps) q scope f c' cl A outer s (hcut H (cellsC caps cl))) body σ H' Q') L CH vals hlen e0 (fun b hb z => ?_) lim hob (mH _ _ (m1 _ _ hc)) (hbind pm ctv c' us (by rw [← vals.length]; exact hlen)) hr (fun _ => pe_w) ?_
  · obtain ⟨u, ob, e⟩ := CH.cells b z
    rw [e0.frf b hb] at e; cases e
  · obtain ⟨S', ev⟩ := hbody A outer s (hcut H (cellsC caps cl)) f c' ds d hk (hr.deeper _)
    have mc : Same (hcut F1 (cellsC caps cl)) (hcut H (cellsC caps cl)) := fun a o e => by
      obtain ⟨n, e⟩ := hcut_some e
      rw [hcut_out n]; exact mH _ _ e
    have tbc := tbOk_cut tb e0.hok CH.cells mH
    have s0 := Sat.ofData (H := hcut H (cellsC caps cl)) mc tbc (fun a xs e => by
      obtain ⟨n, e⟩ := hcut_some e
      rw [hcut_out n]; exact tp a xs e) (((rc.mono m1).lt (lt_cut C1.exts)).append (rv.lt (lt_cut C1.exts)))
    rw [List.map_append] at s0
    refine ev _ _ _ _ _ s0 fun v' fp F' H' s' m' pv hn => ?_
    obtain ⟨rfl, r'⟩ := pv
    have s' : Sat ⟨hcut F1 (cellsC caps cl), hcut H (cellsC caps cl), fun _ => False⟩ S' (cvs.map some ++ vs.map some) F' H' := by rw [hide_nil] at s'; exact s'
    have hnF : ∀ c ∈ cellsC caps cl, F' c = none := fun c hc => by
      cases e : F' c with
      | none => rfl
      | some o => have := s'.fh _ _ e; rw [hn c hc] at this; cases this
    refine hq v' (hjoin F1 F' (cellsC caps cl)) (hjoin H H' (cellsC caps cl)) (fun a o e => ?_) (fun a o e => ?_) (tbOk_join s'.tb tb hn s'.fh CH.cells) (fun a xs e => ?_) (fun a o e n => ?_) (fun a e => ?_) (r'.lt (lt_join hnF))
    · by_cases z : a ∈ cellsC caps cl
      · rw [hjoin_in z]; exact e
      · rw [hjoin_out z]; exact m' _ _ (by rw [hcut_out z]; exact e)
    · by_cases z : a ∈ cellsC caps cl
      · rw [hjoin_in z] at e ⊢; exact mH _ _ e
      · rw [hjoin_out z] at e ⊢; exact s'.fh _ _ e
    · by_cases z : a ∈ cellsC caps cl
      · rw [hjoin_in z] at e; obtain ⟨u, ob, e2⟩ := CH.cells a z; rw [e2] at e; cases e
      · rw [hjoin_out z] at e ⊢; exact s'.tup _ _ e
    · by_cases z : a ∈ cellsC caps cl
      · rw [hjoin_in z]; exact e
      · rw [hjoin_out z]; exact (s'.h0 a o (by show hcut H _ a = some o; rw [hcut_out z]; exact e) (fun z => z)).eq n
    · by_cases z : a ∈ cellsC caps cl
      · rw [hjoin_in z] at e; exact .inl e
      · rw [hjoin_out z] at e
        rcases s'.new a e with y | y | y
        · left; intro y2; apply y; show hcut F1 _ a = none; rw [hcut_out z]; exact y2
        · right; have y : Fr1 (hcut H (cellsC caps cl) a) := y; rw [hcut_out z] at y; exact y
        · exact y.elim
theorem fnAt_lam {P : Program} {w : World} {H : Hp} {h : Heap} {f : Addr} {q : Str} {params : Arguments} {body : Expr} {scope : Scope} {cl : List (Str × Addr)} {c' : Addr} (hok : HOk P w H h) (e : H f = some (LamO f q params body scope cl c')) : PySem.W.FnAt f h := by
  obtain ⟨⟨pm, ctv, ho⟩, _, _⟩ := hok f _ e
  exact ⟨_, _, _, _, ho⟩
/-- f(..), f a name that holds a closure -/
def tCallX (X : Cx) (i : Nat) (t : TA) : TE := fun σ H Q => ∃ fa, σ[i]? = some (some (.ref fa)) ∧ ∃ q params body scope cl c', H fa = some (LamO fa q params body scope cl c') ∧ t σ H fun vs H1 => H1 fa = some (LamO fa q params body scope cl c') ∧
  ∀ (s : Shared) (us : List Value), Env0 X.prog X.w X.K X.mg X.base X.A X.stack s H1 → Vals vs us → wpAny (model X.prog X.w) X.A (call (.ref fa) us []) (fun u s' => CE X.stack X.prog X.w H1 s Q u s') (fun _ _ => False) s
section
variable {X : Cx} {S S1 : Sl} {i : Nat} {x : Str} {p pos : Pos} {e : Expr} {es : List Expr} {t : TA}
theorem pe_callX (hN : X.N[i]? = some x) (hv : Vis X.env.scope x) (ha : PA X (e :: es) t)
    (hd : (x == ("__debug__" : Str)) = false := by decide) (hcd : (x == ("__classdict__" : Str)) = false := by decide)
    (he : starEach (e :: es) X.env = (false, eval e X.env) :: starEach es X.env := by rfl) (hpl : (backTo pos (starEach es X.env)).any (·.1) = false := by rfl) :
    PE X (.Call (.Name x p) (e :: es) [] pos) (tCallX X i t) := by
  refine ⟨fun pins s σ H Q I h => ?_⟩
  obtain ⟨f, hs, q, params, body, scope, cl, c', hf, ht⟩ := h
  refine wpAny_Call_Name_kw (thn ((pe_var (pos := p) hN hv hd hcd).run pins s σ H (fun v H1 => v = .ref f ∧ H1 = H) I ⟨.ref f, hs, rfl, rfl⟩) fun u s1 ⟨v, H1, I1, r1, q1⟩ => ?_)
  obtain ⟨ev, eH⟩ := q1
  subst ev
  rw [eH] at I1
  obtain rfl : u = Value.ref f := r1
  refine PySem.W.callWith_F (first := []) (fnAt_lam I1.hok hf) (thn (ha.run pos pins s1 σ H _ I1 ht) fun us s2 ⟨vs, H2, I2, r, h1, h2⟩ => ⟨fnAt_lam I2.hok h1, ?_⟩) he hpl
  show wpAny _ _ (call (.ref f) us) _ _ _
  exact wpAny_mono (h2 s2 us I2.env0 r) (fun u s' hq => I2.after hq) fun _ _ z => z.elim
/-- a call of a closure that a slot holds -/
theorem ev_callX {k n : Nat} {P : Program} {w : World} {K : PySem.W.Frag} {mg : Str → Option Value} {base : Heap} {ok : List PyData → PyData → Prop} {ds : List PyData} {d : PyData} (i : Nat) (ha : EL X S (e :: es) ds S1) (hi : S[i]? = some (some (fz (clF P w K mg base k ok)))) (hvis : X.N[i]? = some x) (hok : ok ds d)
    (hX : X.prog = P ∧ X.w = w ∧ X.K = K ∧ X.mg = mg ∧ X.base = base := by exact ⟨rfl, rfl, rfl, rfl, rfl⟩) (hv : Vis X.env.scope x := by first | exact Or.inl rfl | exact Or.inr rfl | exact Or.inr (Or.inl rfl) | exact Or.inr (Or.inr rfl)) (hr : Room n X.A := by assumption) (hk : k ≤ n := by decide) (hdb : (x == ("__debug__" : Str)) = false := by decide) (hcd : (x == ("__classdict__" : Str)) = false := by decide)
    (he : starEach (e :: es) X.env = (false, eval e X.env) :: starEach es X.env := by rfl) (hpl : (backTo pos (starEach es X.env)).any (·.1) = false := by rfl) : EV X S (.Call (.Name x p) (e :: es) [] pos) (dd d) S1 := by
  obtain ⟨rfl, rfl, rfl, rfl, rfl⟩ := hX
  refine fun Γ σ F H Q s q => ?_
  obtain ⟨v0, fp0, e0, ⟨_, fa, rfl, ⟨x1, x2, x3, x4, x5, x6, x7⟩, hcl⟩, _⟩ := s.slot hi
  refine PE.w (pe_callX (t := WA X (e :: es)) hvis hv pa_w hdb hcd he hpl) ⟨fa, e0, x1, x2, x3, x4, x5, x6, s.fh _ _ x7, ha Γ σ F H _ s fun vs F1 H1 s1 m1 r1 => ⟨s1.fh _ _ (m1 _ _ x7), fun s2 us E0 vals => ?_⟩⟩
  refine hcl F1 m1 X.A X.stack s2 H1 us vs ds d Q E0 hok s1.fh s1.tb s1.tup r1 (hr.mono hk) vals fun v F' H' m2 f' tb' tp' hh nw r' => ?_
  refine q v [] F' H' ?_ (m1.trans m2) ⟨rfl, r'⟩
  rw [hide_nil]
  have hh : ∀ a o, H1 a = some o → HK H' a o := fun a o e n => hh a o e n
  obtain ⟨g, h1, h2, h3, h4⟩ := s1.ex
  refine ⟨s1.len, f', s1.f0.trans m2, fun a o e n => (s1.h0 a o e n).tr (hh a), tb', fun a ha => ?_, tp', g, fun i O e => ?_, fun i a ha => ?_, h3, h4⟩
  · rcases nw a ha with y | y
    · exact s1.new a y
    · by_cases z : Γ.A0 a
      · exact .inr (.inr z)
      · exact .inr (.inl (fr_tr (fun o e n => s1.h0 a o e z n) y))
  · obtain ⟨v', e1, q'⟩ := h1 i O e
    refine ⟨v', e1, O.mono m2 (O.loc (fun a ha => ?_) q')⟩
    obtain ⟨o, e3, n3⟩ := O.own q' a ha
    rw [e3]; exact (hh a o e3).eq n3.2.1
  · obtain ⟨q1, q2, q3⟩ := h2 i a ha
    refine ⟨?_, ?_, q3⟩
    · cases e2 : F' a with
      | none => rfl
      | some o =>
        rcases nw a (by rw [e2]; exact fun z => by cases z) with y | y
        · exact absurd q1 y
        · exact (let ⟨o2, e5, n5⟩ := ex_nt h1 h4 ha; (fr_no y e5 n5.2.1).elim)
    · obtain ⟨o2, e5, n5⟩ := ex_nt h1 h4 ha
      rw [hh a o2 e5 n5.2.1]; exact fun z => by cases z
end
end Ev

namespace Ev
open PySem L2 PySem.Spec PyProof.Rows
open PySem.W (Datum Tup T3 T4 Holds HoldAll DatumOrd EachIs SomeDatum)
variable [Tb]
/-! # the making of closures: a def's own cells, told to the account -/
/-- G tells of the cells cs -/
def Hat (G : Hp) (h : Heap) (cs : List Addr) : Prop := ∀ c ∈ cs, ∃ u ob x, G c = some (CellO c u ob) ∧ h.get? c = some ob ∧ RelV u x ∧ ob.data = .cell (some x)
section
variable {P : Program} {w : World} {K : PySem.W.Frag} {mg : Str → Option Value} {base : Heap} {A : Around} {outer : List Env} {s s' : Shared} {G H H' : Hp} {h h' : Heap} {cs : List Addr}
theorem hat_hok (hok : HOk P w H h) (hn : ∀ c ∈ cs, H c = none) (hG : Hat G h cs) : HOk P w (hjoin G H cs) h := fun a o e => by
  by_cases z : a ∈ cs
  · rw [hjoin_in z] at e
    obtain ⟨u, ob, x, g1, g2, g3, g4⟩ := hG a z
    rw [g1] at e
    cases e
    exact ⟨⟨g2, x, g3, ob, g2, g4⟩, ⟨ob, g2⟩, fun h1 h2 ⟨p1, x', p2, o', p3, p4⟩ st => ⟨st _ p1, x', p2, o', st _ p3, p4⟩⟩
  · rw [hjoin_out z] at e
    refine (hok a o e).stay (fun b v _ q => q) (fun b q => ?_) fun b xs q => ?_
    · rw [hjoin_out (fun y => by rw [hn b y] at q; cases q)]; exact q
    · rw [hjoin_out (fun y => by rw [hn b y] at q; cases q)]; exact q
theorem env0_hat (e : Env0 P w K mg base A outer s H) (hn : ∀ c ∈ cs, H c = none) (hG : Hat G s.heap cs) (hb : ∀ b o, base.get? b = some o → b ∉ cs) (hf : ∀ b ∈ frs outer, b ∉ cs) : Env0 P w K mg base A outer s (hjoin G H cs) :=
  ⟨e.frames, e.mod, fun b o q => ⟨(e.bs b o q).1, by rw [hjoin_out (hb b o q)]; exact (e.bs b o q).2⟩, e.bsz, e.funs, fun b q => by rw [hjoin_out (hf b q)]; exact e.frf b q, hat_hok e.hok hn hG, e.bare⟩
theorem same_hat (hn : ∀ c ∈ cs, H c = none) : Same H (hjoin G H cs) := fun a o e => by
  rw [hjoin_out (fun y => by rw [hn a y] at e; cases e)]; exact e
theorem ce_cut {Q : VK} {u : Value} (hn : ∀ c ∈ cs, H c = none) (hG : Hat G s.heap cs) (hf : ∀ b ∈ frs outer, b ∉ cs) (h : CE outer P w (hjoin G H cs) s Q u s') (hk : ∀ v H', Q v H' → ∀ c ∈ cs, H' c = G c) : CE outer P w H s (fun v H2 => ∃ H', H2 = hcut H' cs ∧ Q v H') u s' := by
  obtain ⟨v, H', os, bare, un, hok, r, q⟩ := h
  have hk := hk v H' q
  have ex : Exts H' cs := fun c hc => by
    obtain ⟨u, ob, x, g1, _⟩ := hG c hc
    exact ⟨_, by rw [hk c hc]; exact g1⟩
  refine ⟨v, hcut H' cs, os, bare, ⟨fun b o e n nb nx => ?_, fun b o e n nb nx => ?_, fun b o e n nx => ?_, un.there, fun b xs e => ?_, fun b o u e => ?_, fun b ps e => ?_⟩, hok_cut hok ex, r, H', rfl, q⟩
  · by_cases z : b ∈ cs
    · obtain ⟨u, ob, x, g1, g2, _⟩ := hG b z
      obtain ⟨⟨p1, _⟩, _, _⟩ := hok b _ ((hk b z).trans g1)
      rw [g2] at e; cases e
      exact p1
    · exact un.keep b o e (by rw [hjoin_out z]; exact n) nb nx
  · exact un.slot b o e (by rw [hjoin_out (hf b nb)]; exact n) nb nx
  · by_cases z : b ∈ cs
    · exact hcut_in z
    · rw [hcut_out z]; exact un.free b o e (by rw [hjoin_out z]; exact n) nx
  · have z : b ∉ cs := fun y => by rw [hn b y] at e; cases e
    rw [hcut_out z]; exact un.tups b xs (by rw [hjoin_out z]; exact e)
  · have z : b ∉ cs := fun y => by rw [hn b y] at e; cases e
    rw [hcut_out z]; exact un.frzs b o u (by rw [hjoin_out z]; exact e)
  · have z : b ∉ cs := fun y => by rw [hn b y] at e; cases e
    obtain ⟨more, q⟩ := un.tbls b ps (by rw [hjoin_out z]; exact e)
    exact ⟨more, by rw [hcut_out z]; exact q⟩
end
/-! ## the cells of the running frame -/
section
variable {X : Cx} {pins : List (Addr × Obj)} {σ : L2.St} {H : Hp} {s : Shared}
/-- caps: captured names; js: their slots; cl: the closure's cells -/
structure Capt (X : Cx) (scope : Scope) (caps : List Str) (js : List Nat) : Prop where
  len : js.length = caps.length
  nm : ∀ (i : Nat) (y : Str), caps[i]? = some y → ∃ j, js[i]? = some j ∧ X.N[j]? = some y
  fr : ∀ y, y ∈ caps ↔ (y, NameKind.free) ∈ scope.names
  vis : ∀ y ∈ caps, X.env.scope.names.lookup y = some .cell
  fn : ∀ y ∈ caps, X.fn y = true
theorem Capt.look {scope : Scope} {caps : List Str} {js : List Nat} (C : Capt X scope caps js) (ok : X.Ok) : (∀ y c, (cloFrom X.env.cells scope.names []).lookup y = some c → y ∈ caps ∧ X.env.cells.lookup y = some c) ∧ ∀ y ∈ caps, ∃ c, (cloFrom X.env.cells scope.names []).lookup y = some c := by
  refine ⟨fun y c e => ?_, fun y hy => mem_lookup (cloFrom_has (cells := X.env.cells) (acc := []) ((C.fr y).mp hy))⟩
  rcases cloFrom_mem (PySem.mem_of_lookup e) with hm | ⟨h1, h2⟩
  · cases hm
  · have hy := (C.fr y).mpr h1
    obtain ⟨c1, hc⟩ := ok.has y (.inl (C.vis y hy))
    refine ⟨hy, ?_⟩
    have e2 : c = c1 := by rw [h2, hc] <;> rfl
    rw [e2]; exact hc
theorem Capt.clo {scope : Scope} {caps ps : List Str} {js : List Nat} (C : Capt X scope caps js) (ok : X.Ok) (L : LamP X.env.scope scope ps) (nd : (caps ++ ps).Nodup) : Clo scope caps ps (cloFrom X.env.cells scope.names []) :=
  ⟨L.kind, L.co, L.gen, L.own, L.par, fun y hy e => (C.fr y.1).mpr (by rw [← e]; exact hy), nd, fun y z c e1 e2 => ok.inj y z c ((C.look ok).1 y c e1).2 ((C.look ok).1 z c e2).2, (C.look ok).2, fun y c e => ((C.look ok).1 y c e).1⟩
theorem hat_of {scope : Scope} {caps : List Str} {js : List Nat} {cvs : List V} (I : Inv X pins σ H s) (C : Capt X scope caps js) (nd : caps.Nodup) (hl : cvs.length = caps.length) (hv : ∀ (i j : Nat) (u : V), js[i]? = some j → cvs[i]? = some u → σ[j]? = some (some u)) :
    ∃ G, Hat G s.heap (cellsC caps (cloFrom X.env.cells scope.names [])) ∧ CellsAt G caps (cloFrom X.env.cells scope.names []) cvs ∧ (∀ c ∈ cellsC caps (cloFrom X.env.cells scope.names []), H c = none) ∧
      (∀ b o, X.base.get? b = some o → b ∉ cellsC caps (cloFrom X.env.cells scope.names [])) ∧ ∀ b ∈ frs X.stack, b ∉ cellsC caps (cloFrom X.env.cells scope.names []) := by
  obtain ⟨l1, l2⟩ := C.look I.ok
  generalize cloFrom X.env.cells scope.names [] = cl at l1 l2 ⊢
  have inj : ∀ y z c, cl.lookup y = some c → cl.lookup z = some c → y = z := fun y z c e1 e2 => I.ok.inj y z c (l1 y c e1).2 (l1 z c e2).2
  have ex : ∀ b, ∃ o, b ∈ cellsC caps cl → ∃ (i : Nat) (y : Str) (u : V) (ob : Obj) (x : Value), caps[i]? = some y ∧ cl.lookup y = some b ∧ cvs[i]? = some u ∧ o = CellO b u ob ∧ s.heap.get? b = some ob ∧ RelV u x ∧ ob.data = .cell (some x) := fun b => by
    by_cases hb : b ∈ cellsC caps cl
    · obtain ⟨y, hy, e⟩ := mem_cellsC.mp hb
      obtain ⟨i, hi⟩ := List.mem_iff_getElem?.mp hy
      obtain ⟨j, hj, hN⟩ := C.nm i y hi
      have hil : i < cvs.length := by rw [hl]; exact (List.getElem?_eq_some_iff.mp hi).1
      have hu : cvs[i]? = some cvs[i] := List.getElem?_eq_getElem hil
      obtain ⟨m, _, hl2⟩ := I.loc
      obtain ⟨x, r, lk⟩ := hl2 j y cvs[i] hN (hv i j _ hj hu) (.inr (.inl (C.vis y hy)))
      rcases lk with ⟨k, _⟩ | ⟨_, c, hc, ob, ho, hd⟩
      · have k : X.env.scope.names.lookup y = some .local := k
        rw [C.vis y hy] at k; cases k
      · rw [(l1 y b e).2] at hc
        cases hc
        exact ⟨CellO b cvs[i] ob, fun _ => ⟨i, y, cvs[i], ob, x, hi, e, hu, rfl, ho, r, hd⟩⟩
    · exact ⟨.lst [], fun z => absurd z hb⟩
  refine ⟨fun b => some (Classical.choose (ex b)), fun c hc => ?_, ⟨hl, fun i y hi => ?_⟩, fun c hc => ?_, fun b o e z => ?_, fun b hb z => ?_⟩
  · obtain ⟨i, y, u, ob, x, h1, h2, h3, h4, h5, h6, h7⟩ := Classical.choose_spec (ex c) hc
    exact ⟨u, ob, x, congrArg some h4, h5, h6, h7⟩
  · obtain ⟨c, hc⟩ := l2 y (List.mem_of_getElem? hi)
    obtain ⟨i', y', u, ob, x, h1, h2, h3, h4, h5, h6, h7⟩ := Classical.choose_spec (ex c) (mem_cellsC.mpr ⟨y, List.mem_of_getElem? hi, hc⟩)
    obtain rfl := inj y y' c hc h2
    obtain ⟨z1, z2⟩ := List.getElem?_eq_some_iff.mp hi
    obtain ⟨z3, z4⟩ := List.getElem?_eq_some_iff.mp h1
    obtain rfl : i = i' := (List.getElem_inj nd).mp (z2.trans z4.symm)
    exact ⟨c, u, ob, hc, h3, congrArg some h4⟩
  · obtain ⟨y, _, e⟩ := mem_cellsC.mp hc
    exact I.freeC y c (l1 y c e).2
  · obtain ⟨y, hy, e2⟩ := mem_cellsC.mp z
    have h1 := I.ok.cab y b (C.fn y hy) (l1 y b e2).2
    have := Heap.lt_size (I.ok.bs b o e).1
    exact absurd this (Nat.not_lt.mpr h1)
  · obtain ⟨y, hy, e2⟩ := mem_cellsC.mp z
    have h1 := I.ok.cab y b (C.fn y hy) (l1 y b e2).2
    rcases List.mem_cons.mp (I.stkSub b hb) with e | hb
    · subst e
      obtain ⟨m, ⟨o, es, ep, n1, n2, _⟩, _⟩ := I.loc
      obtain ⟨v, o', n3, n4⟩ := I.cell y _ (l1 y _ e2).2
      rw [n1] at n3; cases n3
      rw [n2] at n4; cases n4
    · obtain ⟨_, o, ho, _⟩ := I.ok.funs.mem hb
      exact absurd (Heap.lt_size ho) (Nat.not_lt.mpr h1)
end
theorem hat_nc {G : Hp} {h : Heap} {cs : List Addr} (hG : Hat G h cs) : ∀ c ∈ cs, ∀ q, G c ≠ some (LamX.CodeO c q) := fun c hc q e => by
  obtain ⟨u, ob, x, g1, g2, g3, g4⟩ := hG c hc
  rw [g1] at e
  have e1 : (fun h : Heap => h.get? c = some ob ∧ ∃ x, RelV u x ∧ h.IsCell c (some x)) = fun h => ∃ (oc : Obj) (vs : Array Value) (t : Tok), h.get? c = some oc ∧ oc.data = .fields vs ∧ vs[1]? = some (.str q t) := by
    injection e with e
    exact HO.ext.inj e
  have : ∃ (oc : Obj) (vs : Array Value) (t : Tok), h.get? c = some oc ∧ oc.data = .fields vs ∧ vs[1]? = some (.str q t) := by
    have := congrFun e1 h
    exact this ▸ ⟨g2, x, g3, ob, g2, g4⟩
  obtain ⟨oc, vs, t, z1, z2, _⟩ := this
  rw [g2] at z1; cases z1
  rw [g4] at z2; cases z2
theorem tbOk_cut2 {F H : Hp} {cs : List Addr} (t : TbOk F H) (he : Exts H cs) (hc : ∀ c ∈ cs, ∀ q, H c ≠ some (LamX.CodeO c q)) (fh : Same F H) : TbOk (hcut F cs) (hcut H cs) := by
  have nt : ∀ a ps, H a = some (.tbl ps) → a ∉ cs := fun a ps e z => by
    obtain ⟨φ, e2⟩ := he a z
    rw [e] at e2; cases e2
  have nc : ∀ a q, H a = some (LamX.CodeO a q) → a ∉ cs := fun a q e z => hc a z q e
  refine ⟨fun p hp => ?_, fun p hp => ?_, fun p hp ps e pos cv q => ?_⟩
  · obtain ⟨ps, a1, a2, a3⟩ := t.tabs p hp
    refine ⟨ps, by rw [hcut_out (nt _ _ a1)]; exact a1, a2, fun pos cv q => ?_⟩
    obtain ⟨c, e1, e2⟩ := a3 pos cv q
    exact ⟨c, e1, by rw [hcut_out (nc _ _ e2)]; exact e2⟩
  · by_cases z : p.1 ∈ cs
    · exact hcut_in z
    · rw [hcut_out z]; exact t.off p hp
  · obtain ⟨_, e⟩ := hcut_some e
    obtain ⟨c, e1, e2⟩ := t.cod p hp ps e pos cv q
    exact ⟨c, e1, by rw [hcut_out (nc _ _ (fh _ _ e2))]; exact e2⟩
theorem tbOk_hat {F G H : Hp} {cs : List Addr} (t : TbOk F H) (hn : ∀ c ∈ cs, H c = none) (fh : Same F H) : TbOk (hjoin G F cs) (hjoin G H cs) := by
  have nn : ∀ a o, H a = some o → a ∉ cs := fun a o e z => by rw [hn a z] at e; cases e
  have nt : ∀ p ∈ Tb.T, p.1 ∉ cs := fun p hp z => by
    obtain ⟨ps, a1, _⟩ := t.tabs p hp
    exact nn _ _ a1 z
  refine ⟨fun p hp => ?_, fun p hp => ?_, fun p hp ps e pos cv q => ?_⟩
  · obtain ⟨ps, a1, a2, a3⟩ := t.tabs p hp
    refine ⟨ps, by rw [hjoin_out (nt p hp)]; exact a1, a2, fun pos cv q => ?_⟩
    obtain ⟨c, e1, e2⟩ := a3 pos cv q
    exact ⟨c, e1, by rw [hjoin_out (nn _ _ e2)]; exact e2⟩
  · rw [hjoin_out (nt p hp)]; exact t.off p hp
  · rw [hjoin_out (nt p hp)] at e
    obtain ⟨c, e1, e2⟩ := t.cod p hp ps e pos cv q
    exact ⟨c, e1, by rw [hjoin_out (nn _ _ (fh _ _ e2))]; exact e2⟩
theorem Sat.vals {Γ : Cxt} {S : Sl} {σ : L2.St} {F H : Hp} (s : Sat Γ S σ F H) : ∀ {js : List Nat} {cds : List PyData}, js.length = cds.length → (∀ (i j : Nat) (d : PyData), js[i]? = some j → cds[i]? = some d → S[j]? = some (some (dd d))) → ∃ cvs, RpAll F cvs cds ∧ ∀ (i j : Nat) (u : V), js[i]? = some j → cvs[i]? = some u → σ[j]? = some (some u)
  | [], [], _, _ => ⟨[], .nil, fun i j u e _ => by simp at e⟩
  | [], _ :: _, h, _ => by cases h
  | _ :: _, [], h, _ => by cases h
  | j :: js, d :: cds, h, hs => by
    obtain ⟨cvs, r, q⟩ := s.vals (js := js) (cds := cds) (by simpa using h) fun i j d e1 e2 => hs (i + 1) j d (by simpa using e1) (by simpa using e2)
    obtain ⟨v, fp, e, ⟨_, r1⟩, _⟩ := s.slot (hs 0 j d rfl rfl)
    refine ⟨v :: cvs, .cons r1 r, fun i j' u e1 e2 => ?_⟩
    cases i with
    | zero => simp at e1 e2; subst e1 e2; exact e
    | succ i => exact q i j' u (by simpa using e1) (by simpa using e2)
/-- f(..), f a def: what stands at the call is all known -/
def tCallI (X : Cx) (f : Addr) (t : TA) : TE := fun σ H Q => t σ H fun vs H1 => ∀ (pins : List (Addr × Obj)) (s : Shared) (us : List Value), Inv X pins σ H1 s → Vals vs us → wpAny (model X.prog X.w) X.A (call (.ref f) us []) (fun u s' => CE X.stack X.prog X.w H1 s Q u s') (fun _ _ => False) s
section
variable {X : Cx} {S S1 : Sl} {f : Addr} {x : Str} {p pos : Pos} {e : Expr} {es : List Expr} {t : TA} {ar : List AR}
theorem pe_callI (hg : Gl X x) (hm : X.mg x = some (.ref f)) (hk : PySem.W.keepIn X.K (.ref f) = true) (ha : PA X (e :: es) t) (hdb : (x == ("__debug__" : Str)) = false := by decide)
    (he : starEach (e :: es) X.env = (false, eval e X.env) :: starEach es X.env := by rfl) (hpl : (backTo pos (starEach es X.env)).any (·.1) = false := by rfl) : PE X (.Call (.Name x p) (e :: es) [] pos) (tCallI X f t) := by
  refine ⟨fun pins s σ H Q I h => ?_⟩
  refine wpAny_Call_Name_kw (ld_glob I hg hm ?_ hdb)
  refine PySem.W.callWith_K (h₀ := X.base) I.ok.mod.kin hk (thn (ha.run pos pins s σ H _ I h) fun us s1 ⟨vs, H1, I1, r, q⟩ => ⟨I1.kIn, ?_⟩) he hpl
  exact wpAny_mono (q pins s1 us I1 r) (fun u s' hq => I1.after hq) fun _ _ z => z.elim
/-- f(.., lambda): the m-th is a lambda, which f may call -/
theorem ev_callCl {τ : Type} {ok : τ → Prop} {pre pre' : τ → Sl} {post : τ → OP} {k kk n : Nat} {P : Program} {w : World} {K : PySem.W.Frag} {mg : Str → Option Value} {base : Heap} {okc : List PyData → PyData → Prop} {params : Arguments} {body : Expr} {scope : Scope} {d : PyData} (m : Nat) (caps ps : List Str) (js : List Nat) (cds : List PyData)
    (G : HF P w K mg base k x (spF ok pre post pre')) (ha : EA X S (e :: es) ar S1) (t : τ) (hok : ok t) (C : Capt X scope caps js) (L : LamP X.env.scope scope ps) (nd : (caps ++ ps).Nodup) (hjl : js.length = cds.length) (hj : ∀ (i j : Nat) (d : PyData), js[i]? = some j → cds[i]? = some d → S1[j]? = some (some (dd d)))
    (hps : ∀ ds d, okc ds d → ds.length = ps.length)
    (hbind : ∀ (pm ctv : Value) (c' : Addr) (us : List Value), us.length = ps.length → bindArgs (PySem.W.kla_fn "<lambda>" (X.env.qual ++ "<lambda>") params body scope (cloFrom X.env.cells scope.names []) pm (.ref c') ctv) ⟨us, []⟩ = pure (ps.zip us))
    (hbody : ∀ (cl : List (Str × Addr)) (A : Around) (outer : List Env) (s : Shared) (H : Hp) (f c' : Addr) ds d, okc ds d → Room kk (A.deeper (cloEnv (X.env.qual ++ "<lambda>") scope s.heap.objs.size f c' cl)) → ∃ S', EV (cloC P w K mg base (caps ++ ps) (X.env.qual ++ "<lambda>") scope f c' cl A outer s H) (dsl (cds ++ ds)) body (dd d) S')
    (ham : ar[m]? = some (.v (lamF (X.env.qual ++ "<lambda>") params body scope (cloFrom X.env.cells scope.names [])))) (hpre : pre t = (pres ar).set m (some (fz (clF P w K mg base (kk + 1) okc)))) (hpost : post t = dd d)
    (hX : X.prog = P ∧ X.w = w ∧ X.K = K ∧ X.mg = mg ∧ X.base = base := by exact ⟨rfl, rfl, rfl, rfl, rfl⟩) (hr : Room n X.A := by assumption) (hk : k ≤ n := by decide) (hg : Gl X x := by rfl) (hdb : (x == ("__debug__" : Str)) = false := by decide)
    (he : starEach (e :: es) X.env = (false, eval e X.env) :: starEach es X.env := by rfl) (hpl : (backTo pos (starEach es X.env)).any (·.1) = false := by rfl) : EV X S (.Call (.Name x p) (e :: es) [] pos) (dd d) S1 := by
  obtain ⟨rfl, rfl, rfl, rfl, rfl⟩ := hX
  obtain ⟨f, fd, pp, F0, hm, hk2, hb⟩ := G.ex
  refine fun Γ σ F H Q s q => PE.w (pe_callI (t := WA X (e :: es)) hg hm hk2 pa_w hdb he hpl) (ha Γ σ F H _ s fun vs F1 H1 s1 m1 r1 pins sh us I vals => ?_)
  obtain ⟨cvs, rc, hcv⟩ := s1.vals hjl hj
  obtain ⟨g, hG, cg, hn, nb, nf⟩ := hat_of I C (List.nodup_append.mp nd).1 (by rw [rc.length, ← hjl, C.len]) hcv
  have CL := C.clo I.ok L nd
  generalize hcl : cloFrom X.env.cells scope.names [] = cl at hG cg hn nb nf CL ham hbind
  generalize hcs : cellsC caps cl = cs at hG hn nb nf
  have nn : ∀ a o, H1 a = some o → a ∉ cs := fun a o e z => by rw [hn a z] at e; cases e
  have nF : ∀ a o, F1 a = some o → a ∉ cs := fun a o e => nn a o (s1.fh _ _ e)
  have hF : ∀ c ∈ cs, F1 c = none := fun c hc => by
    cases e : F1 c with
    | none => rfl
    | some o => exact absurd hc (nF c o e)
  have mF : Same F1 (hjoin g F1 cs) := same_hat hF
  have mG : Same g (hjoin g F1 cs) → True := fun _ => trivial
  have cF : CellsAt (hjoin g F1 cs) caps cl cvs := ⟨cg.1, fun i y e => by
    obtain ⟨c, u, ob, e1, e2, e3⟩ := cg.2 i y e
    exact ⟨c, u, ob, e1, e2, by rw [hjoin_in (by rw [← hcs]; exact mem_cellsC.mpr ⟨y, List.mem_of_getElem? e, e1⟩)]; exact e3⟩⟩
  have E0 := env0_hat (G := g) I.env0 hn hG nb nf
  have mH : Same (hjoin g F1 cs) (hjoin g H1 cs) := fun a o e => by
    by_cases z : a ∈ cs
    · rw [hjoin_in z] at e ⊢; exact e
    · rw [hjoin_out z] at e ⊢; exact s1.fh _ _ e
  have hsp : spF ok pre post pre' vs (hjoin g H1 cs) (fun v H' => (∀ c ∈ cs, H' c = g c) ∧ Q v (hcut H' cs)) (fun _ _ _ => False) := by
    refine ⟨t, hok, hjoin g F1 cs, fun _ => False, ?_, fun v fp F' H' s' pv => ?_⟩
    · rw [hpre]
      have hml : m < vs.length := by rw [r1.length]; exact (List.getElem?_eq_some_iff.mp ham).1
      refine ⟨by rw [List.length_map, List.length_set, r1.length]; simp [pres], mH, Same.refl _, fun a o e _ => .of e, tbOk_hat s1.tb hn s1.fh, fun a ha => .inl ha, fun a xs e => ?_, fun _ => [], fun i O e => ?_, fun i a ha => (by cases ha), fun i j a _ ha => (by cases ha), fun _ _ => rfl⟩
      · by_cases z : a ∈ cs
        · rw [hjoin_in z] at e ⊢; exact e
        · rw [hjoin_out z] at e ⊢; exact s1.tup _ _ e
      · by_cases z : i = m
        · subst z
          rw [List.getElem?_set_self (by rw [r1.length] at hml; simpa [pres] using hml)] at e
          cases e
          obtain ⟨v, e3, e4⟩ := r1.at ham
          refine ⟨v, by rw [List.getElem?_map, e3]; rfl, rfl, ?_⟩
          exact clF_of CL hps hbind (fun A outer s H f c' ds d => hbody cl A outer s H f c' ds d) ((lamF _ params body scope cl).mono mF e4) cF (rc.mono mF)
        · rw [List.getElem?_set_ne (Ne.symm z)] at e
          obtain ⟨P, e1, e2⟩ := pres_at e
          obtain ⟨v, e3, e4⟩ := r1.at e1
          subst e2
          exact ⟨v, by rw [List.getElem?_map, e3]; rfl, rfl, P.mono mF e4⟩
    · rw [hpost] at pv
      obtain ⟨rfl, r'⟩ := pv
      rw [hide_nil] at s'
      have hh : ∀ a o, hjoin g H1 cs a = some o → HK H' a o := fun a o e => s'.h0 a o e (fun z => z.elim)
      have hg2 : ∀ c ∈ cs, H' c = g c := fun c hc => by
        obtain ⟨u, ob, x, g1, _⟩ := hG c hc
        rw [g1]
        exact (hh c _ (by rw [hjoin_in hc]; exact g1)).eq (fun ps z => by cases z)
      have hF2 : ∀ c ∈ cs, F' c = g c := fun c hc => by
        obtain ⟨u, ob, x, g1, _⟩ := hG c hc
        rw [g1]
        exact s'.f0 _ _ (by show hjoin g F1 cs c = _; rw [hjoin_in hc]; exact g1)
      have eF : Exts F' cs := fun c hc => by
        obtain ⟨u, ob, x, g1, _⟩ := hG c hc
        exact ⟨_, by rw [hF2 c hc]; exact g1⟩
      have eH : Exts H' cs := fun c hc => by
        obtain ⟨u, ob, x, g1, _⟩ := hG c hc
        exact ⟨_, by rw [hg2 c hc]; exact g1⟩
      have m2 : Same F1 (hcut F' cs) := fun a o e => by
        rw [hcut_out (nF a o e)]
        exact s'.f0 _ _ (by show hjoin g F1 cs a = _; rw [hjoin_out (nF a o e)]; exact e)
      have hk1 : ∀ a o, H1 a = some o → HK (hcut H' cs) a o := fun a o e n => by
        rw [hcut_out (nn a o e)]
        exact (hh a o (by rw [hjoin_out (nn a o e)]; exact e)).eq n
      refine ⟨hg2, q v [] (hcut F' cs) (hcut H' cs) ?_ (m1.trans m2) ⟨rfl, r'.lt (lt_cut eF)⟩⟩
      rw [hide_nil]
      have fr1 : ∀ a, a ∉ cs → F' a ≠ none → F1 a ≠ none ∨ Fr1 (H1 a) := fun a z e => by
        rcases s'.new a e with y | y | y
        · left
          have y : hjoin g F1 cs a ≠ none := y
          rw [hjoin_out z] at y; exact y
        · right
          have y : Fr1 (hjoin g H1 cs a) := y
          rw [hjoin_out z] at y; exact y
        · exact y.elim
      have cut_ne : ∀ a, hcut F' cs a ≠ none → a ∉ cs ∧ F' a ≠ none := fun a e => by
        by_cases z : a ∈ cs
        · rw [hcut_in z] at e; exact absurd rfl e
        · rw [hcut_out z] at e; exact ⟨z, e⟩
      obtain ⟨gg, h1, h2, h3, h4⟩ := s1.ex
      refine ⟨s1.len, fun a o e => ?_, s1.f0.trans m2, fun a o e n => (s1.h0 a o e n).tr (hk1 a), tbOk_cut2 s'.tb eH (fun c hc qq e => hat_nc hG c hc qq (by rw [← hg2 c hc]; exact e)) s'.fh, fun a ha => ?_, fun a xs e => ?_, gg, fun i O e => ?_, fun i a ha => ?_, h3, h4⟩
      · obtain ⟨z, e⟩ := hcut_some e
        rw [hcut_out z]; exact s'.fh _ _ e
      · obtain ⟨z, ha⟩ := cut_ne a ha
        rcases fr1 a z ha with y | y
        · exact s1.new a y
        · by_cases z : Γ.A0 a
          · exact .inr (.inr z)
          · exact .inr (.inl (fr_tr (fun o e n => s1.h0 a o e z n) y))
      · obtain ⟨z, e⟩ := hcut_some e
        rw [hcut_out z]; exact s'.tup _ _ e
      · obtain ⟨v', e1, q'⟩ := h1 i O e
        refine ⟨v', e1, O.mono m2 (O.loc (fun a ha => ?_) q')⟩
        obtain ⟨o, e3, n3⟩ := O.own q' a ha
        rw [e3]; exact (hk1 a o e3).eq n3.2.1
      · obtain ⟨q1, q2, q3⟩ := h2 i a ha
        refine ⟨?_, ?_, q3⟩
        · cases e2 : hcut F' cs a with
          | none => rfl
          | some o =>
            obtain ⟨z, e3⟩ := hcut_some e2
            rcases fr1 a z (by rw [e3]; exact fun z => by cases z) with y | y
            · exact absurd q1 y
            · exact (let ⟨o2, e5, n5⟩ := ex_nt h1 h4 ha; (fr_no y e5 n5.2.1).elim)
        · obtain ⟨o2, e5, n5⟩ := ex_nt h1 h4 ha
          rw [hk1 a o2 e5 n5.2.1]; exact fun z => by cases z
  have hl : us.length = pp.length := by rw [← vals.length]; exact F0.len _ _ _ _ hsp
  refine wpAny_call (codeAny_mono (F0.run X.A X.stack sh (hjoin g H1 cs) ⟨us, []⟩ us vs _ _ (hr.mono hk) E0 (by have := hb sh us I.kIn (by rw [List.append_nil]; exact hl); rwa [List.append_nil] at this) vals hsp) fun r s' hq => ?_)
  cases r with
  | error e => exact hq
  | ok fl =>
    cases fl with
    | ret u =>
      have := ce_cut hn hG nf hq fun v H' z => z.1
      obtain ⟨v, H2, a1, a2, a3, a4, a5, H3, rfl, a6⟩ := this
      exact ⟨v, _, a1, a2, a3, a4, a5, a6.2⟩
    | next => exact False.elim hq
    | brk => exact False.elim hq
    | cont => exact False.elim hq
end
/-! ## a def that returns a closure -/
theorem Sat.hat {Γ : Cxt} {S : Sl} {σ : L2.St} {F G H : Hp} {cs : List Addr} (s : Sat Γ S σ F H) (hn : ∀ c ∈ cs, H c = none) (hn0 : ∀ c ∈ cs, Γ.H0 c = none) : Sat Γ S σ (hjoin G F cs) (hjoin G H cs) := by
  have nn : ∀ a o, H a = some o → a ∉ cs := fun a o e z => by rw [hn a z] at e; cases e
  have nF : ∀ a o, F a = some o → a ∉ cs := fun a o e => nn a o (s.fh _ _ e)
  have mF : Same F (hjoin G F cs) := fun a o e => by rw [hjoin_out (nF a o e)]; exact e
  obtain ⟨g, h1, h2, h3, h4⟩ := s.ex
  refine ⟨s.len, fun a o e => ?_, s.f0.trans mF, fun a o e n => (s.h0 a o e n).tr fun o' e' _ => by rw [hjoin_out (nn a o' e')]; exact e', tbOk_hat s.tb hn s.fh, fun a ha => ?_, fun a xs e => ?_, g, fun i O e => ?_, fun i a ha => ?_, h3, h4⟩
  · by_cases z : a ∈ cs
    · rw [hjoin_in z] at e ⊢; exact e
    · rw [hjoin_out z] at e ⊢; exact s.fh _ _ e
  · by_cases z : a ∈ cs
    · exact .inr (.inl (.inl (hn0 a z)))
    · rw [hjoin_out z] at ha; exact s.new a ha
  · by_cases z : a ∈ cs
    · rw [hjoin_in z] at e ⊢; exact e
    · rw [hjoin_out z] at e ⊢; exact s.tup _ _ e
  · obtain ⟨v, e1, q⟩ := h1 i O e
    refine ⟨v, e1, O.mono mF (O.loc (fun a ha => ?_) q)⟩
    obtain ⟨o, e3, _⟩ := O.own q a ha
    exact hjoin_out (nn a o e3)
  · obtain ⟨q1, q2, q3⟩ := h2 i a ha
    obtain ⟨o, e3, _⟩ := ex_nt h1 h4 ha
    exact ⟨by rw [hjoin_out (nn a o e3)]; exact q1, by rw [hjoin_out (nn a o e3)]; exact q2, q3⟩
theorem lam_we {X : Cx} {S : Sl} {σ : L2.St} {F1 H : Hp} {A0 : Addr → Prop} {c Pt : Addr} {params : Arguments} {body : Expr} {scope : Scope} {pos : Pos} {q qual : Str} {cl : List (Str × Addr)} (lps : List Str) (hq : X.env.qual = qual) (hqq : q = qual ++ "<lambda>") (hcl : X.env.cells = cl) (TB : LamX.TabB X.base X.mg c Pt) (hcode : X.env.code = .ref c) (hmT : (Pt, q) ∈ Tb.T) (hu : ∀ p ∈ Tb.T, p.1 = Pt → p.2 = q)
    (L : LamP X.env.scope scope lps) (hdef : defaultsOf params X.env = ([], [])) (s0 : Sat ⟨F1, H, A0⟩ S σ F1 H) : WE X (.Lambda params body scope pos) σ H fun v H' => ∃ F', Sat ⟨F1, H, A0⟩ S σ F' H' ∧ Same F1 F' ∧ (lamF q params body scope (cloFrom cl scope.names [])).p v F' := by
  subst hq hcl hqq
  exact (ev_lam lps TB hcode hmT hu L hdef) ⟨F1, H, A0⟩ _ F1 H _ s0 fun v fp F' H' s' m' pv => by
      obtain ⟨rfl, pv⟩ := pv
      rw [hide_nil] at s'
      exact ⟨F', s', m', pv⟩
set_option maxHeartbeats 400000 in
theorem fn_ofCl {q : Str} {c Pt : Addr} {P : Program} {w : World} {K : PySem.W.Frag} {mg : Str → Option Value} {base : Heap} {x qual : Str} {st : Stmt} {f : Addr} {fd : FuncData} {ps : List Str} {k kk : Nat} {τ : Type} {ok : τ → Prop} {pre : τ → Sl} {params : Arguments} {body : Expr} {scope : Scope} {pos p2 : Pos} (okc : τ → List PyData → PyData → Prop) (caps lps : List Str) (js : List Nat) (cds : τ → List PyData)
    (hqe : q = qual ++ ".<locals>." ++ "<lambda>") (F : FunC K x qual st f fd c) (Sc : FnScope ps ps (defScope st)) (hl : ∀ t, (pre t).length = ps.length) (hbd : defBody st = [.Return (some (.Lambda params body scope pos)) p2])
    (TB : LamX.TabB base mg c Pt) (hmT : (Pt, q) ∈ Tb.T) (hu : ∀ p ∈ Tb.T, p.1 = Pt → p.2 = q) (hdef : ∀ env, defaultsOf params env = ([], []))
    (hC : ∀ A outer s H E, Capt (cxOf CX0 P w K mg base ps qual (defScope st) f (.ref c) A outer s H E) scope caps js) (L : LamP (defScope st) scope lps) (nd : (caps ++ lps).Nodup) (hjl : ∀ t, js.length = (cds t).length) (hj : ∀ (t : τ) (i j : Nat) (d : PyData), js[i]? = some j → (cds t)[i]? = some d → (pre t)[j]? = some (some (dd d)))
    (hps : ∀ t ds d, okc t ds d → ds.length = lps.length)
    (hbind : ∀ (cl : List (Str × Addr)) (pm ctv : Value) (c' : Addr) (us : List Value), us.length = lps.length → bindArgs (PySem.W.kla_fn "<lambda>" q params body scope cl pm (.ref c') ctv) ⟨us, []⟩ = pure (lps.zip us))
    (hbody : ∀ (t : τ), ok t → ∀ (cl : List (Str × Addr)) (A : Around) (outer : List Env) (s : Shared) (H : Hp) (f c' : Addr) ds d, okc t ds d → Room kk (A.deeper (cloEnv q scope s.heap.objs.size f c' cl)) → ∃ S', EV (cloC P w K mg base (caps ++ lps) q scope f c' cl A outer s H) (dsl (cds t ++ ds)) body (dd d) S') :
    FnOk P w K mg base CX0 (k + 1) f fd ps (spF ok pre (fun t => fz (clF P w K mg base (kk + 1) (okc t))) pre) := by
  obtain ⟨oc, od, kV, doc, pm, an, ct, osl, rfl, lk, hcd⟩ := F.ex
  have len : ∀ vs H Q E, spF ok pre (fun t => fz (clF P w K mg base (kk + 1) (okc t))) pre vs H Q E → vs.length = ps.length := fun vs H Q E h => by
    obtain ⟨t, _, F, A0, s, _⟩ := h
    have := s.len
    rw [List.length_map, hl] at this
    exact this
  refine ⟨len, fun A outer s H args us vs Q E hr e0 hb r hsp => ?_⟩
  have hlv := len _ _ _ _ hsp
  have KX : K.In s.heap := e0.mod.kin.keeps fun b o e => (e0.bs b o e).1
  have lim : s.heap.NoLimit := e0.mod.nolimit.keeps fun b o e => (e0.bs b o e).1
  have hkind : ∀ y ∈ ps.zip us, (defScope st).names.lookup y.1 = some .local ∨ ((defScope st).names.lookup y.1 = some .cell ∧ ((cellsFrom (s.heap.objs.size + 1) (defScope st).names []).lookup y.1).isSome = true) := fun ⟨n, v⟩ hy => by
    rcases Sc.par n (List.of_mem_zip hy).1 with q | q
    · exact .inl q
    · exact .inr ⟨q, PySem.W.cellsFrom_some _ _ _ (.inl q)⟩
  refine codeAny_call_function hr.depth (KX _ _ lk) rfl Sc.co Sc.gen rfl (PySem.W.codeRec_of KX hcd) (hb _ _ _ _ ?_)
  refine wpAny_newFunctionEnv_cells Sc.kind hkind fun env he s1 xx => ?_
  subst he
  refine ⟨lim.keeps xx.toInCall.keep, codeAny_func ?_⟩
  have I : Inv (cxOf CX0 P w K mg base ps qual (defScope st) f (.ref c) A outer s H E) [] (L2.start ps vs) H s1 := inv_start Sc hr.hd e0 hlv r xx
  have hst : L2.start ps vs = vs.map some := by unfold L2.start; rw [hlv]; simp
  rw [hst] at I
  obtain ⟨t, hok, F1, A0, s0, qq⟩ := hsp
  rw [hbd]
  have hW : WE (cxOf CX0 P w K mg base ps qual (defScope st) f (.ref c) A outer s H E).nox (.Lambda params body scope pos) (vs.map some) H fun v H' => ∃ F', Sat ⟨F1, H, A0⟩ (pre t) (vs.map some) F' H' ∧ Same F1 F' ∧ (lamF q params body scope (cloFrom (cellsFrom (s.heap.objs.size + 1) (defScope st).names []) scope.names [])).p v F' :=
    lam_we (X := (cxOf CX0 P w K mg base ps qual (defScope st) f (.ref c) A outer s H E).nox) (c := c) (qual := qual ++ ".<locals>.") lps rfl hqe rfl TB rfl hmT hu L (hdef _) s0
  refine wpAny_execs_cons (wpAny_Return_some (wpAny_mono (((pe_w (X := (cxOf CX0 P w K mg base ps qual (defScope st) f (.ref c) A outer s H E).nox)).nox).run [] s1 (vs.map some) H _ I hW) (fun u s' hs => ?_) fun e s' hs => hs))
  obtain ⟨v, H', J, rv, F', sa, m', pv⟩ := hs
  obtain ⟨cvs, rc, hcv⟩ := sa.vals (hjl t) (hj t)
  obtain ⟨g, hG, cg, hn, nb, nf⟩ := hat_of J (hC A outer s H E) (List.nodup_append.mp nd).1 (by rw [rc.length, ← hjl t, (hC A outer s H E).len]) hcv
  have CL := (hC A outer s H E).clo J.ok L nd
  have cab : ∀ b ∈ cellsC caps (cloFrom (cellsFrom (s.heap.objs.size + 1) (defScope st).names []) scope.names []), s.heap.objs.size ≤ b := fun b hb => by
    obtain ⟨y, hy, e2⟩ := mem_cellsC.mp hb
    exact J.ok.cab y b rfl (((hC A outer s H E).look J.ok).1 y b e2).2
  generalize hcl : cloFrom (cellsFrom (s.heap.objs.size + 1) (defScope st).names []) scope.names [] = cl at pv hG cg hn nb nf CL cab
  have hG : Hat g s'.heap (cellsC caps cl) := by rw [← hcl]; exact hG
  have cg : CellsAt g caps cl cvs := by rw [← hcl]; exact cg
  have hn : ∀ c ∈ cellsC caps cl, H' c = none := by rw [← hcl]; exact hn
  have CL : Clo scope caps lps cl := by rw [← hcl]; exact CL
  generalize hcs : cellsC caps cl = cs at hG hn cab
  have hn0 : ∀ b ∈ cs, H b = none := fun b hb => e0.hok.fresh (cab b hb)
  have cF : CellsAt (hjoin g F' cs) caps cl cvs := ⟨cg.1, fun i y e => by
    obtain ⟨c, u, ob, e1, e2, e3⟩ := cg.2 i y e
    exact ⟨c, u, ob, e1, e2, by rw [hjoin_in (by rw [← hcs]; exact mem_cellsC.mpr ⟨y, List.mem_of_getElem? e, e1⟩)]; exact e3⟩⟩
  have mF : Same F' (hjoin g F' cs) := fun a o e => by
    rw [hjoin_out (fun z => by have := sa.fh _ _ e; rw [hn a z] at this; cases this)]; exact e
  have ub : Un (frs outer) [] H H' s.heap s'.heap := J.base
  have Qv : Q v (hjoin g H' cs) := by
    refine qq v [] (hjoin g F' cs) (hjoin g H' cs) (by rw [hide_nil]; exact sa.hat hn hn0) ⟨rfl, ?_⟩
    exact clF_of CL (hps t) (hbind cl) (fun A outer s H f c' ds d => hbody t hok cl A outer s H f c' ds d) ((lamF _ params body scope cl).mono mF pv) cF (rc.mono mF)
  refine ⟨v, hjoin g H' cs, J.os, J.bare, ⟨ub.keep, ub.slot, fun b o e n nx => ?_, ub.there, fun b xs e => ?_, fun b o u e => ?_, fun b ps e => ?_⟩, hat_hok J.hok hn hG, rv, Qv⟩
  · rw [hjoin_out (fun z => absurd (Heap.lt_size e) (Nat.not_lt.mpr (cab b z)))]; exact ub.free b o e n nx
  · rw [hjoin_out (fun z => by rw [hn0 b z] at e; cases e)]; exact ub.tups b xs e
  · rw [hjoin_out (fun z => by rw [hn0 b z] at e; cases e)]; exact ub.frzs b o u e
  · obtain ⟨more, z⟩ := ub.tbls b ps e
    exact ⟨more, by rw [hjoin_out (fun z => by rw [hn0 b z] at e; cases e)]; exact z⟩
/-! ## what a closure of a mirror answers -/
section
variable {α β γ : Type} [DecidableEq α] [Datum α] [DecidableEq β] [Datum β] [DecidableEq γ] [Datum γ]
def ok1 (g : α → Rs γ) : List PyData → PyData → Prop := fun ds d => ∃ a y, g a = .ok y ∧ ds = [Datum.toD a] ∧ d = Datum.toD y
def ok2 (g : α → β → Rs γ) : List PyData → PyData → Prop := fun ds d => ∃ a b y, g a b = .ok y ∧ ds = [Datum.toD a, Datum.toD b] ∧ d = Datum.toD y
theorem ok1_len {g : α → Rs γ} : ∀ ds d, ok1 g ds d → ds.length = 1 := fun ds d ⟨_, _, _, e, _⟩ => by rw [e]; rfl
theorem ok2_len {g : α → β → Rs γ} : ∀ ds d, ok2 g ds d → ds.length = 2 := fun ds d ⟨_, _, _, _, e, _⟩ => by rw [e]; rfl
end
def capB (N : List Str) (sc scope : Scope) (caps : List Str) (js : List Nat) : Bool :=
  decide (js.map (fun j => N[j]?) = caps.map some) && (caps.all fun y => decide ((y, NameKind.free) ∈ scope.names) && decide (sc.names.lookup y = some .cell)) && scope.names.all fun y => !decide (y.2 = .free) || decide (y.1 ∈ caps)
theorem capt_by {X : Cx} {scope : Scope} {caps : List Str} {js : List Nat} (N : List Str) (sc : Scope) (hN : X.N = N) (hs : X.env.scope = sc) (hfn : ∀ y, X.fn y = true) (h : capB N sc scope caps js = true) : Capt X scope caps js := by
  unfold capB at h
  simp only [Bool.and_eq_true, Bool.or_eq_true, Bool.not_eq_true', decide_eq_true_eq, decide_eq_false_iff_not, List.all_eq_true] at h
  obtain ⟨⟨h1, h2⟩, h3⟩ := h
  subst hN hs
  have hl : js.length = caps.length := by have := congrArg List.length h1; simpa using this
  refine ⟨hl, fun i y e => ?_, fun y => ⟨fun hy => (h2 y hy).1, fun hy => ?_⟩, fun y hy => (h2 y hy).2, fun y _ => hfn y⟩
  · have e2 : (js.map fun j => X.N[j]?)[i]? = some (some y) := by rw [h1, List.getElem?_map, e]; rfl
    rw [List.getElem?_map] at e2
    cases e3 : js[i]? with
    | none => rw [e3] at e2; cases e2
    | some j =>
      rw [e3] at e2
      exact ⟨j, rfl, by simpa using e2⟩
  · rcases h3 _ hy with z | z
    · exact absurd rfl z
    · exact z
theorem hj_nil {S : Sl} : ∀ (i j : Nat) (d : PyData), ([] : List Nat)[i]? = some j → ([] : List PyData)[i]? = some d → S[j]? = some (some (dd d)) := fun i j d h _ => by simp at h
theorem hj_cons {S : Sl} {j0 : Nat} {d0 : PyData} {js : List Nat} {ds : List PyData} (h0 : S[j0]? = some (some (dd d0))) (h : ∀ (i j : Nat) (d : PyData), js[i]? = some j → ds[i]? = some d → S[j]? = some (some (dd d))) : ∀ (i j : Nat) (d : PyData), (j0 :: js)[i]? = some j → (d0 :: ds)[i]? = some d → S[j]? = some (some (dd d)) := fun i j d e1 e2 => by
  cases i with
  | zero => simp at e1 e2; subst e1 e2; exact h0
  | succ i => exact h i j d (by simpa using e1) (by simpa using e2)
end Ev

namespace Ev
open PySem L2 PySem.Spec PyProof.Rows
open PySem.W (Datum Tup T3 T4 Holds HoldAll DatumOrd)
/-! list(reversed(xs)) -/
section
variable {prog : Program} {w : World} {A : Around} {E : Value → Shared → Prop} {s : Shared}
theorem ext_rev {R : Result → Shared → Prop} {it l S : Addr} {items : Array Value} (hh : A.handled = none) (hit : s.heap.IsRevIter it l ((items.size : Int) - 1)) (hl : s.heap.IsList l items) (hne : l ≠ it) (hSi : S ≠ it) (hSl : S ≠ l) (hn : items.size ≤ sizeLine) (res : Value) (c₀ : Nat) (hS : s.heap.get? S = some { cls := .type "list", data := .seq #[] c₀ })
    (hR : ∀ (h' : Heap) (tk : Nat) (acc : Array Value) (c' : Nat), (∀ b o, b ≠ S → b ≠ it → s.heap.get? b = some o → h'.get? b = some o) → h'.get? S = some { cls := .type "list", dict := none, data := .seq acc c', slots := #[] } → ItemsOf (fun i v => items[items.size - 1 - i]? = some v) acc items.size → R (.ok (.ret res)) { s with heap := h', toks := tk }) :
    wpAny (model prog w) A.in1 (Builtin.List.listExtendWith (.ref S) (.ref it) res) (fun fin s' => match fin with
      | .done f => R (.ok f) s'
      | .again c' => c'.quiet = true ∧ codeAny (model prog w) A c' R s') (fun e s' => R (.error e) s') s := by
  have hT := hit.typeIs
  have hSf : S ∉ [it, l] := fun m => by
    rcases List.mem_cons.mp m with e | e
    · exact hSi e
    · exact hSl (List.mem_singleton.mp e)
  have same : Builtin.List.listSameRef (.ref S) (.ref it) = false := by simp [Builtin.List.listSameRef, hSi]
  unfold Builtin.List.listExtendWith
  refine wpAny_bind (wpAny_typeOf hT (?_ : wpAny _ _ _ _ _ _))
  rw [if_neg (show ¬ _ by rw [same]; decide)]
  refine wpAny_bind (wpAny_pyIter_revIter hit (wpAny_bind (wpAny_holding ?_)))
  unfold Builtin.List.listLengthHint
  refine wpAny_bind (wpAny_specialOf hT RT.nolen_lri (?_ : wpAny _ _ _ _ _ _))
  show wpAny _ _ (specialOf (Value.ref it) (Str.ofString "__length_hint__") >>= _) _ _ _
  refine wpAny_bind (wpAny_specialOf hT RT.hint_lri (?_ : wpAny _ _ _ _ _ _))
  generalize hid : ("list_reverseiterator.__length_hint__" : String) = id0
  wp_delta
  rw [show splitId id0 = some ("list_reverseiterator", "__length_hint__") by subst hid; decide +kernel]
  subst hid
  refine wpAny_bind (wpAny_isInstance (b := true) hT (by rw [isSubtype_type]; kernel_rfl) (?_ : wpAny _ _ _ _ _ _))
  refine wpAny_pure (?_ : wpAny _ _ _ _ _ _)
  rw [if_neg (show ¬ _ by decide)]
  have e0 : ((items.size : Nat) : Int) - 1 - ((0 : Nat) : Int) = (items.size : Int) - 1 := Int.sub_zero _
  have WW := (Walks.listRev (prog := prog) (w := w) (A := A.in1) hh it l hne items).toS
  refine wpAny_pure ⟨plainId_quiet F.plain_extend_loop _, codeAny_extend_loopS WW hn S hSf res items.size 0 s #[] c₀ rfl (Nat.zero_le _) ⟨Nat.zero_le _, by rw [e0]; exact hit, hl⟩ hS (ItemsOf.nil _) (fun s' acc c' hm e hacc => ?_)⟩
  have eq := Moved.eq_with hm
  rw [eq]
  exact hR s'.heap s'.toks acc c' (fun b o h1 h2 e => hm.heap b o (fun m => (List.mem_cons.mp m).elim h1 fun m => h2 (List.mem_singleton.mp m)) e) e hacc
theorem call_list_rev {it l : Addr} {items : Array Value} {Q : Value → Shared → Prop} (hh : A.handled = none) (hit : s.heap.IsRevIter it l ((items.size : Int) - 1)) (hl : s.heap.IsList l items) (hne : l ≠ it) (hn : items.size ≤ sizeLine)
    (hQ : ∀ (h' : Heap) (tk : Nat) (acc : Array Value) (c' : Nat), (∀ b o, b ≠ it → s.heap.get? b = some o → h'.get? b = some o) → h'.get? s.heap.objs.size = some { cls := .type "list", dict := none, data := .seq acc c', slots := #[] } → ItemsOf (fun i v => items[items.size - 1 - i]? = some v) acc items.size → Q (.ref s.heap.objs.size) { s with heap := h', toks := tk }) :
    wpAny (model prog w) A (call (.type "list") [.ref it]) Q E s := by
  refine callType_codes (Q₁ := fun obj s₁ => obj = .ref s.heap.objs.size ∧ s₁ = { s with heap := s.heap.push { cls := .type "list", data := .seq #[] } }) F.called_list (F.typeCall_list_1 (Value.ref it)) F.entry_list_init (code_list_new _ (And.intro rfl rfl)) fun obj s₁ h₁ => ?_
  rcases h₁ with ⟨rfl, rfl⟩
  obtain ⟨oi, hoi, _⟩ := id hit
  obtain ⟨ol, hol, _⟩ := id hl
  have hS : (s.heap.push { cls := .type "list", data := .seq #[] }).get? s.heap.objs.size = some { cls := .type "list", data := .seq #[] } := Heap.get?_push_size _ rfl
  have nSi : s.heap.objs.size ≠ it := fun e => absurd (Heap.lt_size hoi) (by rw [e]; exact Nat.lt_irrefl _)
  have nSl : s.heap.objs.size ≠ l := fun e => absurd (Heap.lt_size hol) (by rw [e]; exact Nat.lt_irrefl _)
  refine ⟨⟨_, hS, rfl⟩, F.args_list_init_2 _ _, ?_⟩
  show wpAny _ _ (do
    let old ← Builtin.List.listItems (.ref s.heap.objs.size)
    Builtin.List.listUpdate (.ref s.heap.objs.size) (fun _ => #[])
    letGo old.toList.reverse
    Builtin.List.listExtendWith (.ref s.heap.objs.size) (.ref it) .none) _ _ _
  refine wpAny_bind ?_
  unfold Builtin.List.listItems
  refine wpAny_bind (wpAny_seqItems hS rfl (wpAny_pure (?_ : wpAny _ _ _ _ _ _)))
  refine wpAny_bind (show wpAny _ _ (updateSeq s.heap.objs.size (fun _ => #[])) _ _ _ from wpAny_updateSeq hS rfl ?_)
  have hS₂ := Heap.get?_update_self (Obj.mapSeq (fun _ => (#[] : Array Value))) hS rfl
  have oth : ∀ b o, b ≠ s.heap.objs.size → s.heap.get? b = some o → ((s.heap.push { cls := .type "list", data := .seq #[] }).update s.heap.objs.size (Obj.mapSeq (fun _ => (#[] : Array Value)))).get? b = some o := fun b o hb e => (Heap.get?_update_other _ _ (Ne.symm hb)).trans (Heap.get?_push_of_some _ e)
  refine wpAny_bind (show wpAny _ _ (letGo (#[] : Array Value).toList.reverse) _ _ _ from wpAny_letGo (?_ : wpAny _ _ _ _ _ _))
  refine ext_rev (A := A.in1) hh (hit.at fun o e => oth it o (Ne.symm nSi) e) (let ⟨o, e, r⟩ := hl; ⟨o, oth l o (Ne.symm nSl) e, r⟩) hne nSi nSl hn .none _ hS₂ fun h' tk acc c' hk hS' hacc => ?_
  exact ⟨rfl, hQ h' tk acc c' (fun b o hb e => hk b o (fun z => absurd (Heap.lt_size e) (by rw [z]; exact Nat.lt_irrefl _)) hb (oth b o (fun z => absurd (Heap.lt_size e) (by rw [z]; exact Nat.lt_irrefl _)) e)) hS' hacc⟩
end
def tListRev (K : PySem.W.Frag) (te : TE) : TE := fun σ H Q => te σ H fun v H1 => ∃ (a : Addr) (xs : List V), v = .ref a ∧ SqL K H1 a xs ∧ ∀ q, H1 q = none → Q (.ref q) (upd H1 q (.lst xs.reverse))
section
variable {X : Cx}
theorem pe_listRev {e : Expr} {te : TE} {p p2 pos pos2 : Pos} (hc : X.calm = true) (hg : Gl X "list") (hm : X.mg "list" = none) (hg2 : Gl X "reversed") (hm2 : X.mg "reversed" = none) (he : PE X e te) (hs : starEach [e] X.env = (false, eval e X.env) :: starEach [] X.env := by rfl)
    (hs2 : starEach [.Call (.Name "reversed" p2) [e] [] pos2] X.env = (false, eval (.Call (.Name "reversed" p2) [e] [] pos2) X.env) :: starEach [] X.env := by rfl) : PE X (.Call (.Name "list" p) [.Call (.Name "reversed" p2) [e] [] pos2] [] pos) (tListRev X.K te) := by
  refine ⟨fun pins s σ H Q I h => Call_ (ld_blt I hg hm boot_list (PyProof.Rows.callWith_type1 (args_cons (Call_ (ld_blt I hg2 hm2 PyProof.Rows.boot_reversed (PyProof.Rows.callWith_type1 (args_cons (thn (he.run pins s σ H _ I h) fun u s1 ⟨v, H1, I1, r1, q1⟩ => args_nil ?_) hs) hs rfl))) hs2) hs2 rfl))⟩
  rcases q1 with ⟨a, xs, rfl, hq, q⟩
  obtain rfl : u = Value.ref a := r1
  obtain ⟨its, rv, p', hz⟩ := I1.list hq
  refine call_reversed_list p'.isList (args_nil (?_ : wpAny _ _ _ _ _ _))
  have hl := p'.isList
  obtain ⟨ol, hol, _⟩ := id hl
  refine call_list_rev (s := { s1 with heap := s1.heap.push (revObj a ((its.toArray.size : Int) - 1)) }) (I1.ok.hd hc) ⟨_, Heap.get?_push_size _ rfl, rfl, rfl⟩ (hl.push _) (Nat.ne_of_lt (Heap.lt_size hol)) (by rw [List.size_toArray, ← rv.length]; exact hz) fun h' tk acc c' hk hS hi => ?_
  have kp : ∀ b o, s1.heap.get? b = some o → h'.get? b = some o := fun b o e => hk b o (Nat.ne_of_lt (Heap.lt_size e)) (Heap.get?_push_of_some _ e)
  have le : s1.heap.objs.size ≤ (s1.heap.push (revObj a ((its.toArray.size : Int) - 1))).objs.size := by simp [Heap.push]
  refine ⟨.ref _, upd H1 _ (.lst xs.reverse), I1.laid (t' := tk) kp le (show ObjOk X.prog X.w _ h' _ (.lst xs.reverse) from ⟨by rw [List.length_reverse]; exact hz, acc.toList, c', RT.vals_rev rv hi, ?_⟩), rfl, q _ (I1.hok.fresh le)⟩
  rw [Array.toArray_toList]
  exact hS
variable {S S1 : Sl} {e : Expr} {p p2 pos pos2 : Pos} {α : Type} [DecidableEq α] [Datum α]
variable [Tb]
theorem ev_listRev {xs : List α} (hc : X.calm = true) (hm : X.mg "list" = none) (hm2 : X.mg "reversed" = none) (ha : EV X S e (da xs) S1) (hg : Gl X "list" := by rfl) (hg2 : Gl X "reversed" := by rfl) (hs : starEach [e] X.env = (false, eval e X.env) :: starEach [] X.env := by rfl)
    (hs2 : starEach [.Call (.Name "reversed" p2) [e] [] pos2] X.env = (false, eval (.Call (.Name "reversed" p2) [e] [] pos2) X.env) :: starEach [] X.env := by rfl) : EV X S (.Call (.Name "list" p) [.Call (.Name "reversed" p2) [e] [] pos2] [] pos) (la xs.reverse) S1 := fun Γ σ F H Q s q =>
  PE.w (pe_listRev hc hg hm hg2 hm2 pe_w hs hs2) (ha.dat s fun v F1 H1 s1 m1 r1 => by
    obtain ⟨a, us, rfl, h2, r2⟩ := Rp.lst_of r1
    refine ⟨a, us, rfl, SqL.of (s1.fh _ _ h2), fun l hl => ?_⟩
    obtain ⟨s2, r3⟩ := s1.newL hl r2.reverse
    refine q _ _ F1 _ s2 m1 ?_
    show (ll (xs.reverse.map Datum.toD)).p _ _ _ _
    rw [List.map_reverse]
    exact r3)
end
end Ev

namespace Ev
open PySem L2 PySem.Spec PyProof.Rows
open PySem.W (Datum Tup T3 T4 Holds HoldAll DatumOrd)
/-! t[::-1] of a tuple -/
section
variable {prog : Program} {w : World} {A : Around} {E : Value → Shared → Prop} {s : Shared}
theorem adjust_rev (n : Nat) : Builtin.Slice.sliceAdjust none none (-1) (n : Int) = ((n : Int) - 1, -1) := rfl
theorem places_rev (n : Nat) : Builtin.Slice.slicePlaces ((n : Int) - 1) (-1) (-1) = n := by
  have h1 : ¬ ((-1 : Int) > 0) := by decide
  have h2 : -(-1 : Int) = 1 := by decide
  unfold Builtin.Slice.slicePlaces
  rw [if_neg h1, h2, Int.ediv_one]
  split <;> omega
theorem fm_congr {α β : Type} {f g : α → Option β} : ∀ {l : List α}, (∀ x ∈ l, f x = g x) → l.filterMap f = l.filterMap g
  | [], _ => rfl
  | x :: l, h => by
    rw [List.filterMap_cons, List.filterMap_cons, h x (by simp), fm_congr fun y hy => h y (List.mem_cons_of_mem _ hy)]
theorem applied_rev {sl : Addr} {vl vu vs : Value} {n : Nat} {Q : Int × Int × Nat → Shared → Prop} (hs : s.heap.IsSliceOf sl vl vu vs) (pl : IsPart vl none) (pu : IsPart vu none) (ps : IsPart vs (some (-1))) (h : Q ((n : Int) - 1, -1, n) s) : wpAny (model prog w) A (Builtin.Slice.sliceApplied (.ref sl) (pure (n : Int))) Q E s := by
  obtain ⟨os, hos, hcs, hds⟩ := id hs
  cases pl; cases pu; cases ps
  unfold Builtin.Slice.sliceApplied Builtin.Slice.sliceFields
  refine wpAny_bind (wpAny_bind (wpAny_field hos hds rfl (wpAny_bind (wpAny_field hos hds rfl (wpAny_bind (wpAny_field hos hds rfl (wpAny_pure ?_)))))))
  refine wpAny_bind (HT.slicePart_ (.int _ _) (?_ : wpAny _ _ _ _ _ _))
  show wpAny _ _ (if ((-1 : Int) == 0) = true then _ else _) _ _ s
  rw [if_neg (show ¬ (((-1 : Int) == 0) = true) by decide)]
  refine wpAny_bind (HT.slicePart_ .none (wpAny_bind (HT.slicePart_ .none (wpAny_bind (wpAny_pure (?_ : wpAny _ _ _ _ _ _))))))
  show wpAny _ _ (match Builtin.Slice.sliceAdjust none none (-1) (n : Int) with
    | (lo, hi) => pure (lo, (-1 : Int), Builtin.Slice.slicePlaces lo hi (-1))) _ _ s
  rw [adjust_rev]
  show wpAny _ _ (pure ((n : Int) - 1, (-1 : Int), Builtin.Slice.slicePlaces ((n : Int) - 1) (-1) (-1))) _ _ s
  rw [places_rev]
  exact wpAny_pure h
theorem pick_rev (xs : Array Value) : ((List.range xs.size).filterMap fun (m : Nat) => xs[(((xs.size : Nat) : Int) - 1 + (m : Int) * -1).toNat]?).toArray = xs.toList.reverse.toArray := by
  have e : (List.range xs.size).filterMap (fun (m : Nat) => xs[(((xs.size : Nat) : Int) - 1 + (m : Int) * -1).toNat]?) = ((List.range xs.size).map fun k => xs.size - 1 - k).filterMap (xs[·]?) := by
    rw [List.filterMap_map]
    refine fm_congr fun m hm => ?_
    have := List.mem_range.mp hm
    show xs[(((xs.size : Nat) : Int) - 1 + (m : Int) * -1).toNat]? = xs[xs.size - 1 - m]?
    have : (((xs.size : Nat) : Int) - 1 + (m : Int) * -1).toNat = xs.size - 1 - m := by omega
    rw [this]
  rw [e, PySem.W.krv_range, List.filterMap_reverse, PySem.W.krv_all]
theorem getItem_tuple_rev {t sl : Addr} {items : Array Value} {vl vu vs : Value} {Q : Value → Shared → Prop} (ht : IsTup s.heap t items) (hs : s.heap.IsSliceOf sl vl vu vs) (pl : IsPart vl none) (pu : IsPart vu none) (ps : IsPart vs (some (-1)))
    (h : Q (.ref s.heap.objs.size) { s with heap := s.heap.push { cls := .type "tuple", data := .seq items.toList.reverse.toArray } }) (hsz : items.size ≤ sizeLine) : wpAny (model prog w) A (getItem (.ref t) (.ref sl)) Q E s := by
  have hok : sizeOk (.seq items.toList.reverse.toArray) := by
    show items.toList.reverse.toArray.size ≤ sizeLine
    simpa using hsz
  have hTs : s.TypeIs (.ref sl) "slice" := let ⟨os, hos, hcs, _⟩ := hs; ⟨os, hos, hcs⟩
  unfold getItem
  try with_reducible refine wpAny_holding ?_
  first
    | refine wpAny_bind (wpAny_pure ?_)
    | skip
  refine wpAny_bind (wpAny_sequenceKey ht.typeIs (by decide) (?_ : wpAny _ _ _ _ _ _))
  refine wpAny_bind (wpAny_callSpecial?_slot (name := Str.ofString "__getitem__") ht.typeIs slot_tuple_getitem (wpAny_call_entry slot_tuple_getitem ht.typeIs PyProof.Rows.entry_tuple_getitem ?_ (PyProof.Rows.args_tuple_getitem _ _)))
  show wpAny _ _ (Builtin.Tuple.tupleItemsOf (.ref t) >>= _) _ _ _
  refine wpAny_bind (tupleItemsOf_ ht (wpAny_bind (wpAny_typeOf hTs (?_ : wpAny _ _ _ _ _ _))))
  rw [if_pos (show _ by decide)]
  refine wpAny_bind (applied_rev hs pl pu ps (?_ : wpAny _ _ _ _ _ _))
  show wpAny _ _ (if (((items.size : Nat) : Int) - 1 == 0 && (-1 : Int) == 1 && items.size == items.size) = true then _ else _) _ _ s
  rw [if_neg (show ¬ _ by simp), pick_rev]
  first
    | exact wpAny_bind (m := Builtin.Tuple.tupleExact _) (wpAny_newObj_type (wpAny_pure ⟨_, rfl, wpAny_pure h⟩) hok)
    | exact wpAny_bind (m := Builtin.Tuple.tupleExact _) (wpAny_newObj_type (wpAny_bind (wpAny_pure (wpAny_pure ⟨_, rfl, wpAny_pure h⟩))) hok)
    | exact wpAny_bind (wpAny_bind (m := Builtin.Tuple.tupleExact _) (wpAny_newObj_type (wpAny_pure (wpAny_pure ⟨_, rfl, wpAny_pure h⟩)) hok))
    | exact wpAny_bind (wpAny_bind (m := Builtin.Tuple.tupleExact _) (wpAny_newObj_type (wpAny_pure ⟨_, rfl, wpAny_pure h⟩) hok))
end
def tRevT (K : PySem.W.Frag) (te : TE) : TE := fun σ H Q => te σ H fun x H1 => ∃ a xs, x = .ref a ∧ SqT K H1 a xs ∧ ∀ p, H1 p = none → Q (.ref p) (upd H1 p (.tup xs.reverse))
section
variable {X : Cx}
theorem pe_revT {e : Expr} {te : TE} {k : Nat} {p1 p2 p3 pos : Pos} (he : PE X e te) : PE X (.Subscript e (.Slice none none (some (.UnaryOp .USub (.Constant (.int 1) k p1) p2)) p3) pos) (tRevT X.K te) := by
  refine ⟨fun pins s σ H Q I h => Subscript_ (thn (he.run pins s σ H _ I h) fun v s1 ⟨x, H1, I1, r1, q1⟩ => ?_)⟩
  obtain ⟨a, xs, rfl, hx, q⟩ := q1
  cases r1
  have hst : PO X (some (.UnaryOp .USub (.Constant (.int 1) k p1) p2)) (tPart (tUn (rU fun i => .int (-i)) (tC (.int 1)))) := po_some (pe_un un_neg pe_int)
  refine wpAny_Slice (thn (po_none.run pins s1 σ H1 (fun o H2 => o = none ∧ H2 = H1) I1 (And.intro rfl rfl)) fun vl s2 ⟨l, H2, I2, pl, el, e2⟩ => ?_)
  subst e2 el
  refine thn (po_none.run pins s2 σ H2 (fun o H3 => o = none ∧ H3 = H2) I2 (And.intro rfl rfl)) fun vu s3 ⟨u, H3, I3, pu, eu, e3⟩ => ?_
  subst e3 eu
  refine thn (hst.run pins s3 σ H3 (fun o H4 => o = some (-1) ∧ H4 = H3) I3 ⟨1, rfl, -1, rfl, rfl, rfl⟩) fun vs s4 ⟨o, H4, I4, ps, eo, e4⟩ => ?_
  subst e4 eo
  have I5 : Inv X pins σ H4 { s4 with heap := s4.heap.push { cls := .type "slice", data := .fields #[vl, vu, vs] } } := I4.kept (t' := s4.toks) fun b ob e => Heap.get?_push_of_some _ e
  obtain ⟨its, r, ht, hz⟩ := I5.tuple hx
  have hlen := r.length
  show wpAny _ _ (subscriptTail e (.Slice none none (some (.UnaryOp .USub (.Constant (.int 1) k p1) p2)) p3) (.ref a) (.ref s4.heap.objs.size)) _ _ _
  refine tail_any (ops := [.ref a, .ref s4.heap.objs.size]) ht.typeIs slot_tuple_getitem.lookup (getItem_tuple_rev ht (Heap.IsSliceOf.new _ vl vu vs) pl pu ps ?_ (by rw [List.size_toArray, ← hlen]; exact hz)) (by with_unfolding_all rfl)
  refine ⟨.ref _, _, I5.laid (t' := s4.toks) (o := .tup xs.reverse) (fun b ob e => Heap.get?_push_of_some _ e) (Nat.le_refl _) ?_, rfl, q _ (I5.hok.fresh (Nat.le_refl _))⟩
  refine ⟨by rw [List.length_reverse]; exact hz, its.reverse, r.reverse, ?_⟩
  exact IsTup.new _ _
variable {S S1 : Sl} {e : Expr} {p p2 pos pos2 : Pos} {α : Type} [DecidableEq α] [Datum α]
variable [Tb]
theorem ev_revTA {xs : Tup α} {k : Nat} {p1 p2 p3 : Pos} (ha : EV X S e (da xs) S1) : EV X S (.Subscript e (.Slice none none (some (.UnaryOp .USub (.Constant (.int 1) k p1) p2)) p3) pos) (da (Tup.mk xs.items.reverse)) S1 := fun Γ σ F H Q s q =>
  PE.w (pe_revT pe_w) (ha.dat s fun v F1 H1 s1 m1 r1 => by
    obtain ⟨a, us, rfl, h2, r2⟩ := Rp.tup_of r1
    refine ⟨a, us, rfl, SqT.of (s1.fh _ _ h2), fun l hl => ?_⟩
    obtain ⟨s2, m2, r3⟩ := s1.newT hl r2.reverse
    refine q _ [] _ _ s2.same_of (m1.trans m2) ⟨rfl, ?_⟩
    show Rp _ (.ref l) (.tuple (xs.items.reverse.map Datum.toD))
    rw [List.map_reverse]
    exact r3)
/-! reversed(range(n)) -/
theorem rev_at {lo : Int} {n i : Nat} {d : PyData} (h : ((rng lo n).reverse.map Datum.toD)[i]? = some d) : i < n ∧ d = .int (lo + n - 1 - i) := by
  rw [List.getElem?_map] at h
  have hl := rng_length lo n
  by_cases q : i < n
  · rw [List.getElem?_reverse (by omega), hl] at h
    unfold rng at h
    rw [List.getElem?_map, List.getElem?_range (by omega)] at h
    refine ⟨q, ?_⟩
    have := Option.some.inj h
    rw [← this]
    show PyData.int (lo + ((n - 1 - i : Nat) : Int)) = _
    congr 1; omega
  · rw [List.getElem?_eq_none (by rw [List.length_reverse]; omega)] at h; cases h
theorem jok_revR {n : Nat} {F : Hp} : JOk (Itc (0 + (n : Int) - 1) (-1) n) ((rng 0 n).reverse.map Datum.toD) F := fun i Γ S σ F H s m => ⟨fun d hd => by
    obtain ⟨h1, h2⟩ := rev_at hd
    refine ⟨h1, fun x H' hy => ?_⟩
    obtain ⟨rfl, rfl⟩ := hy
    subst h2
    refine ⟨F, s, Same.refl F, ?_, fun _ _ h => h⟩
    have : (0 + (n : Int) - 1 + (i : Nat) * -1) = 0 + n - 1 - i := by omega
    rw [this]
    exact .int _, fun hi => by rw [List.length_map, List.length_reverse, rng_length] at hi; exact hi⟩
theorem ei_revRange1 {tg : Expr} {n : Int} {p3 pos3 : Pos} (hm : X.mg "range" = none) (hm2 : X.mg "reversed" = none) (h : EV X S e (da n) S1) (hz : RgOk1 n) (hg : Gl X "range" := by rfl) (hg2 : Gl X "reversed" := by rfl) (hs : starEach [e] X.env = (false, eval e X.env) :: starEach [] X.env := by rfl)
    (hs2 : starEach [.Call (.Name "range" p) [e] [] pos] X.env = (false, eval (.Call (.Name "range" p) [e] [] pos) X.env) :: starEach [] X.env := by rfl) : EI X S tg (.Call (.Name "reversed" p3) [.Call (.Name "range" p) [e] [] pos] [] pos3) ((rng 0 n.toNat).reverse.map Datum.toD) S1 := fun Γ σ F H R s q =>
  PI.w (pi_revR hg2 hm2 (prg_1 hg hm pe_w hs) hs2) (h.dat s fun v F1 H1 s1 m1 r1 => by
    refine ⟨n, by rw [r1.int_of], ?_⟩
    have e0 : (n - 0).toNat = n.toNat := by omega
    exact ⟨by decide, by decide, hz.1, hz.2, by rw [e0]; exact q _ F1 H1 s1 m1 jok_revR⟩)
end
end Ev

namespace Ev
open PySem L2 PySem.Spec PyProof.Rows
open PySem.W (Datum Tup T3 T4 Holds HoldAll DatumOrd)
/-! ## defs with defaults -/
/-- a def whose code object is known, dvs its defaults -/
structure FunCD (K : PySem.W.Frag) (x qual : Str) (st : Stmt) (f : Addr) (fd : FuncData) (c : Addr) (dvs : List V) : Prop where
  ex : ∃ (oc : Value) (od : Option Addr) (dV kV doc pm : Value) (an : Option Addr) (ct : Value) (osl : Array (Option Value)),
    fd = PySem.W.fnOf x qual (defArgs st) (defBody st) (defScope st) dV kV doc pm an (.ref c) ct ∧ K.lookup f = some ⟨oc, od, .func fd, osl⟩ ∧ PySem.W.codeIn K (.ref c) qual = true ∧ DflV K dV dvs
  kp : PySem.W.keepIn K (.ref f) = true
theorem FunCD.mk' {K : PySem.W.Frag} {x qual : Str} {st : Stmt} {f c : Addr} {oc dV : Value} {od an : Option Addr} {osl : Array (Option Value)} {kV doc pm cdv ct : Value} {dvs : List V} (l : K.lookup f = some ⟨oc, od, .func (PySem.W.fnOf x qual (defArgs st) (defBody st) (defScope st) dV kV doc pm an cdv ct), osl⟩)
    (h : PySem.W.codeIn K cdv qual = true) (k : PySem.W.keepIn K (.ref f) = true) (e : cdv = .ref c) (d : DflV K dV dvs) : FunCD K x qual st f (PySem.W.fnOf x qual (defArgs st) (defBody st) (defScope st) dV kV doc pm an cdv ct) c dvs := by
  subst e
  exact ⟨⟨oc, od, dV, kV, doc, pm, an, ct, osl, rfl, l, h, d⟩, k⟩
theorem dfl1 {K : PySem.W.Frag} {T : Addr} {o : Obj} {i : Int} {t : Tok} {n : Nat} (l : K.lookup T = some o) (d : o.data = .seq ([.int i t] : List Value).toArray n) : DflV K (.ref T) [.int i] := .inr ⟨by simp, T, o, _, n, rfl, l, d, .cons ⟨t, rfl⟩ .nil⟩
section
variable {K : PySem.W.Frag} {x qual : Str} {st : Stmt} {f c : Addr} {fd : FuncData} {dvs : List V} {ps : List Str}
/-- n values are written, the defaults behind the first j fill up -/
theorem FunCD.binds (F : FunCD K x qual st f fd c dvs) (n j : Nat) (hd : dvs ≠ []) (hn : n + (dvs.length - j) = ps.length)
    (h : ∀ (T : Addr) (kV doc pm : Value) (an : Option Addr) (cdv ct : Value) (us its : List Value), us.length = n → its.length = dvs.length →
      ∃ k, bindArgs (PySem.W.fnOf x qual (defArgs st) (defBody st) (defScope st) (.ref T) kV doc pm an cdv ct) ⟨us, []⟩ = seqItems? (.ref T) >>= k ∧ k (some its.toArray) = pure (ps.zip (us ++ its.drop j))) : ∃ ds, Vals (dvs.drop j) ds ∧ Binds K fd ps ds := by
  obtain ⟨oc, od, dV, kV, doc, pm, an, ct, osl, rfl, lk, hcd, hD⟩ := F.ex
  rcases hD with ⟨e, _⟩ | ⟨_, T, o, its, m, rfl, lT, oT, rT⟩
  · exact absurd e hd
  refine ⟨its.drop j, rT.drop j, fun s us X hlen => BindsTo.of_looks fun M => ?_⟩
  have l1 : its.length = dvs.length := rT.length.symm
  obtain ⟨k, e1, e2⟩ := h T kV doc pm an (.ref c) ct us its (by rw [List.length_append, List.length_drop, l1] at hlen; omega) l1
  rw [e1]
  exact looks_items X lT oT (.of_pure e2)
/-- .. by keywords, none lacks -/
theorem FunCD.kbinds (F : FunCD K x qual st f fd c dvs) (n : Nat) (ks : List Str) (hd : dvs ≠ [])
    (h : ∀ (T : Addr) (kV doc pm : Value) (an : Option Addr) (cdv ct : Value) (us its ws : List Value), us.length = n → its.length = dvs.length → ws.length = ks.length →
      ∃ k, bindArgs (PySem.W.fnOf x qual (defArgs st) (defBody st) (defScope st) (.ref T) kV doc pm an cdv ct) ⟨us, ks.zip ws⟩ = seqItems? (.ref T) >>= k ∧ k (some its.toArray) = pure (ps.zip (us ++ ws))) : KBn K fd ps n ks (fun us ws => us ++ ws) (fun vs zs => vs ++ zs) := by
  obtain ⟨oc, od, dV, kV, doc, pm, an, ct, osl, rfl, lk, hcd, hD⟩ := F.ex
  rcases hD with ⟨e, _⟩ | ⟨_, T, o, its, m, rfl, lT, oT, rT⟩
  · exact absurd e hd
  refine ⟨fun s us ws X l1 l2 => BindsTo.of_looks fun M => ?_, fun r1 r2 => r1.append r2⟩
  obtain ⟨k, e1, e2⟩ := h T kV doc pm an (.ref c) ct us its ws l1 rT.length.symm l2
  rw [e1]
  exact looks_items X lT oT (.of_pure e2)
end
variable [Tb]
/-- a def's promise, where it may be called with less, or by a keyword -/
structure HFD (P : Program) (w : World) (K : PySem.W.Frag) (mg : Str → Option Value) (base : Heap) (k : Nat) (x : Str) (sp : Sp) (dvs : List V) (n : Nat) (ks : List Str) : Prop where
  ex : ∃ (f : Addr) (fd : FuncData) (ps : List Str), FnOk P w K mg base CX0 k f fd ps sp ∧ mg x = some (.ref f) ∧ PySem.W.keepIn K (.ref f) = true ∧ Binds K fd ps [] ∧ (∃ ds, Vals dvs ds ∧ Binds K fd ps ds) ∧ KBn K fd ps n ks (fun us ws => us ++ ws) (fun vs zs => vs ++ zs)
theorem HFD.hf {P : Program} {w : World} {K : PySem.W.Frag} {mg : Str → Option Value} {base : Heap} {k n : Nat} {x : Str} {sp : Sp} {dvs : List V} {ks : List Str} (h : HFD P w K mg base k x sp dvs n ks) : HF P w K mg base k x sp := by
  obtain ⟨f, fd, ps, F, h1, h2, h3, _⟩ := h.ex
  exact ⟨f, fd, ps, F, h1, h2, h3⟩
theorem FunCD.ok {P : Program} {w : World} {K : PySem.W.Frag} {mg : Str → Option Value} {base : Heap} {x qual : Str} {st : Stmt} {f c : Addr} {fd : FuncData} {dvs : List V} {N ps : List Str} {k : Nat} {sp : Sp} (F : FunCD K x qual st f fd c dvs) (S : FnScope N ps (defScope st)) (len : ∀ vs H Q E, sp vs H Q E → vs.length = ps.length)
    (hbody : ∀ (A : Around) (outer : List Env) (s : Shared) (H : Hp) (vs : List V) (Q : VK) (E : XK), Room k (A.deeper (envOfC qual (defScope st) s.heap.objs.size f (.ref c))) → sp vs H Q E →
      ∃ t, PSs (cxOf CX0 P w K mg base N qual (defScope st) f (.ref c) A outer s H E).nox (defBody st) t ∧ t { nx := fun _ H' => Q .non H', rt := Q } (L2.start N vs) H) : FnOk P w K mg base CX0 (k + 1) f fd ps sp := by
  obtain ⟨oc, od, dV, kV, doc, pm, an, ct, osl, rfl, lk, hcd, _⟩ := F.ex
  refine L2.fn_of lk hcd S len fun A outer s H vs Q E hr hsp => ?_
  obtain ⟨t, h, q⟩ := hbody A outer s H vs Q E hr hsp
  exact ⟨t, h.nox, q⟩
theorem fn_ofCD {c : Addr} {P : Program} {w : World} {K : PySem.W.Frag} {mg : Str → Option Value} {base : Heap} {x qual : Str} {st : Stmt} {f : Addr} {fd : FuncData} {dvs : List V} {N ps : List Str} {k : Nat} {τ : Type} {ok : τ → Prop} {pre pre' : τ → Sl} {post : τ → OP}
    (F : FunCD K x qual st f fd c dvs) (Sc : FnScope N ps (defScope st)) (hl : ∀ t, (pre t).length = ps.length) (hl' : ∀ t, (pre' t).length = ps.length)
    (hpin : ∀ (t : τ) (i : Nat) (O : OP), (pre' t)[i]? = some (some O) → ∃ a O0, (pre t)[i]? = some (some O0) ∧ Pin O a ∧ Pin O0 a)
    (body : ∀ (X : Cx), X.prog = P → X.w = w → X.K = K → X.mg = mg → X.base = base → (∃ A outer s H E, X = (cxOf CX0 P w K mg base N qual (defScope st) f (.ref c) A outer s H E).nox) → Room k X.A → ∀ t, ok t → BV X (pre t ++ List.replicate (N.length - ps.length) none) (defBody st) (retD (post t) (pre' t))) :
    FnOk P w K mg base CX0 (k + 1) f fd ps (spF ok pre post pre') := by
  have hlv : ∀ vs H Q E, spF ok pre post pre' vs H Q E → vs.length = ps.length := fun vs H Q E h => by
    obtain ⟨t, _, F, A0, s, _⟩ := h
    have := s.len
    rw [List.length_map, hl] at this
    exact this
  refine F.ok Sc hlv (fun A outer s H vs Q E hr h => ⟨_, pb_w, ?_⟩)
  have hvl := hlv vs H Q E h
  obtain ⟨t, hok, F1, A0, s0, q⟩ := h
  have b := body (cxOf CX0 P w K mg base N qual (defScope st) f (.ref c) A outer s H E).nox rfl rfl rfl rfl rfl ⟨A, outer, s, H, E, rfl⟩ hr t hok
  have s1 := s0.ext (N.length - ps.length)
  have back : ∀ (S' : Sl) (σ' : L2.St) (v : V) (fp : List Addr) (F' H' : Hp), Bk S' (pre' t) → Sat ⟨F1, H, A0⟩ S' σ' F' (hide H' fp) → Sat ⟨F1, H, A0⟩ (pre' t) (vs.map some) F' (hide H' fp) := fun S' σ' v fp F' H' bk s' => by
    refine s'.sub (by rw [List.length_map, hl', hvl]) fun i O e => ⟨bk i O e, fun u hu => ?_⟩
    obtain ⟨a, O0, e0, p1, p0⟩ := hpin t i O e
    obtain ⟨v0, fp0, e1, q1, _⟩ := s0.slot e0
    obtain ⟨v1, fp1, e2, q2, _⟩ := s'.slot (bk i O e)
    rw [e1, p0 _ _ _ _ q1]
    rw [hu] at e2
    injection e2 with e2; injection e2 with e2
    rw [e2, p1 _ _ _ _ q2]
  have hst : L2.start N vs = vs.map some ++ List.replicate (N.length - ps.length) none := by unfold L2.start; rw [hvl]
  rw [hst]
  refine b ⟨F1, H, A0⟩ _ F1 H _ s1 ⟨fun S' σ' F' H' h s' => ?_, fun O S' σ' v fp F' H' h s' p => ?_, fun _ _ _ _ h _ => h.elim, fun _ _ _ _ h _ => h.elim⟩
  · exact q .non [] F' H' (back S' σ' .non [] F' H' h.2 s'.same_of) (by rw [h.1]; exact ⟨rfl, .non⟩)
  · exact q v fp F' H' (back S' σ' v fp F' H' h.2 s') (by rw [← h.1]; exact p)
theorem hf_ofCD {c : Addr} {P : Program} {w : World} {K : PySem.W.Frag} {mg : Str → Option Value} {base : Heap} {x qual : Str} {st : Stmt} {f : Addr} {fd : FuncData} {dvs : List V} {N ps ks : List Str} {k n : Nat} {τ : Type} {ok : τ → Prop} {pre pre' : τ → Sl} {post : τ → OP}
    (F : FunCD K x qual st f fd c dvs) (Sc : FnScope N ps (defScope st)) (hmg : mg x = some (.ref f)) (hb : Binds K fd ps []) (hb2 : ∃ ds, Vals dvs ds ∧ Binds K fd ps ds) (hb3 : KBn K fd ps n ks (fun us ws => us ++ ws) (fun vs zs => vs ++ zs)) (hl : ∀ t, (pre t).length = ps.length) (hl' : ∀ t, (pre' t).length = ps.length)
    (hpin : ∀ (t : τ) (i : Nat) (O : OP), (pre' t)[i]? = some (some O) → ∃ a O0, (pre t)[i]? = some (some O0) ∧ Pin O a ∧ Pin O0 a)
    (body : ∀ (X : Cx), X.prog = P → X.w = w → X.K = K → X.mg = mg → X.base = base → (∃ A outer s H E, X = (cxOf CX0 P w K mg base N qual (defScope st) f (.ref c) A outer s H E).nox) → Room k X.A → ∀ t, ok t → BV X (pre t ++ List.replicate (N.length - ps.length) none) (defBody st) (retD (post t) (pre' t))) :
    HFD P w K mg base (k + 1) x (spF ok pre post pre') dvs n ks :=
  ⟨f, fd, ps, fn_ofCD F Sc hl hl' hpin body, hmg, F.kp, hb, hb2, hb3⟩
section
variable {X : Cx} {S S' S1 S2 : Sl} {e a b c : Expr} {es : List Expr} {O : OP} {pos p : Pos} {ar : List AR}
/-- what stands when the arguments are told is what the def asks -/
theorem sp_tail {τ : Type} {ok : τ → Prop} {pre pre' : τ → Sl} {post : τ → OP} {Γ : Cxt} {σ : L2.St} {F1 H1 : Hp} {Q : VK} {E : XK} {vs : List V} (s1 : Sat Γ S1 σ F1 H1) (r1 : ArgsAre σ F1 ar vs) (t : τ) (hok : ok t) (hpre : pre t = pres ar)
    (q : ∀ v fp F' H', Sat Γ S1 σ F' (hide H' fp) → Same F1 F' → (post t).p v fp F' H' → Q v H') : spF ok pre post pre' vs H1 Q E := by
  refine ⟨t, hok, F1, fun _ => False, ?_, fun v fp F' H' s' pp => ?_⟩
  · rw [hpre]
    refine ⟨by rw [List.length_map, r1.length]; simp [pres], s1.fh, Same.refl F1, fun a o e _ => .of e, s1.tb, fun a ha => .inl ha, s1.tup, fun _ => [], fun i O e => ?_, fun i a ha => (by cases ha), fun i j a _ ha => (by cases ha), fun _ _ => rfl⟩
    obtain ⟨P, e1, e2⟩ := pres_at e
    obtain ⟨v, e3, e4⟩ := r1.at e1
    subst e2
    exact ⟨v, by rw [List.getElem?_map, e3]; rfl, rfl, e4⟩
  · have m2 : Same F1 F' := s'.f0
    have hh : ∀ a o, H1 a = some o → HK (hide H' fp) a o := fun a o e => s'.h0 a o e (fun z => z.elim)
    refine q v fp F' H' ?_ m2 pp
    obtain ⟨f', h1, h2, h3, h4⟩ := s1.ex
    refine ⟨s1.len, s'.fh, s1.f0.trans m2, fun a o e n => (s1.h0 a o e n).tr (hh a), s'.tb, fun a ha => ?_, s'.tup, f', fun i O e => ?_, fun i a ha => ?_, h3, h4⟩
    · rcases s'.new a ha with y | y | y
      · exact s1.new a y
      · by_cases z : Γ.A0 a
        · exact .inr (.inr z)
        · exact .inr (.inl (fr_tr (fun o e n => s1.h0 a o e z n) y))
      · exact y.elim
    · obtain ⟨v', e1, q'⟩ := h1 i O e
      refine ⟨v', e1, O.mono m2 (O.loc (fun a ha => ?_) q')⟩
      obtain ⟨o, e3, n3⟩ := O.own q' a ha
      rw [e3]; exact (hh a o e3).eq n3.2.1
    · obtain ⟨q1, q2, q3⟩ := h2 i a ha
      refine ⟨?_, ?_, q3⟩
      · cases e2 : F' a with
        | none => rfl
        | some o =>
          rcases s'.new a (by rw [e2]; exact fun z => by cases z) with y | y | y
          · exact absurd q1 y
          · exact (let ⟨o2, e5, n5⟩ := ex_nt h1 h4 ha; (fr_no y e5 n5.2.1).elim)
          · exact y.elim
      · obtain ⟨o2, e5, n5⟩ := ex_nt h1 h4 ha
        rw [hh a o2 e5 n5.2.1]; exact fun z => by cases z
theorem ArgsAre.append {σ : L2.St} {F : Hp} : ∀ {ar : List AR} {vs : List V} {br : List AR} {us : List V}, ArgsAre σ F ar vs → ArgsAre σ F br us → ArgsAre σ F (ar ++ br) (vs ++ us)
  | [], [], _, _, _, h => h
  | .v P :: r, x :: xs, _, _, h, k => ⟨h.1, ArgsAre.append h.2 k⟩
  | .sl j :: r, x :: xs, _, _, h, k => ⟨h.1, ArgsAre.append h.2 k⟩
  | [], _ :: _, _, _, h, _ => h.elim
  | .v _ :: _, [], _, _, h, _ => h.elim
  | .sl _ :: _, [], _, _, h, _ => h.elim
/-- f(e, ..) that leaves the last out: an int stands for it -/
theorem ev_callD {τ : Type} {ok : τ → Prop} {pre pre' : τ → Sl} {post : τ → OP} {k n m : Nat} {x : Str} {ks : List Str} {i : Int} {P : Program} {w : World} {K : PySem.W.Frag} {mg : Str → Option Value} {base : Heap} (G : HFD P w K mg base k x (spF ok pre post pre') [.int i] m ks) (ha : EA X S (e :: es) ar S1) (t : τ) (hok : ok t)
    (hX : X.prog = P ∧ X.w = w ∧ X.K = K ∧ X.mg = mg ∧ X.base = base := by exact ⟨rfl, rfl, rfl, rfl, rfl⟩) (hr : Room n X.A := by assumption) (hk : k ≤ n := by decide) (hpre : pre t = pres (ar ++ [.v (fd (.int i))]) := by rfl) (hg : Gl X x := by rfl) (hdb : (x == ("__debug__" : Str)) = false := by decide)
    (he : starEach (e :: es) X.env = (false, eval e X.env) :: starEach es X.env := by rfl) (hpl : (backTo pos (starEach es X.env)).any (·.1) = false := by rfl) : EV X S (.Call (.Name x p) (e :: es) [] pos) (post t) S1 := by
  obtain ⟨rfl, rfl, rfl, rfl, rfl⟩ := hX
  obtain ⟨f, fd', ps, F0, hm, hk2, _, ⟨ds, hv, hb⟩, _⟩ := G.ex
  exact fun Γ σ F H Q s q => PE.w (pe_call F0 (hr.mono hk) hg hm hk2 hb hv pass0 pa_w hdb he hpl) (ha Γ σ F H _ s fun vs F1 H1 s1 m1 r1 => sp_tail s1 (r1.append (br := [.v (fd (.int i))]) (us := [.int i]) ⟨.int i, trivial⟩) t hok hpre fun v fp F' H' s' m' pp => q v fp F' H' s' (m1.trans m') pp)
/-- f(e, .., k = b) -/
theorem ev_callKw {τ : Type} {ok : τ → Prop} {pre pre' : τ → Sl} {post : τ → OP} {k n : Nat} {x kn : Str} {d : PyData} {dvs : List V} {kpos : Pos} {P : Program} {w : World} {K : PySem.W.Frag} {mg : Str → Option Value} {base : Heap} (G : HFD P w K mg base k x (spF ok pre post pre') dvs ar.length [kn]) (ha : EA X S (e :: es) ar S1) (hb : EV X S1 b (dd d) S2) (t : τ) (hok : ok t)
    (hX : X.prog = P ∧ X.w = w ∧ X.K = K ∧ X.mg = mg ∧ X.base = base := by exact ⟨rfl, rfl, rfl, rfl, rfl⟩) (hr : Room n X.A := by assumption) (hk : k ≤ n := by decide) (hpre : pre t = pres (ar ++ [.v (fd d)]) := by rfl) (hg : Gl X x := by rfl) (hdb : (x == ("__debug__" : Str)) = false := by decide)
    (hall : (backToKw pos (keywordEach [⟨some kn, b, kpos⟩] X.env)).all (·.1.isSome) = true := by rfl) (hks : (backToKw pos (keywordEach [⟨some kn, b, kpos⟩] X.env)).filterMap (·.1) = [kn] := by rfl) (he : starEach (e :: es) X.env = (false, eval e X.env) :: starEach es X.env := by rfl)
    (hpl : ((backTo pos (starEach (e :: es) X.env)).any (·.1) || (backToKw pos (keywordEach [⟨some kn, b, kpos⟩] X.env)).any (·.1.isNone)) = false := by rfl) : EV X S (.Call (.Name x p) (e :: es) [⟨some kn, b, kpos⟩] pos) (post t) S2 := by
  obtain ⟨rfl, rfl, rfl, rfl, rfl⟩ := hX
  obtain ⟨f, fd', ps, F0, hm, hk2, _, _, hb3⟩ := G.ex
  refine fun Γ σ F H Q s q => PE.w (pe_callN F0 (hr.mono hk) hg hm hk2 hb3 pass0 pa_w (pk_cons pe_w pk_nil) hall hks hdb he hpl) (ha Γ σ F H _ s fun vs F1 H1 s1 m1 r1 => hb.dat s1 fun v F2 H2 s2 m2 r2 => ?_)
  refine ⟨r1.length, rfl, sp_tail s2 ((r1.mono m2).append (br := [.v (fd d)]) (us := [v]) ⟨r2, trivial⟩) t hok hpre fun v fp F' H' s' m' pp => q v fp F' H' s' ((m1.trans m2).trans m') pp⟩
end
end Ev

namespace Ev
variable [Tb]
open PySem L2 PySem.Spec PyProof.Rows
open PySem.W (Datum Tup T3 T4 Holds HoldAll DatumOrd)
/-- a def that is called by another name than its own -/
theorem hf_ofA {P : Program} {w : World} {K : PySem.W.Frag} {mg : Str → Option Value} {base : Heap} {x y qual : Str} {st : Stmt} {f : Addr} {fd : FuncData} {N ps : List Str} {k : Nat} {τ : Type} {ok : τ → Prop} {pre pre' : τ → Sl} {post : τ → OP}
    (F : Fun K x qual st f fd) (Sc : FnScope N ps (defScope st)) (hmg : mg y = some (.ref f)) (hb : Binds K fd ps []) (hl : ∀ t, (pre t).length = ps.length) (hl' : ∀ t, (pre' t).length = ps.length)
    (hpin : ∀ (t : τ) (i : Nat) (O : OP), (pre' t)[i]? = some (some O) → ∃ a O0, (pre t)[i]? = some (some O0) ∧ Pin O a ∧ Pin O0 a)
    (body : ∀ (X : Cx), X.prog = P → X.w = w → X.K = K → X.mg = mg → X.base = base → (∃ cdv A outer s H E, X = (cxOf CX0 P w K mg base N qual (defScope st) f cdv A outer s H E).nox) → Room k X.A → ∀ t, ok t → BV X (pre t ++ List.replicate (N.length - ps.length) none) (defBody st) (retD (post t) (pre' t))) :
    HF P w K mg base (k + 1) y (spF ok pre post pre') :=
  ⟨f, fd, ps, fn_of F Sc hl hl' hpin body, hmg, F.kp, hb⟩
end Ev

namespace Ev
open PySem L2
open PySem.W (Datum Tup T3 T4 Holds HoldAll DatumOrd EachIs SomeDatum)
variable [Tb]
/-! # dicts by ints -/
theorem NT.dK {xs : List (Key × V)} : NT (.dK xs) := ⟨fun _ z => (by cases z), fun _ z => (by cases z), fun _ z => (by cases z)⟩
abbrev ik (n : Int) : Key := .inl n
theorem ik_inj {a b : Int} : ik a = ik b ↔ a = b := ⟨fun h => by injection h, fun h => by rw [h]⟩
inductive KvOkI {β : Type} [DecidableEq β] [Datum β] (F : Hp) : List (Int × β) → List (Key × V) → Prop
  | nil : KvOkI F [] []
  | cons {p : Int × β} {ps : List (Int × β)} {v : V} {kvs : List (Key × V)} : Rp F v (Datum.toD p.2) → KvOkI F ps kvs → KvOkI F (p :: ps) ((ik p.1, v) :: kvs)
section
variable {β : Type} [DecidableEq β] [Datum β]
theorem KvOkI.mono {F F' : Hp} (s : Same F F') : ∀ {ps : List (Int × β)} {kvs : List (Key × V)}, KvOkI F ps kvs → KvOkI F' ps kvs
  | _, _, .nil => .nil
  | _, _, .cons h t => .cons (h.mono s) (KvOkI.mono s t)
theorem KvOkI.length {F : Hp} : ∀ {ps : List (Int × β)} {kvs : List (Key × V)}, KvOkI F ps kvs → kvs.length = ps.length
  | _, _, .nil => rfl
  | _, _, .cons _ t => congrArg Nat.succ (KvOkI.length t)
def getKI (ps : List (Int × β)) (c : Int) : Option β := (ps.find? fun p => decide (p.1 = c)).map (·.2)
def inKI (ps : List (Int × β)) (c : Int) : Bool := (getKI ps c).isSome
def putPI (ps : List (Int × β)) (c : Int) (y : β) : List (Int × β) := if inKI ps c = true then ps.map (fun p => if p.1 = c then (p.1, y) else p) else ps ++ [(c, y)]
theorem KvOkI.val {F : Hp} : ∀ {ps : List (Int × β)} {kvs : List (Key × V)}, KvOkI F ps kvs → ∀ c : Int, ORp F (valV kvs (ik c)) (getKI ps c)
  | _, _, .nil, c => .none
  | _, _, .cons (p := p) (ps := ps) (kvs := kvs) h t, c => by
    by_cases e : p.1 = c
    · rw [valV_pos (show (ik p.1, _).1 = ik c from congrArg ik e)]
      unfold getKI
      rw [List.find?_cons_of_pos (by simpa using e)]
      exact .some h
    · rw [valV_neg (show ¬ (ik p.1, _).1 = ik c from fun z => e (ik_inj.mp z))]
      have := KvOkI.val t c
      unfold getKI at this ⊢
      rw [List.find?_cons_of_neg (by simpa using e)]
      exact this
theorem KvOkI.isIn {F : Hp} {ps : List (Int × β)} {kvs : List (Key × V)} (h : KvOkI F ps kvs) (c : Int) : (valV kvs (ik c)).isSome = inKI ps c := (h.val c).isSome
theorem KvOkI.repl {F : Hp} {v : V} {y : β} (r : Rp F v (Datum.toD y)) (c : Int) : ∀ {ps : List (Int × β)} {kvs : List (Key × V)}, KvOkI F ps kvs → KvOkI F (ps.map fun p => if p.1 = c then (p.1, y) else p) (kvs.map fun kv => if kv.1 = ik c then (kv.1, v) else kv)
  | _, _, .nil => .nil
  | _, _, .cons (p := p) h t => by
    rw [List.map_cons, List.map_cons]
    by_cases e : p.1 = c
    · rw [if_pos e, if_pos (show (ik p.1, _).1 = ik c from congrArg ik e)]
      exact .cons (p := (p.1, y)) r (KvOkI.repl r c t)
    · rw [if_neg e, if_neg (show ¬ (ik p.1, _).1 = ik c from fun z => e (ik_inj.mp z))]
      exact .cons h (KvOkI.repl r c t)
theorem KvOkI.snoc {F : Hp} {v : V} {y : β} {c : Int} (r : Rp F v (Datum.toD y)) : ∀ {ps : List (Int × β)} {kvs : List (Key × V)}, KvOkI F ps kvs → KvOkI F (ps ++ [(c, y)]) (kvs ++ [(ik c, v)])
  | _, _, .nil => .cons (p := (c, y)) r .nil
  | _, _, .cons h t => .cons h (KvOkI.snoc r t)
theorem KvOkI.put {F : Hp} {ps : List (Int × β)} {kvs : List (Key × V)} {v : V} {y : β} (h : KvOkI F ps kvs) (c : Int) (r : Rp F v (Datum.toD y)) : KvOkI F (putPI ps c y) (putK kvs (ik c) v) := by
  unfold putPI putK
  rw [valV_any, h.isIn c]
  split
  · exact KvOkI.repl r c h
  · exact h.snoc r
def dWI (ps : List (Int × β)) : WP := ⟨fun o F => ∃ kvs, o = .dK kvs ∧ KvOkI F ps kvs, fun s h => by
  obtain ⟨kvs, e, r⟩ := h
  exact ⟨kvs, e, r.mono s⟩, fun h => by
  obtain ⟨kvs, e', _⟩ := h
  rw [e']; exact NT.dK⟩
/-- a dict of one's own -/
abbrev dOI (ps : List (Int × β)) : OP := ow (dWI ps)
/-- a dict that is changed no more -/
def dFPI (ps : List (Int × β)) : FP := ⟨fun v F => ∃ a kvs, v = .ref a ∧ F a = some (.dK kvs) ∧ KvOkI F ps kvs, fun s h => by
  obtain ⟨a, kvs, e, e2, r⟩ := h
  exact ⟨a, kvs, e, s _ _ e2, r.mono s⟩⟩
abbrev dFI (ps : List (Int × β)) : OP := fz (dFPI ps)
section
variable {X : Cx} {S S' S1 S2 S3 : Sl} {e a b c o i : Expr} {es rest : List Expr} {O O1 O2 : OP} {d d1 d2 d3 : PyData} {pos p : Pos} {D : En} {st : Stmt} {sts body els : List Stmt} {k : Bool} {ps ps0 : List (Int × β)} {x : Int} {y : β} {n : Nat}
theorem Sat.frzDI {Γ : Cxt} {σ : St} {F H : Hp} {i : Nat} (s : Sat Γ S σ F H) (h : S[i]? = some (some (dOI ps))) : ∃ F', Sat Γ (S.set i (some (dFI ps))) σ F' H ∧ Same F F' := by
  obtain ⟨v, fp, e, q, q2, s2⟩ := s.take h
  obtain ⟨a, o, e1, e2, e3, kvs, e4, r⟩ := q
  subst e1 e2 e4
  have sF : Same F (upd F a (.dK kvs)) := fun b o' e => by
    rw [upd_ne (ne_of_none e (q2 a (by simp)).1)]; exact e
  have s3 := (s2.grow e3).same_of.put (O := dFI ps) (v := .ref a) ⟨rfl, a, kvs, rfl, upd_same, r.mono sF⟩ i
  rw [List.set_set, set_back e] at s3
  exact ⟨_, s3, sF⟩
theorem bv_frzDI (i : Nat) (hi : S[i]? = some (some (dOI ps))) (h : BV X (S.set i (some (dFI ps))) sts D) : BV X S sts D := fun Γ σ F H E s q => by
  obtain ⟨F1, s1, m1⟩ := s.frzDI hi
  exact h Γ σ F1 H E s1 q
theorem ev_frzDSI (i : Nat) (hi : S[i]? = some (some (dOI ps))) (h : EV X (S.set i (some (dFI ps))) e O S') : EV X S e O S' := fun Γ σ F H Q s q => by
  obtain ⟨F1, s1, m1⟩ := s.frzDI hi
  exact h Γ σ F1 H Q s1 fun v fp F' H' s' m p => q v fp F' H' s' (m1.trans m) p
theorem ev_frzDI (h : EV X S e (dOI ps) S') : EV X S e (dFI ps) S' := fun Γ σ F H Q s q =>
  h Γ σ F H Q s fun v fp F' H' s' m p => by
    obtain ⟨a, o, e1, e2, e3, kvs, e4, r⟩ := p
    subst e1 e2 e4
    have sF : Same F' (upd F' a (.dK kvs)) := fun b o' e => by
      rw [upd_ne (ne_of_none e (s'.fnone (a := a) (by simp)))]; exact e
    exact q _ [] _ _ (s'.grow e3).same_of (m.trans sF) ⟨rfl, a, kvs, rfl, upd_same, r.mono sF⟩
/-- d[x] = y, d one's own in slot j -/
theorem sv_dputI (j : Nat) {pos' : Pos} (hr : Room n X.A) (hv : EV X S e (da y) S1) (hd : PE X o (tVar j)) (hj0 : S1[j]? = some (some (dOI ps0))) (hk : EV X S1 i (da x) S2) (hj : S2[j]? = some (some (dOI ps))) (hz : ps.length < sizeLine) (r : D.nx (S2.set j (some (dOI (putPI ps x y)))))
    (hs : swapsWith e (some (.Subscript o i pos')) pos.line X.env = pure false := by rfl) : SV X S (.Assign [.Subscript o i pos'] e pos) D := fun Γ σ F H E s q =>
  PS.w (ps_dput (hu_of hr) hd pe_w pe_w hs) (hv.dat s fun v F1 H1 s1 m1 r1 => by
    obtain ⟨a0, o0, f1, f2, _⟩ := s1.mut hj0
    refine ⟨_, f1, hk.dat s1 fun w F2 H2 s2 m2 r2 => ?_⟩
    obtain ⟨a, o, e1, e2, ⟨kvs, rfl, kr⟩, back⟩ := s2.mut hj
    rw [f1] at e1
    obtain rfl : a0 = a := by injection e1 with e1; injection e1 with e1; injection e1
    have ew : w = kV (ik x) := Rp.int_of r2
    subst ew
    refine ⟨a0, _, rfl, DPut.k e2 (by rw [kr.length]; exact hz), q.nx _ _ F2 _ r (back (dWI (putPI ps x y)) _ ⟨_, rfl, kr.put x (r1.mono m2)⟩)⟩)
/-- {} -/
theorem ev_dnewI : EV X S (.Dict [] [] pos) (dOI ([] : List (Int × β))) S := fun Γ σ F H Q s q =>
  PE.w pe_dnewK fun p hp => q (.ref p) [p] F _ (by rw [hide_upd hp]; exact s) (Same.refl F) ⟨p, _, rfl, rfl, upd_same, [], rfl, .nil⟩
theorem ev_dgetOI (j : Nat) (hr : Room n X.A) (hp : PE X o (tVar j)) (hj0 : S[j]? = some (some (dOI ps0))) (hk : EV X S i (da x) S1) (hj : S1[j]? = some (some (dOI ps))) (hg : getKI ps x = some y) (hs : NoSl i := by intro _ _; rfl) : EV X S (.Subscript o i pos) (da y) S1 := EV.of_d fun Γ σ F H Q s q =>
  PE.w (pe_dget (hu_of hr) hp pe_w hs) (by
    obtain ⟨a0, o0, f1, f2, ⟨kvs0, rfl, kr0⟩, _⟩ := s.mut hj0
    refine ⟨_, f1, hk.dat s fun v F1 H1 s1 m1 r1 => ?_⟩
    obtain ⟨a1, o1, e1, e2, ⟨kvs, rfl, kr⟩, _⟩ := s1.mut hj
    rw [f1] at e1
    obtain rfl : a0 = a1 := by injection e1 with e1; injection e1 with e1; injection e1
    have ew : v = kV (ik x) := Rp.int_of r1
    subst ew
    have := kr.val x
    rw [hg] at this
    generalize hv : valV kvs (ik x) = ov at this
    cases this with
    | some rv => exact ⟨a0, _, rfl, hv ▸ DGet.k e2, q _ F1 H1 s1 m1 rv⟩)
/-- d[x], d told to all -/
theorem ev_dgetFI (hr : Room n X.A) (hd : EV X S o (dFI ps) S1) (hk : EV X S1 i (da x) S2) (hg : getKI ps x = some y) (hs : NoSl i := by intro _ _; rfl) : EV X S (.Subscript o i pos) (da y) S2 := EV.of_d fun Γ σ F H Q s q =>
  PE.w (pe_dget (hu_of hr) pe_w pe_w hs) (hd.fzn s fun v F1 H1 s1 m1 pv => by
    obtain ⟨a, kvs, rfl, e2, kr⟩ := pv
    refine hk.dat s1 fun w F2 H2 s2 m2 r2 => ?_
    have ew : w = kV (ik x) := Rp.int_of r2
    subst ew
    have kr2 := kr.mono m2
    have hv := kr2.val x
    rw [hg] at hv
    cases hvv : valV kvs (ik x) with
    | none => rw [hvv] at hv; cases hv
    | some u =>
      rw [hvv] at hv
      cases hv with
      | some h => exact ⟨a, u, rfl, hvv ▸ DGet.k (s2.fh _ _ (m2 _ _ e2)), q u F2 H2 s2 (m1.trans m2) h⟩)
end
end
end Ev

namespace Ev
open PySem L2
open PySem.W (Datum Tup T3 T4 Holds HoldAll DatumOrd EachIs SomeDatum)
variable [Tb]
/-! # x in (a, b) -/
def inP (x u v : Int) : Bool := decide (u = x) || decide (v = x)
section
variable {X : Cx} {S S1 S2 : Sl} {a b : Expr}
theorem ec_inP {x u v : Int} (ha : EV X S a (da x) S1) (hb : EV X S1 b (da ((u, v) : Int × Int)) S2) : EC X S .In a b (inP x u v) S2 :=
  ec_op op_in_seq ha hb fun F H w z Q m r1 r2 q => by
    have ew : w = V.int x := Rp.int_of r1
    subst ew
    obtain ⟨p, xs, rfl, hp, ra⟩ := Rp.tup_of r2
    have hx : xs = [V.int u, V.int v] := RpAll.ints (ns := [u, v]) ra
    subst hx
    refine ⟨p, _, rfl, .inr (SqT.of (m _ _ hp)), rfl, rfl, ?_⟩
    have e : inV (V.int x) [V.int u, V.int v] = inP x u v := by
      unfold inV inP
      simp only [List.any_cons, List.any_nil, Bool.or_false, eqV]
      rfl
    show Q (.bl (inV _ _)) H
    rw [e]; exact q
end
end Ev

namespace Ev
open PySem L2
open PySem.W (Datum Tup T3 T4 Holds HoldAll DatumOrd EachIs SomeDatum)
variable [Tb]
/-! # lists of lists, all of one's own -/
inductive L2A (F H : Hp) : List Addr → List (List PyData) → Prop
  | nil : L2A F H [] []
  | cons {b : Addr} {bs : List Addr} {vs : List V} {ds : List PyData} {dss : List (List PyData)} : H b = some (.lst vs) → RpAll F vs ds → L2A F H bs dss → L2A F H (b :: bs) (ds :: dss)
theorem L2A.mono {F F' H : Hp} (s : Same F F') : ∀ {bs : List Addr} {dss : List (List PyData)}, L2A F H bs dss → L2A F' H bs dss
  | _, _, .nil => .nil
  | _, _, .cons h r t => .cons h (r.mono s) (t.mono s)
theorem L2A.loc {F H H' : Hp} : ∀ {bs : List Addr} {dss : List (List PyData)}, (∀ a ∈ bs, H' a = H a) → L2A F H bs dss → L2A F H' bs dss
  | _, _, _, .nil => .nil
  | _, _, q, .cons h r t => .cons ((q _ (by simp)).trans h) r (t.loc fun a ha => q a (List.mem_cons_of_mem _ ha))
theorem L2A.own {F H : Hp} : ∀ {bs : List Addr} {dss : List (List PyData)}, L2A F H bs dss → ∀ a ∈ bs, ∃ o, H a = some o ∧ NT o
  | _, _, .nil, a, ha => by cases ha
  | _, _, .cons h r t, a, ha => by
    rcases List.mem_cons.mp ha with e | e
    · rw [e]; exact ⟨_, h, NT.lst⟩
    · exact t.own a e
theorem L2A.length {F H : Hp} : ∀ {bs : List Addr} {dss : List (List PyData)}, L2A F H bs dss → bs.length = dss.length
  | _, _, .nil => rfl
  | _, _, .cons _ _ t => congrArg Nat.succ t.length
theorem L2A.snoc {F H : Hp} {b : Addr} {vs : List V} {ds : List PyData} (h : H b = some (.lst vs)) (r : RpAll F vs ds) : ∀ {bs : List Addr} {dss : List (List PyData)}, L2A F H bs dss → L2A F H (bs ++ [b]) (dss ++ [ds])
  | _, _, .nil => .cons h r .nil
  | _, _, .cons h' r' t => .cons h' r' (t.snoc h r)
theorem L2A.at {F H : Hp} : ∀ {bs : List Addr} {dss : List (List PyData)}, L2A F H bs dss → ∀ {i : Nat} {ds : List PyData}, dss[i]? = some ds → ∃ b vs, bs[i]? = some b ∧ H b = some (.lst vs) ∧ RpAll F vs ds
  | _, _, .nil, i, ds, h => by simp at h
  | _, _, .cons (b := b) (vs := vs) h r t, 0, ds, e => by
    obtain rfl := Option.some.inj e
    exact ⟨b, vs, rfl, h, r⟩
  | _, _, .cons h r t, i + 1, ds, e => t.at (i := i) (by simpa using e)
theorem L2A.set {F H H' : Hp} {b : Addr} {ws : List V} {es : List PyData} (hb : H' b = some (.lst ws)) (r : RpAll F ws es) : ∀ {bs : List Addr} {dss : List (List PyData)}, L2A F H bs dss → ∀ {i : Nat}, bs[i]? = some b → bs.Nodup → (∀ a ∈ bs, a ≠ b → H' a = H a) → L2A F H' bs (dss.set i es)
  | _, _, .nil, i, h, _, _ => by simp at h
  | _, _, .cons (b := c) h r' t, 0, e, nd, q => by
    obtain rfl := Option.some.inj e
    exact .cons hb r (t.loc fun a ha => q a (List.mem_cons_of_mem _ ha) fun z => (List.nodup_cons.mp nd).1 (z ▸ ha))
  | _, _, .cons (b := c) h r' t, i + 1, e, nd, q => by
    have e' := List.mem_of_getElem? (show _ = some b from by simpa using e)
    exact .cons ((q c (by simp) fun z => (List.nodup_cons.mp nd).1 (z ▸ e')).trans h) r' (t.set hb r (by simpa using e) (List.nodup_cons.mp nd).2 fun a ha => q a (List.mem_cons_of_mem _ ha))
/-- a list of lists of one's own -/
def l2 (dss : List (List PyData)) : OP where
  p := fun v fp F H => ∃ D bs, v = .ref D ∧ fp = D :: bs ∧ fp.Nodup ∧ H D = some (.lst (bs.map V.ref)) ∧ L2A F H bs dss
  mono := fun s h => by
    obtain ⟨D, bs, h1, h2, h3, h4, h5⟩ := h
    exact ⟨D, bs, h1, h2, h3, h4, h5.mono s⟩
  loc := fun q h => by
    obtain ⟨D, bs, h1, h2, h3, h4, h5⟩ := h
    exact ⟨D, bs, h1, h2, h3, (q D (by rw [h2]; simp)).trans h4, h5.loc fun a ha => q a (by rw [h2]; exact List.mem_cons_of_mem _ ha)⟩
  own := fun h a ha => by
    obtain ⟨D, bs, h1, h2, h3, h4, h5⟩ := h
    rw [h2] at ha
    rcases List.mem_cons.mp ha with e | e
    · rw [e]; exact ⟨_, h4, NT.lst⟩
    · exact h5.own a e
abbrev la2 {α : Type} [DecidableEq α] [Datum α] (xss : List (List α)) : OP := l2 (xss.map fun xs => xs.map Datum.toD)
theorem hide_hide (H : Hp) (a b : List Addr) : hide (hide H a) b = hide H (b ++ a) := by
  funext c
  by_cases q : c ∈ b
  · rw [hide_in q, hide_in (List.mem_append.mpr (.inl q))]
  · rw [hide_out q]
    by_cases r : c ∈ a
    · rw [hide_in r, hide_in (List.mem_append.mpr (.inr r))]
    · rw [hide_out r, hide_out fun z => (List.mem_append.mp z).elim q r]
section
variable {X : Cx} {S S' S1 S2 S3 : Sl} {e a b c : Expr} {es rest : List Expr} {O : OP} {d d1 d2 d3 : PyData} {pos p : Pos}
/-- a comprehension whose items are lists of one's own -/
theorem ev_lc2G {elt tg iter : Expr} {scope : Scope} (own : List (Str × Nat)) {ds : List PyData} {ix : List Nat} (hc : X.calm = true) (hN : X.N.Nodup) (hi : EI X S tg iter ds S1) (ok : BlkOk X.N X.env.scope scope own) (hz : ds.length ≤ sizeLine)
    (G : Nat → Sl) (yf : Nat → List PyData) (hn : ∀ i ∈ own.map (·.2), ∀ O, S1[i]? ≠ some (some O)) (hx : ∀ i ∈ ix, i ∈ own.map (·.2))
    (hg : ∀ j d, ds[j]? = some d → Blk X scope fun X' => EG X' S1 tg d ix (G j))
    (he : ∀ j d, ds[j]? = some d → Blk X scope fun X' => ∃ T, EV X' (G j) elt (ll (yf j)) T ∧ Wk T S1)
    (hs : ∀ x, foldedSetIterable iter X.env x = pure x := by intro _; rfl) : LCV X S (.ListComp elt [⟨tg, iter, [], 0⟩] scope pos) (l2 ((List.range ds.length).map yf)) S1 := by
  let g0 : TG := fun v σ H Q => ∃ (j : Nat) (d : PyData), ds[j]? = some d ∧ ∃ (Γ : Cxt) (F : Hp), Sat Γ S1 σ F H ∧ Rp F v d ∧ ∀ σ', Sat Γ (G j) σ' F H → Off ix σ σ' → Q σ' H
  let te0 : TE := fun σ H Q => ∃ (j : Nat) (d : PyData), ds[j]? = some d ∧ ∃ (Γ : Cxt) (F : Hp) , Sat Γ (G j) σ F H ∧ ∀ v fp F' H', Sat Γ S1 σ F' (hide H' fp) → Same F F' → (ll (yf j)).p v fp F' H' → Q v H'
  have H1 : Blk X scope fun X' => PG X' tg g0 := (fun s H C cl fp => ⟨fun pins s' σ H v u Q I r ⟨j, d, hd, Γ, F, sa, rp, k⟩ => hg j d hd _ _ _ _ _ Γ σ F H v Q sa rp k pins s' u I r⟩)
  have H2 : Blk X scope fun X' => PTs X' [] (fun σ H Q => Q true H) := (fun s H C cl fp => pts_nil)
  have H3 : Blk X scope fun X' => PE X' elt te0 := (fun s H C cl fp => ⟨fun pins s' σ H Q I ⟨j, d, hd, Γ, F, sa, k⟩ => by
        obtain ⟨T, h1, h2⟩ := he j d hd s H C cl fp
        all_goals first
          | exact (h1 Γ σ F H Q sa fun v fp F' H' s2 m r => k v fp F' H' (s2.wk h2) m r) pins s' I
          | skip
        obtain ⟨T, h1, h2⟩ := he j d hd _ _ _ _ _
        exact (h1 Γ σ F H Q sa fun v fp F' H' s2 m r => k v fp F' H' (s2.wk h2) m r) pins s' I⟩)
  exact ⟨tLc (WI X tg iter) g0 (fun σ H Q => Q true H) te0 (own.map (·.2)), pe_lc (own := own) hc hN pi_w ok H1 H2 H3 hs, fun i y py spos hN hy hl hsw => ps_setLc (own := own) hc hN hy hl hsw pi_w ok H1 H2 H3 hs, fun Γ σ F H Q s q =>
    (hi Γ σ F H _ s fun J F1 H1 s1 m1 jk D hD => by
      refine ⟨fun i m H => m = ds.length - i ∧ i ≤ ds.length ∧ ∃ (F : Hp) (bs : List Addr), Sat Γ S1 (wipe σ (own.map (·.2))) F (hide H (D :: bs)) ∧ Same F1 F ∧ (D :: bs).Nodup ∧ H D = some (.lst (bs.map V.ref)) ∧ L2A F H bs ((List.range i).map yf), ⟨ds.length, by simp, Nat.zero_le _, F1, [], by rw [hide_upd hD]; exact s1.wipe hn, Same.refl _, by simp, upd_same, .nil⟩, ?_⟩
      rintro i m H2 ⟨rfl, hil, F2, bs, s2, m2, nd, hD2, r2⟩
      have nt : ∀ a ∈ D :: bs, ∃ o, H2 a = some o ∧ NT o := fun a ha => by
        rcases List.mem_cons.mp ha with e | e
        · rw [e]; exact ⟨_, hD2, NT.lst⟩
        · exact r2.own a e
      by_cases hlt : i < ds.length
      · have hd := List.getElem?_eq_getElem hlt
        obtain ⟨Γ', sΓ, back⟩ := s2.side nt
        obtain ⟨g1, g2⟩ := (jk i Γ' _ _ F2 H2 sΓ m2).1 ds[i] hd
        refine .inr ⟨g1, fun H' => ∃ (F : Hp) (bs : List Addr), Sat Γ S1 (wipe σ (own.map (·.2))) F (hide H' (D :: bs)) ∧ Same F1 F ∧ (D :: bs).Nodup ∧ H' D = some (.lst (bs.map V.ref)) ∧ L2A F H' bs ((List.range (i + 1)).map yf), fun H' h => ⟨ds.length - (i + 1), by omega, rfl, hlt, h⟩, fun x H3 hy => ?_⟩
        obtain ⟨F3, s3, m3, r3, k3⟩ := g2 x H3 hy
        refine ⟨i, ds[i], hd, Γ', F3, s3, r3, fun σ2 s4 off => ⟨wipe_off off hx, ?_⟩⟩
        have hw2 : wipe σ2 (own.map (·.2)) = wipe σ (own.map (·.2)) := wipe_off off hx
        refine iteT ⟨i, ds[i], hd, Γ', F3, s4, fun v fp F6 H6 s6 m6 p6 => ?_⟩
        obtain ⟨b, o, rfl, rfl, hb, vs, rfl, rb⟩ := p6
        obtain ⟨c1, c2, c3⟩ := back _ _ F6 H6 [b] s6
        have D6 : H6 D = some (.lst (bs.map V.ref)) := (c2 D (by simp)).1.trans hD2
        have nb : b ∉ D :: bs := fun z => (c2 b z).2 (by simp)
        have nD : D ∉ bs := (List.nodup_cons.mp nd).1
        have r6 : L2A F6 H6 bs ((List.range i).map yf) := (r2.loc fun a ha => (c2 a (List.mem_cons_of_mem _ ha)).1).mono c3
        refine ⟨bs.map V.ref, D6, ?_, F6, bs ++ [b], ?_, m2.trans c3, ?_, ?_, ?_⟩
        · rw [List.length_map, r2.length, List.length_map, List.length_range]
          exact Nat.lt_of_lt_of_le hlt hz
        · have e : hide (upd H6 D (.lst (bs.map V.ref ++ [V.ref b]))) (D :: (bs ++ [b])) = hide H6 ([b] ++ (D :: bs)) := by
            funext z
            by_cases q : z ∈ D :: (bs ++ [b])
            · rw [hide_in q, hide_in (by simp at q ⊢; rcases q with q | q | q <;> simp [q])]
            · rw [hide_out q, hide_out (by simp at q ⊢; exact ⟨q.2.2, q.1, q.2.1⟩), upd_ne (by simp at q; exact q.1)]
          rw [e]
          have c1 : Sat Γ S1 σ2 F6 (hide H6 ([b] ++ (D :: bs))) := c1
          rw [← hw2]
          exact c1.wipe hn
        · rw [List.nodup_cons, List.nodup_append]
          refine ⟨by simp at nb ⊢; exact ⟨nD, fun z => nb.1 z.symm⟩, (List.nodup_cons.mp nd).2, by simp, fun a ha c hc => ?_⟩
          have : c = b := by simpa using hc
          rw [this]
          intro z
          exact nb (by rw [← z]; exact List.mem_cons_of_mem _ ha)
        · rw [upd_same, List.map_append]; rfl
        · rw [List.range_succ, List.map_append]
          have nbD : b ≠ D := fun z => nb (by rw [z]; simp)
          exact (r6.loc fun a ha => upd_ne (show a ≠ D from fun z => nD (by rw [← z]; exact ha))).snoc (by rw [upd_ne nbD]; exact hb) rb
      · have e : i = ds.length := by omega
        subst e
        have sh : Sat Γ S1 (wipe σ (own.map (·.2))) F2 H2 := s2.show (nt1 nt)
        refine .inl ⟨(jk _ Γ _ _ F2 H2 sh m2).2 (Nat.le_refl _), q (.ref D) (D :: bs) F2 H2 s2.unwipe (m1.trans m2) ⟨D, bs, rfl, rfl, nd, hD2, r2⟩⟩)⟩
end
end Ev

namespace Ev
open PySem L2
open PySem.W (Datum Tup T3 T4 Holds HoldAll DatumOrd EachIs SomeDatum)
variable [Tb]
theorem RpAll.setAt {F : Hp} {w : V} {d : PyData} (r : Rp F w d) : ∀ {vs : List V} {ds : List PyData}, RpAll F vs ds → ∀ i : Nat, RpAll F (vs.set i w) (ds.set i d)
  | _, _, .nil, i => .nil
  | _, _, .cons h t, 0 => .cons r t
  | _, _, .cons h t, i + 1 => .cons h (RpAll.setAt r t i)
theorem hide_cons (H : Hp) (a : Addr) (r : List Addr) : hide H (a :: r) = hide (hide H r) [a] := (hide_hide H r [a]).symm
theorem Sat.growL {Γ : Cxt} {S : Sl} {σ : St} {H : Hp} : ∀ {l : List Addr} {F : Hp}, l.Nodup → (∀ a ∈ l, ∃ o, H a = some o) → Sat Γ S σ F (hide H l) → ∃ F', Sat Γ S σ F' H ∧ Same F F' ∧ ∀ a ∈ l, F' a = H a
  | [], F, _, _, s => ⟨F, by rw [hide_nil] at s; exact s, Same.refl F, fun a ha => by cases ha⟩
  | a :: r, F, nd, ho, s => by
    obtain ⟨na, nr⟩ := List.nodup_cons.mp nd
    obtain ⟨o, e⟩ := ho a (by simp)
    rw [hide_cons] at s
    have Fa : F a = none := s.fnone (a := a) (by simp)
    have g := s.grow (o := o) (by rw [hide_out na]; exact e)
    obtain ⟨F', s', m, k⟩ := Sat.growL nr (fun b hb => ho b (List.mem_cons_of_mem _ hb)) g
    have sF : Same F (upd F a o) := fun b o' e => by rw [upd_ne (ne_of_none e Fa)]; exact e
    refine ⟨F', s', sF.trans m, fun b hb => ?_⟩
    rcases List.mem_cons.mp hb with q | q
    · rw [q, e]; exact m _ _ upd_same
    · exact k b q
theorem L2A.frozen {F F' H : Hp} (m : Same F F') : ∀ {bs : List Addr} {dss : List (List PyData)}, (∀ a ∈ bs, F' a = H a) → L2A F H bs dss → RpAll F' (bs.map V.ref) (dss.map PyData.list)
  | _, _, _, .nil => .nil
  | _, _, q, .cons h r t => .cons (.lst ((q _ (by simp)).trans h) (r.mono m)) (t.frozen m fun a ha => q a (List.mem_cons_of_mem _ ha))
section
variable {X : Cx} {S S' S1 S2 S3 : Sl} {e a b c o i1 i2 : Expr} {es rest : List Expr} {O : OP} {d d1 d2 d3 : PyData} {pos p p1 p2 : Pos} {sts : List Stmt} {D : En}
theorem Sat.frz2 {Γ : Cxt} {σ : St} {F H : Hp} {i : Nat} {dss : List (List PyData)} (s : Sat Γ S σ F H) (h : S[i]? = some (some (l2 dss))) : ∃ F', Sat Γ (S.set i (some (dd (.list (dss.map PyData.list))))) σ F' H ∧ Same F F' := by
  obtain ⟨v, fp, e, q, q2, s2⟩ := s.take h
  obtain ⟨D, bs, e1, e2, nd, hD, r⟩ := q
  subst e1 e2
  obtain ⟨F', s3, m, k⟩ := Sat.growL nd (fun a ha => by
    rcases List.mem_cons.mp ha with z | z
    · rw [z]; exact ⟨_, hD⟩
    · obtain ⟨o, h1, _⟩ := r.own a z; exact ⟨o, h1⟩) s2
  have rp : Rp F' (.ref D) (.list (dss.map PyData.list)) := .lst ((k D (by simp)).trans hD) (r.frozen m fun a ha => k a (List.mem_cons_of_mem _ ha))
  have s4 := s3.same_of.put (O := dd (.list (dss.map PyData.list))) (v := .ref D) ⟨rfl, rp⟩ i
  rw [List.set_set, set_back e] at s4
  exact ⟨F', s4, m⟩
theorem bv_frz2 (i : Nat) {dss : List (List PyData)} (hi : S[i]? = some (some (l2 dss))) (h : BV X (S.set i (some (dd (.list (dss.map PyData.list))))) sts D) : BV X S sts D := fun Γ σ F H E s q => by
  obtain ⟨F1, s1, m1⟩ := s.frz2 hi
  exact h Γ σ F1 H E s1 q
/-- d[i][k] = y, d a list of lists of one's own in slot j; the indices do not look at it -/
theorem sv_set2 (j : Nat) {dss : List (List PyData)} {ds : List PyData} {k1 k2 : Int} (hv : EV X S e (dd d) S1) (ho : PE X o (tVar j)) (hj : S1[j]? = some (some (l2 dss))) (h1 : EV X (S1.set j none) i1 (da k1) (S1.set j none)) (h2 : EV X (S1.set j none) i2 (da k2) (S1.set j none))
    (g1 : 0 ≤ k1) (gs : dss[k1.toNat]? = some ds) (g2 : 0 ≤ k2 ∧ k2 < (ds.length : Int)) (r : D.nx (S1.set j (some (l2 (dss.set k1.toNat (ds.set k2.toNat d))))))
    (hp : PlainIx i1 := by intro _ _; rfl)
    (ha : ∀ v, assign (.Subscript (.Subscript o i1 p1) i2 p2) X.env v = (do let ov ← holding [v] (eval (.Subscript o i1 p1) X.env); let iv ← holding [v, ov] (eval i2 X.env); standAt p2; holding [v, ov, iv] (setItem ov iv v); release [v, ov, iv] []) := by intro _; rfl)
    (hs : swapsWithSole [.Subscript (.Subscript o i1 p1) i2 p2] e pos.line X.env = pure false := by rfl) (hw : swappedStores [.Subscript (.Subscript o i1 p1) i2 p2] e X.env = pure none := by rfl) (h3 : (assignEach [.Subscript (.Subscript o i1 p1) i2 p2] X.env).map (·.2) = [assign (.Subscript (.Subscript o i1 p1) i2 p2) X.env] := by rfl) :
    SV X S (.Assign [.Subscript (.Subscript o i1 p1) i2 p2] e pos) D := fun Γ σ F H E s q =>
  PS.w (ps_asg pe_w (pg_sub (pe_ix ix_list ho pe_w hp) pe_w set_list ha) hs hw h3) (hv.dat s fun v F1 H1 s1 m1 r1 => by
    obtain ⟨v0, fp, e0, pp, q2, s2⟩ := s1.take hj
    obtain ⟨A, bs, e1, e2, nd, hD, rr⟩ := pp
    subst e1 e2
    have nt : ∀ H' : Hp, (∀ a ∈ A :: bs, H' a = H1 a) → ∀ a ∈ A :: bs, ∃ o, H' a = some o ∧ NT o := fun H' k a ha => by
      rw [k a ha]
      rcases List.mem_cons.mp ha with z | z
      · rw [z]; exact ⟨_, hD, NT.lst⟩
      · exact rr.own a z
    refine ⟨_, e0, h1.frame s2 (nt H1 fun _ _ => rfl) fun w fpw F2 H2 s3 m2 pw k2' => ?_⟩
    obtain ⟨rfl, rw2⟩ := dd_p pw
    obtain rfl := rw2.int_of
    have kk2 : ∀ a ∈ A :: bs, H2 a = H1 a := fun a ha => (k2' a ha).1
    obtain ⟨b, vs, hb, hvs, rvs⟩ := rr.at gs
    have lb : k1.toNat < bs.length := (List.getElem?_eq_some_iff.mp hb).1
    have ebm : (bs.map V.ref)[k1.toNat]? = some (V.ref b) := by rw [List.getElem?_map, hb]; rfl
    have eat : L2.atI (bs.map V.ref) k1 = some (V.ref b) := by
      rw [atI_getD V.non g1 (by rw [List.length_map]; omega), List.getD_eq_getElem?_getD, ebm]; rfl
    have hbm : b ∈ A :: bs := List.mem_cons_of_mem _ (List.mem_of_getElem? hb)
    refine ⟨A, bs.map V.ref, k1, V.ref b, rfl, rfl, SqL.of ((kk2 A (by simp)).trans hD), eat, ?_⟩
    rw [List.nil_append] at s3
    refine h2.frame s3 (nt H2 kk2) fun u fpu F3 H3 s4 m3 pu k3' => ?_
    obtain ⟨rfl, ru⟩ := dd_p pu
    obtain rfl := ru.int_of
    rw [List.nil_append] at s4
    have kk3 : ∀ a ∈ A :: bs, H3 a = H1 a := fun a ha => ((k3' a ha).1).trans (kk2 a ha)
    have lv : vs.length = ds.length := rvs.length
    have eix : ixN vs.length k2 = some k2.toNat := by
      unfold ixN
      rw [if_pos g2.1, if_pos (by omega)]
    refine ⟨b, vs, k2, k2.toNat, rfl, rfl, (kk3 b hbm).trans hvs, eix, ?_⟩
    have m : Same F1 F3 := m2.trans m3
    have nA : A ≠ b := fun z => (List.nodup_cons.mp nd).1 (by rw [z]; exact List.mem_of_getElem? hb)
    have eh : hide (upd H3 b (.lst (vs.set k2.toNat v))) (A :: bs) = hide H3 (A :: bs) := by
      funext z
      by_cases y : z ∈ A :: bs
      · rw [hide_in y, hide_in y]
      · rw [hide_out y, hide_out y, upd_ne fun w => y (by rw [w]; exact hbm)]
    have rl : L2A F3 (upd H3 b (.lst (vs.set k2.toNat v))) bs (dss.set k1.toNat (ds.set k2.toNat d)) :=
      (rr.mono m).set upd_same (RpAll.setAt (r1.mono m) (rvs.mono m) k2.toNat) hb (List.nodup_cons.mp nd).2 fun a ha ne => (upd_ne ne).trans (kk3 a (List.mem_cons_of_mem _ ha))
    have s5 := Sat.put (O := l2 (dss.set k1.toNat (ds.set k2.toNat d))) (v := .ref A) (fp := A :: bs) (by rw [eh]; exact s4) ⟨A, bs, rfl, rfl, nd, (upd_ne nA).trans ((kk3 A (by simp)).trans hD), rl⟩ j
    rw [List.set_set, set_back e0] at s5
    exact q.nx _ _ F3 _ r s5)
end
end Ev

namespace Ev
open PySem L2
open PySem.W (Datum Tup T3 T4 Holds HoldAll DatumOrd EachIs SomeDatum)
variable [Tb]
theorem lcM_all {α β : Type} {f : α → Rs β} : ∀ {xs : List α} {ys : List β}, lcM (fun _ => .ok true) f xs = .ok ys → ys.length = xs.length ∧ ∀ (j : Nat) (x : α), xs[j]? = some x → ∃ y, ys[j]? = some y ∧ f x = .ok y
  | [], ys, h => by
    have e : [] = ys := Rs.inj h
    subst e
    exact ⟨rfl, fun j x e => by simp at e⟩
  | z :: xs, ys, h => by
    obtain ⟨k, h1, h2⟩ := Rs.bind_ok h
    obtain rfl : true = k := Rs.inj h1
    rw [if_pos rfl] at h2
    obtain ⟨y, h3, h4⟩ := Rs.bind_ok h2
    obtain ⟨ys', h5, h6⟩ := Rs.bind_ok h4
    have e : y :: ys' = ys := Rs.inj h6
    subst e
    obtain ⟨i1, i2⟩ := lcM_all h5
    refine ⟨congrArg Nat.succ i1, fun j x e => ?_⟩
    cases j with
    | zero =>
      obtain rfl := Option.some.inj e
      exact ⟨y, rfl, h3⟩
    | succ j => exact i2 j x (by simpa using e)
section
variable {X : Cx} {S S' S1 S2 S3 : Sl} {pos p : Pos}
variable {β : Type} [DecidableEq β] [Datum β]
/-- a comprehension whose items are lists of one's own, by its mirror -/
theorem ev_lc2M {γ : Type} {elt tg iter : Expr} {scope : Scope} (own : List (Str × Nat)) {xs : List γ} {enc : γ → PyData} {ix : List Nat} (f : γ → Rs (List β)) {ys : List (List β)} (h : lcM (fun _ => .ok true) f xs = .ok ys) (G : γ → Sl) (hc : X.calm = true) (hN : X.N.Nodup) (hi : EI X S tg iter (xs.map enc) S1) (ok : BlkOk X.N X.env.scope scope own) (hz : xs.length ≤ sizeLine)
    (hn : ∀ i ∈ own.map (·.2), ∀ O, S1[i]? ≠ some (some O)) (hx : ∀ i ∈ ix, i ∈ own.map (·.2))
    (hg : ∀ x, x ∈ xs → Blk X scope fun X' => EG X' S1 tg (enc x) ix (G x))
    (he : ∀ x y, x ∈ xs → f x = .ok y → Blk X scope fun X' => EV X' (G x) elt (la y) (G x))
    (hw : ∀ x, Wk (G x) S1)
    (hs : ∀ x, foldedSetIterable iter X.env x = pure x := by intro _; rfl) : LCV X S (.ListComp elt [⟨tg, iter, [], 0⟩] scope pos) (la2 ys) S1 := by
  obtain ⟨l1, l2'⟩ := lcM_all h
  have at' : ∀ (j : Nat) (d : PyData), (xs.map enc)[j]? = some d → ∃ x, xs[j]? = some x ∧ enc x = d := fun j d e => by
    rw [List.getElem?_map] at e
    cases q : xs[j]? with
    | none => rw [q] at e; cases e
    | some x => rw [q] at e; exact ⟨x, rfl, Option.some.inj e⟩
  refine (ev_lc2G own (ds := xs.map enc) (fun j => match xs[j]? with | some x => G x | none => []) (fun j => (ys.getD j []).map Datum.toD) hn hx ?_ ?_ (hc := hc) (hN := hN) (hi := hi) (ok := ok) (hz := by rw [List.length_map]; exact hz) (hs := hs)).eq ?_
  · intro j d e
    obtain ⟨x, hx', rfl⟩ := at' j d e
    simp only [hx']
    exact hg x (List.mem_of_getElem? hx')
  · intro j d e
    obtain ⟨x, hx', rfl⟩ := at' j d e
    obtain ⟨y, hy, fy⟩ := l2' j x hx'
    have ey : ys.getD j [] = y := by rw [List.getD_eq_getElem?_getD, hy]; rfl
    simp only [hx', ey]
    intro s H C cl fp
    exact ⟨_, he x y (List.mem_of_getElem? hx') fy s H C cl fp, hw x⟩
  · congr 1
    rw [List.length_map, ← l1]
    apply List.ext_getElem?
    intro j
    rw [List.getElem?_map, List.getElem?_map]
    by_cases q : j < ys.length
    · rw [List.getElem?_range q, List.getElem?_eq_getElem q]
      simp [List.getD_eq_getElem?_getD, List.getElem?_eq_getElem q]
    · rw [List.getElem?_eq_none (by rw [List.length_range]; omega), List.getElem?_eq_none (by omega)]; rfl
/-- d[i][k] = y by lists -/
def set2 (xss : List (List β)) (i k : Int) (y : β) : List (List β) := xss.set i.toNat ((xss.getD i.toNat []).set k.toNat y)
theorem sv_set2A {xss : List (List β)} {k1 k2 : Int} {y : β} {e o i1 i2 : Expr} {p1 p2 : Pos} {D : En} (j : Nat) (hv : EV X S e (da y) S1) (ho : PE X o (tVar j)) (hj : S1[j]? = some (some (la2 xss))) (h1 : EV X (S1.set j none) i1 (da k1) (S1.set j none)) (h2 : EV X (S1.set j none) i2 (da k2) (S1.set j none))
    (g1 : 0 ≤ k1 ∧ k1 < (xss.length : Int)) (g2 : 0 ≤ k2 ∧ k2 < ((xss.getD k1.toNat []).length : Int)) (r : D.nx (S1.set j (some (la2 (set2 xss k1 k2 y)))))
    (hp : PlainIx i1 := by intro _ _; rfl)
    (ha : ∀ v, assign (.Subscript (.Subscript o i1 p1) i2 p2) X.env v = (do let ov ← holding [v] (eval (.Subscript o i1 p1) X.env); let iv ← holding [v, ov] (eval i2 X.env); standAt p2; holding [v, ov, iv] (setItem ov iv v); release [v, ov, iv] []) := by intro _; rfl)
    (hs : swapsWithSole [.Subscript (.Subscript o i1 p1) i2 p2] e pos.line X.env = pure false := by rfl) (hw : swappedStores [.Subscript (.Subscript o i1 p1) i2 p2] e X.env = pure none := by rfl) (h3 : (assignEach [.Subscript (.Subscript o i1 p1) i2 p2] X.env).map (·.2) = [assign (.Subscript (.Subscript o i1 p1) i2 p2) X.env] := by rfl) :
    SV X S (.Assign [.Subscript (.Subscript o i1 p1) i2 p2] e pos) D := by
  have hl : k1.toNat < xss.length := by omega
  have gs : (xss.map fun xs => xs.map Datum.toD)[k1.toNat]? = some ((xss.getD k1.toNat []).map Datum.toD) := by
    rw [List.getElem?_map, List.getElem?_eq_getElem hl, List.getD_eq_getElem?_getD, List.getElem?_eq_getElem hl]; rfl
  refine sv_set2 j hv ho hj h1 h2 g1.1 gs ⟨g2.1, by rw [List.length_map]; exact g2.2⟩ ?_ hp ha hs hw h3
  have e : ((xss.map fun xs => xs.map Datum.toD).set k1.toNat (((xss.getD k1.toNat []).map Datum.toD).set k2.toNat (Datum.toD y))) = (set2 xss k1 k2 y).map fun xs => xs.map Datum.toD := by
    unfold set2
    rw [List.map_set, List.map_set]
  rw [e]
  exact r
theorem bv_frz2A {xss : List (List β)} {sts : List Stmt} {D : En} (i : Nat) (hi : S[i]? = some (some (la2 xss))) (h : BV X (S.set i (some (da xss))) sts D) : BV X S sts D :=
  bv_frz2 i hi (by
    rw [List.map_map]
    exact h)
end
end Ev

namespace Ev
open PySem L2
open PySem.W (Datum Tup T3 T4 Holds HoldAll DatumOrd EachIs SomeDatum)
variable [Tb]
section
variable {X : Cx} {S S1 : Sl} {e : Expr} {pos : Pos}
/-- land[::-1] -/
theorem ev_revLand {L : Land} {k : Nat} {p1 p2 p3 : Pos} (ha : EV X S e (da L) S1) : EV X S (.Subscript e (.Slice none none (some (.UnaryOp .USub (.Constant (.int 1) k p1) p2)) p3) pos) (da (Land.mk ((rowsT L).items.reverse.map Tup.items))) S1 :=
  (ev_revTA (xs := rowsT L) ha).eqd (by rw [toD_land, List.map_map]; congr 1; rw [show (Tup.mk ∘ Tup.items : Tup Int → Tup Int) = id from rfl, List.map_id])
end
end Ev

namespace Ev
open PySem L2
open PySem.W (Datum Tup T3 T4 Holds HoldAll DatumOrd EachIs SomeDatum)
variable [Tb]
/-! # strings -/
def chS (z : Str) (i : Int) : Str := ⟨#[z.cps.toList.getD i.toNat 0]⟩
section
variable {X : Cx} {S S1 S2 : Sl} {a b o e : Expr} {pos apos : Pos}
theorem ev_repA {α : Type} [DecidableEq α] [Datum α] {x : α} {n : Int} (ha : EV X S a (da [x]) S1) (hb : EV X S1 b (da n) S2) (hn : 0 ≤ n ∧ n ≤ 1000) : EV X S (.BinOp a .Mult b pos) (la (List.replicate n.toNat x)) S2 := by
  have h := ev_rep (pos := pos) (ds := [Datum.toD x]) ha hb (by rw [sizeLine_eq]; simp; omega) ⟨by omega, by omega⟩
  have e : (List.replicate n.toNat [Datum.toD x]).flatten = (List.replicate n.toNat x).map Datum.toD := by
    rw [List.flatten_replicate_singleton, List.map_replicate]
  rw [e] at h
  exact h
theorem ev_ixStr {z : Str} {i : Int} (ha : EV X S a (da z) S1) (hb : EV X S1 b (da i) S2) (g : 0 ≤ i ∧ i < (z.cps.toList.length : Int)) (hz : z.length ≤ sizeLine) (hs : PlainIx b := by intro _ _; rfl) : EV X S (.Subscript a b pos) (da (chS z i)) S2 := EV.of_d fun Γ σ F H Q s q =>
  PE.w (pe_ix ix_str pe_w pe_w hs) (ha.dat s fun v F1 H1 s1 m1 r1 => hb.dat s1 fun u F2 H2 s2 m2 r2 =>
    ⟨z, i, z.cps.toList.getD i.toNat 0, Rp.str_of r1, r2.int_of, hz, atI_getD 0 g.1 g.2, q _ F2 H2 s2 (m1.trans m2) (.str _)⟩)
theorem ev_joinS {sep : Str} {ys : List Str} (ho : EV X S o (da sep) S1) (he : EV X S1 e (da ys) S2) (g : (ys.map (·.length)).sum + ys.length * sep.length ≤ 16777216)
    (hs : starEach [e] X.env = [(false, eval e X.env)] := by rfl) (hbase : attributeBase o "join" X.env (eval o X.env) = eval o X.env := by rfl) (hline : (apos.endLine == pos.line) = true := by rfl) : EV X S (.Call (.Attribute o "join" apos) [e] [] pos) (da (Txt.join sep ys)) S2 := EV.of_d fun Γ σ F H Q s q =>
  PE.w (pe_join pe_w pe_w hs hbase hline) (ho.dat s fun v F1 H1 s1 m1 r1 => ⟨⟨sep, Rp.str_of r1⟩, he.dat s1 fun u F2 H2 s2 m2 r2 => by
    obtain ⟨p, vs, rfl, h2, ra⟩ := r2.lst_of
    have ev := RpAll.strs ra
    subst ev
    exact ⟨sep, p, ys, Rp.str_of r1, rfl, .inl (SqL.of (s2.fh _ _ h2)), g, q _ F2 H2 s2 (m1.trans m2) (.str _)⟩⟩)
theorem ev_globS {x z : Str} (hm : ∃ t, X.mg x = some (.str z t)) (hg : Gl X x := by rfl) (hd : (x == ("__debug__" : Str)) = false := by decide) : EV X S (.Name x pos) (da z) S := by
  obtain ⟨t, h⟩ := hm
  exact ev_con (v := .str z) (pe_glob hg h ⟨t, rfl⟩ hd) fun _ => .str z
end
end Ev

namespace Ev
open PySem L2
open PySem.W (Datum Tup T3 T4 Holds HoldAll DatumOrd EachIs SomeDatum)
variable [Tb]
section
variable {X : Cx} {S S1 : Sl} {e : Expr} {pos p : Pos}
/-- int(b) of a truth -/
theorem ev_intB {b : Bool} (hm : X.mg "int" = none) (ha : EV X S e (da b) S1) (hg : Gl X "int" := by rfl) (he : starEach [e] X.env = (false, eval e X.env) :: starEach [] X.env := by rfl) : EV X S (.Call (.Name "int" p) [e] [] pos) (da (if b then (1 : Int) else 0)) S1 :=
  ev_ty call_int1 hg hm (by decide +kernel) (el_cons ha el_nil he) (fun Γ σ F H vs Q s r q => by
    obtain ⟨v, rfl, r1⟩ := r.one
    obtain rfl : v = .bl b := r1.bl_of
    refine .inr ⟨b, rfl, q _ [] F H s.same_of (Same.refl F) ⟨rfl, ?_⟩⟩
    cases b
    · exact .int 0
    · exact .int 1) (by decide) (by decide) he rfl
end
end Ev

namespace Ev
open PySem L2
open PySem.W (Datum Tup T3 T4 Holds HoldAll DatumOrd EachIs SomeDatum)
variable [Tb]


def nearB (a b : Cell) : Bool := decide (absI (a.1 - b.1) + absI (a.2 - b.2) = 1)
def bes (L : Land) (c : Cell) : List Cell := (cellsOf L).filter fun z => nearB c z
theorem mem_bes {L : Land} {c o : Cell} : o ∈ bes L c ↔ IsCell L o ∧ nearB c o = true := by unfold bes; rw [List.mem_filter, mem_cellsOf]
theorem bes_sorted (L : Land) (c : Cell) : (bes L c).Pairwise CLt := (cells_sorted L).filter _
theorem bes_len {L : Land} (ok : LandOk L) (c : Cell) : (bes L c).length ≤ 64 := Nat.le_trans (List.length_filter_le _ _) (cells64 ok)
theorem sorted_ext : ∀ {xs ys : List Cell}, xs.Pairwise CLt → ys.Pairwise CLt → (∀ z, z ∈ xs ↔ z ∈ ys) → xs = ys
  | [], [], _, _, _ => rfl
  | [], y :: ys, _, _, h => absurd ((h y).mpr (by simp)) List.not_mem_nil
  | x :: xs, [], _, _, h => absurd ((h x).mp (by simp)) List.not_mem_nil
  | x :: xs, y :: ys, hx, hy, h => by
    obtain ⟨x1, x2⟩ := List.pairwise_cons.mp hx
    obtain ⟨y1, y2⟩ := List.pairwise_cons.mp hy
    have e : x = y := by
      rcases List.mem_cons.mp ((h x).mp (by simp)) with q | q
      · exact q
      · rcases List.mem_cons.mp ((h y).mpr (by simp)) with r | r
        · exact r.symm
        · exact absurd (x1 y r) (y1 x q).asym
    subst e
    rw [sorted_ext x2 y2 fun z => ?_]
    have := h z
    constructor
    · intro m
      rcases List.mem_cons.mp (this.mp (List.mem_cons_of_mem _ m)) with q | q
      · exact absurd q.symm (x1 z m).ne
      · exact q
    · intro m
      rcases List.mem_cons.mp (this.mpr (List.mem_cons_of_mem _ m)) with q | q
      · exact absurd q.symm (y1 z m).ne
      · exact q
theorem bes_four {L : Land} {c : Cell} : ([(c.1 - 1, c.2), (c.1, c.2 - 1), (c.1, c.2 + 1), (c.1 + 1, c.2)].filter fun x => decide (IsCell L x)) = bes L c := by
  refine sorted_ext (List.Pairwise.filter _ ?_) (bes_sorted L c) fun z => ?_
  · simp [CLt]; omega
  · rw [List.mem_filter, mem_bes, decide_eq_true_eq, And.comm]
    refine and_congr_right fun _ => ?_
    unfold nearB
    rw [decide_eq_true_eq, absI_eq, absI_eq]
    obtain ⟨z1, z2⟩ := z
    simp
    omega


inductive Rch (L : Land) (g : Cell → Prop) (c : Cell) : Cell → Prop
  | refl : Rch L g c c
  | step {a b : Cell} : Rch L g c a → b ∈ bes L a → g b → Rch L g c b
open Classical in
noncomputable def comp (L : Land) (g : Cell → Prop) (c : Cell) : List Cell := (cellsOf L).filter fun z => decide (Rch L g c z)
open Classical in
theorem mem_comp {L : Land} {g : Cell → Prop} {c z : Cell} : z ∈ comp L g c ↔ IsCell L z ∧ Rch L g c z := by
  unfold comp; rw [List.mem_filter, mem_cellsOf]; exact and_congr_right fun _ => decide_eq_true_iff
theorem comp_sorted (L : Land) (g : Cell → Prop) (c : Cell) : (comp L g c).Pairwise CLt := (cells_sorted L).filter _
theorem getK_put {β : Type} [DecidableEq β] [Datum β] (ps : List (Cell × β)) (c z : Cell) (y : β) : inK (putP ps c y) z = (inK ps z || decide (z = c)) := by
  have key : ∀ (qs : List (Cell × β)) (z : Cell), inK qs z = qs.any fun p => decide (p.1 = z) := fun qs z => by
    unfold inK getK
    induction qs with
    | nil => rfl
    | cons q qs ih =>
      rw [List.find?_cons, List.any_cons]
      cases h : decide (q.1 = z) with
      | true => simp
      | false => simpa using ih
  unfold putP
  split
  · rename_i h
    rw [key, key]
    have : (ps.map fun p => if p.1 = c then (p.1, y) else p).any (fun p => decide (p.1 = z)) = ps.any fun p => decide (p.1 = z) := by
      rw [List.any_map]
      congr 1
      funext p
      simp only [Function.comp]
      split <;> rfl
    rw [this]
    by_cases e : z = c
    · subst e
      rw [key] at h
      rw [h]; rfl
    · simp [e]
  · rw [key, key, List.any_append]
    simp [eq_comm]
theorem inK_mem {β : Type} [DecidableEq β] [Datum β] {ps : List (Cell × β)} {z : Cell} : inK ps z = true ↔ z ∈ ps.map (·.1) := by
  unfold inK getK
  induction ps with
  | nil => simp
  | cons q qs ih =>
    rw [List.find?_cons]
    by_cases h : q.1 = z
    · simp [h]
    · simp only [h, decide_false, List.map_cons, List.mem_cons]
      rw [ih]
      constructor
      · exact .inr
      · rintro (e | e)
        · exact absurd e.symm h
        · exact e
theorem putP_new {β : Type} [DecidableEq β] [Datum β] {ps : List (Cell × β)} {c : Cell} {y : β} (h : inK ps c = false) : putP ps c y = ps ++ [(c, y)] := by unfold putP; rw [h]; rfl
structure SpW (L : Land) (g : Cell → Prop) (c : Cell) (found : List (Cell × Bool)) (left : List Cell) : Prop where
  rch : ∀ z, inK found z = true → Rch L g c z ∧ IsCell L z
  has : inK found c = true
  sub : ∀ z, z ∈ left → inK found z = true
  nd : (found.map (·.1)).Nodup
  len : left.length ≤ found.length
def SpC (L : Land) (g : Cell → Prop) (found : List (Cell × Bool)) (ok : Cell → Prop) : Prop := ∀ z, inK found z = true → ok z → ∀ b, b ∈ bes L z → g b → inK found b = true
theorem SpW.few {L : Land} (ok : LandOk L) {g : Cell → Prop} {c : Cell} {found : List (Cell × Bool)} {left : List Cell} (h : SpW L g c found left) : found.length ≤ 64 := by
  have := nodup_len (found.map (·.1)) (cellsOf L) h.nd fun z hz => mem_cellsOf.mpr (h.rch z (inK_mem.mpr hz)).2
  rw [List.length_map] at this
  exact Nat.le_trans this (cells64 ok)
theorem SpW.push {L : Land} {g : Cell → Prop} {c x b : Cell} {found : List (Cell × Bool)} {left : List Cell} (h : SpW L g c found left) (hx : Rch L g c x) (hb : b ∈ bes L x) (hg : g b) (hn : inK found b = false) : SpW L g c (putP found b true) (left ++ [b]) := by
  refine ⟨fun z hz => ?_, ?_, fun z hz => ?_, ?_, ?_⟩
  · rw [getK_put, Bool.or_eq_true] at hz
    rcases hz with q | q
    · exact h.rch z q
    · have e : z = b := of_decide_eq_true q
      subst e
      exact ⟨.step hx hb hg, (mem_bes.mp hb).1⟩
  · rw [getK_put, h.has]; rfl
  · rw [getK_put, Bool.or_eq_true]
    rcases List.mem_append.mp hz with q | q
    · exact .inl (h.sub z q)
    · exact .inr (decide_eq_true (by simpa using q))
  · rw [putP_new hn, List.map_append]
    refine List.nodup_append.mpr ⟨h.nd, by simp, fun a ha b' hb' e => ?_⟩
    have e2 : b' = b := by simpa using hb'
    subst e2 e
    rw [inK_mem.mpr ha] at hn; cases hn
  · rw [putP_new hn, List.length_append, List.length_append]
    have := h.len
    simp; omega
theorem SpC.push {L : Land} {g : Cell → Prop} {b : Cell} {found : List (Cell × Bool)} {ok ok' : Cell → Prop} (h : SpC L g found ok) (hk : ∀ z, ok' z → ok z ∧ z ≠ b) : SpC L g (putP found b true) ok' := fun z hz hz2 d hd hg => by
  obtain ⟨h1, h2⟩ := hk z hz2
  rw [getK_put, Bool.or_eq_true] at hz
  rcases hz with q | q
  · rw [getK_put, h z q h1 d hd hg]; rfl
  · exact absurd (of_decide_eq_true q) h2
theorem rch_in {L : Land} {g : Cell → Prop} {c : Cell} {found : List (Cell × Bool)} (h1 : inK found c = true) (h2 : SpC L g found fun _ => True) : ∀ {z : Cell}, Rch L g c z → inK found z = true := fun {z} r => by
  induction r with
  | refl => exact h1
  | step _ hb hg ih => exact h2 _ ih trivial _ hb hg
theorem sort_cells {l : List Cell} (h : l.Nodup) : (l.mergeSort (leOf Cell)).Pairwise CLt := by
  have nd : (l.mergeSort (leOf Cell)).Nodup := (List.mergeSort_perm l (leOf Cell)).nodup_iff.mpr h
  have le : ∀ a b : Cell, leOf Cell a b = true ↔ ¬ CLt b a := fun a b => by
    unfold leOf
    rw [Bool.not_eq_true', ← lt_cell]
    simp
  have so : (l.mergeSort (leOf Cell)).Pairwise fun a b => leOf Cell a b = true := List.pairwise_mergeSort (fun a b c h1 h2 => by
    rw [le] at h1 h2 ⊢
    unfold CLt at *; omega) (fun a b => by
    rw [Bool.or_eq_true, le, le]
    unfold CLt; omega) l
  refine (so.and nd).imp fun {a b} h => ?_
  have h1 := (le a b).mp h.1
  have h2 := h.2
  unfold CLt at *
  by_cases e1 : a.1 = b.1
  · by_cases e2 : a.2 = b.2
    · exact absurd (Prod.ext e1 e2) h2
    · omega
  · omega
theorem spread_end {L : Land} {g : Cell → Prop} {c : Cell} {found : List (Cell × Bool)} (h1 : SpW L g c found []) (h2 : SpC L g found fun z => z ∉ ([] : List Cell)) : (found.map (·.1)).mergeSort (leOf Cell) = comp L g c := by
  refine sorted_ext (sort_cells h1.nd) (comp_sorted L g c) fun z => ?_
  rw [List.mem_mergeSort, ← inK_mem, mem_comp]
  constructor
  · intro hz
    exact ⟨(h1.rch z hz).2, (h1.rch z hz).1⟩
  · intro hz
    exact rch_in h1.has (fun z hz _ => h2 z hz (by simp)) hz.2
theorem spread_start {L : Land} {g : Cell → Prop} {c : Cell} (hc : IsCell L c) : SpW L g c [(c, true)] [c] ∧ SpC L g [(c, true)] fun z => z ∉ [c] := by
  have h1 : ∀ z, inK [(c, true)] z = true ↔ z = c := fun z => by rw [inK_mem]; simp
  refine ⟨⟨fun z hz => ?_, (h1 c).mpr rfl, fun z hz => (h1 z).mpr (by simpa using hz), by simp, by simp⟩, fun z hz hz2 => ?_⟩
  · have e := (h1 z).mp hz
    subst e; exact ⟨.refl, hc⟩
  · exact absurd (by simp [(h1 z).mp hz]) hz2


theorem comp_congr {L : Land} {g g' : Cell → Prop} (h : ∀ z, g z ↔ g' z) (c : Cell) : comp L g c = comp L g' c := by
  have : g = g' := funext fun z => propext (h z)
  rw [this]
def flatC (L : Land) (c : Cell) : Cell → Prop := fun z => IsCell L z ∧ hAt L z = hAt L c
theorem good_map (l : List Cell) : (l.map fun x => ((x, true) : Cell × Bool)).map (·.1) = l := by rw [List.map_map]; exact List.map_id' l
theorem good_nodup {l : List Cell} (h : l.Nodup) : ((l.map fun x => ((x, true) : Cell × Bool)).map (·.1)).Nodup := by rw [good_map]; exact h
theorem good_in {l : List Cell} {z : Cell} : inK (l.map fun x => ((x, true) : Cell × Bool)) z = true ↔ z ∈ l := by rw [inK_mem, good_map]
theorem cellsF_nodup (L : Land) (p : Cell → Bool) : ((cellsOf L).filter p).Nodup := (cells_nodup L).filter _
theorem good_len {L : Land} (ok : LandOk L) (p : Cell → Bool) : (((cellsOf L).filter p).map fun x => ((x, true) : Cell × Bool)).length ≤ 1000 := by
  rw [List.length_map]; exact Nat.le_trans (List.length_filter_le _ _) (Nat.le_trans (cells64 ok) (by decide))


def isHead (L : Land) (c : Cell) : Prop := (comp L (flatC L c) c).getD 0 (0, 0) = c
noncomputable instance (L : Land) (c : Cell) : Decidable (isHead L c) := inferInstanceAs (Decidable (_ = _))
noncomputable def flatsOf (L : Land) : List (List Cell) := ((cellsOf L).filter fun c => decide (isHead L c)).map fun c => comp L (flatC L c) c
theorem near_symm (a b : Cell) : nearB a b = nearB b a := by
  unfold nearB
  have e : ∀ x y : Int, absI (x - y) = absI (y - x) := fun x y => by rw [absI_eq, absI_eq]; omega
  rw [e a.1, e a.2]
theorem bes_symm {L : Land} {a b : Cell} (ha : IsCell L a) (h : b ∈ bes L a) : a ∈ bes L b := mem_bes.mpr ⟨ha, (near_symm b a).trans (mem_bes.mp h).2⟩
theorem Rch.good {L : Land} {g : Cell → Prop} {c z : Cell} (hc : IsCell L c ∧ g c) (h : Rch L g c z) : IsCell L z ∧ g z := by
  cases h with
  | refl => exact hc
  | step _ hb hg => exact ⟨(mem_bes.mp hb).1, hg⟩
theorem Rch.trans {L : Land} {g : Cell → Prop} {a b c : Cell} (h1 : Rch L g a b) (h2 : Rch L g b c) : Rch L g a c := by
  induction h2 with
  | refl => exact h1
  | step _ hb hg ih => exact .step ih hb hg
theorem Rch.symm {L : Land} {g : Cell → Prop} {c z : Cell} (hc : IsCell L c ∧ g c) (h : Rch L g c z) : Rch L g z c := by
  induction h with
  | refl => exact .refl
  | @step a b ha hb hg ih =>
    have hga := ha.good hc
    exact Rch.trans (.step .refl (bes_symm hga.1 hb) hga.2) ih
theorem flat_good {L : Land} {c : Cell} (hc : IsCell L c) : IsCell L c ∧ flatC L c c := ⟨hc, hc, rfl⟩
theorem flat_same {L : Land} {c z : Cell} (hc : IsCell L c) (h : Rch L (flatC L c) c z) : flatC L z = flatC L c := by
  have := (h.good (flat_good hc)).2
  funext w
  unfold flatC at *
  rw [this.2]
theorem flat_comp {L : Land} {c z : Cell} (hc : IsCell L c) (h : z ∈ comp L (flatC L c) c) : comp L (flatC L z) z = comp L (flatC L c) c := by
  obtain ⟨hz, hr⟩ := mem_comp.mp h
  have e := flat_same hc hr
  rw [e]
  refine sorted_ext (comp_sorted _ _ _) (comp_sorted _ _ _) fun w => ?_
  rw [mem_comp, mem_comp]
  refine and_congr_right fun _ => ⟨fun h2 => hr.trans h2, fun h2 => (hr.symm (flat_good hc)).trans h2⟩
theorem comp_self {L : Land} {c : Cell} (hc : IsCell L c) : c ∈ comp L (flatC L c) c := mem_comp.mpr ⟨hc, .refl⟩
theorem mergeP_in {β : Type} [DecidableEq β] [Datum β] (z : Cell) : ∀ (qs ps : List (Cell × β)), inK (mergeP ps qs) z = (inK ps z || inK qs z)
  | [], ps => by show inK ps z = _; simp [inK, getK]
  | q :: qs, ps => by
    show inK (mergeP (putP ps q.1 q.2) qs) z = _
    rw [mergeP_in z qs, getK_put]
    have : inK (q :: qs) z = (decide (z = q.1) || inK qs z) := by
      rw [Bool.eq_iff_iff, Bool.or_eq_true, inK_mem, inK_mem]
      simp [List.map_cons]
    rw [this, Bool.or_assoc]
theorem putP_keys {β : Type} [DecidableEq β] [Datum β] {ps : List (Cell × β)} {c : Cell} {y : β} (h : (ps.map (·.1)).Nodup) : ((putP ps c y).map (·.1)).Nodup := by
  unfold putP
  split
  · have : (ps.map fun p => if p.1 = c then (p.1, y) else p).map (·.1) = ps.map (·.1) := by
      rw [List.map_map]
      refine List.map_congr_left fun p _ => ?_
      show (if p.1 = c then (p.1, y) else p).1 = p.1
      split <;> rfl
    rw [this]; exact h
  · rename_i hn
    rw [List.map_append]
    refine List.nodup_append.mpr ⟨h, by simp, fun a ha b hb e => ?_⟩
    have e2 : b = c := by simpa using hb
    subst e2 e
    exact hn (inK_mem.mpr ha)
theorem mergeP_keys {β : Type} [DecidableEq β] [Datum β] : ∀ (qs : List (Cell × β)) {ps : List (Cell × β)}, (ps.map (·.1)).Nodup → ((mergeP ps qs).map (·.1)).Nodup
  | [], ps, h => h
  | q :: qs, ps, h => mergeP_keys qs (ps := putP ps q.1 q.2) (putP_keys h)
theorem take_lt {xs : List Cell} (hs : xs.Pairwise CLt) {i : Nat} {x z : Cell} (e : xs[i]? = some x) : z ∈ xs.take i ↔ z ∈ xs ∧ CLt z x := by
  obtain ⟨hi, e'⟩ := List.getElem?_eq_some_iff.mp e
  constructor
  · intro m
    obtain ⟨j, hj, rfl⟩ := List.mem_iff_getElem.mp m
    rw [List.length_take] at hj
    rw [List.getElem_take]
    refine ⟨List.getElem_mem _, ?_⟩
    rw [← e']
    exact List.pairwise_iff_getElem.mp hs j i (by omega) hi (by omega)
  · rintro ⟨m, l⟩
    obtain ⟨j, hj, rfl⟩ := List.mem_iff_getElem.mp m
    have hji : j < i := by
      rcases Nat.lt_trichotomy j i with h | h | h
      · exact h
      · subst h; rw [← e'] at l; exact absurd rfl l.ne
      · rw [← e'] at l
        exact absurd l (List.pairwise_iff_getElem.mp hs i j hi hj h).asym
    exact List.mem_iff_getElem.mpr ⟨j, by rw [List.length_take]; omega, by rw [List.getElem_take]⟩
theorem head_iff {L : Land} {c : Cell} (hc : IsCell L c) : isHead L c ↔ ∀ z ∈ comp L (flatC L c) c, ¬ CLt z c := by
  unfold isHead
  have hm := comp_self hc
  have hs := comp_sorted L (flatC L c) c
  cases e : comp L (flatC L c) c with
  | nil => rw [e] at hm; cases hm
  | cons h t =>
    rw [e] at hm hs
    obtain ⟨h1, _⟩ := List.pairwise_cons.mp hs
    show h = c ↔ _
    constructor
    · intro q z hz
      subst q
      rcases List.mem_cons.mp hz with p | p
      · subst p; exact fun q => q.ne rfl
      · exact (h1 z p).asym
    · intro q
      rcases List.mem_cons.mp hm with p | p
      · exact p.symm
      · exact absurd (h1 c p) (q h (by simp))
structure Fl (L : Land) (i : Nat) (made : List (List Cell)) (seen : List (Cell × Bool)) : Prop where
  mde : made = (((cellsOf L).take i).filter fun c => decide (isHead L c)).map fun c => comp L (flatC L c) c
  sn : ∀ z, inK seen z = true ↔ ∃ c, c ∈ (cellsOf L).take i ∧ z ∈ comp L (flatC L c) c
  nd : (seen.map (·.1)).Nodup
theorem Fl.head {L : Land} {i : Nat} {x : Cell} {made : List (List Cell)} {seen : List (Cell × Bool)} (h : Fl L i made seen) (e : (cellsOf L)[i]? = some x) : isHead L x ↔ inK seen x = false := by
  have hx : IsCell L x := mem_cellsOf.mp (List.mem_of_getElem? e)
  rw [head_iff hx, ← Bool.not_eq_true, h.sn]
  constructor
  · rintro hh ⟨c, hc, hz⟩
    obtain ⟨h1, h2⟩ := (take_lt (cells_sorted L) e).mp hc
    have hcc := mem_cellsOf.mp h1
    have := flat_comp hcc hz
    exact hh c (by rw [this]; exact comp_self hcc) h2
  · intro hh z hz hl
    have hzc := (mem_comp.mp hz).1
    refine hh ⟨z, (take_lt (cells_sorted L) e).mpr ⟨mem_cellsOf.mpr hzc, hl⟩, ?_⟩
    rw [flat_comp hx hz]; exact comp_self hx
theorem Fl.push {L : Land} {i : Nat} {x : Cell} {made : List (List Cell)} {seen : List (Cell × Bool)} (h : Fl L i made seen) (e : (cellsOf L)[i]? = some x) (hn : inK seen x = false) : Fl L (i + 1) (made ++ [comp L (flatC L x) x]) (mergeP seen ((comp L (flatC L x) x).map fun z => (z, true))) := by
  have hh := (h.head e).mpr hn
  refine ⟨?_, fun z => ?_, mergeP_keys _ h.nd⟩
  · rw [List.take_succ, e, List.filter_append, List.map_append, ← h.mde]
    simp [hh]
  · rw [mergeP_in, Bool.or_eq_true, h.sn, good_in, List.take_succ, e]
    constructor
    · rintro (⟨c, hc, hz⟩ | hz)
      · exact ⟨c, List.mem_append.mpr (.inl hc), hz⟩
      · exact ⟨x, List.mem_append.mpr (.inr (by simp)), hz⟩
    · rintro ⟨c, hc, hz⟩
      rcases List.mem_append.mp hc with q | q
      · exact .inl ⟨c, q, hz⟩
      · have : c = x := by simpa using q
        subst this; exact .inr hz
theorem Fl.skip {L : Land} {i : Nat} {x : Cell} {made : List (List Cell)} {seen : List (Cell × Bool)} (h : Fl L i made seen) (e : (cellsOf L)[i]? = some x) (hn : inK seen x = true) : Fl L (i + 1) made seen := by
  have hh : ¬ isHead L x := fun q => by rw [(h.head e).mp q] at hn; cases hn
  have hx : IsCell L x := mem_cellsOf.mp (List.mem_of_getElem? e)
  refine ⟨?_, fun z => ?_, h.nd⟩
  · rw [List.take_succ, e, List.filter_append, List.map_append, ← h.mde]
    simp [hh]
  · rw [h.sn, List.take_succ, e]
    constructor
    · rintro ⟨c, hc, hz⟩
      exact ⟨c, List.mem_append.mpr (.inl hc), hz⟩
    · rintro ⟨c, hc, hz⟩
      rcases List.mem_append.mp hc with q | q
      · exact ⟨c, q, hz⟩
      · have ec : c = x := by simpa using q
        subst ec
        obtain ⟨d, hd, hz2⟩ := (h.sn c).mp hn
        have hdc := mem_cellsOf.mp ((take_lt (cells_sorted L) e).mp hd).1
        exact ⟨d, hd, by rw [← flat_comp hdc hz2]; exact hz⟩
theorem Fl.start (L : Land) : Fl L 0 [] [] := ⟨by simp, fun z => by simp [inK, getK], by simp⟩
theorem Fl.stop {L : Land} {made : List (List Cell)} {seen : List (Cell × Bool)} (h : Fl L (cellsOf L).length made seen) : made = flatsOf L := by
  rw [h.mde, List.take_length]; rfl

theorem Fl.len {L : Land} (ok : LandOk L) {i : Nat} {made : List (List Cell)} {seen : List (Cell × Bool)} (h : Fl L i made seen) : made.length ≤ 64 ∧ seen.length ≤ 64 := by
  constructor
  · rw [h.mde, List.length_map]
    refine Nat.le_trans (List.length_filter_le _ _) (Nat.le_trans ?_ (cells64 ok))
    rw [List.length_take]; omega
  · have := nodup_len (seen.map (·.1)) (cellsOf L) h.nd fun z hz => by
      obtain ⟨c, _, hc⟩ := (h.sn z).mp (inK_mem.mpr hz)
      exact mem_cellsOf.mpr (mem_comp.mp hc).1
    rw [List.length_map] at this
    exact Nat.le_trans this (cells64 ok)
theorem comp_len {L : Land} (ok : LandOk L) (g : Cell → Prop) (c : Cell) : (comp L g c).length ≤ 64 := Nat.le_trans (List.length_filter_le _ _) (cells64 ok)


noncomputable def m_flats (land : Land) : Rs (List Cell) := gd (LandOk land) (gd ((flatsOf land).length ≤ sizeLine) ((lcM (fun (x : List Cell) => Rs.ok true) (fun (x : List Cell) => gd (x ≠ []) (Rs.ok ((x.getD 0 (0, 0)) : Cell))) (flatsOf land)).bind fun ys => Rs.ok ys))

noncomputable def m__law_parts_b3 (touch : Cell → Cell → Rs Bool) (x_1 : Cell) (x_2 : Cell) (labels_3 : List (Cell × Cell)) (going_4 : Bool) : Rs ((List (Cell × Cell)) × Bool) := (ofO (getK labels_3 x_2)).bind fun y => (ofO (getK labels_3 x_1)).bind fun y_1 => (if (DatumOrd.lt y y_1) = true then (touch x_1 x_2).bind fun y_2 => Rs.ok y_2 else Rs.ok false).bind fun v => if v = true then (ofO (getK labels_3 x_2)).bind fun y_3 => gd (labels_3.length < sizeLine) ((Rs.ok (putP labels_3 x_1 y_3)).bind fun labels_4 => Rs.ok (labels_4, true)) else Rs.ok (labels_3, going_4)
noncomputable def m__law_parts_b2 (some0 : List Cell) (touch : Cell → Cell → Rs Bool) (x_1 : Cell) (labels_2 : List (Cell × Cell)) (going_3 : Bool) : Rs ((List (Cell × Cell)) × Bool) := (forM (fun (x_2 : Cell) t => m__law_parts_b3 touch x_1 x_2 t.1 t.2) some0 (labels_2, going_3)).bind fun (labels_5, going_5) => Rs.ok (labels_5, going_5)
noncomputable def m__law_parts_b1 (some0 : List Cell) (touch : Cell → Cell → Rs Bool) (going_1 : Bool) (labels_1 : List (Cell × Cell)) : Rs (Bool × (List (Cell × Cell))) := (Rs.ok false).bind fun going_2 => (forM (fun (x_1 : Cell) t => m__law_parts_b2 some0 touch x_1 t.1 t.2) some0 (labels_1, going_2)).bind fun (labels_6, going_6) => Rs.ok (going_6, labels_6)
noncomputable def m__law_parts_b1_c (going_1 : Bool) (labels_1 : List (Cell × Cell)) : Rs Bool := Rs.ok going_1
noncomputable def m__law_parts (some0 : List Cell) (touch : Cell → Cell → Rs Bool) : Rs (List (List Cell)) := gd (some0.length ≤ sizeLine) (gd (((some0.map (fun (x : Cell) => ((x, x) : Cell × Cell))).map (·.1)).Nodup) ((Rs.ok (some0.map (fun (x : Cell) => ((x, x) : Cell × Cell)))).bind fun labels => (Rs.ok true).bind fun going => (whM (fun t => m__law_parts_b1_c t.1 t.2) (fun t => m__law_parts_b1 some0 touch t.1 t.2) 1000000 (going, labels)).bind fun (going_7, labels_7) => (lcM (fun (x_3 : Cell) => Rs.ok true) (fun (x_3 : Cell) => (ofO (getK labels_7 x_3)).bind fun y_4 => Rs.ok (y_4 : Cell)) some0).bind fun firsts => gd (firsts.length < 64) (gd (∀ c ∈ firsts, (0 ≤ c.1 ∧ c.1 < 8) ∧ 0 ≤ c.2 ∧ c.2 < 8) ((Rs.ok (sortSetC firsts)).bind fun firsts_1 => gd (firsts_1.length ≤ sizeLine) ((lcM (fun (x_4 : Cell) => Rs.ok true) (fun (x_4 : Cell) => (lcM (fun (x_5 : Cell) => (ofO (getK labels_7 x_5)).bind fun y_5 => Rs.ok (decide (y_5 = x_4))) (fun (x_5 : Cell) => Rs.ok (x_5 : Cell)) some0).bind fun ys => Rs.ok (ys : List Cell)) firsts_1).bind fun ys_1 => Rs.ok ys_1)))))

noncomputable def m__law_flats_b1 (land_here : Land) (x_1 : Int) (made_1 : List (List Cell)) : Rs (List (List Cell)) := (lcM (fun (x_2 : Cell) => gd (LandOk land_here ∧ IsCell land_here x_2) (Rs.ok (decide ((hAt land_here x_2) = x_1)))) (fun (x_2 : Cell) => Rs.ok (x_2 : Cell)) (cellsOf land_here)).bind fun ys_1 => (m__law_parts ys_1 (fun a b => Rs.ok (nearB a b))).bind fun got => gd (made_1.length + got.length ≤ sizeLine) ((Rs.ok (made_1 ++ got)).bind fun made_2 => Rs.ok made_2)
noncomputable def m__law_flats (land_here : Land) : Rs (List (List Cell)) := (Rs.ok []).bind fun made => gd (LandOk land_here) (gd ((cellsOf land_here).length ≤ sizeLine) ((lcM (fun (x : Cell) => Rs.ok true) (fun (x : Cell) => gd (LandOk land_here ∧ IsCell land_here x) (Rs.ok ((hAt land_here x) : Int))) (cellsOf land_here)).bind fun ys => gd (ys.length < 64) ((forM (fun (x_1 : Int) t => m__law_flats_b1 land_here x_1 t) (sortSetI ys) made).bind fun made_3 => gd (made_3.length ≤ sizeLine) (Rs.ok (made_3.mergeSort (leOf (List Cell)))))))

noncomputable def m__law_same_number (got : Int) (due : Int) : Rs (Bool) := Rs.ok (true && ((!false) && (decide (got = due))))

/-! ## lookups -/
section
variable {β : Type} [DecidableEq β] [Datum β]
theorem getK_cons (q : Cell × β) (ps : List (Cell × β)) (z : Cell) : getK (q :: ps) z = if q.1 = z then some q.2 else getK ps z := by
  unfold getK
  by_cases h : q.1 = z
  · rw [List.find?_cons_of_pos (by simpa using h), if_pos h]; rfl
  · rw [List.find?_cons_of_neg (by simpa using h), if_neg h]
theorem getK_map (c z : Cell) (y : β) : ∀ ps : List (Cell × β), getK (ps.map fun p => if p.1 = c then (p.1, y) else p) z = if z = c then (getK ps c).map (fun _ => y) else getK ps z
  | [] => by show getK [] z = _; unfold getK; split <;> rfl
  | q :: ps => by
    rw [List.map_cons, getK_cons, getK_map c z y ps, getK_cons, getK_cons]
    by_cases h : q.1 = c
    · rw [if_pos h]
      by_cases hz : z = c
      · subst hz; simp [h]
      · rw [if_neg hz, if_neg hz]
        rw [if_neg (fun e => hz (e.symm.trans h)), if_neg (fun e => hz (e.symm.trans h))]
    · rw [if_neg h]
      by_cases hz : z = c
      · subst hz; rw [if_neg h, if_pos rfl, if_pos rfl, if_neg h]
      · rw [if_neg hz, if_neg hz]
theorem getK_app (c z : Cell) (y : β) : ∀ ps : List (Cell × β), getK (ps ++ [(c, y)]) z = match getK ps z with | some v => some v | none => if c = z then some y else none
  | [] => by rw [List.nil_append, getK_cons]; rfl
  | q :: ps => by
    rw [List.cons_append, getK_cons, getK_app c z y ps, getK_cons]
    by_cases h : q.1 = z
    · rw [if_pos h, if_pos h]
    · rw [if_neg h, if_neg h]
theorem get_put (ps : List (Cell × β)) (c z : Cell) (y : β) : getK (putP ps c y) z = if z = c then some y else getK ps z := by
  unfold putP
  split
  · rename_i h
    rw [getK_map]
    unfold inK at h
    cases hg : getK ps c with
    | none => rw [hg] at h; cases h
    | some v => rfl
  · rename_i h
    rw [getK_app]
    unfold inK at h
    by_cases hz : z = c
    · subst hz
      rw [if_pos rfl]
      cases hg : getK ps z with
      | none => simp
      | some v => rw [hg] at h; exact absurd rfl h
    · rw [if_neg hz]
      cases hg : getK ps z with
      | none => exact if_neg fun e => hz e.symm
      | some v => rfl
theorem put_len {ps : List (Cell × β)} {c : Cell} {y : β} (h : inK ps c = true) : (putP ps c y).length = ps.length := by
  unfold putP; rw [if_pos h, List.length_map]
theorem get_self {ps : List (Cell × β)} {c : Cell} {y : β} (h : getK ps c = some y) : inK ps c = true := by unfold inK; rw [h]; rfl
end
theorem getK_diag : ∀ (xs : List Cell) (z : Cell), z ∈ xs → getK (xs.map fun x => ((x, x) : Cell × Cell)) z = some z
  | x :: xs, z, h => by
    rw [List.map_cons, getK_cons]
    by_cases e : x = z
    · rw [if_pos e, e]
    · rw [if_neg e]
      rcases List.mem_cons.mp h with q | q
      · exact absurd q.symm e
      · exact getK_diag xs z q
theorem diag_keys (S : List Cell) : (S.map fun x => ((x, x) : Cell × Cell)).map (·.1) = S := by rw [List.map_map]; exact List.map_id' S
/-! ## classes by touching -/
inductive Cn (S : List Cell) (t : Cell → Cell → Bool) (c : Cell) : Cell → Prop
  | refl : Cn S t c c
  | step {a b : Cell} : Cn S t c a → b ∈ S → t a b = true → Cn S t c b
theorem Cn.mem {S : List Cell} {t : Cell → Cell → Bool} {c z : Cell} (hc : c ∈ S) (h : Cn S t c z) : z ∈ S := by
  cases h with
  | refl => exact hc
  | step _ hb _ => exact hb
theorem Cn.trans {S : List Cell} {t : Cell → Cell → Bool} {a b c : Cell} (h1 : Cn S t a b) (h2 : Cn S t b c) : Cn S t a c := by
  induction h2 with
  | refl => exact h1
  | step _ hb hg ih => exact .step ih hb hg
theorem Cn.symm {S : List Cell} {t : Cell → Cell → Bool} (ht : ∀ a b, t a b = t b a) {c z : Cell} (hc : c ∈ S) (h : Cn S t c z) : Cn S t z c := by
  induction h with
  | refl => exact .refl
  | @step a b ha hb hg ih => exact Cn.trans (.step .refl (ha.mem hc) (by rw [ht]; exact hg)) ih
def IsMin (S : List Cell) (t : Cell → Cell → Bool) (c : Cell) : Prop := ∀ z, Cn S t c z → ¬ CLt z c
open Classical in
noncomputable def cls (S : List Cell) (t : Cell → Cell → Bool) (c : Cell) : List Cell := S.filter fun z => decide (Cn S t c z)
open Classical in
noncomputable def headsG (S : List Cell) (t : Cell → Cell → Bool) : List Cell := S.filter fun c => decide (IsMin S t c)
noncomputable def partsG (S : List Cell) (t : Cell → Cell → Bool) : List (List Cell) := (headsG S t).map (cls S t)
open Classical in
theorem mem_cls {S : List Cell} {t : Cell → Cell → Bool} {c z : Cell} : z ∈ cls S t c ↔ z ∈ S ∧ Cn S t c z := by unfold cls; rw [List.mem_filter, decide_eq_true_eq]
open Classical in
theorem mem_headsG {S : List Cell} {t : Cell → Cell → Bool} {c : Cell} : c ∈ headsG S t ↔ c ∈ S ∧ IsMin S t c := by unfold headsG; rw [List.mem_filter, decide_eq_true_eq]
theorem CLt.trans {a b c : Cell} (h1 : CLt a b) (h2 : CLt b c) : CLt a c := by unfold CLt at *; omega
theorem CLt.tri {a b : Cell} (h1 : ¬ CLt a b) (h2 : ¬ CLt b a) : a = b := by
  unfold CLt at *
  exact Prod.ext (by omega) (by omega)
/-! labels -/
def Rg (S : List Cell) : Prop := ∀ c ∈ S, (0 ≤ c.1 ∧ c.1 < 8) ∧ 0 ≤ c.2 ∧ c.2 < 8
structure Lb (S : List Cell) (t : Cell → Cell → Bool) (labels : List (Cell × Cell)) : Prop where
  len : labels.length = S.length
  get : ∀ x ∈ S, ∃ y, getK labels x = some y ∧ y ∈ S ∧ Cn S t x y ∧ ¬ CLt x y
def lb (labels : List (Cell × Cell)) (x : Cell) : Cell := (getK labels x).getD x
def rkC (c : Cell) : Nat := (c.1 * 8 + c.2).toNat
def muL (S : List Cell) (labels : List (Cell × Cell)) : Nat := (S.map fun x => rkC (lb labels x)).sum
theorem lb_of {labels : List (Cell × Cell)} {x y : Cell} (h : getK labels x = some y) : lb labels x = y := by unfold lb; rw [h]; rfl
theorem rk_lt {S : List Cell} (R : Rg S) {a b : Cell} (ha : a ∈ S) (hb : b ∈ S) (h : CLt a b) : rkC a < rkC b := by
  have h1 := R a ha
  have h2 := R b hb
  unfold rkC
  unfold CLt at h
  omega
theorem sum_le {f g : Cell → Nat} : ∀ {S : List Cell}, (∀ x ∈ S, f x ≤ g x) → (S.map f).sum ≤ (S.map g).sum
  | [], _ => Nat.le_refl _
  | x :: S, h => by
    have h1 := h x (by simp)
    have h2 := sum_le (S := S) fun y hy => h y (List.mem_cons_of_mem _ hy)
    simp only [List.map_cons, List.sum_cons]; omega
theorem sum_lt {f g : Cell → Nat} : ∀ {S : List Cell} {x : Cell}, (∀ x ∈ S, f x ≤ g x) → x ∈ S → f x < g x → (S.map f).sum < (S.map g).sum
  | y :: S, x, h, hx, hl => by
    have h1 := h y (by simp)
    have h2 := sum_le (S := S) fun y hy => h y (List.mem_cons_of_mem _ hy)
    simp only [List.map_cons, List.sum_cons]
    rcases List.mem_cons.mp hx with e | e
    · subst e; omega
    · have := sum_lt (S := S) (fun y hy => h y (List.mem_cons_of_mem _ hy)) e hl
      omega
theorem sum_bd {f : Cell → Nat} {b : Nat} : ∀ {S : List Cell}, (∀ x ∈ S, f x ≤ b) → (S.map f).sum ≤ S.length * b
  | [], _ => Nat.zero_le _
  | x :: S, h => by
    have h1 := h x (by simp)
    have h2 := sum_bd (S := S) fun y hy => h y (List.mem_cons_of_mem _ hy)
    simp only [List.map_cons, List.sum_cons, List.length_cons, Nat.succ_mul]; omega
theorem Lb.lbS {S : List Cell} {t : Cell → Cell → Bool} {labels : List (Cell × Cell)} (h : Lb S t labels) {x : Cell} (hx : x ∈ S) : getK labels x = some (lb labels x) ∧ lb labels x ∈ S ∧ Cn S t x (lb labels x) ∧ ¬ CLt x (lb labels x) := by
  obtain ⟨y, h1, h2⟩ := h.get x hx
  rw [lb_of h1]; exact ⟨h1, h2⟩
theorem Lb.mu_le {S : List Cell} {t : Cell → Cell → Bool} {labels : List (Cell × Cell)} (R : Rg S) (h : Lb S t labels) : muL S labels ≤ S.length * 63 := sum_bd fun x hx => by
  have := R _ (h.lbS hx).2.1
  unfold rkC; omega
theorem Lb.put {S : List Cell} {t : Cell → Cell → Bool} {labels : List (Cell × Cell)} (R : Rg S) (h : Lb S t labels) {x y : Cell} (hx : x ∈ S) (hy : y ∈ S) (hl : CLt (lb labels y) (lb labels x)) (ht : t x y = true) : Lb S t (putP labels x (lb labels y)) ∧ muL S (putP labels x (lb labels y)) < muL S labels := by
  obtain ⟨x1, x2, x3, x4⟩ := h.lbS hx
  obtain ⟨y1, y2, y3, y4⟩ := h.lbS hy
  have lb' : ∀ z, lb (putP labels x (lb labels y)) z = if z = x then lb labels y else lb labels z := fun z => by
    unfold lb
    rw [get_put]
    by_cases e : z = x
    · rw [if_pos e, if_pos e]; rfl
    · rw [if_neg e, if_neg e]
  refine ⟨⟨by rw [put_len (get_self x1)]; exact h.len, fun z hz => ?_⟩, ?_⟩
  · rw [get_put]
    by_cases e : z = x
    · rw [if_pos e]
      subst e
      exact ⟨_, rfl, y2, Cn.trans (.step .refl hy ht) y3, fun q => x4 (q.trans hl)⟩
    · rw [if_neg e]; exact h.get z hz
  · refine sum_lt (fun z hz => ?_) hx ?_
    · rw [lb']
      by_cases e : z = x
      · rw [if_pos e, e]; exact Nat.le_of_lt (rk_lt R y2 x2 hl)
      · rw [if_neg e]; exact Nat.le_refl _
    · rw [lb', if_pos rfl]; exact rk_lt R y2 x2 hl
def okL (t : Cell → Cell → Bool) (labels : List (Cell × Cell)) (x y : Cell) : Prop := t x y = true → ¬ CLt (lb labels y) (lb labels x)
def Tot (S : List Cell) (touch : Cell → Cell → Rs Bool) (t : Cell → Cell → Bool) : Prop := ∀ a ∈ S, ∀ b ∈ S, touch a b = .ok (t a b)
theorem ltD_cell {a b : Cell} : DatumOrd.lt a b = true ↔ CLt a b := lt_cell
theorem parts_b3 {S : List Cell} {touch : Cell → Cell → Rs Bool} {t : Cell → Cell → Bool} (T : Tot S touch t) (R : Rg S) (hz : S.length < 64) {labels : List (Cell × Cell)} (h : Lb S t labels) {x y : Cell} (hx : x ∈ S) (hy : y ∈ S) (g : Bool) :
    ∃ r : List (Cell × Cell) × Bool, m__law_parts_b3 touch x y labels g = .ok r ∧ ((r = (labels, g) ∧ okL t labels x y) ∨ (r.2 = true ∧ Lb S t r.1 ∧ muL S r.1 < muL S labels)) := by
  obtain ⟨x1, x2, x3, x4⟩ := h.lbS hx
  obtain ⟨y1, y2, y3, y4⟩ := h.lbS hy
  unfold m__law_parts_b3
  simp only [x1, y1, ofO_some, Rs.ok_bind, T x hx y hy]
  by_cases hl : CLt (lb labels y) (lb labels x)
  · rw [if_pos (ltD_cell.mpr hl)]
    cases ht : t x y with
    | true =>
      simp only [Rs.ok_bind, if_true]
      rw [gd_pos (size64 (by rw [h.len]; omega))]
      obtain ⟨h1, h2⟩ := h.put R hx hy hl ht
      exact ⟨_, rfl, .inr ⟨rfl, h1, h2⟩⟩
    | false =>
      simp only [Rs.ok_bind, Bool.false_eq_true, if_false]
      exact ⟨_, rfl, .inl ⟨rfl, fun q => by rw [ht] at q; cases q⟩⟩
  · rw [if_neg (fun q => hl (ltD_cell.mp q))]
    simp only [Rs.ok_bind, Bool.false_eq_true, if_false]
    exact ⟨_, rfl, .inl ⟨rfl, fun _ => hl⟩⟩
theorem take_snoc {α : Type} {xs : List α} {i : Nat} {x : α} (h : xs[i]? = some x) : xs.take (i + 1) = xs.take i ++ [x] := by rw [List.take_succ, h]; rfl
theorem parts_b2 {S : List Cell} {touch : Cell → Cell → Rs Bool} {t : Cell → Cell → Bool} (T : Tot S touch t) (R : Rg S) (hz : S.length < 64) {labels : List (Cell × Cell)} (h : Lb S t labels) {x : Cell} (hx : x ∈ S) (g : Bool) :
    ∃ r : List (Cell × Cell) × Bool, m__law_parts_b2 S touch x labels g = .ok r ∧ ((r = (labels, g) ∧ ∀ y ∈ S, okL t labels x y) ∨ (r.2 = true ∧ Lb S t r.1 ∧ muL S r.1 < muL S labels)) := by
  obtain ⟨r, h1, h2⟩ := forM_inv (b := fun (x_2 : Cell) (t : List (Cell × Cell) × Bool) => m__law_parts_b3 touch x x_2 t.1 t.2) (xs := S) (t0 := (labels, g)) (fun i r => (r = (labels, g) ∧ ∀ y ∈ S.take i, okL t labels x y) ∨ (r.2 = true ∧ Lb S t r.1 ∧ muL S r.1 < muL S labels)) (.inl ⟨rfl, fun y hy => by simp at hy⟩) fun i y r hy hi => by
    have hyS := List.mem_of_getElem? hy
    rcases hi with ⟨rfl, ho⟩ | ⟨r2, r3, r4⟩
    · obtain ⟨r', e, hr⟩ := parts_b3 T R hz h hx hyS g
      refine ⟨r', e, ?_⟩
      rcases hr with ⟨rfl, q⟩ | q
      · refine .inl ⟨rfl, fun z hz => ?_⟩
        rw [take_snoc hy] at hz
        rcases List.mem_append.mp hz with m | m
        · exact ho z m
        · have : z = y := by simpa using m
          subst this; exact q
      · exact .inr q
    · obtain ⟨r', e, hr⟩ := parts_b3 T R hz r3 hx hyS r.2
      refine ⟨r', e, .inr ?_⟩
      rcases hr with ⟨rfl, q⟩ | ⟨q1, q2, q3⟩
      · exact ⟨r2, r3, r4⟩
      · exact ⟨q1, q2, by omega⟩
  rw [List.take_length] at h2
  refine ⟨r, ?_, h2⟩
  unfold m__law_parts_b2
  rw [h1]; rfl
theorem parts_b1 {S : List Cell} {touch : Cell → Cell → Rs Bool} {t : Cell → Cell → Bool} (T : Tot S touch t) (R : Rg S) (hz : S.length < 64) {labels : List (Cell × Cell)} (h : Lb S t labels) (g : Bool) :
    ∃ r : Bool × List (Cell × Cell), m__law_parts_b1 S touch g labels = .ok r ∧ ((r = (false, labels) ∧ ∀ x ∈ S, ∀ y ∈ S, okL t labels x y) ∨ (r.1 = true ∧ Lb S t r.2 ∧ muL S r.2 < muL S labels)) := by
  obtain ⟨r, h1, h2⟩ := forM_inv (b := fun (x_1 : Cell) (t : List (Cell × Cell) × Bool) => m__law_parts_b2 S touch x_1 t.1 t.2) (xs := S) (t0 := (labels, false)) (fun i r => (r = (labels, false) ∧ ∀ x ∈ S.take i, ∀ y ∈ S, okL t labels x y) ∨ (r.2 = true ∧ Lb S t r.1 ∧ muL S r.1 < muL S labels)) (.inl ⟨rfl, fun y hy => by simp at hy⟩) fun i x r hx hi => by
    have hxS := List.mem_of_getElem? hx
    rcases hi with ⟨rfl, ho⟩ | ⟨r2, r3, r4⟩
    · obtain ⟨r', e, hr⟩ := parts_b2 T R hz h hxS false
      refine ⟨r', e, ?_⟩
      rcases hr with ⟨rfl, q⟩ | q
      · refine .inl ⟨rfl, fun z hz => ?_⟩
        rw [take_snoc hx] at hz
        rcases List.mem_append.mp hz with m | m
        · exact ho z m
        · have : z = x := by simpa using m
          subst this; exact q
      · exact .inr q
    · obtain ⟨r', e, hr⟩ := parts_b2 T R hz r3 hxS r.2
      refine ⟨r', e, .inr ?_⟩
      rcases hr with ⟨rfl, q⟩ | ⟨q1, q2, q3⟩
      · exact ⟨r2, r3, r4⟩
      · exact ⟨q1, q2, by omega⟩
  rw [List.take_length] at h2
  refine ⟨(r.2, r.1), ?_, ?_⟩
  · unfold m__law_parts_b1
    simp only [Rs.ok_bind]
    rw [h1]; rfl
  · rcases h2 with ⟨rfl, q⟩ | q
    · exact .inl ⟨rfl, q⟩
    · exact .inr q
theorem closed_lb {S : List Cell} {t : Cell → Cell → Bool} (ht : ∀ a b, t a b = t b a) {labels : List (Cell × Cell)} (hc : ∀ x ∈ S, ∀ y ∈ S, okL t labels x y) {x z : Cell} (hx : x ∈ S) (r : Cn S t x z) : lb labels z = lb labels x := by
  induction r with
  | refl => rfl
  | @step a b ha hb hg ih =>
    rw [← ih]
    have hA := ha.mem hx
    exact CLt.tri (hc a hA b hb hg) (hc b hb a hA (by rw [ht]; exact hg))
theorem m__law_parts_eq {S : List Cell} {touch : Cell → Cell → Rs Bool} {t : Cell → Cell → Bool} (T : Tot S touch t) (ht : ∀ a b, t a b = t b a) (so : S.Pairwise CLt) (R : Rg S) (hz : S.length < 64) : m__law_parts S touch = .ok (partsG S t) := by
  have nd : S.Nodup := so.imp fun h => h.ne
  have h0 : Lb S t (S.map fun x => ((x, x) : Cell × Cell)) := ⟨List.length_map _, fun x hx => ⟨x, getK_diag S x hx, hx, .refl, fun q => q.ne rfl⟩⟩
  obtain ⟨⟨g, labels⟩, h1, ⟨h2, h3⟩, h4⟩ := whM_inv (c := fun t => m__law_parts_b1_c t.1 t.2) (b := fun t => m__law_parts_b1 S touch t.1 t.2) (n := 1000000) (t0 := (true, S.map fun x => ((x, x) : Cell × Cell)))
    (fun r => Lb S t r.2 ∧ (r.1 = false → ∀ x ∈ S, ∀ y ∈ S, okL t r.2 x y)) (fun r => 2 * muL S r.2 + r.1.toNat) ⟨h0, fun q => by cases q⟩ (by
      have := h0.mu_le R
      have : S.length * 63 ≤ 64 * 63 := Nat.mul_le_mul_right _ (by omega)
      show 2 * muL S (S.map fun x => ((x, x) : Cell × Cell)) + 1 < 1000000
      omega) fun ⟨g, labels⟩ ⟨h1, h2⟩ => ⟨g, rfl, fun hg => by
      obtain ⟨r, e, hr⟩ := parts_b1 T R hz h1 g
      refine ⟨r, e, ?_⟩
      have hg : g = true := hg
      subst hg
      rcases hr with ⟨rfl, q⟩ | ⟨q1, q2, q3⟩
      · refine ⟨⟨h1, fun _ => q⟩, ?_⟩
        show 2 * muL S labels + 0 < 2 * muL S labels + 1
        omega
      · refine ⟨⟨q2, fun q => by rw [q1] at q; cases q⟩, ?_⟩
        show 2 * muL S r.2 + r.1.toNat < 2 * muL S labels + 1
        rw [q1]
        have q4 : muL S r.2 < muL S labels := q3
        show 2 * muL S r.2 + 1 < 2 * muL S labels + 1
        omega⟩
  have hg : g = false := Rs.inj h4
  subst hg
  have hcl := h3 rfl
  have cc := fun {x z} (hx : x ∈ S) (r : Cn S t x z) => closed_lb ht hcl hx r
  have hself : ∀ c ∈ S, IsMin S t c → lb labels c = c := fun c hc hm => by
    obtain ⟨_, l2, l3, l4⟩ := h2.lbS hc
    exact CLt.tri (hm _ l3) l4
  have hmin : ∀ x ∈ S, IsMin S t (lb labels x) := fun x hx z hz => by
    obtain ⟨_, l2, l3, l4⟩ := h2.lbS hx
    have hzS := hz.mem l2
    obtain ⟨_, z2, z3, z4⟩ := h2.lbS hzS
    have e := cc hx (l3.trans hz)
    rw [e] at z4
    exact z4
  unfold m__law_parts
  rw [gd_pos (size64' (by omega)), gd_pos (by rw [diag_keys]; exact nd)]
  simp only [Rs.ok_bind]
  rw [h1]
  simp only [Rs.ok_bind]
  rw [lcM_map (fun x => lb labels x) fun x hx => by rw [(h2.lbS hx).1]; rfl]
  simp only [Rs.ok_bind]
  rw [gd_pos (by rw [List.length_map]; exact hz), gd_pos (fun c hc => by
    obtain ⟨x, hx, rfl⟩ := List.mem_map.mp hc
    exact R _ (h2.lbS hx).2.1)]
  have eH : sortSetC (S.map fun x => lb labels x) = headsG S t := strict_ext tri_cell (sortS_sorted tri_cell _) ((so.filter _).imp fun h => ltC_iff.mpr h) fun z => by
    rw [mem_sortS, mem_headsG]
    constructor
    · intro h
      obtain ⟨x, hx, rfl⟩ := List.mem_map.mp h
      exact ⟨(h2.lbS hx).2.1, hmin x hx⟩
    · rintro ⟨hz1, hz2⟩
      exact List.mem_map.mpr ⟨z, hz1, hself z hz1 hz2⟩
  rw [eH, gd_pos (size64' (by
    have : (headsG S t).length ≤ S.length := List.length_filter_le _ _
    omega))]
  rw [lcM_map (fun f => S.filter fun s => decide (lb labels s = f)) fun f hf => by
    rw [lcM_pure (fun s => decide (lb labels s = f)) (fun s => s) (fun s hs => by rw [(h2.lbS hs).1]; rfl) fun s _ _ => rfl]
    simp]
  show Rs.ok _ = Rs.ok _
  congr 1
  unfold partsG
  refine List.map_congr_left fun f hf => ?_
  obtain ⟨f1, f2⟩ := mem_headsG.mp hf
  unfold cls
  refine List.filter_congr fun s hs => ?_
  rw [decide_eq_decide]
  constructor
  · intro e
    obtain ⟨_, s2, s3, _⟩ := h2.lbS hs
    rw [e] at s3
    exact s3.symm ht hs
  · intro r
    rw [cc f1 r, hself f f1 f2]

/-! ## sorting by first cells -/
theorem pw_ext {α : Type} {R : α → α → Prop} (ir : ∀ a, ¬ R a a) (tr : ∀ a b c, R a b → R b c → R a c) : ∀ {xs ys : List α}, xs.Pairwise R → ys.Pairwise R → (∀ z, z ∈ xs ↔ z ∈ ys) → xs = ys
  | [], [], _, _, _ => rfl
  | [], y :: ys, _, _, h => absurd ((h y).mpr (by simp)) List.not_mem_nil
  | x :: xs, [], _, _, h => absurd ((h x).mp (by simp)) List.not_mem_nil
  | x :: xs, y :: ys, hx, hy, h => by
    obtain ⟨x1, x2⟩ := List.pairwise_cons.mp hx
    obtain ⟨y1, y2⟩ := List.pairwise_cons.mp hy
    have e : x = y := by
      rcases List.mem_cons.mp ((h x).mp (by simp)) with q | q
      · exact q
      · rcases List.mem_cons.mp ((h y).mpr (by simp)) with r | r
        · exact r.symm
        · exact absurd (tr _ _ _ (x1 y r) (y1 x q)) (ir x)
    subst e
    rw [pw_ext ir tr x2 y2 fun z => ?_]
    have := h z
    constructor
    · intro m
      rcases List.mem_cons.mp (this.mp (List.mem_cons_of_mem _ m)) with q | q
      · subst q; exact absurd (x1 _ m) (ir _)
      · exact q
    · intro m
      rcases List.mem_cons.mp (this.mpr (List.mem_cons_of_mem _ m)) with q | q
      · subst q; exact absurd (y1 _ m) (ir _)
      · exact q
theorem ord_list {α : Type} [DecidableEq α] [DatumOrd α] (o : Ord3 (DatumOrd.lt (α := α))) (tot : ∀ a b : α, DatumOrd.lt a b = false → DatumOrd.lt b a = false → a = b) : Ord3 (DatumOrd.lt (α := List α)) := by
  refine ⟨fun a => ?_, fun a => ?_⟩
  · induction a with
    | nil => intro b h; cases b with
      | nil => rfl
      | cons y ys => rfl
    | cons x xs ih =>
      intro b h
      cases b with
      | nil => cases h
      | cons y ys =>
        have h : (if x = y then DatumOrd.lt xs ys else DatumOrd.lt x y) = true := h
        show (if y = x then DatumOrd.lt ys xs else DatumOrd.lt y x) = false
        by_cases e : x = y
        · rw [if_pos e] at h; rw [if_pos e.symm]; exact ih _ h
        · rw [if_neg e] at h; rw [if_neg fun z => e z.symm]; exact o.asym _ _ h
  · induction a with
    | nil =>
      intro b c h1 h2
      cases b with
      | nil => exact h2
      | cons y ys => cases h1
    | cons x xs ih =>
      intro b c h1 h2
      cases c with
      | nil => rfl
      | cons z zs =>
        cases b with
        | nil => cases h2
        | cons y ys =>
          have h1 : (if x = y then DatumOrd.lt xs ys else DatumOrd.lt x y) = false := h1
          have h2 : (if y = z then DatumOrd.lt ys zs else DatumOrd.lt y z) = false := h2
          show (if x = z then DatumOrd.lt xs zs else DatumOrd.lt x z) = false
          by_cases e1 : x = y
          · subst e1
            rw [if_pos rfl] at h1
            by_cases e2 : x = z
            · rw [if_pos e2] at h2 ⊢; exact ih _ _ h1 h2
            · rw [if_neg e2] at h2 ⊢; exact h2
          · rw [if_neg e1] at h1
            by_cases e2 : y = z
            · subst e2
              rw [if_neg e1]; exact h1
            · rw [if_neg e2] at h2
              by_cases e3 : x = z
              · subst e3
                exact absurd (tot _ _ h1 h2) e1
              · rw [if_neg e3]; exact o.neg _ _ _ h1 h2

theorem cell_tot (a b : Cell) (h1 : DatumOrd.lt a b = false) (h2 : DatumOrd.lt b a = false) : a = b :=
  CLt.tri (fun q => by rw [lt_cell.mpr q] at h1; cases h1) (fun q => by rw [lt_cell.mpr q] at h2; cases h2)
theorem ord_cells : Ord3 (DatumOrd.lt (α := List Cell)) := ord_list ord_cell cell_tot
theorem sort_pw {α : Type} [DecidableEq α] [DatumOrd α] (o : Ord3 (DatumOrd.lt (α := α))) (xs : List α) : (xs.mergeSort (leOf α)).Pairwise fun a b => DatumOrd.lt b a = false := by
  have := List.pairwise_mergeSort (le := leOf α) (fun a b c h1 h2 => by
    unfold leOf at *
    have h1 : DatumOrd.lt b a = false := by simpa using h1
    have h2 : DatumOrd.lt c b = false := by simpa using h2
    have := o.neg _ _ _ h2 h1
    simp [this]) (fun a b => by
    unfold leOf
    cases h : DatumOrd.lt b a with
    | false => rfl
    | true => rw [o.asym _ _ h]; rfl) xs
  exact this.imp fun {a b} h => by
    have h : (!DatumOrd.lt b a) = true := h
    simpa using h
def hd1 (l : List Cell) : Cell := l.getD 0 (0, 0)
theorem sort_heads {xs ys : List (List Cell)} (ne : ∀ l ∈ xs, l ≠ []) (nd : (xs.map hd1).Nodup) (so : (ys.map hd1).Pairwise CLt) (mem : ∀ l, l ∈ xs ↔ l ∈ ys) : xs.mergeSort (leOf (List Cell)) = ys := by
  have pm := List.mergeSort_perm xs (leOf (List Cell))
  have nd2 : ((xs.mergeSort (leOf (List Cell))).map hd1).Nodup := (pm.map hd1).nodup_iff.mpr nd
  have s1 := (sort_pw ord_cells xs).and (List.pairwise_map.mp nd2)
  refine pw_ext (R := fun a b => CLt (hd1 a) (hd1 b)) (fun a h => h.ne rfl) (fun a b c h1 h2 => h1.trans h2) (List.Pairwise.imp_of_mem (fun {a b} ma mb h => ?_) s1) (List.pairwise_map.mp so) fun z => by rw [pm.mem_iff]; exact mem z
  have na := ne a (pm.mem_iff.mp ma)
  have nb := ne b (pm.mem_iff.mp mb)
  obtain ⟨h1, h2⟩ := h
  cases a with
  | nil => exact absurd rfl na
  | cons x xs =>
    cases b with
    | nil => exact absurd rfl nb
    | cons y ys =>
      have h1 : (if y = x then DatumOrd.lt ys xs else DatumOrd.lt y x) = false := h1
      have h2 : x ≠ y := h2
      rw [if_neg fun e => h2 e.symm] at h1
      show CLt x y
      by_cases q : CLt x y
      · exact q
      · exact absurd (CLt.tri q fun z => by rw [lt_cell.mpr z] at h1; cases h1) h2
/-! ## parts and reach -/
def cellsP (L : Land) (p : Cell → Bool) : List Cell := (cellsOf L).filter p
theorem mem_cellsP {L : Land} {p : Cell → Bool} {c : Cell} : c ∈ cellsP L p ↔ IsCell L c ∧ p c = true := by unfold cellsP; rw [List.mem_filter, mem_cellsOf]
theorem cellsP_sorted (L : Land) (p : Cell → Bool) : (cellsP L p).Pairwise CLt := (cells_sorted L).filter _
theorem cellsP_rg {L : Land} (ok : LandOk L) (p : Cell → Bool) : Rg (cellsP L p) := fun c hc => cells_range ok (mem_cellsP.mp hc).1
theorem cellsP_len (L : Land) (p : Cell → Bool) : (cellsP L p).length ≤ (cellsOf L).length := List.length_filter_le _ _
theorem cn_rch {L : Land} {p : Cell → Bool} {c z : Cell} (hc : c ∈ cellsP L p) : Cn (cellsP L p) nearB c z ↔ Rch L (fun z => p z = true) c z := by
  constructor
  · intro h
    induction h with
    | refl => exact .refl
    | step ha hb hg ih => exact .step ih (mem_bes.mpr ⟨(mem_cellsP.mp hb).1, hg⟩) (mem_cellsP.mp hb).2
  · intro h
    induction h with
    | refl => exact .refl
    | step ha hb hg ih =>
      obtain ⟨h1, h2⟩ := mem_bes.mp hb
      exact .step ih (mem_cellsP.mpr ⟨h1, hg⟩) h2
theorem cls_comp {L : Land} {p : Cell → Bool} {c : Cell} (hc : c ∈ cellsP L p) : cls (cellsP L p) nearB c = comp L (fun z => p z = true) c := by
  refine sorted_ext ((cellsP_sorted L p).filter _) (comp_sorted _ _ _) fun z => ?_
  rw [mem_cls, mem_comp, cn_rch hc]
  constructor
  · rintro ⟨h1, h2⟩; exact ⟨(mem_cellsP.mp h1).1, h2⟩
  · rintro ⟨h1, h2⟩
    exact ⟨mem_cellsP.mpr (h2.good (mem_cellsP.mp hc)), h2⟩
theorem cls_self {S : List Cell} {t : Cell → Cell → Bool} {c : Cell} (hc : c ∈ S) : c ∈ cls S t c := mem_cls.mpr ⟨hc, .refl⟩
open Classical in
theorem cls_sorted {S : List Cell} {t : Cell → Cell → Bool} (so : S.Pairwise CLt) (c : Cell) : (cls S t c).Pairwise CLt := so.filter _
theorem cls_head {S : List Cell} {t : Cell → Cell → Bool} (so : S.Pairwise CLt) {c : Cell} (hc : c ∈ S) (hm : IsMin S t c) : hd1 (cls S t c) = c := by
  have h1 := cls_self (t := t) hc
  have h2 := cls_sorted (t := t) so c
  cases e : cls S t c with
  | nil => rw [e] at h1; cases h1
  | cons x xs =>
    rw [e] at h1 h2
    show x = c
    rcases List.mem_cons.mp h1 with q | q
    · exact q.symm
    · have hx : x ∈ cls S t c := by rw [e]; simp
      exact absurd ((List.pairwise_cons.mp h2).1 c q) (hm x (mem_cls.mp hx).2)
theorem parts_heads {S : List Cell} {t : Cell → Cell → Bool} (so : S.Pairwise CLt) : (partsG S t).map hd1 = headsG S t := by
  unfold partsG
  rw [List.map_map]
  conv => rhs; rw [← List.map_id (headsG S t)]
  exact List.map_congr_left fun c hc => cls_head so (mem_headsG.mp hc).1 (mem_headsG.mp hc).2
open Classical in
theorem headsG_sorted {S : List Cell} {t : Cell → Cell → Bool} (so : S.Pairwise CLt) : (headsG S t).Pairwise CLt := so.filter _
theorem cls_ne {S : List Cell} {t : Cell → Cell → Bool} {c : Cell} (hc : c ∈ S) : cls S t c ≠ [] := fun e => by
  have := cls_self (t := t) hc
  rw [e] at this; cases this
/-- the class of its least one -/
theorem least_of {S : List Cell} {t : Cell → Cell → Bool} (ht : ∀ a b, t a b = t b a) (so : S.Pairwise CLt) {c : Cell} (hc : c ∈ S) : ∃ m, m ∈ headsG S t ∧ Cn S t c m ∧ cls S t c = cls S t m := by
  have h1 := cls_self (t := t) hc
  have h2 := cls_sorted (t := t) so c
  cases e : cls S t c with
  | nil => rw [e] at h1; cases h1
  | cons x xs =>
    have hx : x ∈ cls S t c := by rw [e]; simp
    obtain ⟨x1, x2⟩ := mem_cls.mp hx
    have ec : cls S t c = cls S t x := by
      refine sorted_ext h2 (cls_sorted so x) fun z => ?_
      rw [mem_cls, mem_cls]
      exact and_congr_right fun _ => ⟨fun r => (x2.symm ht hc).trans r, fun r => x2.trans r⟩
    refine ⟨x, mem_headsG.mpr ⟨x1, fun z hz => ?_⟩, x2, by rw [← e]; exact ec⟩
    have hz' : z ∈ cls S t c := by rw [ec]; exact mem_cls.mpr ⟨hz.mem x1, hz⟩
    rw [e] at hz' h2
    rcases List.mem_cons.mp hz' with q | q
    · subst q; exact fun q => q.ne rfl
    · exact ((List.pairwise_cons.mp h2).1 z q).asym
/-! ## the law's flats -/
def lvB (L : Land) (h : Int) : Cell → Bool := fun z => decide (hAt L z = h)
theorem flatC_lv {L : Land} {c z : Cell} : Rch L (flatC L c) c z ↔ Rch L (fun z => lvB L (hAt L c) z = true) c z := by
  have e : ∀ z b, b ∈ bes L z → (flatC L c b ↔ lvB L (hAt L c) b = true) := fun z b hb => by
    unfold flatC lvB
    rw [decide_eq_true_eq]
    exact ⟨fun h => h.2, fun h => ⟨(mem_bes.mp hb).1, h⟩⟩
  constructor
  · intro h
    induction h with
    | refl => exact .refl
    | step ha hb hg ih => exact .step ih hb ((e _ _ hb).mp hg)
  · intro h
    induction h with
    | refl => exact .refl
    | step ha hb hg ih => exact .step ih hb ((e _ _ hb).mpr hg)
theorem lv_mem {L : Land} {c : Cell} (hc : IsCell L c) : c ∈ cellsP L (lvB L (hAt L c)) := mem_cellsP.mpr ⟨hc, by unfold lvB; simp⟩
theorem flat_cls {L : Land} {c : Cell} (hc : IsCell L c) : comp L (flatC L c) c = cls (cellsP L (lvB L (hAt L c))) nearB c := by
  rw [cls_comp (lv_mem hc)]
  refine sorted_ext (comp_sorted _ _ _) (comp_sorted _ _ _) fun z => ?_
  rw [mem_comp, mem_comp, flatC_lv]
theorem flat_min {L : Land} {c : Cell} (hc : IsCell L c) : isHead L c ↔ IsMin (cellsP L (lvB L (hAt L c))) nearB c := by
  rw [head_iff hc]
  unfold IsMin
  constructor
  · intro h z hz
    exact h z (by rw [flat_cls hc]; exact mem_cls.mpr ⟨hz.mem (lv_mem hc), hz⟩)
  · intro h z hz
    rw [flat_cls hc] at hz
    exact h z (mem_cls.mp hz).2
theorem flatsOf_eq (L : Land) : flatsOf L = ((cellsOf L).filter fun c => decide (isHead L c)).map fun c => comp L (flatC L c) c := rfl
theorem mem_flatsOf {L : Land} {l : List Cell} : l ∈ flatsOf L ↔ ∃ c, IsCell L c ∧ isHead L c ∧ l = comp L (flatC L c) c := by
  unfold flatsOf
  rw [List.mem_map]
  constructor
  · rintro ⟨c, hc, rfl⟩
    obtain ⟨h1, h2⟩ := List.mem_filter.mp hc
    exact ⟨c, mem_cellsOf.mp h1, of_decide_eq_true h2, rfl⟩
  · rintro ⟨c, h1, h2, rfl⟩
    exact ⟨c, List.mem_filter.mpr ⟨mem_cellsOf.mpr h1, decide_eq_true h2⟩, rfl⟩
theorem flatsOf_heads (L : Land) : (flatsOf L).map hd1 = (cellsOf L).filter fun c => decide (isHead L c) := by
  unfold flatsOf
  rw [List.map_map]
  conv => rhs; rw [← List.map_id ((cellsOf L).filter fun c => decide (isHead L c))]
  refine List.map_congr_left fun c hc => ?_
  have := of_decide_eq_true (List.mem_filter.mp hc).2
  exact this
theorem flatsOf_ne {L : Land} {l : List Cell} (h : l ∈ flatsOf L) : l ≠ [] := by
  obtain ⟨c, h1, _, rfl⟩ := mem_flatsOf.mp h
  intro e
  have := comp_self h1
  rw [e] at this; cases this
/-- the parts of all levels -/
noncomputable def lvParts (L : Land) (hs : List Int) : List (List Cell) := hs.flatMap fun h => partsG (cellsP L (lvB L h)) nearB
theorem mem_lvParts {L : Land} {hs : List Int} {l : List Cell} : l ∈ lvParts L hs ↔ ∃ c, IsCell L c ∧ hAt L c ∈ hs ∧ isHead L c ∧ l = comp L (flatC L c) c := by
  unfold lvParts partsG
  rw [List.mem_flatMap]
  constructor
  · rintro ⟨h, hh, hl⟩
    obtain ⟨c, hc, rfl⟩ := List.mem_map.mp hl
    obtain ⟨h1, h2⟩ := mem_headsG.mp hc
    obtain ⟨h3, h4⟩ := mem_cellsP.mp h1
    have e : hAt L c = h := of_decide_eq_true h4
    subst e
    exact ⟨c, h3, hh, (flat_min h3).mpr h2, (flat_cls h3).symm⟩
  · rintro ⟨c, h1, h2, h3, rfl⟩
    exact ⟨_, h2, List.mem_map.mpr ⟨c, mem_headsG.mpr ⟨lv_mem h1, (flat_min h1).mp h3⟩, (flat_cls h1).symm⟩⟩
theorem lvParts_heads (L : Land) (hs : List Int) : (lvParts L hs).map hd1 = hs.flatMap fun h => headsG (cellsP L (lvB L h)) nearB := by
  unfold lvParts
  induction hs with
  | nil => rfl
  | cons h hs ih =>
    rw [List.flatMap_cons, List.flatMap_cons, List.map_append, parts_heads (cellsP_sorted L _), ih]
theorem lvParts_nodup {L : Land} {hs : List Int} (nd : hs.Nodup) : ((lvParts L hs).map hd1).Nodup := by
  rw [lvParts_heads]
  induction hs with
  | nil => exact List.nodup_nil
  | cons h hs ih =>
    obtain ⟨n1, n2⟩ := List.nodup_cons.mp nd
    rw [List.flatMap_cons]
    refine List.nodup_append.mpr ⟨(headsG_sorted (cellsP_sorted L _)).imp fun h => h.ne, ih n2, fun a ha b hb e => ?_⟩
    subst e
    obtain ⟨k, hk, hak⟩ := List.mem_flatMap.mp hb
    have e1 : hAt L a = h := of_decide_eq_true (mem_cellsP.mp (mem_headsG.mp ha).1).2
    have e2 : hAt L a = k := of_decide_eq_true (mem_cellsP.mp (mem_headsG.mp hak).1).2
    rw [← e1, e2] at n1
    exact n1 hk
theorem lvParts_len {L : Land} (ok : LandOk L) {hs : List Int} (nd : hs.Nodup) : (lvParts L hs).length ≤ 64 := by
  have := nodup_len _ (cellsOf L) (lvParts_nodup (L := L) nd) fun z hz => by
    rw [lvParts_heads] at hz
    obtain ⟨k, _, hk⟩ := List.mem_flatMap.mp hz
    exact mem_cellsOf.mpr (mem_cellsP.mp (mem_headsG.mp hk).1).1
  rw [List.length_map] at this
  exact Nat.le_trans this (cells64 ok)
def hsOf (L : Land) : List Int := sortSetI ((cellsOf L).map fun c => hAt L c)
theorem mem_hsOf {L : Land} {h : Int} : h ∈ hsOf L ↔ ∃ c, IsCell L c ∧ hAt L c = h := by
  unfold hsOf
  rw [mem_sortS, List.mem_map]
  exact ⟨fun ⟨c, h1, h2⟩ => ⟨c, mem_cellsOf.mp h1, h2⟩, fun ⟨c, h1, h2⟩ => ⟨c, mem_cellsOf.mpr h1, h2⟩⟩
theorem hsOf_sorted (L : Land) : (hsOf L).Pairwise (· < ·) := (sortS_sorted tri_int _).imp fun h => by unfold ltI at h; simpa using h
theorem hsOf_nodup (L : Land) : (hsOf L).Nodup := (hsOf_sorted L).imp fun h => by omega
theorem near_tot (S : List Cell) : Tot S (fun a b => Rs.ok (nearB a b)) nearB := fun a _ b _ => rfl
theorem flats_b1 {L : Land} (ok : LandOk L) (hz : (cellsOf L).length < 64) {hs : List Int} {h : Int} {made : List (List Cell)} (hm : (made ++ partsG (cellsP L (lvB L h)) nearB).length ≤ 64) : m__law_flats_b1 L h made = .ok (made ++ partsG (cellsP L (lvB L h)) nearB) := by
  unfold m__law_flats_b1
  rw [lcM_pure (lvB L h) (fun z => z) (fun z hz => by rw [gd_pos ⟨ok, mem_cellsOf.mp hz⟩]; rfl) fun z _ _ => rfl, List.map_id']
  simp only [Rs.ok_bind]
  have e := m__law_parts_eq (near_tot (cellsP L (lvB L h))) near_symm (cellsP_sorted L _) (cellsP_rg ok _) (Nat.lt_of_le_of_lt (cellsP_len L _) hz)
  unfold cellsP at e hm ⊢
  rw [e]
  simp only [Rs.ok_bind]
  rw [gd_pos (by rw [← List.length_append]; exact size64' hm)]
theorem m__law_flats_eq {L : Land} (ok : LandOk L) (hz : (cellsOf L).length < 64) : m__law_flats L = .ok (flatsOf L) := by
  have key : ∀ (hs pre : List Int), (pre ++ hs).Nodup → forM (fun (x_1 : Int) t => m__law_flats_b1 L x_1 t) hs (lvParts L pre) = .ok (lvParts L (pre ++ hs)) := fun hs => by
    induction hs with
    | nil => intro pre _; rw [List.append_nil]; rfl
    | cons h hs ih =>
      intro pre nd
      have e1 : lvParts L pre ++ partsG (cellsP L (lvB L h)) nearB = lvParts L (pre ++ [h]) := by unfold lvParts; simp
      have e2 : pre ++ h :: hs = (pre ++ [h]) ++ hs := by simp
      rw [e2] at nd ⊢
      show (m__law_flats_b1 L h (lvParts L pre)).bind _ = _
      rw [flats_b1 (hs := hs) ok hz (by rw [e1]; exact lvParts_len ok (List.nodup_append.mp nd).1), e1]
      exact ih _ nd
  unfold m__law_flats
  simp only [Rs.ok_bind]
  rw [gd_pos ok, gd_pos (size64' (cells64 ok)), lcM_map (fun c => hAt L c) fun c hc => by rw [gd_pos ⟨ok, mem_cellsOf.mp hc⟩]]
  simp only [Rs.ok_bind]
  rw [gd_pos (by rw [List.length_map]; exact hz)]
  have k := key (hsOf L) [] (by simpa using hsOf_nodup L)
  rw [List.nil_append] at k
  have k0 : lvParts L [] = [] := rfl
  rw [k0] at k
  show (forM _ (hsOf L) []).bind _ = _
  rw [k]
  simp only [Rs.ok_bind]
  rw [gd_pos (size64' (lvParts_len ok (hsOf_nodup L)))]
  congr 1
  refine sort_heads (fun l hl => ?_) (lvParts_nodup (hsOf_nodup L)) ?_ fun l => ?_
  · obtain ⟨c, h1, _, _, rfl⟩ := mem_lvParts.mp hl
    intro e
    have := comp_self h1
    rw [e] at this; cases this
  · rw [flatsOf_heads]; exact (cells_sorted L).filter _
  · rw [mem_lvParts, mem_flatsOf]
    exact ⟨fun ⟨c, h1, _, h3, h4⟩ => ⟨c, h1, h3, h4⟩, fun ⟨c, h1, h3, h4⟩ => ⟨c, h1, mem_hsOf.mpr ⟨c, h1, rfl⟩, h3, h4⟩⟩
theorem flatsOf_len {L : Land} (ok : LandOk L) : (flatsOf L).length ≤ 64 := by
  have : (flatsOf L).length = ((flatsOf L).map hd1).length := (List.length_map _).symm
  rw [this, flatsOf_heads]
  exact Nat.le_trans (List.length_filter_le _ _) (cells64 ok)
theorem m_flats_eq {L : Land} (ok : LandOk L) : m_flats L = .ok ((flatsOf L).map hd1) := by
  unfold m_flats
  rw [gd_pos ok, gd_pos (size64' (flatsOf_len ok)), lcM_map hd1 fun l hl => by rw [gd_pos (flatsOf_ne hl)]; rfl]
  rfl
theorem same_number (x y : Int) : m__law_same_number x y = .ok (decide (x = y)) := by
  unfold m__law_same_number; simp


def lowers (L : Land) (c : Cell) : List Cell := (bes L c).filter fun x => decide (hAt L x < hAt L c)
def nextF (L : Land) (c : Cell) : Option Cell := if lowers L c = [] then none else some (minL ((lowers L c).map fun x => (hAt L x, x))).2
def fallN (L : Land) : Nat → Cell → List Cell
  | 0, c => [c]
  | n + 1, c => match nextF L c with
    | none => [c]
    | some o => c :: fallN L n o
def fallL (L : Land) (c : Cell) : List Cell := fallN L (hAt L c).toNat c
theorem lowers_mem {L : Land} {c o : Cell} : o ∈ lowers L c ↔ (IsCell L o ∧ nearB c o = true) ∧ hAt L o < hAt L c := by
  unfold lowers; rw [List.mem_filter, mem_bes, decide_eq_true_eq]
theorem nextF_some {L : Land} {c o : Cell} (h : nextF L c = some o) : o ∈ lowers L c ∧ ∀ y ∈ lowers L c, hAt L o ≤ hAt L y ∧ (hAt L y = hAt L o → ¬ CLt y o) := by
  unfold nextF at h
  split at h
  · cases h
  · rename_i hne
    obtain ⟨h1, h2⟩ := minL_spec (ord_pair ord_cell) (map_ne (f := fun x => (hAt L x, x)) hne)
    obtain ⟨z, hz, e⟩ := List.mem_map.mp h1
    have eo : (minL ((lowers L c).map fun x => (hAt L x, x))).2 = o := by injection h
    rw [← e] at eo
    have ezo : z = o := eo
    subst ezo
    refine ⟨hz, fun y hy => ?_⟩
    have q := h2 _ (List.mem_map.mpr ⟨y, hy, rfl⟩)
    rw [← e, lt_pair] at q
    dsimp only at q
    split at q
    · rename_i e1
      refine ⟨by omega, fun _ hl => ?_⟩
      rw [lt_cell.mpr hl] at q; cases q
    · rename_i e1
      simp at q
      exact ⟨q, fun e2 => absurd e2 e1⟩
theorem nextF_cell {L : Land} {c o : Cell} (h : nextF L c = some o) : IsCell L o ∧ hAt L o < hAt L c := by
  have := lowers_mem.mp (nextF_some h).1
  exact ⟨this.1.1, this.2⟩
theorem fallN_big {L : Land} (ok : LandOk L) : ∀ (n m : Nat) (c : Cell), IsCell L c → (hAt L c).toNat ≤ n → (hAt L c).toNat ≤ m → fallN L n c = fallN L m c
  | 0, 0, _, _, _, _ => rfl
  | n, m, c, hc, h1, h2 => by
    cases hx : nextF L c with
    | none => cases n <;> cases m <;> simp [fallN, hx]
    | some o =>
      obtain ⟨h3, h4⟩ := nextF_cell hx
      have r1 := hAt_range ok hc
      have r2 := hAt_range ok h3
      match n, m, h1, h2 with
      | n + 1, m + 1, h1, h2 =>
        simp only [fallN, hx]
        rw [fallN_big ok n m o h3 (by omega) (by omega)]
      | 0, _, h1, h2 => omega
      | _, 0, h1, h2 => omega
theorem fall_none {L : Land} {c : Cell} (h : nextF L c = none) : fallL L c = [c] := by
  unfold fallL
  cases (hAt L c).toNat <;> simp [fallN, h]
theorem fall_some {L : Land} (ok : LandOk L) {c o : Cell} (hc : IsCell L c) (h : nextF L c = some o) : fallL L c = c :: fallL L o := by
  obtain ⟨h3, h4⟩ := nextF_cell h
  have r1 := hAt_range ok hc
  have r2 := hAt_range ok h3
  unfold fallL
  obtain ⟨k, hk⟩ : ∃ k, (hAt L c).toNat = k + 1 := ⟨(hAt L c).toNat - 1, by omega⟩
  rw [hk]
  simp only [fallN, h]
  rw [fallN_big ok k (hAt L o).toNat o h3 (by omega) (Nat.le_refl _)]
theorem next_none {L : Land} {c : Cell} (h : lowers L c = []) : nextF L c = none := by unfold nextF; rw [if_pos h]
theorem next_pick {L : Land} {c : Cell} (h : lowers L c ≠ []) : nextF L c = some (minL ((lowers L c).map fun x => (hAt L x, x))).2 := by unfold nextF; rw [if_neg h]
theorem last_snoc {pre : List Cell} {h : Cell} : (pre ++ [h]).getLastD (0, 0) = h := by simp

theorem fallN_all {L : Land} : ∀ (n : Nat) (c : Cell), IsCell L c → (∀ z ∈ fallN L n c, IsCell L z ∧ hAt L z ≤ hAt L c) ∧ (fallN L n c).Pairwise (fun a b => hAt L b < hAt L a)
  | 0, c, hc => by simp [fallN, hc]
  | n + 1, c, hc => by
    cases hx : nextF L c with
    | none => simp [fallN, hx, hc]
    | some o =>
      obtain ⟨h3, h4⟩ := nextF_cell hx
      obtain ⟨h5, h6⟩ := fallN_all n o h3
      simp only [fallN, hx]
      refine ⟨fun z hz => ?_, List.pairwise_cons.mpr ⟨fun z hz => ?_, h6⟩⟩
      · rcases List.mem_cons.mp hz with q | q
        · subst q; exact ⟨hc, Int.le_refl _⟩
        · have := h5 z q; exact ⟨this.1, by omega⟩
      · have := h5 z hz; omega
theorem fall_nodup {L : Land} {c : Cell} (hc : IsCell L c) : (fallL L c).Nodup := (fallN_all _ c hc).2.imp fun h e => by subst e; omega
theorem fall_len {L : Land} {c : Cell} (hc : IsCell L c) : (fallL L c).length ≤ (cellsOf L).length := nodup_len _ _ (fall_nodup hc) fun z hz => mem_cellsOf.mpr ((fallN_all _ c hc).1 z hz).1
theorem len49 {L : Land} (h : (nR L : Int) ≤ 7 ∧ (nC L : Int) ≤ 7) : (cellsOf L).length ≤ 49 := by
  rw [cells_length]
  exact Nat.mul_le_mul (show nR L ≤ 7 by omega) (show nC L ≤ 7 by omega)
theorem least_eq {L : Land} {c o : Cell} (h : nextF L c = some o) : minL ((lowers L c).map fun x => hAt L x) = hAt L o := by
  obtain ⟨h1, h2⟩ := nextF_some h
  obtain ⟨q1, q2⟩ := minI_spec (map_ne (f := fun x => hAt L x) (List.ne_nil_of_mem h1))
  obtain ⟨z, hz, e⟩ := List.mem_map.mp q1
  have a1 := q2 _ (List.mem_map.mpr ⟨o, h1, rfl⟩)
  have a2 := (h2 z hz).1
  rw [← e] at a1
  rw [← e]; omega
theorem next_first {L : Land} {c o : Cell} (h : nextF L c = some o) : ((lowers L c).filter fun x => decide (hAt L x = minL ((lowers L c).map fun x => hAt L x))).map (fun z => z) ≠ [] ∧ (((lowers L c).filter fun x => decide (hAt L x = minL ((lowers L c).map fun x => hAt L x))).map fun z => z).getD 0 (0, 0) = o := by
  obtain ⟨h1, h2⟩ := nextF_some h
  refine first_least ((bes_sorted L c).filter _) h1 (decide_eq_true (least_eq h).symm) fun y hy hp => (h2 y hy).2 ?_
  rw [of_decide_eq_true hp]; exact least_eq h
theorem next_of {L : Land} {c : Cell} (h : lowers L c ≠ []) : ∃ o, nextF L c = some o := ⟨_, next_pick h⟩

noncomputable def m_differences_b1 (land : Land) (x : Cell) (made_1 : List Int) : Rs (List Int) := gd (LandOk land) (gd ((bes land x).length ≤ sizeLine) ((lcM (fun (x_1 : Cell) => Rs.ok true) (fun (x_1 : Cell) => gd (LandOk land ∧ IsCell land x_1) (gd (LandOk land ∧ IsCell land x) (Rs.ok (((hAt land x_1) - (hAt land x)) : Int)))) (bes land x)).bind fun ys => gd (made_1.length + ys.length ≤ sizeLine) ((Rs.ok (made_1 ++ ys)).bind fun made_2 => Rs.ok made_2)))
noncomputable def m_differences (land : Land) (some0 : List Cell) : Rs (List Int) := (Rs.ok []).bind fun made => (forM (fun (x : Cell) t => m_differences_b1 land x t) some0 made).bind fun made_3 => Rs.ok made_3

noncomputable def m_pits (land : Land) : Rs (List Cell) := gd (LandOk land) (gd ((flatsOf land).length ≤ sizeLine) ((lcM (fun (x : List Cell) => (m_differences land x).bind fun got => gd ([0].length + got.length ≤ sizeLine) (gd (([0] ++ got) ≠ []) (Rs.ok (decide ((minL ([0] ++ got)) = 0))))) (fun (x : List Cell) => gd (x ≠ []) (Rs.ok ((x.getD 0 (0, 0)) : Cell))) (flatsOf land)).bind fun ys => Rs.ok ys))

theorem szl {n : Nat} (h : n ≤ 16777216) : n ≤ sizeLine := by rw [sizeLine_eq]; exact h
theorem szl' {n : Nat} (h : n < 16777216) : n < sizeLine := by rw [sizeLine_eq]; exact h
theorem bes_len4 (L : Land) (c : Cell) : (bes L c).length ≤ 4 := by
  rw [← bes_four]; exact Nat.le_trans (List.length_filter_le _ _) (show 4 ≤ 4 by decide)
/-! ## differences, pits -/
def diffs (L : Land) (l : List Cell) : List Int := l.flatMap fun c => (bes L c).map fun o => hAt L o - hAt L c
theorem diffs_len (L : Land) : ∀ l : List Cell, (diffs L l).length ≤ 4 * l.length
  | [] => Nat.le_refl _
  | c :: l => by
    have h1 := diffs_len L l
    have h2 := bes_len4 L c
    unfold diffs at *
    rw [List.flatMap_cons, List.length_append, List.length_map, List.length_cons]; omega
theorem differences_eq {L : Land} (ok : LandOk L) {l : List Cell} (hl : ∀ c ∈ l, IsCell L c) (hz : l.length ≤ 1000) : m_differences L l = .ok (diffs L l) := by
  have key : ∀ (r pre : List Cell), (∀ c ∈ r, IsCell L c) → (pre ++ r).length ≤ 1000 → forM (fun (x : Cell) t => m_differences_b1 L x t) r (diffs L pre) = .ok (diffs L (pre ++ r)) := fun r => by
    induction r with
    | nil => intro pre _ _; rw [List.append_nil]; rfl
    | cons c r ih =>
      intro pre hr hn
      have e1 : diffs L pre ++ (bes L c).map (fun o => hAt L o - hAt L c) = diffs L (pre ++ [c]) := by unfold diffs; simp
      have e2 : pre ++ c :: r = (pre ++ [c]) ++ r := by simp
      have hc := hr c (by simp)
      have h4 := bes_len4 L c
      have hb := diffs_len L pre
      rw [List.length_append] at hn
      have e3 : m_differences_b1 L c (diffs L pre) = .ok (diffs L (pre ++ [c])) := by
        unfold m_differences_b1
        rw [gd_pos ok, gd_pos (szl (by omega)), lcM_map (fun o => hAt L o - hAt L c) fun o ho => by rw [gd_pos ⟨ok, (mem_bes.mp ho).1⟩, gd_pos ⟨ok, hc⟩]]
        simp only [Rs.ok_bind]
        rw [gd_pos (szl (by rw [List.length_map]; omega)), e1]
      show (m_differences_b1 L c (diffs L pre)).bind _ = _
      rw [e3, e2]
      exact ih _ (fun z hz => hr z (List.mem_cons_of_mem _ hz)) (by rw [List.length_append, List.length_append]; rw [List.length_cons] at hn; show pre.length + 1 + r.length ≤ 1000; omega)
  unfold m_differences
  simp only [Rs.ok_bind]
  have k := key l [] hl (by simpa using hz)
  rw [List.nil_append] at k
  have e : diffs L [] = [] := rfl
  rw [e] at k
  rw [k]; rfl
def noLow (L : Land) (l : List Cell) : Bool := decide (minL ([0] ++ diffs L l) = 0)
theorem noLow_iff {L : Land} {l : List Cell} : noLow L l = true ↔ ∀ c ∈ l, ∀ o ∈ bes L c, hAt L c ≤ hAt L o := by
  unfold noLow
  rw [decide_eq_true_eq]
  obtain ⟨h1, h2⟩ := minI_spec (xs := [0] ++ diffs L l) (by simp)
  constructor
  · intro e c hc o ho
    have := h2 (hAt L o - hAt L c) (by
      refine List.mem_append.mpr (.inr ?_)
      unfold diffs
      exact List.mem_flatMap.mpr ⟨c, hc, List.mem_map.mpr ⟨o, ho, rfl⟩⟩)
    omega
  · intro h
    have h0 := h2 0 (by simp)
    rcases List.mem_append.mp h1 with q | q
    · simpa using q
    · unfold diffs at q
      obtain ⟨c, hc, q⟩ := List.mem_flatMap.mp q
      obtain ⟨o, ho, q⟩ := List.mem_map.mp q
      have := h c hc o ho
      unfold diffs at *
      omega
theorem flat_cells {L : Land} {l : List Cell} (h : l ∈ flatsOf L) : (∀ c ∈ l, IsCell L c) ∧ l.length ≤ (cellsOf L).length := by
  obtain ⟨c, _, _, rfl⟩ := mem_flatsOf.mp h
  exact ⟨fun z hz => (mem_comp.mp hz).1, List.length_filter_le _ _⟩
theorem m_pits_eq {L : Land} (ok : LandOk L) : m_pits L = .ok (((flatsOf L).filter (noLow L)).map hd1) := by
  unfold m_pits
  rw [gd_pos ok, gd_pos (size64' (flatsOf_len ok))]
  rw [lcM_pure (noLow L) hd1 (fun l hl => by
    obtain ⟨h1, h2⟩ := flat_cells hl
    have h64 := cells64 ok
    have hd := diffs_len L l
    rw [differences_eq ok h1 (by omega)]
    simp only [Rs.ok_bind]
    rw [gd_pos (szl (by show 1 + _ ≤ _; omega)), gd_pos (by simp)]
    rfl) fun l hl _ => by rw [gd_pos (flatsOf_ne hl)]; rfl]
  rfl

noncomputable def m_peaks_of (land : Land) : Rs (List Cell) := gd (LandOk land) (gd ((flatsOf land).length ≤ sizeLine) ((lcM (fun (x : List Cell) => (m_differences land x).bind fun some0 => gd ([0].length + some0.length ≤ sizeLine) (gd (([0] ++ some0) ≠ []) (Rs.ok (decide ((maxL ([0] ++ some0)) = 0))))) (fun (x : List Cell) => gd (x ≠ []) (Rs.ok ((x.getD 0 (0, 0)) : Cell))) (flatsOf land)).bind fun some0_1 => gd (some0_1.length ≤ sizeLine) ((skM (fun (x_1 : Cell) => gd (LandOk land ∧ IsCell land x_1) (Rs.ok (((0 - (hAt land x_1)), x_1) : Int × Cell))) some0_1).bind fun ys => Rs.ok ys)))

noncomputable def m_peaks (land : Land) : Rs (List Cell) := gd (LandOk land) ((m_peaks_of land).bind fun got => Rs.ok got)

noncomputable def m__law_ends_b2 (land_here : Land) (sign : Int) (x_1 : Cell) (more_1 : List Int) : Rs (List Int) := gd (LandOk land_here) (gd ((bes land_here x_1).length ≤ sizeLine) ((lcM (fun (x_2 : Cell) => Rs.ok true) (fun (x_2 : Cell) => gd (LandOk land_here ∧ IsCell land_here x_2) (gd (LandOk land_here ∧ IsCell land_here x_1) (gd (CMul sign ((hAt land_here x_2) - (hAt land_here x_1))) (Rs.ok ((sign * ((hAt land_here x_2) - (hAt land_here x_1))) : Int))))) (bes land_here x_1)).bind fun ys => gd (more_1.length + ys.length ≤ sizeLine) ((Rs.ok (more_1 ++ ys)).bind fun more_2 => Rs.ok more_2)))
noncomputable def m__law_ends_b1 (land_here : Land) (sign : Int) (x : List Cell) (made_1 : List Cell) : Rs (List Cell) := (Rs.ok []).bind fun more => (forM (fun (x_1 : Cell) t => m__law_ends_b2 land_here sign x_1 t) x more).bind fun more_3 => gd (more_3.length ≤ sizeLine) (if (decide (((more_3.filter (fun (x_3 : Int) => (decide (0 < x_3)))).map (fun (x_3 : Int) => (x_3 : Int))) = [])) = true then gd (x ≠ []) (gd (made_1.length < sizeLine) ((Rs.ok (made_1 ++ [(x.getD 0 (0, 0))])).bind fun made_2 => Rs.ok made_2)) else Rs.ok made_1)
noncomputable def m__law_ends (land_here : Land) (sign : Int) : Rs (List Cell) := (Rs.ok []).bind fun made => (m__law_flats land_here).bind fun got => (forM (fun (x : List Cell) t => m__law_ends_b1 land_here sign x t) got made).bind fun made_3 => Rs.ok made_3

noncomputable def m__law_peaks (land_here : Land) : Rs (List Cell) := (m__law_ends land_here 1).bind fun some0 => gd (some0.length ≤ sizeLine) ((lcM (fun (x : Cell) => Rs.ok true) (fun (x : Cell) => gd (LandOk land_here ∧ IsCell land_here x) (Rs.ok (((0 - (hAt land_here x)), x) : Int × Cell))) some0).bind fun some0_1 => gd (some0_1.length ≤ sizeLine) ((Rs.ok (some0_1.mergeSort (leOf (Int × Cell)))).bind fun some0_2 => gd (some0_2.length ≤ sizeLine) (Rs.ok (some0_2.map (fun (x_1 : Int × Cell) => (x_1.2 : Cell))))))

/-! # peaks -/
theorem ltI_iff {x y : Int} : DatumOrd.lt x y = true ↔ x < y := by show decide (x < y) = true ↔ _; exact decide_eq_true_iff
/-- no neighbour lies above (below, by the sign) -/
def endB (s : Int) (L : Land) (l : List Cell) : Bool := (diffs L l).all fun d => decide (s * d ≤ 0)
noncomputable def endsG (s : Int) (L : Land) : List Cell := ((flatsOf L).filter (endB s L)).map hd1
theorem mem_diffs {L : Land} {l : List Cell} {d : Int} : d ∈ diffs L l ↔ ∃ c ∈ l, ∃ o ∈ bes L c, hAt L o - hAt L c = d := by
  unfold diffs
  rw [List.mem_flatMap]
  constructor
  · rintro ⟨c, hc, q⟩
    obtain ⟨o, ho, q⟩ := List.mem_map.mp q
    exact ⟨c, hc, o, ho, q⟩
  · rintro ⟨c, hc, o, ho, q⟩
    exact ⟨c, hc, List.mem_map.mpr ⟨o, ho, q⟩⟩
theorem endB_iff {s : Int} {L : Land} {l : List Cell} : endB s L l = true ↔ ∀ d ∈ diffs L l, s * d ≤ 0 := by
  unfold endB
  rw [List.all_eq_true]
  simp
theorem max_end {L : Land} {l : List Cell} : decide (maxL ([0] ++ diffs L l) = 0) = endB 1 L l := by
  rw [Bool.eq_iff_iff, decide_eq_true_eq, endB_iff]
  obtain ⟨h1, h2⟩ := maxI_spec (xs := [0] ++ diffs L l) (by simp)
  constructor
  · intro e d hd
    have := h2 d (List.mem_append.mpr (.inr hd))
    omega
  · intro h
    have h0 := h2 0 (by simp)
    rcases List.mem_append.mp h1 with q | q
    · simpa using q
    · have := h _ q
      omega
theorem flat_head {L : Land} {l : List Cell} (h : l ∈ flatsOf L) : hd1 l ∈ l := by
  have := flatsOf_ne h
  cases l with
  | nil => exact absurd rfl this
  | cons x xs => exact List.mem_cons_self ..
theorem endsG_cell {s : Int} {L : Land} {c : Cell} (h : c ∈ endsG s L) : IsCell L c := by
  obtain ⟨l, hl, rfl⟩ := List.mem_map.mp h
  have hl := (List.mem_filter.mp hl).1
  exact (flat_cells hl).1 _ (flat_head hl)
theorem endsG_sub {s : Int} {L : Land} : (endsG s L).Sublist ((flatsOf L).map hd1) := by
  unfold endsG
  exact List.Sublist.map _ List.filter_sublist
theorem endsG_sorted {s : Int} {L : Land} : (endsG s L).Pairwise CLt := by
  refine List.Pairwise.sublist endsG_sub ?_
  rw [flatsOf_heads]
  exact (cells_sorted L).filter _
theorem endsG_nodup {s : Int} {L : Land} : (endsG s L).Nodup := endsG_sorted.imp fun h => h.ne
theorem endsG_len {s : Int} {L : Land} (ok : LandOk L) : (endsG s L).length ≤ 64 := Nat.le_trans (Nat.le_trans endsG_sub.length_le (by rw [List.length_map]; exact Nat.le_refl _)) (flatsOf_len ok)
/-- the law's ends -/
theorem ends_b2 {L : Land} (ok : LandOk L) {s : Int} (hs : s = 1 ∨ s = -1) {c : Cell} (hc : IsCell L c) {more : List Int} (hz : more.length ≤ 1000) : m__law_ends_b2 L s c more = .ok (more ++ (bes L c).map fun o => s * (hAt L o - hAt L c)) := by
  have h4 := bes_len4 L c
  unfold m__law_ends_b2
  rw [gd_pos ok, gd_pos (szl (by omega)), lcM_map (fun o => s * (hAt L o - hAt L c)) fun o ho => by
    rw [gd_pos ⟨ok, (List.mem_filter.mp ho).1 |> mem_cellsOf.mp⟩, gd_pos ⟨ok, hc⟩, gd_pos (show CMul _ _ from Or.inl ⟨by omega, by omega⟩)]]
  simp only [Rs.ok_bind]
  rw [gd_pos (szl (by rw [List.length_map]; omega))]
theorem ends_b1 {L : Land} (ok : LandOk L) {s : Int} (hs : s = 1 ∨ s = -1) {l : List Cell} (hl : l ∈ flatsOf L) {made : List Cell} (hm : made.length < 64) : m__law_ends_b1 L s l made = .ok (if endB s L l = true then made ++ [hd1 l] else made) := by
  obtain ⟨h1, h2⟩ := flat_cells hl
  have h64 := cells64 ok
  have key : ∀ (xs : List Cell) (more : List Int), (∀ c ∈ xs, IsCell L c) → more.length + 4 * xs.length ≤ 1000 → forM (fun (x_1 : Cell) t => m__law_ends_b2 L s x_1 t) xs more = .ok (more ++ (diffs L xs).map fun d => s * d) := fun xs => by
    induction xs with
    | nil => intro more _ _; show Rs.ok more = _; unfold diffs; simp
    | cons x xs ih =>
      intro more hc hz
      have h4 := bes_len4 L x
      rw [List.length_cons] at hz
      show (m__law_ends_b2 L s x more).bind _ = _
      rw [ends_b2 ok hs (hc x (by simp)) (by omega)]
      show forM _ xs _ = _
      rw [ih _ (fun c h => hc c (List.mem_cons_of_mem _ h)) (by rw [List.length_append, List.length_map]; omega)]
      unfold diffs
      rw [List.flatMap_cons, List.map_append, List.map_map, List.append_assoc]
      rfl
  unfold m__law_ends_b1
  simp only [Rs.ok_bind]
  rw [key l [] h1 (by simp; omega)]
  simp only [Rs.ok_bind, List.nil_append]
  have hd := diffs_len L l
  rw [gd_pos (szl (by rw [List.length_map]; omega))]
  have e : decide ((((diffs L l).map fun d => s * d).filter (fun (x_3 : Int) => decide (0 < x_3))).map (fun (x_3 : Int) => (x_3 : Int)) = []) = endB s L l := by
    rw [Bool.eq_iff_iff, decide_eq_true_eq, endB_iff, List.map_eq_nil_iff, List.filter_eq_nil_iff]
    simp only [List.forall_mem_map, decide_eq_true_eq, Int.not_lt]
  rw [e]
  by_cases q : endB s L l = true
  · rw [if_pos q, if_pos q, gd_pos (flatsOf_ne hl), gd_pos (size64 (by omega))]; rfl
  · rw [if_neg q, if_neg q]
theorem law_ends_eq {L : Land} (ok : LandOk L) (hz : (cellsOf L).length < 64) {s : Int} (hs : s = 1 ∨ s = -1) : m__law_ends L s = .ok (endsG s L) := by
  have hfl : (flatsOf L).length < 64 := by
    have : (flatsOf L).length ≤ (cellsOf L).length := by
      have e := congrArg List.length (flatsOf_heads L)
      rw [List.length_map] at e
      rw [e]
      exact List.length_filter_le _ _
    omega
  have key : ∀ (ls : List (List Cell)) (made : List Cell), (∀ l ∈ ls, l ∈ flatsOf L) → made.length + ls.length ≤ 64 → forM (fun (x : List Cell) t => m__law_ends_b1 L s x t) ls made = .ok (made ++ (ls.filter (endB s L)).map hd1) := fun ls => by
    induction ls with
    | nil => intro made _ _; show Rs.ok made = _; simp
    | cons l ls ih =>
      intro made h hm
      rw [List.length_cons] at hm
      show (m__law_ends_b1 L s l made).bind _ = _
      rw [ends_b1 ok hs (h l (by simp)) (by omega)]
      show forM _ ls _ = _
      by_cases q : endB s L l = true
      · rw [if_pos q, ih _ (fun m hm => h m (List.mem_cons_of_mem _ hm)) (by rw [List.length_append]; simp; omega), List.filter_cons, if_pos q, List.map_cons, List.append_assoc]; rfl
      · rw [if_neg q, ih _ (fun m hm => h m (List.mem_cons_of_mem _ hm)) (by omega), List.filter_cons, if_neg q]
  unfold m__law_ends
  simp only [Rs.ok_bind]
  rw [m__law_flats_eq ok hz]
  simp only [Rs.ok_bind]
  rw [key _ [] (fun l h => h) (by simp; omega)]
  rfl
/-- a lies above b: higher, or as high and ahead -/
def Abv (L : Land) (a b : Cell) : Prop := hAt L b < hAt L a ∨ (hAt L a = hAt L b ∧ CLt a b)
theorem Abv.ir (L : Land) (a : Cell) : ¬ Abv L a a := fun h => by
  rcases h with q | ⟨_, q⟩
  · omega
  · exact q.ne rfl
theorem Abv.tr {L : Land} {a b c : Cell} (h1 : Abv L a b) (h2 : Abv L b c) : Abv L a c := by
  unfold Abv CLt at *; omega
theorem not_abv {L : Land} {a b : Cell} (h : DatumOrd.lt ((0 - hAt L b, b) : Int × Cell) (0 - hAt L a, a) = false) (ne : a ≠ b) : Abv L a b := by
  rw [lt_pair] at h
  dsimp only at h
  unfold Abv
  split at h
  · rename_i e
    refine .inr ⟨by omega, ?_⟩
    have : ¬ CLt b a := fun q => by rw [lt_cell.mpr q] at h; cases h
    by_cases q : CLt a b
    · exact q
    · exact absurd (CLt.tri q this) ne
  · rename_i e
    simp at h
    exact .inl (by omega)
noncomputable def peaksG (L : Land) : List Cell := (((endsG 1 L).map fun x => ((0 - hAt L x, x) : Int × Cell)).mergeSort (leOf (Int × Cell))).map (·.2)
theorem peaksG_perm (L : Land) : (peaksG L).Perm (endsG 1 L) := by
  unfold peaksG
  have h := (List.mergeSort_perm ((endsG 1 L).map fun x => ((0 - hAt L x, x) : Int × Cell)) (leOf (Int × Cell))).map (·.2)
  rw [List.map_map] at h
  exact h.trans (List.Perm.of_eq (List.map_id' _))
theorem mem_peaksG {L : Land} {c : Cell} : c ∈ peaksG L ↔ c ∈ endsG 1 L := (peaksG_perm L).mem_iff
theorem peaksG_nodup (L : Land) : (peaksG L).Nodup := (peaksG_perm L).nodup_iff.mpr endsG_nodup
theorem peaksG_cell {L : Land} {c : Cell} (h : c ∈ peaksG L) : IsCell L c := endsG_cell (mem_peaksG.mp h)
theorem peaksG_len {L : Land} (ok : LandOk L) : (peaksG L).length ≤ 64 := by rw [(peaksG_perm L).length_eq]; exact endsG_len ok
theorem peaksG_sorted (L : Land) : (peaksG L).Pairwise (Abv L) := by
  have nd := peaksG_nodup L
  have h : (peaksG L).Pairwise fun a b => DatumOrd.lt ((0 - hAt L b, b) : Int × Cell) (0 - hAt L a, a) = false := by
    unfold peaksG
    rw [List.pairwise_map]
    refine (sort_pw (ord_pair ord_cell) _).imp_of_mem fun {a b} ha hb q => ?_
    obtain ⟨x, _, rfl⟩ := List.mem_map.mp ((List.mergeSort_perm _ _).mem_iff.mp ha)
    obtain ⟨y, _, rfl⟩ := List.mem_map.mp ((List.mergeSort_perm _ _).mem_iff.mp hb)
    exact q
  exact (h.and nd).imp fun {a b} h => not_abv h.1 h.2
theorem law_peaks_eq {L : Land} (ok : LandOk L) (hz : (cellsOf L).length < 64) : m__law_peaks L = .ok (peaksG L) := by
  have hl := endsG_len (s := 1) ok
  unfold m__law_peaks
  rw [law_ends_eq ok hz (.inl rfl)]
  simp only [Rs.ok_bind]
  rw [gd_pos (size64' hl), lcM_map (fun x => ((0 - hAt L x, x) : Int × Cell)) fun x hx => by rw [gd_pos ⟨ok, endsG_cell hx⟩]]
  simp only [Rs.ok_bind]
  rw [gd_pos (size64' (by rw [List.length_map]; exact hl)), gd_pos (size64' (by rw [List.length_mergeSort, List.length_map]; exact hl))]
  rfl
theorem peaks_of_eq {L : Land} (ok : LandOk L) : m_peaks_of L = .ok (peaksG L) := by
  unfold m_peaks_of
  rw [gd_pos ok, gd_pos (size64' (flatsOf_len ok)), lcM_pure (endB 1 L) hd1 (fun l hl => by
    obtain ⟨h1, h2⟩ := flat_cells hl
    have h64 := cells64 ok
    have hd := diffs_len L l
    rw [differences_eq ok h1 (by omega)]
    simp only [Rs.ok_bind]
    rw [gd_pos (szl (by show 1 + _ ≤ _; omega)), gd_pos (by simp), max_end]) (fun l hl _ => by rw [gd_pos (flatsOf_ne hl)]; rfl)]
  simp only [Rs.ok_bind]
  have hl : (((flatsOf L).filter (endB 1 L)).map hd1).length ≤ 64 := endsG_len ok
  rw [gd_pos (size64' hl)]
  obtain ⟨ys, e, pm, pw⟩ := skM_spec (ord_pair ord_cell) (f := fun (x_1 : Cell) => gd (LandOk L ∧ IsCell L x_1) (Rs.ok (((0 - (hAt L x_1)), x_1) : Int × Cell))) (xs := endsG 1 L) (fun x => ((0 - hAt L x, x) : Int × Cell)) fun x hx => by rw [gd_pos ⟨ok, endsG_cell hx⟩]
  have nd : ys.Nodup := pm.nodup_iff.mpr endsG_nodup
  have ey : ys = peaksG L := pw_ext (R := Abv L) (Abv.ir L) (fun a b c => Abv.tr) ((pw.and nd).imp fun {a b} h => not_abv h.1 h.2) (peaksG_sorted L) fun z => by rw [pm.mem_iff, mem_peaksG]
  show ((skM _ (endsG 1 L)).bind _) = _
  rw [e, ey]; rfl
theorem peaks_eq {L : Land} (ok : LandOk L) : m_peaks L = .ok (peaksG L) := by
  unfold m_peaks
  rw [gd_pos ok, peaks_of_eq ok]; rfl

noncomputable def m_land_at (land : Land) (level : Int) : Rs (List (Cell × Bool)) := gd (LandOk land) (gd ((cellsOf land).length ≤ sizeLine) ((lcM (fun (x : Cell) => gd (LandOk land ∧ IsCell land x) (Rs.ok (decide (level ≤ (hAt land x))))) (fun (x : Cell) => Rs.ok ((x, true) : Cell × Bool)) (cellsOf land)).bind fun ys => gd ((ys.map (·.1)).Nodup) (Rs.ok ys)))

noncomputable def m_pass_of_b1 (land : Land) (one : Cell) (other : Cell) (x_1 : Int) : Rs (Ct (Unit) (Int)) := (m_land_at land x_1).bind fun got => gd (LandOk land ∧ IsCell land one ∧ (got).length ≤ 1000) (if (inL other (comp land (fun z => inK got z = true) one)) = true then Rs.ok (Ct.rt x_1) else Rs.ok (Ct.nx ()))
noncomputable def m_pass_of (land : Land) (one : Cell) (other : Cell) : Rs (Int) := gd (LandOk land) (gd ((cellsOf land).length ≤ sizeLine) ((lcM (fun (x : Cell) => gd (LandOk land ∧ IsCell land x) (gd (LandOk land ∧ IsCell land one) (Rs.ok (decide ((hAt land x) ≤ (hAt land one)))))) (fun (x : Cell) => gd (LandOk land ∧ IsCell land x) (Rs.ok ((hAt land x) : Int))) (cellsOf land)).bind fun levels => gd (levels.length < 64) ((Rs.ok (sortSetI levels)).bind fun levels_1 => (forC (fun (x_1 : Int) t => m_pass_of_b1 land one other x_1) levels_1.reverse ()).bind fun o => o.go (fun _ => Rs.ok 0) (fun rz => Rs.ok rz))))

noncomputable def m_pass_between (land : Land) (one : Cell) (other : Cell) : Rs (Int) := gd (LandOk land ∧ IsCell land one) (gd (LandOk land ∧ IsCell land other) ((m_pass_of land one other).bind fun got => Rs.ok got))

noncomputable def m_parts_of_b1 (land : Land) (good : List (Cell × Bool)) (x : Cell) (made_1 : List (List Cell)) (seen_1 : List (Cell × Bool)) : Rs ((List (List Cell)) × (List (Cell × Bool))) := if (!inK seen_1 x) = true then gd (LandOk land ∧ IsCell land x ∧ (good).length ≤ 1000) (gd (made_1.length < sizeLine) ((Rs.ok (made_1 ++ [(comp land (fun z => inK good z = true) x)])).bind fun made_2 => gd (made_2 ≠ []) (gd ((made_2.getLastD []).length ≤ sizeLine) (gd ((((made_2.getLastD []).map (fun (x_1 : Cell) => ((x_1, true) : Cell × Bool))).map (·.1)).Nodup) (gd (seen_1.length + ((made_2.getLastD []).map (fun (x_1 : Cell) => ((x_1, true) : Cell × Bool))).length ≤ sizeLine) (gd (∀ q ∈ ((made_2.getLastD []).map (fun (x_1 : Cell) => ((x_1, true) : Cell × Bool))), (0 ≤ q.1.1 ∧ q.1.1 < 8) ∧ 0 ≤ q.1.2 ∧ q.1.2 < 8) ((Rs.ok (mergeP seen_1 ((made_2.getLastD []).map (fun (x_1 : Cell) => ((x_1, true) : Cell × Bool))))).bind fun seen_2 => Rs.ok (made_2, seen_2)))))))) else Rs.ok (made_1, seen_1)
noncomputable def m_parts_of (land : Land) (good : List (Cell × Bool)) : Rs (List (List Cell)) := (Rs.ok []).bind fun made => (Rs.ok []).bind fun seen => gd ((good.map (·.1)).length ≤ sizeLine) ((forM (fun (x : Cell) t => m_parts_of_b1 land good x t.1 t.2) ((good.map (·.1)).mergeSort (leOf Cell)) (made, seen)).bind fun (made_3, seen_3) => Rs.ok made_3)

noncomputable def m_need_level (land : Land) (level : Int) : Rs (Unit) := gd (LandOk land) (if (!(m_whole level 0 999)) = true then Rs.ex "NoLevel" .none else Rs.ok ())

noncomputable def m_islands_of (land : Land) (level : Int) : Rs (List (List Cell)) := (m_land_at land level).bind fun got => (m_parts_of land got).bind fun got_1 => Rs.ok got_1

noncomputable def m_islands (land : Land) (level : Int) : Rs (List (List Cell)) := (m_need_level land level).bind fun got => (m_islands_of land level).bind fun got_1 => Rs.ok got_1

noncomputable def m__law_passes_b2 (land_here : Land) (x : Cell) (best_2 : List (Cell × Int)) (going_3 : Bool) : Rs ((List (Cell × Int)) × Bool) := gd ((bes land_here x).length ≤ sizeLine) ((lcM (fun (x_1 : Cell) => Rs.ok (inK best_2 x_1)) (fun (x_1 : Cell) => (ofO (getK best_2 x_1)).bind fun y => gd (LandOk land_here ∧ IsCell land_here x) (Rs.ok ((minI y (hAt land_here x)) : Int))) (bes land_here x)).bind fun some0 => (if (decide (some0 ≠ [])) = true then gd (some0 ≠ []) (Rs.ok (decide (((getK best_2 x).getD (-1)) < (maxL some0)))) else Rs.ok false).bind fun v => if v = true then gd (some0 ≠ []) (gd (best_2.length < sizeLine) ((Rs.ok (putP best_2 x (maxL some0))).bind fun best_3 => Rs.ok (best_3, true))) else Rs.ok (best_2, going_3))
noncomputable def m__law_passes_b1 (land_here : Land) (going_1 : Bool) (best_1 : List (Cell × Int)) : Rs (Bool × (List (Cell × Int))) := (Rs.ok false).bind fun going_2 => gd (LandOk land_here) ((forM (fun (x : Cell) t => m__law_passes_b2 land_here x t.1 t.2) (cellsOf land_here) (best_1, going_2)).bind fun (best_4, going_4) => Rs.ok (going_4, best_4))
noncomputable def m__law_passes_b1_c (going_1 : Bool) (best_1 : List (Cell × Int)) : Rs Bool := Rs.ok going_1
noncomputable def m__law_passes (land_here : Land) (one : Cell) : Rs (List (Cell × Int)) := gd (LandOk land_here ∧ IsCell land_here one) ((Rs.ok [(one, (hAt land_here one))]).bind fun best => (Rs.ok true).bind fun going => (whM (fun t => m__law_passes_b1_c t.1 t.2) (fun t => m__law_passes_b1 land_here t.1 t.2) 1000000 (going, best)).bind fun (going_5, best_5) => Rs.ok best_5)

theorem szl5 {n : Nat} (h : n ≤ 16777216) : n ≤ sizeLine := by rw [sizeLine_eq]; exact h
/-! ## ways no lower than a height -/
def hiB (L : Land) (h : Int) : Cell → Bool := fun z => decide (h ≤ hAt L z)
/-- one comes from a to b by cells at least so high -/
def Hg (L : Land) (h : Int) (a b : Cell) : Prop := hiB L h a = true ∧ Rch L (fun z => hiB L h z = true) a b
theorem hiB_iff {L : Land} {h : Int} {z : Cell} : hiB L h z = true ↔ h ≤ hAt L z := by unfold hiB; exact decide_eq_true_iff
theorem Rch.mono {L : Land} {g g' : Cell → Prop} (hg : ∀ z, g z → g' z) {a b : Cell} (h : Rch L g a b) : Rch L g' a b := by
  induction h with
  | refl => exact .refl
  | step _ hb hz ih => exact .step ih hb (hg _ hz)
theorem Hg.mono {L : Land} {h h' : Int} (l : h' ≤ h) {a b : Cell} (r : Hg L h a b) : Hg L h' a b :=
  ⟨hiB_iff.mpr (Int.le_trans l (hiB_iff.mp r.1)), r.2.mono fun z hz => hiB_iff.mpr (Int.le_trans l (hiB_iff.mp hz))⟩
theorem Hg.cell {L : Land} {h : Int} {a b : Cell} (ha : IsCell L a) (r : Hg L h a b) : IsCell L b ∧ h ≤ hAt L b := by
  obtain ⟨h1, h2⟩ := r.2.good ⟨ha, r.1⟩
  exact ⟨h1, hiB_iff.mp h2⟩
theorem Hg.symm {L : Land} {h : Int} {a b : Cell} (ha : IsCell L a) (r : Hg L h a b) : Hg L h b a :=
  ⟨hiB_iff.mpr (r.cell ha).2, r.2.symm ⟨ha, r.1⟩⟩
theorem Hg.trans {L : Land} {h : Int} {a b c : Cell} (r : Hg L h a b) (q : Hg L h b c) : Hg L h a c := ⟨r.1, r.2.trans q.2⟩
theorem Hg.refl {L : Land} {h : Int} {a : Cell} (l : h ≤ hAt L a) : Hg L h a a := ⟨hiB_iff.mpr l, .refl⟩
theorem Hg.step {L : Land} {h : Int} {a b c : Cell} (r : Hg L h a b) (hb : c ∈ bes L b) (l : h ≤ hAt L c) : Hg L h a c := ⟨r.1, .step r.2 hb (hiB_iff.mpr l)⟩
/-- the lowest height of a way -/
theorem Hg.low {L : Land} {h : Int} {a b : Cell} (ha : IsCell L a) (r : Hg L h a b) : ∃ c, IsCell L c ∧ h ≤ hAt L c ∧ hAt L c ≤ hAt L a ∧ Hg L (hAt L c) a b := by
  obtain ⟨h1, h2⟩ := r
  induction h2 with
  | refl => exact ⟨a, ha, hiB_iff.mp h1, Int.le_refl _, Hg.refl (Int.le_refl _)⟩
  | @step x y hx hy hg ih =>
    obtain ⟨c, c1, c2, c3, c4⟩ := ih
    have hyc := (mem_bes.mp hy).1
    have hyh := hiB_iff.mp hg
    by_cases q : hAt L c ≤ hAt L y
    · exact ⟨c, c1, c2, c3, c4.step hy q⟩
    · exact ⟨y, hyc, hyh, by omega, (c4.mono (by omega)).step hy (Int.le_refl _)⟩
/-! all cells hang together -/
theorem rch_all {L : Land} {g : Cell → Prop} (hg : ∀ z, IsCell L z → g z) {a : Cell} (ha : IsCell L a) : ∀ (n : Nat) (b : Cell), IsCell L b → (a.1 - b.1).natAbs + (a.2 - b.2).natAbs = n → Rch L g a b := fun n => by
  induction n with
  | zero =>
    intro b hb e
    have : b = a := Prod.ext (by omega) (by omega)
    subst this; exact .refl
  | succ n ih =>
    intro b hb e
    have key : ∀ c : Cell, IsCell L c → nearB c b = true → (a.1 - c.1).natAbs + (a.2 - c.2).natAbs = n → Rch L g a b := fun c hc hn he => .step (ih c hc he) (mem_bes.mpr ⟨hb, hn⟩) (hg b hb)
    unfold IsCell at ha hb
    by_cases q1 : a.1 < b.1
    · exact key (b.1 - 1, b.2) (by unfold IsCell; dsimp only; omega) (by unfold nearB; rw [decide_eq_true_eq, absI_eq, absI_eq]; dsimp only; omega) (by dsimp only; omega)
    · by_cases q2 : b.1 < a.1
      · exact key (b.1 + 1, b.2) (by unfold IsCell; dsimp only; omega) (by unfold nearB; rw [decide_eq_true_eq, absI_eq, absI_eq]; dsimp only; omega) (by dsimp only; omega)
      · by_cases q3 : a.2 < b.2
        · exact key (b.1, b.2 - 1) (by unfold IsCell; dsimp only; omega) (by unfold nearB; rw [decide_eq_true_eq, absI_eq, absI_eq]; dsimp only; omega) (by dsimp only; omega)
        · exact key (b.1, b.2 + 1) (by unfold IsCell; dsimp only; omega) (by unfold nearB; rw [decide_eq_true_eq, absI_eq, absI_eq]; dsimp only; omega) (by dsimp only; omega)
theorem all_together {L : Land} {a b : Cell} (ha : IsCell L a) (hb : IsCell L b) {h : Int} (hl : ∀ z, IsCell L z → h ≤ hAt L z) : Hg L h a b :=
  ⟨hiB_iff.mpr (hl a ha), rch_all (fun z hz => hiB_iff.mpr (hl z hz)) ha _ b hb rfl⟩
theorem low_cell {L : Land} (ok : LandOk L) : ∃ c, IsCell L c ∧ ∀ z, IsCell L z → hAt L c ≤ hAt L z := by
  obtain ⟨h1, h2⟩ := minI_spec (xs := (cellsOf L).map fun c => hAt L c) (map_ne (cells_ne ok))
  obtain ⟨c, hc, e⟩ := List.mem_map.mp h1
  exact ⟨c, mem_cellsOf.mp hc, fun z hz => by rw [e]; exact h2 _ (List.mem_map.mpr ⟨z, mem_cellsOf.mpr hz, rfl⟩)⟩
/-- the pass -/
def IsPass (L : Land) (a b : Cell) (h : Int) : Prop := Hg L h a b ∧ ∀ h', Hg L h' a b → h' ≤ h
theorem IsPass.uniq {L : Land} {a b : Cell} {h h' : Int} (p : IsPass L a b h) (q : IsPass L a b h') : h = h' := by
  have := p.2 _ q.1
  have := q.2 _ p.1
  omega
theorem IsPass.symm {L : Land} {a b : Cell} {h : Int} (ha : IsCell L a) (hb : IsCell L b) (p : IsPass L a b h) : IsPass L b a h := ⟨p.1.symm ha, fun h' r => p.2 _ (r.symm hb)⟩
theorem IsPass.self {L : Land} {a : Cell} : IsPass L a a (hAt L a) := ⟨Hg.refl (Int.le_refl _), fun h' r => hiB_iff.mp r.1⟩
/-! ## land_at, pass_of -/
def goodAt (L : Land) (h : Int) : List (Cell × Bool) := (cellsP L (hiB L h)).map fun x => (x, true)
theorem land_at_eq {L : Land} (ok : LandOk L) (h : Int) : m_land_at L h = .ok (goodAt L h) := by
  unfold m_land_at
  rw [gd_pos ok, gd_pos (size64' (cells64 ok)), lcM_pure (hiB L h) (fun x => (x, true)) (fun x hx => by rw [gd_pos ⟨ok, mem_cellsOf.mp hx⟩]; rfl) fun x _ _ => rfl]
  simp only [Rs.ok_bind]
  have e := good_nodup ((cellsP_sorted L (hiB L h)).imp fun h => h.ne)
  unfold cellsP at e
  rw [gd_pos e]
  rfl
theorem good_goodAt {L : Land} {h : Int} {z : Cell} : inK (goodAt L h) z = true ↔ IsCell L z ∧ hiB L h z = true := by
  unfold goodAt; rw [good_in, mem_cellsP]
theorem goodAt_len {L : Land} (ok : LandOk L) (h : Int) : (goodAt L h).length ≤ 64 := by
  unfold goodAt; rw [List.length_map]; exact Nat.le_trans (cellsP_len L _) (cells64 ok)
theorem rch_goodAt {L : Land} {h : Int} {a b : Cell} : Rch L (fun z => inK (goodAt L h) z = true) a b ↔ Rch L (fun z => hiB L h z = true) a b := by
  constructor
  · exact fun r => r.mono fun z hz => (good_goodAt.mp hz).2
  · intro r
    induction r with
    | refl => exact .refl
    | step _ hb hz ih => exact .step ih hb (good_goodAt.mpr ⟨(mem_bes.mp hb).1, hz⟩)
theorem comp_goodAt (L : Land) (h : Int) (a : Cell) : comp L (fun z => inK (goodAt L h) z = true) a = comp L (fun z => hiB L h z = true) a :=
  sorted_ext (comp_sorted _ _ _) (comp_sorted _ _ _) fun z => by rw [mem_comp, mem_comp, rch_goodAt]
theorem in_comp {L : Land} {h : Int} {a b : Cell} (ha : h ≤ hAt L a) (hb : IsCell L b) : inL b (comp L (fun z => inK (goodAt L h) z = true) a) = true ↔ Hg L h a b := by
  rw [inL_iff, comp_goodAt, mem_comp]
  exact ⟨fun q => ⟨hiB_iff.mpr ha, q.2⟩, fun q => ⟨hb, q.2⟩⟩
def lvOf (L : Land) (a : Cell) : List Int := sortSetI (((cellsOf L).filter fun x => decide (hAt L x ≤ hAt L a)).map fun x => hAt L x)
theorem mem_lvOf {L : Land} {a : Cell} {h : Int} : h ∈ lvOf L a ↔ ∃ c, IsCell L c ∧ hAt L c ≤ hAt L a ∧ hAt L c = h := by
  unfold lvOf
  rw [mem_sortS, List.mem_map]
  constructor
  · rintro ⟨c, hc, e⟩
    obtain ⟨h1, h2⟩ := List.mem_filter.mp hc
    exact ⟨c, mem_cellsOf.mp h1, of_decide_eq_true h2, e⟩
  · rintro ⟨c, h1, h2, e⟩
    exact ⟨c, List.mem_filter.mpr ⟨mem_cellsOf.mpr h1, decide_eq_true h2⟩, e⟩
theorem forC_find {α τ ρ : Type} {b : α → τ → Rs (Ct τ ρ)} {t : τ} (p : α → Bool) (r : α → ρ) : ∀ {xs : List α}, (∀ x ∈ xs, b x t = .ok (if p x = true then Ct.rt (r x) else Ct.nx t)) → forC b xs t = .ok (match xs.find? p with | some x => Ct.rt (r x) | none => Ct.nx t)
  | [], _ => rfl
  | x :: xs, h => by
    show (b x t).bind _ = _
    rw [h x (by simp)]
    cases q : p x with
    | true => rw [List.find?_cons_of_pos q]; rfl
    | false =>
      rw [List.find?_cons_of_neg (by simp [q])]
      exact forC_find p r (xs := xs) fun y hy => h y (List.mem_cons_of_mem _ hy)
theorem find_first {α : Type} {R : α → α → Prop} {p : α → Bool} : ∀ {xs : List α} {x : α}, xs.Pairwise R → xs.find? p = some x → p x = true ∧ x ∈ xs ∧ ∀ y ∈ xs, p y = true → y = x ∨ R x y
  | [], _, _, h => by cases h
  | z :: xs, x, hp, h => by
    obtain ⟨h1, h2⟩ := List.pairwise_cons.mp hp
    cases q : p z with
    | true =>
      rw [List.find?_cons_of_pos q] at h
      cases h
      refine ⟨q, by simp, fun y hy _ => ?_⟩
      rcases List.mem_cons.mp hy with e | e
      · exact .inl e
      · exact .inr (h1 y e)
    | false =>
      rw [List.find?_cons_of_neg (by simp [q])] at h
      obtain ⟨a1, a2, a3⟩ := find_first h2 h
      refine ⟨a1, List.mem_cons_of_mem _ a2, fun y hy hq => ?_⟩
      rcases List.mem_cons.mp hy with e | e
      · subst e; rw [q] at hq; cases hq
      · exact a3 y e hq
theorem pass_of_eq {L : Land} (ok : LandOk L) (hz : (cellsOf L).length < 64) {a b : Cell} (ha : IsCell L a) (hb : IsCell L b) : ∃ h, m_pass_of L a b = .ok h ∧ IsPass L a b h ∧ ∃ c, IsCell L c ∧ hAt L c = h := by
  have e1 : m_pass_of L a b = .ok (match (lvOf L a).reverse.find? fun h => inL b (comp L (fun z => inK (goodAt L h) z = true) a) with | some h => h | none => 0) := by
    unfold m_pass_of
    rw [gd_pos ok, gd_pos (size64' (cells64 ok)), lcM_pure (fun x => decide (hAt L x ≤ hAt L a)) (fun x => hAt L x) (fun x hx => by rw [gd_pos ⟨ok, mem_cellsOf.mp hx⟩, gd_pos ⟨ok, ha⟩]) fun x hx _ => by rw [gd_pos ⟨ok, mem_cellsOf.mp hx⟩]]
    simp only [Rs.ok_bind]
    rw [gd_pos (by rw [List.length_map]; exact Nat.lt_of_le_of_lt (List.length_filter_le _ _) hz)]
    show (forC _ (lvOf L a).reverse ()).bind _ = _
    rw [forC_find (fun h => inL b (comp L (fun z => inK (goodAt L h) z = true) a)) (fun h => h) fun h _ => by
      unfold m_pass_of_b1
      rw [land_at_eq ok]
      simp only [Rs.ok_bind]
      rw [gd_pos ⟨ok, ha, Nat.le_trans (goodAt_len ok h) (by decide)⟩]
      cases inL b (comp L (fun z => inK (goodAt L h) z = true) a) <;> rfl]
    cases (lvOf L a).reverse.find? fun h => inL b (comp L (fun z => inK (goodAt L h) z = true) a) <;> rfl
  have lv : ∀ h ∈ (lvOf L a).reverse, h ≤ hAt L a := fun h hh => by
    obtain ⟨c, _, h2, rfl⟩ := mem_lvOf.mp (List.mem_reverse.mp hh)
    exact h2
  have so : (lvOf L a).reverse.Pairwise fun x y => y < x := List.pairwise_reverse.mpr ((sortS_sorted tri_int _).imp fun h => by unfold ltI at h; simpa using h)
  rw [e1]
  cases hf : (lvOf L a).reverse.find? fun h => inL b (comp L (fun z => inK (goodAt L h) z = true) a) with
  | none =>
    exfalso
    obtain ⟨c, c1, c2⟩ := low_cell ok
    have := List.find?_eq_none.mp hf (hAt L c) (List.mem_reverse.mpr (mem_lvOf.mpr ⟨c, c1, c2 a ha, rfl⟩))
    exact this ((in_comp (c2 a ha) hb).mpr (all_together ha hb c2))
  | some h =>
    obtain ⟨h1, h2, h3⟩ := find_first so hf
    have hl := lv h h2
    refine ⟨h, rfl, ⟨(in_comp hl hb).mp h1, fun h' r => ?_⟩, ?_⟩
    · obtain ⟨c, c1, c2, c3, c4⟩ := r.low ha
      rcases h3 (hAt L c) (List.mem_reverse.mpr (mem_lvOf.mpr ⟨c, c1, c3, rfl⟩)) ((in_comp c3 hb).mpr c4) with q | q
      · omega
      · omega
    · obtain ⟨c, c1, _, c3⟩ := mem_lvOf.mp (List.mem_reverse.mp h2)
      exact ⟨c, c1, c3⟩
theorem pass_between_eq {L : Land} (ok : LandOk L) (hz : (cellsOf L).length < 64) {a b : Cell} (ha : IsCell L a) (hb : IsCell L b) : ∃ h, m_pass_between L a b = .ok h ∧ IsPass L a b h ∧ ∃ c, IsCell L c ∧ hAt L c = h := by
  obtain ⟨h, h1, h2⟩ := pass_of_eq ok hz ha hb
  exact ⟨h, by unfold m_pass_between; rw [gd_pos ⟨ok, ha⟩, gd_pos ⟨ok, hb⟩, h1]; rfl, h2⟩
/-! ## the parts that hang together -/
structure Pt (L : Land) (S : List Cell) (i : Nat) (made : List (List Cell)) (seen : List (Cell × Bool)) : Prop where
  mde : made = (partsG S nearB).filter fun l => decide (hd1 l ∈ S.take i)
  sn : ∀ z, inK seen z = true ↔ ∃ c, c ∈ S.take i ∧ z ∈ cls S nearB c
  nd : (seen.map (·.1)).Nodup
theorem heads_take {S : List Cell} (so : S.Pairwise CLt) {i : Nat} {x : Cell} (e : S[i]? = some x) : (partsG S nearB).filter (fun l => decide (hd1 l ∈ S.take (i + 1))) = (partsG S nearB).filter (fun l => decide (hd1 l ∈ S.take i)) ++ (partsG S nearB).filter (fun l => decide (hd1 l = x)) := by
  have hd : ((partsG S nearB).map hd1).Pairwise CLt := by rw [parts_heads so]; exact headsG_sorted so
  have hx := List.mem_of_getElem? e
  have ts : S.take (i + 1) = S.take i ++ [x] := take_snoc e
  refine pw_ext (R := fun a b => CLt (hd1 a) (hd1 b)) (fun a h => h.ne rfl) (fun a b c h1 h2 => h1.trans h2) ((List.pairwise_map.mp hd).filter _) (List.pairwise_append.mpr ⟨(List.pairwise_map.mp hd).filter _, (List.pairwise_map.mp hd).filter _, fun a ha b hb => ?_⟩) fun l => ?_
  · have h1 := of_decide_eq_true (List.mem_filter.mp ha).2
    have h2 := of_decide_eq_true (List.mem_filter.mp hb).2
    rw [h2]
    exact ((take_lt so e).mp h1).2
  · rw [List.mem_append, List.mem_filter, List.mem_filter, List.mem_filter, decide_eq_true_eq, decide_eq_true_eq, decide_eq_true_eq, ts, List.mem_append, List.mem_singleton]
    exact and_or_left
theorem Pt.turn {L : Land} {S : List Cell} (so : S.Pairwise CLt) {i : Nat} {x : Cell} {made : List (List Cell)} {seen : List (Cell × Bool)} (h : Pt L S i made seen) (e : S[i]? = some x) : (inK seen x = false → Pt L S (i + 1) (made ++ [cls S nearB x]) (mergeP seen ((cls S nearB x).map fun z => (z, true)))) ∧ (inK seen x = true → Pt L S (i + 1) made seen) := by
  have hx := List.mem_of_getElem? e
  have ts : S.take (i + 1) = S.take i ++ [x] := take_snoc e
  have ht := heads_take so e
  have cl : ∀ c, c ∈ S → x ∈ cls S nearB c → cls S nearB c = cls S nearB x := fun c hc hm => by
    obtain ⟨_, r⟩ := mem_cls.mp hm
    refine sorted_ext (cls_sorted so c) (cls_sorted so x) fun z => ?_
    rw [mem_cls, mem_cls]
    exact and_congr_right fun _ => ⟨fun q => (r.symm near_symm hc).trans q, fun q => r.trans q⟩
  constructor
  · intro hn
    have hm : IsMin S nearB x := fun z hz hl => by
      have hzS := hz.mem hx
      have : inK seen x = true := (h.sn x).mpr ⟨z, (take_lt so e).mpr ⟨hzS, hl⟩, mem_cls.mpr ⟨hx, hz.symm near_symm hx⟩⟩
      rw [hn] at this; cases this
    refine ⟨?_, fun z => ?_, mergeP_keys _ h.nd⟩
    · rw [ht, ← h.mde]
      congr 1
      have hd : ((partsG S nearB).map hd1).Pairwise CLt := by rw [parts_heads so]; exact headsG_sorted so
      refine (pw_ext (R := fun a b => CLt (hd1 a) (hd1 b)) (fun a h => h.ne rfl) (fun a b c h1 h2 => h1.trans h2) ((List.pairwise_map.mp hd).filter _) (List.pairwise_singleton _ _) fun l => ?_).symm
      rw [List.mem_filter, decide_eq_true_eq, List.mem_singleton]
      constructor
      · rintro ⟨h1, h2⟩
        obtain ⟨c, hc, rfl⟩ := List.mem_map.mp h1
        obtain ⟨c1, c2⟩ := mem_headsG.mp hc
        rw [cls_head so c1 c2] at h2
        rw [h2]
      · rintro rfl
        exact ⟨List.mem_map.mpr ⟨x, mem_headsG.mpr ⟨hx, hm⟩, rfl⟩, cls_head so hx hm⟩
    · rw [mergeP_in, Bool.or_eq_true, h.sn, good_in, ts]
      constructor
      · rintro (⟨c, hc, hz⟩ | hz)
        · exact ⟨c, List.mem_append.mpr (.inl hc), hz⟩
        · exact ⟨x, List.mem_append.mpr (.inr (by simp)), hz⟩
      · rintro ⟨c, hc, hz⟩
        rcases List.mem_append.mp hc with q | q
        · exact .inl ⟨c, q, hz⟩
        · have : c = x := by simpa using q
          subst this; exact .inr hz
  · intro hn
    obtain ⟨c, hc, hxc⟩ := (h.sn x).mp hn
    obtain ⟨hcS, hcx⟩ := (take_lt so e).mp hc
    refine ⟨?_, fun z => ?_, h.nd⟩
    · rw [ht, ← h.mde]
      have : (partsG S nearB).filter (fun l => decide (hd1 l = x)) = [] := by
        rw [List.filter_eq_nil_iff]
        intro l hl q
        have q := of_decide_eq_true q
        obtain ⟨d, hd, rfl⟩ := List.mem_map.mp hl
        obtain ⟨d1, d2⟩ := mem_headsG.mp hd
        rw [cls_head so d1 d2] at q
        subst q
        exact d2 c ((mem_cls.mp hxc).2.symm near_symm hcS) hcx
      rw [this, List.append_nil]
    · rw [h.sn, ts]
      constructor
      · rintro ⟨d, hd, hz⟩
        exact ⟨d, List.mem_append.mpr (.inl hd), hz⟩
      · rintro ⟨d, hd, hz⟩
        rcases List.mem_append.mp hd with q | q
        · exact ⟨d, q, hz⟩
        · have ed : d = x := by simpa using q
          subst ed
          exact ⟨c, hc, by rw [cl c hcS hxc]; exact hz⟩
theorem partsG_len (S : List Cell) (t : Cell → Cell → Bool) : (partsG S t).length ≤ S.length := by
  unfold partsG headsG; rw [List.length_map]; exact List.length_filter_le _ _
theorem cls_len (S : List Cell) (t : Cell → Cell → Bool) (c : Cell) : (cls S t c).length ≤ S.length := List.length_filter_le _ _
theorem parts_of_eq {L : Land} (ok : LandOk L) (h : Int) : m_parts_of L (goodAt L h) = .ok (partsG (cellsP L (hiB L h)) nearB) := by
  have hS : ∀ c ∈ cellsP L (hiB L h), IsCell L c := fun c hc => (mem_cellsP.mp hc).1
  have so := cellsP_sorted L (hiB L h)
  have h64 := Nat.le_trans (cellsP_len L (hiB L h)) (cells64 ok)
  have gk : (goodAt L h).map (·.1) = cellsP L (hiB L h) := good_map _
  have es : ((goodAt L h).map (·.1)).mergeSort (leOf Cell) = cellsP L (hiB L h) := by
    rw [gk]
    exact sorted_ext (sort_cells (so.imp fun h => h.ne)) so fun z => List.mem_mergeSort
  obtain ⟨⟨made, seen⟩, h1, h2⟩ := forM_inv (b := fun (x : Cell) t => m_parts_of_b1 L (goodAt L h) x t.1 t.2) (xs := cellsP L (hiB L h)) (t0 := (([] : List (List Cell)), ([] : List (Cell × Bool)))) (fun i r => Pt L (cellsP L (hiB L h)) i r.1 r.2) ⟨by simp, fun z => by simp [inK, getK], by simp⟩ fun i x ⟨made, seen⟩ hx hi => by
    have hxS := List.mem_of_getElem? hx
    have hc := hS x hxS
    have hi : Pt L (cellsP L (hiB L h)) i made seen := hi
    have ml : made.length ≤ 64 := by
      rw [hi.mde]
      exact Nat.le_trans (List.length_filter_le _ _) (Nat.le_trans (partsG_len _ _) h64)
    have sl : seen.length ≤ 64 := by
      have := nodup_len (seen.map (·.1)) (cellsP L (hiB L h)) hi.nd fun z hz => by
        obtain ⟨c, _, hc⟩ := (hi.sn z).mp (inK_mem.mpr hz)
        exact (mem_cls.mp hc).1
      rw [List.length_map] at this
      omega
    have ec : comp L (fun z => inK (goodAt L h) z = true) x = cls (cellsP L (hiB L h)) nearB x := by rw [comp_goodAt, cls_comp hxS]
    obtain ⟨t1, t2⟩ := hi.turn so hx
    unfold m_parts_of_b1
    cases q : inK seen x with
    | true => exact ⟨(made, seen), rfl, t2 q⟩
    | false =>
      refine ⟨(made ++ [cls (cellsP L (hiB L h)) nearB x], mergeP seen ((cls (cellsP L (hiB L h)) nearB x).map fun z => (z, true))), ?_, t1 q⟩
      have lst : (made ++ [cls (cellsP L (hiB L h)) nearB x]).getLastD [] = cls (cellsP L (hiB L h)) nearB x := by simp
      have cl := Nat.le_trans (cls_len (cellsP L (hiB L h)) nearB x) h64
      rw [if_pos (by rfl), gd_pos ⟨ok, hc, Nat.le_trans (goodAt_len ok h) (by decide)⟩, gd_pos (size64 ml), ec]
      simp only [Rs.ok_bind]
      rw [gd_pos (by simp), lst, gd_pos (size64' cl), gd_pos (good_nodup ((cls_sorted so x).imp fun h => h.ne)), gd_pos (by rw [List.length_map]; exact szl5 (by omega)), gd_pos (fun q hq => by
        obtain ⟨z, hz, rfl⟩ := List.mem_map.mp hq
        exact cells_range ok (hS z (mem_cls.mp hz).1))]
  unfold m_parts_of
  simp only [Rs.ok_bind]
  rw [gd_pos (by rw [gk]; exact size64' h64), es, h1]
  simp only [Rs.ok_bind]
  have h2 : Pt L (cellsP L (hiB L h)) _ made seen := h2
  rw [h2.mde, List.take_length]
  congr 1
  rw [List.filter_eq_self]
  intro l hl
  obtain ⟨c, hc, rfl⟩ := List.mem_map.mp hl
  obtain ⟨c1, c2⟩ := mem_headsG.mp hc
  rw [cls_head so c1 c2]
  exact decide_eq_true c1
noncomputable def islG (L : Land) (h : Int) : List (List Cell) := partsG (cellsP L (hiB L h)) nearB
theorem islands_of_eq {L : Land} (ok : LandOk L) (h : Int) : m_islands_of L h = .ok (islG L h) := by
  unfold m_islands_of
  rw [land_at_eq ok]
  simp only [Rs.ok_bind]
  rw [parts_of_eq ok]; rfl
theorem need_level_eq {L : Land} (ok : LandOk L) {h : Int} (h0 : 0 ≤ h) (h1 : h ≤ 999) : m_need_level L h = .ok () := by
  unfold m_need_level
  rw [gd_pos ok, if_neg (by unfold m_whole; simp [h0, h1])]
theorem islands_eq {L : Land} (ok : LandOk L) {h : Int} (h0 : 0 ≤ h) (h1 : h ≤ 999) : m_islands L h = .ok (islG L h) := by
  unfold m_islands
  rw [need_level_eq ok h0 h1]
  simp only [Rs.ok_bind]
  rw [islands_of_eq ok]; rfl
theorem cls_hg {L : Land} {h : Int} {a b : Cell} (ha : IsCell L a) (hh : h ≤ hAt L a) : b ∈ cls (cellsP L (hiB L h)) nearB a ↔ Hg L h a b := by
  have hm : a ∈ cellsP L (hiB L h) := mem_cellsP.mpr ⟨ha, hiB_iff.mpr hh⟩
  rw [mem_cls, cn_rch hm]
  constructor
  · exact fun q => ⟨hiB_iff.mpr hh, q.2⟩
  · exact fun q => ⟨mem_cellsP.mpr ⟨(q.cell ha).1, hiB_iff.mpr (q.cell ha).2⟩, q.2⟩
/-- which island has both -/
theorem isl_both {L : Land} {h : Int} {a b : Cell} (ha : IsCell L a) (hb : IsCell L b) : (∃ l ∈ islG L h, a ∈ l ∧ b ∈ l) ↔ Hg L h a b := by
  have so := cellsP_sorted L (hiB L h)
  constructor
  · rintro ⟨l, hl, h1, h2⟩
    obtain ⟨c, hc, rfl⟩ := List.mem_map.mp hl
    obtain ⟨c1, c2⟩ := mem_headsG.mp hc
    obtain ⟨c3, c4⟩ := mem_cellsP.mp c1
    have r1 := (cls_hg c3 (hiB_iff.mp c4)).mp h1
    have r2 := (cls_hg c3 (hiB_iff.mp c4)).mp h2
    exact (r1.symm c3).trans r2
  · intro r
    have hm : a ∈ cellsP L (hiB L h) := mem_cellsP.mpr ⟨ha, r.1⟩
    obtain ⟨m, h1, h2, h3⟩ := least_of (t := nearB) near_symm so hm
    refine ⟨_, List.mem_map.mpr ⟨m, h1, rfl⟩, ?_, ?_⟩
    · rw [← h3]; exact cls_self hm
    · rw [← h3]; exact (cls_hg ha (hiB_iff.mp r.1)).mpr r
/-- islands that have a common cell are one -/
theorem isl_uniq {L : Land} {h : Int} {a : Cell} {l m : List Cell} (hl : l ∈ islG L h) (hm : m ∈ islG L h) (ha : a ∈ l) (hb : a ∈ m) : l = m := by
  have so := cellsP_sorted L (hiB L h)
  have key : ∀ l ∈ islG L h, a ∈ l → l = cls (cellsP L (hiB L h)) nearB a := fun l hl ha => by
    obtain ⟨c, hc, rfl⟩ := List.mem_map.mp hl
    obtain ⟨c1, c2⟩ := mem_headsG.mp hc
    obtain ⟨_, r⟩ := mem_cls.mp ha
    refine sorted_ext (cls_sorted so c) (cls_sorted so a) fun z => ?_
    rw [mem_cls, mem_cls]
    exact and_congr_right fun _ => ⟨fun q => (r.symm near_symm c1).trans q, fun q => r.trans q⟩
  rw [key l hl ha, key m hm hb]
theorem isl_nodup (L : Land) (h : Int) : (islG L h).Nodup := by
  have so := cellsP_sorted L (hiB L h)
  have : ((islG L h).map hd1).Pairwise CLt := by unfold islG; rw [parts_heads so]; exact headsG_sorted so
  exact (List.pairwise_map.mp this).imp fun h e => by subst e; exact h.ne rfl

/-! ## the law's passes: what is best so far goes round -/
theorem minI_le (x y : Int) : minI x y ≤ x ∧ minI x y ≤ y ∧ (minI x y = x ∨ minI x y = y) := by unfold minI; split <;> omega
theorem maxI_le (x y : Int) : x ≤ maxI x y ∧ y ≤ maxI x y ∧ (maxI x y = x ∨ maxI x y = y) := by unfold maxI; split <;> omega
structure Ps (L : Land) (a : Cell) (best : List (Cell × Int)) : Prop where
  get : ∀ z v, getK best z = some v → IsCell L z ∧ Hg L v a z ∧ 0 ≤ v ∧ v ≤ 999
  one : getK best a = some (hAt L a)
  nd : (best.map (·.1)).Nodup
def vP (best : List (Cell × Int)) (z : Cell) : Int := (getK best z).getD (-1)
def muP (L : Land) (best : List (Cell × Int)) : Nat := ((cellsOf L).map fun z => (1000 - vP best z).toNat).sum
theorem Ps.few {L : Land} (ok : LandOk L) {a : Cell} {best : List (Cell × Int)} (h : Ps L a best) : best.length ≤ 64 := by
  have := nodup_len (best.map (·.1)) (cellsOf L) h.nd fun z hz => by
    have := inK_mem.mpr hz
    unfold inK at this
    obtain ⟨v, hv⟩ := Option.isSome_iff_exists.mp this
    exact mem_cellsOf.mpr (h.get z v hv).1
  rw [List.length_map] at this
  exact Nat.le_trans this (cells64 ok)
theorem Ps.range {L : Land} {a : Cell} {best : List (Cell × Int)} (h : Ps L a best) (z : Cell) : -1 ≤ vP best z ∧ vP best z ≤ 999 := by
  unfold vP
  cases e : getK best z with
  | none => simp
  | some v => have := h.get z v e; simp; omega
theorem Ps.mu_le {L : Land} {a : Cell} {best : List (Cell × Int)} (h : Ps L a best) : muP L best ≤ (cellsOf L).length * 1001 := sum_bd fun z _ => by have := h.range z; omega
def okP (L : Land) (best : List (Cell × Int)) (x : Cell) : Prop := ∀ o ∈ bes L x, ∀ y, getK best o = some y → minI y (hAt L x) ≤ vP best x
theorem passes_b2 {L : Land} (ok : LandOk L) {a : Cell} {best : List (Cell × Int)} (h : Ps L a best) {x : Cell} (hx : IsCell L x) (g : Bool) :
    ∃ r : List (Cell × Int) × Bool, m__law_passes_b2 L x best g = .ok r ∧ ((r = (best, g) ∧ okP L best x) ∨ (r.2 = true ∧ Ps L a r.1 ∧ muP L r.1 < muP L best)) := by
  unfold m__law_passes_b2
  have e1 := lcM_pure (c := fun (x_1 : Cell) => Rs.ok (inK best x_1)) (f := fun (x_1 : Cell) => (ofO (getK best x_1)).bind fun y => gd (LandOk L ∧ IsCell L x) (Rs.ok ((minI y (hAt L x)) : Int))) (inK best) (fun o => minI (vP best o) (hAt L x)) (xs := bes L x) (fun _ _ => rfl) fun o _ hi => by
    unfold inK at hi
    obtain ⟨v, hv⟩ := Option.isSome_iff_exists.mp hi
    have : vP best o = v := by unfold vP; rw [hv]; rfl
    rw [this, hv]
    simp only [ofO_some, Rs.ok_bind]
    rw [gd_pos ⟨ok, hx⟩]
  rw [gd_pos (size64' (bes_len ok x)), e1]
  simp only [Rs.ok_bind]
  have memS : ∀ z, z ∈ ((bes L x).filter (inK best)).map (fun o => minI (vP best o) (hAt L x)) ↔ ∃ o ∈ bes L x, ∃ y, getK best o = some y ∧ minI y (hAt L x) = z := fun z => by
    rw [List.mem_map]
    constructor
    · rintro ⟨o, ho, e⟩
      obtain ⟨h1, h2⟩ := List.mem_filter.mp ho
      unfold inK at h2
      obtain ⟨v, hv⟩ := Option.isSome_iff_exists.mp h2
      exact ⟨o, h1, v, hv, by rw [← e]; unfold vP; rw [hv]; rfl⟩
    · rintro ⟨o, h1, y, h2, e⟩
      exact ⟨o, List.mem_filter.mpr ⟨h1, by unfold inK; rw [h2]; rfl⟩, by rw [← e]; unfold vP; rw [h2]; rfl⟩
  generalize ((bes L x).filter (inK best)).map (fun o => minI (vP best o) (hAt L x)) = S at memS
  have hv : (getK best x).getD (-1) = vP best x := rfl
  by_cases hS : S = []
  · subst hS
    exact ⟨(best, g), rfl, .inl ⟨rfl, fun o ho y hy => by
      have := (memS (minI y (hAt L x))).mpr ⟨o, ho, y, hy, rfl⟩
      cases this⟩⟩
  · rw [if_pos (by simpa using hS), gd_pos hS, hv]
    simp only [Rs.ok_bind]
    obtain ⟨m1, m2⟩ := maxI_spec hS
    by_cases hl : vP best x < maxL S
    · rw [decide_eq_true hl, if_pos rfl, gd_pos hS, gd_pos (size64 (h.few ok))]
      obtain ⟨o, ho, y, hy, em⟩ := (memS _).mp m1
      obtain ⟨o1, o2, o3, o4⟩ := h.get o y hy
      have hxr := hAt_range ok hx
      have mm := minI_le y (hAt L x)
      refine ⟨_, rfl, .inr ⟨rfl, ⟨fun z v e => ?_, ?_, putP_keys h.nd⟩, ?_⟩⟩
      · rw [get_put] at e
        by_cases q : z = x
        · rw [if_pos q] at e
          injection e with e
          subst q
          rw [← e, ← em]
          exact ⟨hx, (o2.mono mm.1).step (bes_symm hx ho) mm.2.1, by omega, by omega⟩
        · rw [if_neg q] at e; exact h.get z v e
      · rw [get_put]
        by_cases q : a = x
        · subst q
          exfalso
          have : vP best a = hAt L a := by unfold vP; rw [h.one]; rfl
          rw [this, ← em] at hl
          omega
        · rw [if_neg q]; exact h.one
      · have vp : ∀ z, vP (putP best x (maxL S)) z = if z = x then maxL S else vP best z := fun z => by
          unfold vP
          rw [get_put]
          by_cases q : z = x
          · rw [if_pos q, if_pos q]; rfl
          · rw [if_neg q, if_neg q]
        refine sum_lt (fun z _ => ?_) (mem_cellsOf.mpr hx) ?_
        · rw [vp]
          by_cases q : z = x
          · rw [if_pos q, q]; omega
          · rw [if_neg q]; exact Nat.le_refl _
        · rw [vp, if_pos rfl]
          have := h.range x
          omega
    · rw [decide_eq_false hl]
      refine ⟨(best, g), rfl, .inl ⟨rfl, fun o ho y hy => ?_⟩⟩
      have := m2 _ ((memS _).mpr ⟨o, ho, y, hy, rfl⟩)
      omega
theorem passes_b1 {L : Land} (ok : LandOk L) {a : Cell} {best : List (Cell × Int)} (h : Ps L a best) (g : Bool) :
    ∃ r : Bool × List (Cell × Int), m__law_passes_b1 L g best = .ok r ∧ ((r = (false, best) ∧ ∀ x, IsCell L x → okP L best x) ∨ (r.1 = true ∧ Ps L a r.2 ∧ muP L r.2 < muP L best)) := by
  obtain ⟨r, h1, h2⟩ := forM_inv (b := fun (x : Cell) (t : List (Cell × Int) × Bool) => m__law_passes_b2 L x t.1 t.2) (xs := cellsOf L) (t0 := (best, false)) (fun i r => (r = (best, false) ∧ ∀ x ∈ (cellsOf L).take i, okP L best x) ∨ (r.2 = true ∧ Ps L a r.1 ∧ muP L r.1 < muP L best)) (.inl ⟨rfl, fun y hy => by simp at hy⟩) fun i x r hx hi => by
    have hxc := mem_cellsOf.mp (List.mem_of_getElem? hx)
    rcases hi with ⟨rfl, ho⟩ | ⟨r2, r3, r4⟩
    · obtain ⟨r', e, hr⟩ := passes_b2 ok h hxc false
      refine ⟨r', e, ?_⟩
      rcases hr with ⟨rfl, q⟩ | q
      · refine .inl ⟨rfl, fun z hz => ?_⟩
        rw [take_snoc hx] at hz
        rcases List.mem_append.mp hz with m | m
        · exact ho z m
        · have : z = x := by simpa using m
          subst this; exact q
      · exact .inr q
    · obtain ⟨r', e, hr⟩ := passes_b2 ok r3 hxc r.2
      refine ⟨r', e, .inr ?_⟩
      rcases hr with ⟨rfl, q⟩ | ⟨q1, q2, q3⟩
      · exact ⟨r2, r3, r4⟩
      · exact ⟨q1, q2, by omega⟩
  rw [List.take_length] at h2
  refine ⟨(r.2, r.1), ?_, ?_⟩
  · unfold m__law_passes_b1
    simp only [Rs.ok_bind]
    rw [gd_pos ok, h1]; rfl
  · rcases h2 with ⟨rfl, q⟩ | q
    · exact .inl ⟨rfl, fun x hx => q x (mem_cellsOf.mpr hx)⟩
    · exact .inr q
theorem law_passes_eq {L : Land} (ok : LandOk L) {a : Cell} (ha : IsCell L a) : ∃ best, m__law_passes L a = .ok best ∧ ∀ z, IsCell L z → ∃ h, getK best z = some h ∧ IsPass L a z h := by
  have har := hAt_range ok ha
  have g0 : ∀ z, getK [(a, hAt L a)] z = if a = z then some (hAt L a) else none := fun z => by rw [getK_cons]; rfl
  have h0 : Ps L a [(a, hAt L a)] := ⟨(fun z v e => by
    rw [g0] at e
    by_cases q : a = z
    · rw [if_pos q] at e
      injection e with e
      subst q e
      exact ⟨ha, Hg.refl (Int.le_refl _), har.1, har.2⟩
    · rw [if_neg q] at e; cases e), by rw [g0, if_pos rfl], by simp⟩
  obtain ⟨⟨g, best⟩, h1, ⟨h2, h3⟩, h4⟩ := whM_inv (c := fun t => m__law_passes_b1_c t.1 t.2) (b := fun t => m__law_passes_b1 L t.1 t.2) (n := 1000000) (t0 := (true, [(a, hAt L a)]))
    (fun r => Ps L a r.2 ∧ (r.1 = false → ∀ x, IsCell L x → okP L r.2 x)) (fun r => 2 * muP L r.2 + r.1.toNat) ⟨h0, fun q => by cases q⟩ (by
      have := h0.mu_le
      have : (cellsOf L).length * 1001 ≤ 64 * 1001 := Nat.mul_le_mul_right _ (cells64 ok)
      show 2 * muP L [(a, hAt L a)] + 1 < 1000000
      omega) fun ⟨g, best⟩ ⟨h1, h2⟩ => ⟨g, rfl, fun hg => by
      obtain ⟨r, e, hr⟩ := passes_b1 ok h1 g
      refine ⟨r, e, ?_⟩
      have hg : g = true := hg
      subst hg
      rcases hr with ⟨rfl, q⟩ | ⟨q1, q2, q3⟩
      · refine ⟨⟨h1, fun _ => q⟩, ?_⟩
        show 2 * muP L best + 0 < 2 * muP L best + 1
        omega
      · refine ⟨⟨q2, fun q => by rw [q1] at q; cases q⟩, ?_⟩
        have q4 : muP L r.2 < muP L best := q3
        show 2 * muP L r.2 + r.1.toNat < 2 * muP L best + 1
        rw [q1]
        show 2 * muP L r.2 + 1 < 2 * muP L best + 1
        omega⟩
  have hg : g = false := Rs.inj h4
  subst hg
  have hcl := h3 rfl
  have h2 : Ps L a best := h2
  refine ⟨best, ?_, fun z hz => ?_⟩
  · unfold m__law_passes
    rw [gd_pos ⟨ok, ha⟩]
    simp only [Rs.ok_bind]
    rw [h1]; rfl
  · have key : ∀ h w, Hg L h a w → ∃ v, getK best w = some v ∧ h ≤ v := fun h w r => by
      obtain ⟨r1, r2⟩ := r
      induction r2 with
      | refl => exact ⟨_, h2.one, hiB_iff.mp r1⟩
      | @step x y hx hy hgd ih =>
        obtain ⟨v, v1, v2⟩ := ih
        have hxc := (h2.get x v v1).1
        have hyc := (mem_bes.mp hy).1
        have := hcl y hyc x (bes_symm hxc hy) v v1
        have mm := minI_le v (hAt L y)
        have hyr := hAt_range ok hyc
        have hgl := hiB_iff.mp hgd
        have v3 := (h2.get x v v1).2.2.1
        unfold vP at this
        cases e : getK best y with
        | none => rw [e] at this; simp at this; omega
        | some u => rw [e] at this; refine ⟨u, rfl, ?_⟩; simp at this; omega
    obtain ⟨c, c1, c2⟩ := low_cell ok
    obtain ⟨v, v1, _⟩ := key _ z (all_together ha hz c2)
    refine ⟨v, v1, (h2.get z v v1).2.1, fun h' r => ?_⟩
    obtain ⟨u, u1, u2⟩ := key h' z r
    rw [v1] at u1
    injection u1 with u1
    omega

noncomputable def m_head_b1 (land : Land) (cell : Cell) (x : List Cell) : Rs (Ct (Unit) (Cell)) := if (inL cell x) = true then (m_peaks_of land).bind fun got_2 => gd (got_2.length ≤ sizeLine) (gd (((got_2.filter (fun (x_1 : Cell) => (inL x_1 x))).map (fun (x_1 : Cell) => (x_1 : Cell))) ≠ []) (Rs.ok (Ct.rt (((got_2.filter (fun (x_1 : Cell) => (inL x_1 x))).map (fun (x_1 : Cell) => (x_1 : Cell))).getD 0 (0, 0))))) else Rs.ok (Ct.nx ())
noncomputable def m_head (land : Land) (level : Int) (cell : Cell) : Rs (Cell) := (m_need_level land level).bind fun got => gd (LandOk land ∧ IsCell land cell) ((m_islands_of land level).bind fun got_1 => (forC (fun (x : List Cell) t => m_head_b1 land cell x) got_1 ()).bind fun o => o.go (fun _ => gd (False) (Rs.ok (0, 0))) (fun rz => Rs.ok rz))

/-- a flat of the greatest height in an island: a peak of it -/
theorem isl_top {L : Land} {h : Int} {l : List Cell} (hl : l ∈ islG L h) : ∃ p ∈ peaksG L, p ∈ l ∧ ∀ z ∈ l, hAt L z ≤ hAt L p := by
  obtain ⟨c, hc, rfl⟩ := List.mem_map.mp hl
  obtain ⟨hc1, _⟩ := mem_headsG.mp hc
  obtain ⟨hcell, hh⟩ := mem_cellsP.mp hc1
  have hh := hiB_iff.mp hh
  have hne : (cls (cellsP L (hiB L h)) nearB c).map (hAt L) ≠ [] := fun e => cls_ne hc1 (List.map_eq_nil_iff.mp e)
  obtain ⟨m1, m2⟩ := maxI_spec hne
  obtain ⟨t, ht, et⟩ := List.mem_map.mp m1
  have htg : Hg L h c t := (cls_hg hcell hh).mp ht
  have htc := htg.cell hcell
  have top : ∀ z, Hg L h c z → hAt L z ≤ hAt L t := fun z hz => by
    rw [et]
    exact m2 _ (List.mem_map.mpr ⟨z, (cls_hg hcell hh).mpr hz, rfl⟩)
  obtain ⟨f, hf, hft⟩ : ∃ f ∈ flatsOf L, t ∈ f := by
    obtain ⟨m, m1, m2, m3⟩ := least_of near_symm (cellsP_sorted L (lvB L (hAt L t))) (lv_mem htc.1)
    have hm := mem_cellsP.mp (mem_headsG.mp m1).1
    have e : hAt L m = hAt L t := of_decide_eq_true hm.2
    refine ⟨comp L (flatC L m) m, mem_flatsOf.mpr ⟨m, hm.1, (flat_min hm.1).mpr (by rw [e]; exact (mem_headsG.mp m1).2), rfl⟩, ?_⟩
    rw [flat_cls hm.1, e, ← m3]
    exact cls_self (lv_mem htc.1)
  obtain ⟨m, hm, hmh, rfl⟩ := mem_flatsOf.mp hf
  have same : ∀ z, z ∈ comp L (flatC L m) m → hAt L z = hAt L t ∧ Hg L h c z := fun z hz => by
    have hzm := (mem_comp.mp hz).2
    have htm := (mem_comp.mp hft).2
    have e1 : Rch L (fun z => lvB L (hAt L m) z = true) m z := flatC_lv.mp hzm
    have e2 : Rch L (fun z => lvB L (hAt L m) z = true) m t := flatC_lv.mp htm
    have lvz : hAt L z = hAt L m := by
      cases e1 with
      | refl => rfl
      | step _ _ g => exact of_decide_eq_true g
    have lvt : hAt L t = hAt L m := by
      cases e2 with
      | refl => rfl
      | step _ _ g => exact of_decide_eq_true g
    have up : ∀ {y : Cell}, Rch L (fun z => lvB L (hAt L m) z = true) m y → Hg L h m y := fun {y} r => ⟨hiB_iff.mpr (by omega), Rch.mono (fun w hw => hiB_iff.mpr (by have := of_decide_eq_true hw; omega)) r⟩
    refine ⟨by omega, ?_⟩
    exact htg.trans (((up e2).symm hm).trans (up e1))
  have hend : comp L (flatC L m) m ∈ (flatsOf L).filter (endB 1 L) := by
    refine List.mem_filter.mpr ⟨hf, endB_iff.mpr fun d hd => ?_⟩
    obtain ⟨z, hz, o, ho, rfl⟩ := mem_diffs.mp hd
    obtain ⟨s1, s2⟩ := same z hz
    by_cases q : h ≤ hAt L o
    · have := top o (s2.step ho q)
      omega
    · have := htc.2
      omega
  have hp : hd1 (comp L (flatC L m) m) ∈ endsG 1 L := List.mem_map.mpr ⟨_, hend, rfl⟩
  obtain ⟨q1, q2⟩ := same _ (flat_head hf)
  refine ⟨_, mem_peaksG.mpr hp, (cls_hg hcell hh).mpr q2, fun z hz => ?_⟩
  have := top z ((cls_hg hcell hh).mp hz)
  omega
/-- the head of an island -/
noncomputable def hpG (L : Land) (l : List Cell) : Cell := ((peaksG L).filter fun x => inL x l).getD 0 (0, 0)
theorem hpG_spec {L : Land} {h : Int} {l : List Cell} (hl : l ∈ islG L h) : (peaksG L).filter (fun x => inL x l) ≠ [] ∧ hpG L l ∈ peaksG L ∧ hpG L l ∈ l ∧ (∀ z ∈ l, hAt L z ≤ hAt L (hpG L l)) ∧ ∀ p ∈ peaksG L, p ∈ l → p = hpG L l ∨ Abv L (hpG L l) p := by
  obtain ⟨p, p1, p2, p3⟩ := isl_top hl
  have so : ((peaksG L).filter fun x => inL x l).Pairwise (Abv L) := (peaksG_sorted L).filter _
  unfold hpG
  have hp : p ∈ (peaksG L).filter fun x => inL x l := List.mem_filter.mpr ⟨p1, inL_iff.mpr p2⟩
  have mem : ∀ x, x ∈ (peaksG L).filter (fun x => inL x l) → x ∈ peaksG L ∧ x ∈ l := fun x hx => ⟨(List.mem_filter.mp hx).1, inL_iff.mp (List.mem_filter.mp hx).2⟩
  have mem' : ∀ x, x ∈ peaksG L → x ∈ l → x ∈ (peaksG L).filter (fun x => inL x l) := fun x h1 h2 => List.mem_filter.mpr ⟨h1, inL_iff.mpr h2⟩
  generalize (peaksG L).filter (fun x => inL x l) = xs at so hp mem mem' ⊢
  cases xs with
  | nil => cases hp
  | cons a r =>
    have ha := mem a (by simp)
    have first : ∀ q ∈ peaksG L, q ∈ l → q = a ∨ Abv L a q := fun q q1 q2 => by
      rcases List.mem_cons.mp (mem' q q1 q2) with z | z
      · exact .inl z
      · exact .inr ((List.pairwise_cons.mp so).1 q z)
    refine ⟨by simp, ha.1, ha.2, fun z hz => ?_, first⟩
    show hAt L z ≤ hAt L a
    have := p3 z hz
    rcases first p p1 p2 with e | e
    · rw [← e]; exact this
    · unfold Abv at e; omega
theorem head_eq {L : Land} (ok : LandOk L) {h : Int} (h0 : 0 ≤ h) (h1 : h ≤ 999) {c : Cell} (hc : IsCell L c) {l : List Cell} (hl : l ∈ islG L h) (hcl : c ∈ l) : m_head L h c = .ok (hpG L l) := by
  unfold m_head
  rw [need_level_eq ok h0 h1]
  simp only [Rs.ok_bind]
  rw [gd_pos ⟨ok, hc⟩, islands_of_eq ok]
  simp only [Rs.ok_bind]
  have key := forC_find (b := fun (x : List Cell) (t : Unit) => m_head_b1 L c x) (t := ()) (xs := islG L h) (fun l => inL c l) (hpG L) fun l hl => by
    show m_head_b1 L c l = _
    unfold m_head_b1
    by_cases q : inL c l = true
    · rw [if_pos q, if_pos q, peaks_of_eq ok]
      simp only [Rs.ok_bind]
      rw [gd_pos (size64' (peaksG_len ok)), List.map_id', gd_pos (hpG_spec (h := h) hl).1]; rfl
    · rw [if_neg q, if_neg q]
  rw [key]
  simp only [Rs.ok_bind]
  cases e : (islG L h).find? (fun l => inL c l) with
  | none =>
    have := List.find?_eq_none.mp e l hl
    exact absurd (inL_iff.mpr hcl) this
  | some m =>
    have hm := List.mem_of_find?_eq_some e
    have hcm : inL c m = true := by have := List.find?_some e; exact this
    rw [isl_uniq hm hl (inL_iff.mp hcm) hcl]; rfl
theorem islG_len {L : Land} (ok : LandOk L) (h : Int) : (islG L h).length ≤ 64 := Nat.le_trans (partsG_len _ _) (Nat.le_trans (cellsP_len L _) (cells64 ok))
theorem isl_cell {L : Land} {h : Int} {l : List Cell} (hl : l ∈ islG L h) {z : Cell} (hz : z ∈ l) : IsCell L z ∧ h ≤ hAt L z := by
  obtain ⟨c, hc, rfl⟩ := List.mem_map.mp hl
  have := mem_cellsP.mp (mem_cls.mp hz).1
  exact ⟨this.1, hiB_iff.mp this.2⟩
theorem isl_ne {L : Land} {h : Int} {l : List Cell} (hl : l ∈ islG L h) : l ≠ [] := by
  obtain ⟨p, _, h2, _⟩ := isl_top hl
  intro e; rw [e] at h2; cases h2
theorem isl_hd {L : Land} {h : Int} {l : List Cell} (hl : l ∈ islG L h) : l.getD 0 (0, 0) ∈ l := by
  have := isl_ne hl
  cases l with
  | nil => exact absurd rfl this
  | cons a r => exact List.mem_cons_self ..
theorem isl_len {L : Land} (ok : LandOk L) {h : Int} {l : List Cell} (hl : l ∈ islG L h) : l.length ≤ 64 := by
  obtain ⟨c, hc, rfl⟩ := List.mem_map.mp hl
  exact Nat.le_trans (cls_len _ _ _) (Nat.le_trans (cellsP_len L _) (cells64 ok))

noncomputable def m_map_at_b2 (x_1 : Int × (List Cell)) (x_2 : Cell) (rows_2 : List (List Str)) : Rs (List (List Str)) := gd ((0 : Int) ≤ x_1.1 ∧ x_1.1 < (("abcdefghijklmnopqrstuvwxyzABCDEF" : Str).cps.toList.length : Int)) (gd (("abcdefghijklmnopqrstuvwxyzABCDEF" : Str).length ≤ sizeLine) (gd ((0 : Int) ≤ x_2.1 ∧ x_2.1 < (rows_2.length : Int)) (gd ((0 : Int) ≤ x_2.2 ∧ x_2.2 < ((rows_2.getD (x_2.1 : Int).toNat []).length : Int)) ((Rs.ok (set2 rows_2 x_2.1 x_2.2 (chS ("abcdefghijklmnopqrstuvwxyzABCDEF" : Str) x_1.1))).bind fun rows_3 => Rs.ok rows_3))))
noncomputable def m_map_at_b1 (x_1 : Int × (List Cell)) (rows_1 : List (List Str)) : Rs (List (List Str)) := (forM (fun (x_2 : Cell) t => m_map_at_b2 x_1 x_2 t) x_1.2 rows_1).bind fun rows_4 => Rs.ok rows_4
noncomputable def m_map_at (land : Land) (level : Int) : Rs (List Str) := (m_need_level land level).bind fun got => gd (((rowsT land).items).length ≤ sizeLine) ((lcM (fun (x : Tup Int) => Rs.ok true) (fun (x : Tup Int) => gd (LandOk land) (gd ((0 : Int) ≤ ((Tup.mk (rowAt land 0)).items.length : Int) ∧ ((Tup.mk (rowAt land 0)).items.length : Int) ≤ 1000) (Rs.ok ((List.replicate (((Tup.mk (rowAt land 0)).items.length : Int) : Int).toNat (("." : Str) : Str)) : List Str)))) ((rowsT land).items)).bind fun rows => (m_islands_of land level).bind fun got_1 => (forM (fun (x_1 : Int × (List Cell)) t => m_map_at_b1 x_1 t) (enumL got_1) rows).bind fun rows_5 => gd (rows_5.length ≤ sizeLine) ((lcM (fun (x_3 : List Str) => Rs.ok true) (fun (x_3 : List Str) => gd ((x_3.map (·.length)).sum + x_3.length * ("" : Str).length ≤ 16777216) (Rs.ok ((Txt.join ("" : Str) x_3) : Str))) rows_5).bind fun ys => Rs.ok ys))

/-! # maps -/
theorem forM_congr {α τ : Type} {b b' : α → τ → Rs τ} : ∀ {xs : List α} (t : τ), (∀ x ∈ xs, ∀ t, b x t = b' x t) → forM b xs t = forM b' xs t
  | [], _, _ => rfl
  | x :: xs, t, h => by
    show (b x t).bind (fun t => forM b xs t) = (b' x t).bind fun t => forM b' xs t
    rw [h x (by simp) t]
    congr 1
    funext t
    exact forM_congr t fun y hy => h y (List.mem_cons_of_mem _ hy)
/-- two cells side by side are in one of 32 pairs -/
def prs : List Cell := (List.range 8).flatMap fun (r : Nat) => (List.range 4).map fun (q : Nat) => (((r : Int), (q : Int)) : Cell)
theorem isl32 {L : Land} (ok : LandOk L) (h : Int) : (islG L h).length ≤ 32 := by
  have nd := isl_nodup L h
  have key := nodup_len ((islG L h).map fun l => (((l.getD 0 (0, 0)).1, (l.getD 0 (0, 0)).2 / 2) : Cell)) prs (by
    rw [List.Nodup, List.pairwise_map]
    refine nd.imp_of_mem fun {l m} hl hm ne e => ne ?_
    have e1 : (l.getD 0 (0, 0)).1 = (m.getD 0 (0, 0)).1 := (Prod.mk.inj e).1
    have e2 : (l.getD 0 (0, 0)).2 / 2 = (m.getD 0 (0, 0)).2 / 2 := (Prod.mk.inj e).2
    have dl := isl_hd hl
    have dm := isl_hd hm
    obtain ⟨cl, gl⟩ := isl_cell hl dl
    obtain ⟨cm, gm⟩ := isl_cell hm dm
    generalize l.getD 0 (0, 0) = a at e1 e2 dl cl gl
    generalize m.getD 0 (0, 0) = b at e1 e2 dm cm gm
    by_cases q : a = b
    · subst q
      exact isl_uniq hl hm dl dm
    · have nr : nearB a b = true := by
        unfold nearB
        refine decide_eq_true ?_
        rw [absI_eq, absI_eq]
        have : a.2 ≠ b.2 := fun z => q (Prod.ext e1 z)
        omega
      have hg : Hg L h a b := (Hg.refl gl).step (mem_bes.mpr ⟨cm, nr⟩) gm
      obtain ⟨k, k1, k2, k3⟩ := (isl_both cl cm).mpr hg
      rw [isl_uniq hl k1 dl k2, isl_uniq hm k1 dm k3]) fun z hz => by
    obtain ⟨l, hl, rfl⟩ := List.mem_map.mp hz
    obtain ⟨c1, _⟩ := isl_cell hl (isl_hd hl)
    have := cells_range ok c1
    generalize l.getD 0 (0, 0) = a at this
    refine List.mem_flatMap.mpr ⟨a.1.toNat, List.mem_range.mpr (by omega), List.mem_map.mpr ⟨(a.2 / 2).toNat, List.mem_range.mpr (by omega), ?_⟩⟩
    exact Prod.ext (by dsimp only; omega) (by dsimp only; omega)
  rw [List.length_map] at key
  exact Nat.le_trans key (by decide)
structure Grd (L : Land) (t : List (List Str)) : Prop where
  len : t.length = nR L
  row : ∀ r ∈ t, r.length = nC L ∧ ∀ z ∈ r, z.length ≤ 1
theorem Grd.put {L : Land} {t : List (List Str)} (g : Grd L t) {c : Cell} (hc : IsCell L c) {z : Str} (hz : z.length ≤ 1) : Grd L (set2 t c.1 c.2 z) := by
  have hi : c.1.toNat < t.length := by have := hc.1; rw [g.len]; omega
  have hm : t.getD c.1.toNat [] ∈ t := by rw [List.getD_eq_getElem?_getD, List.getElem?_eq_getElem hi]; exact List.getElem_mem hi
  refine ⟨by unfold set2; rw [List.length_set]; exact g.len, fun r hr => ?_⟩
  rcases List.mem_or_eq_of_mem_set hr with q | q
  · exact g.row r q
  · rw [q]
    refine ⟨by rw [List.length_set]; exact (g.row _ hm).1, fun y hy => ?_⟩
    rcases List.mem_or_eq_of_mem_set hy with y1 | y1
    · exact (g.row _ hm).2 y y1
    · rw [y1]; exact hz
theorem Grd.at {L : Land} {t : List (List Str)} (g : Grd L t) {c : Cell} (hc : IsCell L c) : (t.getD c.1.toNat []).length = nC L := by
  have hi : c.1.toNat < t.length := by have := hc.1; rw [g.len]; omega
  have hm : t.getD c.1.toNat [] ∈ t := by rw [List.getD_eq_getElem?_getD, List.getElem?_eq_getElem hi]; exact List.getElem_mem hi
  exact (g.row _ hm).1
theorem chS_len (z : Str) (i : Int) : (chS z i).length ≤ 1 := by
  unfold chS Str.length
  simp
theorem enum_in {α : Type} {xs : List α} {p : Int × α} (h : p ∈ enumL xs) : p.2 ∈ xs ∧ 0 ≤ p.1 ∧ p.1 < (xs.length : Int) := by
  unfold enumL at h
  obtain ⟨a, b⟩ := p
  have h1 := List.of_mem_zip h
  have := rng_mem.mp h1.1
  exact ⟨h1.2, by dsimp only; omega⟩
/-- the loops by what a number's sign is -/
noncomputable def mapB2 (sg : Int → Str) (x_1 : Int × (List Cell)) (x_2 : Cell) (rows_2 : List (List Str)) : Rs (List (List Str)) := gd ((0 : Int) ≤ x_2.1 ∧ x_2.1 < (rows_2.length : Int)) (gd ((0 : Int) ≤ x_2.2 ∧ x_2.2 < ((rows_2.getD (x_2.1 : Int).toNat []).length : Int)) (Rs.ok (set2 rows_2 x_2.1 x_2.2 (sg x_1.1))))
noncomputable def mapB1 (sg : Int → Str) (x_1 : Int × (List Cell)) (rows_1 : List (List Str)) : Rs (List (List Str)) := forM (fun (x_2 : Cell) t => mapB2 sg x_1 x_2 t) x_1.2 rows_1
theorem rs_eta {α : Type} (r : Rs α) : (r.bind fun x => Rs.ok x) = r := by cases r <;> rfl
theorem map_loop {L : Land} (ok : LandOk L) (h : Int) (z : Str) {t : List (List Str)} (g : Grd L t) : ∃ t', forM (fun (x_1 : Int × (List Cell)) t => mapB1 (chS z) x_1 t) (enumL (islG L h)) t = .ok t' ∧ Grd L t' := by
  obtain ⟨t', h1, h2⟩ := forM_inv (b := fun (x_1 : Int × (List Cell)) t => mapB1 (chS z) x_1 t) (xs := enumL (islG L h)) (t0 := t) (fun _ t => Grd L t) g fun i x t hx gt => by
    have hl := (enum_in (List.mem_of_getElem? hx)).1
    exact (forM_inv (b := fun (x_2 : Cell) t => mapB2 (chS z) x x_2 t) (xs := x.2) (t0 := t) (fun _ t => Grd L t) gt fun j c s hc gs => by
      have cc := (isl_cell hl (List.mem_of_getElem? hc)).1
      refine ⟨_, ?_, gs.put cc (chS_len z x.1)⟩
      show mapB2 (chS z) x c s = _
      unfold mapB2
      rw [gd_pos ⟨cc.1.1, by rw [gs.len]; exact cc.1.2⟩, gd_pos ⟨cc.2.1, by rw [gs.at cc]; exact cc.2.2⟩])
  exact ⟨t', h1, h2⟩
theorem sign_same : ∀ i : Fin 32, chS ("abcdefghijklmnopqrstuvwxyzABCDEFGHIJKLMNOPQRSTUVWXYZ" : Str) (i.val : Int) = chS ("abcdefghijklmnopqrstuvwxyzABCDEF" : Str) (i.val : Int) := by decide
theorem sum_len1 {ys : List Str} (h : ∀ z ∈ ys, z.length ≤ 1) : (ys.map (·.length)).sum ≤ ys.length := by
  induction ys with
  | nil => simp
  | cons y ys ih =>
    have := h y (by simp)
    have := ih fun z hz => h z (List.mem_cons_of_mem _ hz)
    simp only [List.map_cons, List.sum_cons, List.length_cons]
    omega
theorem join_ok {L : Land} (ok : LandOk L) {t : List (List Str)} (g : Grd L t) : lcM (fun (x_3 : List Str) => Rs.ok true) (fun (x_3 : List Str) => gd ((x_3.map (·.length)).sum + x_3.length * ("" : Str).length ≤ 16777216) (Rs.ok ((Txt.join ("" : Str) x_3) : Str))) t = .ok (t.map fun x => Txt.join ("" : Str) x) :=
  lcM_map (fun x => Txt.join ("" : Str) x) fun x hx => by
    obtain ⟨h1, h2⟩ := g.row x hx
    have := sum_len1 h2
    have := ok.c8
    have e : ("" : Str).length = 0 := by decide
    rw [gd_pos (by rw [e]; omega)]
def rows0 (L : Land) : List (List Str) := (rowsT L).items.map fun _ => List.replicate (nC L) ("." : Str)
theorem grd0 (L : Land) : Grd L (rows0 L) := ⟨by unfold rows0; rw [List.length_map, rows_len], fun r hr => by
  obtain ⟨x, _, rfl⟩ := List.mem_map.mp hr
  refine ⟨List.length_replicate, fun z hz => ?_⟩
  rw [List.eq_of_mem_replicate hz]
  decide⟩
theorem row0_m {M : Land} (ok : LandOk M) : (Tup.mk (rowAt M 0)).items.length = nC M := by
  show (rowAt M 0).length = nC M
  unfold rowAt nC
  cases h : M.rows with
  | nil => have := ok.r1; unfold nR at this; rw [h] at this; simp at this
  | cons r rs => rfl
theorem prog_loop {L : Land} (ok : LandOk L) (h : Int) (t : List (List Str)) : forM (fun (x_1 : Int × (List Cell)) t => m_map_at_b1 x_1 t) (enumL (islG L h)) t = forM (fun (x_1 : Int × (List Cell)) t => mapB1 (chS ("abcdefghijklmnopqrstuvwxyzABCDEF" : Str)) x_1 t) (enumL (islG L h)) t :=
  forM_congr t fun x hx t => by
    have hl := (enum_in hx).2
    have := isl32 ok h
    have e32 : (("abcdefghijklmnopqrstuvwxyzABCDEF" : Str).cps.toList.length : Int) = 32 := by decide
    show m_map_at_b1 x t = mapB1 _ x t
    unfold m_map_at_b1 mapB1
    rw [rs_eta]
    refine forM_congr t fun c _ s => ?_
    show m_map_at_b2 x c s = mapB2 _ x c s
    unfold m_map_at_b2 mapB2
    rw [gd_pos (by rw [e32]; omega), gd_pos (szl (by decide))]
    rfl
theorem map_at_eq {L : Land} (ok : LandOk L) {h : Int} (h0 : 0 ≤ h) (h1 : h ≤ 999) : ∃ t, forM (fun (x_1 : Int × (List Cell)) t => mapB1 (chS ("abcdefghijklmnopqrstuvwxyzABCDEF" : Str)) x_1 t) (enumL (islG L h)) (rows0 L) = .ok t ∧ Grd L t ∧ m_map_at L h = .ok (t.map fun x => Txt.join ("" : Str) x) := by
  obtain ⟨t, t1, t2⟩ := map_loop ok h ("abcdefghijklmnopqrstuvwxyzABCDEF" : Str) (grd0 L)
  refine ⟨t, t1, t2, ?_⟩
  have c8 := ok.c8
  have r8 : (rowsT L).items.length ≤ 16777216 := by rw [rows_len]; exact Nat.le_trans ok.r8 (by decide)
  unfold m_map_at
  rw [need_level_eq ok h0 h1]
  simp only [Rs.ok_bind]
  rw [gd_pos (szl r8), lcM_map (fun _ => List.replicate (nC L) ("." : Str)) fun x _ => by rw [gd_pos ok, row0_m ok, gd_pos (by omega), Int.toNat_natCast]]
  simp only [Rs.ok_bind]
  rw [islands_of_eq ok]
  simp only [Rs.ok_bind]
  rw [prog_loop ok]
  show (forM _ _ (rows0 L)).bind _ = _
  rw [t1]
  simp only [Rs.ok_bind]
  rw [gd_pos (szl (by rw [t2.len]; exact Nat.le_trans ok.r8 (by decide))), join_ok ok t2]
  rfl
theorem rows_ok8 {rows : List (List Int)} (h1 : rows.length = 8) (hr : ∀ r ∈ rows, r.length = 8 ∧ ∀ h ∈ r, 0 ≤ h ∧ h ≤ 999) : LandOk ⟨rows⟩ := by
  have ec : nC ⟨rows⟩ = 8 := by
    unfold nC
    cases e : rows with
    | nil => rw [e] at h1; simp at h1
    | cons r rs => exact (hr r (by rw [e]; simp)).1
  exact ⟨by show 1 ≤ rows.length; omega, by show rows.length ≤ 8; omega, by omega, by omega, fun r h => by rw [ec]; exact (hr r h).1, fun r h => (hr r h).2⟩

def top (i : Nat) : Stmt := PySem.Challenge.pw_peakland_k38_whole_maps.main.body.getD i (.Pass ⟨0, 0, 0, 0⟩)
section
variable {P : Program} {w : World} {K : PySem.W.Frag} {mg : Str → Option Value} {base : Heap}

abbrev s__law_cell_at : Stmt := top 27
theorem sc__law_cell_at : FnScope ["_law_script", "_law_k", "_law_rest", "_law_turn"] ["_law_script", "_law_k"] (defScope s__law_cell_at) := ⟨rfl, rfl, rfl, by decide +kernel, rfl, by decide +kernel, by decide +kernel⟩
def sp__law_cell_at (K : PySem.W.Frag) : Sp := spF (τ := List Int × Int) (fun t => 0 ≤ t.2 ∧ t.2 ≤ 1000000) (fun t => [some (scr K t.1), some (da t.2)]) (fun t => da (cellAt t.1 t.2)) (fun _ => List.replicate 2 none)
theorem ok__law_cell_at {f : Addr} {fd : FuncData} (F : Fun K "_law_cell_at" "_law_cell_at" s__law_cell_at f fd) (hmg : mg "_law_cell_at" = some (.ref f)) (hb : Binds K fd ["_law_script", "_law_k"] []) (T : Txt mg) : HF P w K mg base 1 "_law_cell_at" (sp__law_cell_at K) := by
  refine hf_of F sc__law_cell_at hmg hb (fun _ => rfl) (fun _ => rfl) (fun t i O h => pin0 h) ?_
  rintro X - - - - - ⟨cdv, A, outer, s, H, E, rfl⟩ hr ⟨ns, k⟩ ⟨h0, h1⟩
  have hN := sc__law_cell_at.nd
  dsimp only at h0 h1
  show BV _ [some (scr K ns), some (da k), none, none] _ (retD (da (cellAt ns k)) _)
  have vs : ∀ S : Sl, S[0]? = some (some (scr K ns)) → EV (cxOf CX0 P w K mg base ["_law_script", "_law_k", "_law_rest", "_law_turn"] "_law_cell_at" (defScope s__law_cell_at) f cdv A outer s H E).nox S (.Name "_law_script" ⟨0, 0, 0, 0⟩) (scr K ns) S := fun S h => ev_var (P := fscr K ns) 0 (pv 0) h
  refine bv_cons (sv_if (et_cmp (ec_lt (ev_vard 1 (pv 1) rfl) (ev_lenS T.len (ev_var (P := fscr K ns) 0 (pv 0) rfl)))) (fun hb => ?_) (fun hb => bv_nil ?_))
  · have hb' : k < ns.length := of_decide_eq_true hb
    refine bv_cons (sv_ret (ev_ixS (ev_var (P := fscr K ns) 0 (pv 0) rfl) (ev_vard 1 (pv 1) rfl) ⟨h0, hb'⟩) ⟨congrArg (fun z => da z) ?_, Bk.none 2⟩)
    unfold cellAt; rw [if_pos hb']
  have hb' : ¬ k < ns.length := of_decide_eq_false hb
  show BV _ [some (scr K ns), some (da k), none, none] _ _
  refine bv_cons (sv_if (et_cmp (ec_eqS hr (ev_var (P := fscr K ns) 0 (pv 0) rfl) (ev_frz (ev_nil (α := Int))))) (fun hc => ?_) (fun hc => bv_nil ?_))
  · have hc' : ns = [] := of_decide_eq_true hc
    refine bv_cons (sv_ret (ev_int) ⟨congrArg (fun z => da z) ?_, Bk.none 2⟩)
    unfold cellAt; rw [if_neg hb', if_pos hc']
  have hc' : ¬ ns = [] := of_decide_eq_false hc
  have hl : 0 < (ns.length : Int) := by have := List.length_pos_iff.mpr hc'; omega
  have hl2 : (ns.length : Int) < 1073741824 := by omega
  have hm := Int.emod_nonneg k (show (ns.length : Int) ≠ 0 by omega)
  have hm2 := Int.emod_lt_of_pos k hl
  show BV _ [some (scr K ns), some (da k), none, none] _ _
  refine bv_cons (sv_set 2 (ev_ixS (ev_var (P := fscr K ns) 0 (pv 0) rfl) (ev_mod (ev_vard 1 (pv 1) rfl) (ev_lenS T.len (ev_var (P := fscr K ns) 0 (pv 0) rfl)) hl) ⟨hm, hm2⟩) ?_ hN)
  show BV _ [some (scr K ns), some (da k), some (da (ns.getD (k % (ns.length : Int)).toNat 0)), none] _ _
  refine bv_cons (sv_for (α := Int) (τ := Int) (ix := [3]) rfl (ei_range1 T.range (ev_min2I rfl T.min (ev_fdiv (ev_vard 1 (pv 1) rfl) (ev_lenS T.len (ev_var (P := fscr K ns) 0 (pv 0) rfl)) ⟨hl, hl2⟩) ev_int) (rgMin (Int.ediv_nonneg h0 (Int.le_of_lt hl)))) PassesOwn.never (ns.getD (k % (ns.length : Int)).toNat 0) (fun t _ => t / 1000003) (fun t => [some (scr K ns), some (da k), some (da t), none]) (fun t x => [some (scr K ns), some (da k), some (da t), some (da x)]) (fun _ => True) trivial rfl (fun t x => eg_name 3 hN) ?_ (fun _ => ?_))
  · intro pre x post t hx _ ht
    show BV _ [some (scr K ns), some (da k), some (da t), some (da x)] _ _
    refine bv_cons (sv_set 2 (ev_fdiv (ev_vard 2 (pv 2) rfl) ev_int ⟨by decide, by decide⟩) ?_ hN)
    exact bv_nil ⟨trivial, Wk.eq rfl (Wk.eq rfl (Wk.eq rfl (Wk.drop Wk.nil)))⟩
  · show BV _ [some (scr K ns), some (da k), some (da ((rng 0 (minI (k / (ns.length : Int)) 60).toNat).foldl (fun t _ => t / 1000003) (ns.getD (k % (ns.length : Int)).toNat 0))), none] _ _
    refine bv_cons (sv_ret (ev_add (ev_add (ev_mul (ev_ixS (ev_var (P := fscr K ns) 0 (pv 0) rfl) (ev_mod (ev_vard 1 (pv 1) rfl) (ev_lenS T.len (ev_var (P := fscr K ns) 0 (pv 0) rfl)) hl) ⟨hm, hm2⟩) ev_int (Or.inr ⟨by decide, by decide⟩)) (ev_vard 1 (pv 1) rfl)) (ev_mul (ev_vard 2 (pv 2) rfl) ev_int (Or.inr ⟨by decide, by decide⟩))) ⟨congrArg (fun z => da z) ?_, Bk.none 2⟩)
    unfold cellAt; rw [if_neg hb', if_neg hc']
abbrev s__law_mixed : Stmt := top 28
theorem sc__law_mixed : FnScope ["_law_script", "_law_k", "_law_bound", "_law_drawn"] ["_law_script", "_law_k", "_law_bound"] (defScope s__law_mixed) := ⟨rfl, rfl, rfl, by decide +kernel, rfl, by decide +kernel, by decide +kernel⟩
def sp__law_mixed (K : PySem.W.Frag) : Sp := spF (τ := List Int × Int × Int) (fun t => (0 ≤ t.2.1 ∧ t.2.1 ≤ 1000000) ∧ 0 < t.2.2) (fun t => [some (scr K t.1), some (da t.2.1), some (da t.2.2)]) (fun t => da (mixed t.1 t.2.1 t.2.2)) (fun _ => List.replicate 3 none)
theorem ok__law_mixed {f : Addr} {fd : FuncData} (F : Fun K "_law_mixed" "_law_mixed" s__law_mixed f fd) (hmg : mg "_law_mixed" = some (.ref f)) (hb : Binds K fd ["_law_script", "_law_k", "_law_bound"] []) (T : Txt mg) (G__law_cell_at : HF P w K mg base 1 "_law_cell_at" (sp__law_cell_at K)) : HF P w K mg base 2 "_law_mixed" (sp__law_mixed K) := by
  refine hf_of F sc__law_mixed hmg hb (fun _ => rfl) (fun _ => rfl) (fun t i O h => pin0 h) ?_
  rintro X - - - - - ⟨cdv, A, outer, s, H, E, rfl⟩ hr ⟨ns, k, b⟩ ⟨h0, h1⟩
  have hN := sc__law_mixed.nd
  dsimp only at h0 h1
  show BV _ [some (scr K ns), some (da k), some (da b), none] _ (retD (da (mixed ns k b)) _)
  refine bv_cons (sv_set 3 (ev_mod (ev_add (ev_add (ev_mul (ev_call G__law_cell_at (ea_f (P := fscr K ns) (ev_var (P := fscr K ns) 0 (pv 0) rfl) (ea_v (ev_vard 1 (pv 1) rfl) ea_nil)) (ns, k) h0) ev_int (Or.inr ⟨by decide, by decide⟩)) (ev_mul ev_int (ev_vard 1 (pv 1) rfl) (Or.inl ⟨by decide, by decide⟩))) ev_int) ev_int (by decide)) ?_ hN)
  show BV _ [some (scr K ns), some (da k), some (da b), some (da ((cellAt ns k * 1103515245 + 7919 * k + 12345) % 2147483647))] _ _
  refine bv_cons (sv_ret (ev_mod (ev_mod (ev_mod (ev_pow (ev_vard 3 (pv 3) rfl) ev_int ⟨by decide, by decide, ?_⟩) ev_int (by decide)) ev_int (by decide)) (ev_vard 2 (pv 2) rfl) h1) ⟨rfl, Bk.none 3⟩)
  have h2 := Int.emod_nonneg (cellAt ns k * 1103515245 + 7919 * k + 12345) (show (2147483647 : Int) ≠ 0 by decide)
  have h3 := Int.emod_lt_of_pos (cellAt ns k * 1103515245 + 7919 * k + 12345) (show (0 : Int) < 2147483647 by decide)
  omega
abbrev s__law_draw : Stmt := top 29
theorem sc__law_draw : FnScope ["_law_script", "_law_town", "_law_bound"] ["_law_script", "_law_town", "_law_bound"] (defScope s__law_draw) := ⟨rfl, rfl, rfl, by decide +kernel, rfl, by decide +kernel, by decide +kernel⟩
def sp__law_draw (K : PySem.W.Frag) : Sp := spF (τ := Addr × List Int × Nat × Int) (fun t => t.2.2.1 < 1000000 ∧ 0 < t.2.2.2) (fun t => [some (scr K t.2.1), some (llA t.1 (town t.2.2.1)), some (da t.2.2.2)]) (fun t => da (draw t.2.1 t.2.2.1 t.2.2.2)) (fun t => [none, some (llA t.1 (town (t.2.2.1 + 1))), none])
theorem ok__law_draw {f : Addr} {fd : FuncData} (F : Fun K "_law_draw" "_law_draw" s__law_draw f fd) (hmg : mg "_law_draw" = some (.ref f)) (hb : Binds K fd ["_law_script", "_law_town", "_law_bound"] []) (T : Txt mg) (G__law_mixed : HF P w K mg base 2 "_law_mixed" (sp__law_mixed K)) : HF P w K mg base 3 "_law_draw" (sp__law_draw K) := by
  refine hf_of F sc__law_draw hmg hb (fun _ => rfl) (fun _ => rfl) (fun t i O h => pinA (n := 3) (k := 1) (a := t.1) rfl h) ?_
  rintro X - - - - - ⟨cdv, A, outer, s, H, E, rfl⟩ hr ⟨a, ns, n, b⟩ ⟨h0, h1⟩
  have hN := sc__law_draw.nd
  dsimp only at h0 h1
  show BV _ [some (scr K ns), some (llA a (town n)), some (da b)] _ (retD (da (draw ns n b)) [none, some (llA a (town (n + 1))), none])
  refine bv_cons (sv_expr (ev_appendT 1 (pv 1) rfl ev_int h0) ?_)
  show BV _ [some (scr K ns), some (llA a (town (n + 1))), some (da b)] _ _
  refine bv_cons (sv_ret (ev_call G__law_mixed (ea_f (P := fscr K ns) (ev_var (P := fscr K ns) 0 (pv 0) rfl) (ea_v (ev_lenTA 1 T.len (pv 1) rfl) (ea_v (ev_vard 2 (pv 2) rfl) ea_nil))) (ns, ((n + 1 : Nat) : Int), b) ⟨⟨by dsimp only; omega, by dsimp only; omega⟩, h1⟩) ⟨rfl, bkA (n := 3) (k := 1) rfl⟩)
abbrev s__law_pick : Stmt := top 30
theorem sc__law_pick : FnScope ["_law_script", "_law_town", "_law_some"] ["_law_script", "_law_town", "_law_some"] (defScope s__law_pick) := ⟨rfl, rfl, rfl, by decide +kernel, rfl, by decide +kernel, by decide +kernel⟩
def sp__law_pick (K : PySem.W.Frag) : Sp := spF (τ := Addr × List Int × Nat × List PyData) (fun t => t.2.2.1 < 1000000 ∧ t.2.2.2 ≠ []) (fun t => [some (scr K t.2.1), some (llA t.1 (town t.2.2.1)), some (dd (.list t.2.2.2))]) (fun t => dd (pickD t.2.1 t.2.2.1 t.2.2.2)) (fun t => [none, some (llA t.1 (town (t.2.2.1 + 1))), none])
theorem ok__law_pick {f : Addr} {fd : FuncData} (F : Fun K "_law_pick" "_law_pick" s__law_pick f fd) (hmg : mg "_law_pick" = some (.ref f)) (hb : Binds K fd ["_law_script", "_law_town", "_law_some"] []) (T : Txt mg) (G__law_draw : HF P w K mg base 3 "_law_draw" (sp__law_draw K)) : HF P w K mg base 4 "_law_pick" (sp__law_pick K) := by
  refine hf_of F sc__law_pick hmg hb (fun _ => rfl) (fun _ => rfl) (fun t i O h => pinA (n := 3) (k := 1) (a := t.1) rfl h) ?_
  rintro X - - - - - ⟨cdv, A, outer, s, H, E, rfl⟩ hr ⟨a, ns, n, ds⟩ ⟨h0, h1⟩
  have hN := sc__law_pick.nd
  dsimp only at h0 h1
  have hp : 0 < (ds.length : Int) := by have := List.length_pos_iff.mpr h1; omega
  show BV _ [some (scr K ns), some (llA a (town n)), some (dd (.list ds))] _ (retD (dd (pickD ns n ds)) [none, some (llA a (town (n + 1))), none])
  refine bv_cons (sv_ret (ev_ix (ev_vard 2 (pv 2) rfl) (ev_callA 1 1 (l := a) (ds := town n) (ds' := town (n + 1)) (O := da (draw ns n ds.length)) G__law_draw (ea_f (P := fscr K ns) (ev_var (P := fscr K ns) 0 (pv 0) rfl) (ea_sl (pv 1) rfl (ea_v (ev_lenDL T.len (ev_vard 2 (pv 2) rfl)) ea_nil))) (a, ns, n, (ds.length : Int)) ⟨h0, hp⟩ rfl rfl) (pick_at ns n h1)) ⟨rfl, bkA (n := 3) (k := 1) rfl⟩)

abbrev s__law_land : Stmt := top 31
theorem sc__law_land : FnScope ["_law_script", "_law_town", "_law_bound", "_law_tall", "_law_wide", "_law_high_here", "_law_turn", "_law_k"] ["_law_script", "_law_town", "_law_bound"] (defScope s__law_land) := ⟨rfl, rfl, rfl, by decide +kernel, rfl, by decide +kernel, by decide +kernel⟩
def sp__law_land (K : PySem.W.Frag) : Sp := spF (τ := Addr × List Int × Nat × Int) (fun t => t.2.2.1 < 900000 ∧ 0 < t.2.2.2 ∧ t.2.2.2 ≤ 8) (fun t => [some (scr K t.2.1), some (llA t.1 (town t.2.2.1)), some (da t.2.2.2)]) (fun t => da (landOf t.2.1 t.2.2.1 t.2.2.2)) (fun t => [none, some (llA t.1 (town (landN t.2.1 t.2.2.1 t.2.2.2))), none])
theorem land_eq (ns : List Int) (n : Nat) (b : Int) : Land.mk (((List.range (tallOf ns n b).toNat).map fun i => Tup.mk (lineOf ns (n + 3 + i * (wideOf ns n b).toNat) (wideOf ns n b).toNat (highOf ns n))).map Tup.items) = landOf ns n b := by
  unfold landOf; rw [List.map_map]; rfl
theorem ok__law_land {f : Addr} {fd : FuncData} (F : Fun K "_law_land" "_law_land" s__law_land f fd) (hmg : mg "_law_land" = some (.ref f)) (hb : Binds K fd ["_law_script", "_law_town", "_law_bound"] []) (T : Txt mg) (G__law_draw : HF P w K mg base 3 "_law_draw" (sp__law_draw K)) (G__law_pick : HF P w K mg base 4 "_law_pick" (sp__law_pick K)) : HF P w K mg base 5 "_law_land" (sp__law_land K) := by
  refine hf_of F sc__law_land hmg hb (fun _ => rfl) (fun _ => rfl) (fun t i O h => pinA (n := 3) (k := 1) (a := t.1) rfl h) ?_
  rintro X - - - - - ⟨cdv, A, outer, s, H, E, rfl⟩ hr ⟨a, ns, n, b⟩ ⟨h0, h1, h2⟩
  have hN := sc__law_land.nd
  dsimp only at h0 h1 h2
  have ht := tall_range (ns := ns) (n := n) h1
  have hw := wide_range (ns := ns) (n := n) h1
  have hh := high_range ns n
  have hij : ∀ i j : Nat, i < (tallOf ns n b).toNat → j < (wideOf ns n b).toNat → n + 3 + i * (wideOf ns n b).toNat + j < 1000000 := fun i j hi hj => by
    have : i * (wideOf ns n b).toNat ≤ 8 * 8 := Nat.mul_le_mul (by omega) (by omega)
    omega
  show BV _ [some (scr K ns), some (llA a (town n)), some (da b), none, none, none, none, none] _ (retD (da (landOf ns n b)) [none, some (llA a (town (landN ns n b))), none])
  refine bv_cons (sv_asg (ev_tup (el_cons (ev_add ev_int (ev_callA 1 1 (l := a) (ds := town n) (ds' := town (n + 1)) (O := da (draw ns n b)) G__law_draw (ea_f (P := fscr K ns) (ev_var (P := fscr K ns) 0 (pv 0) rfl) (ea_sl (pv 1) rfl (ea_v (ev_vard 2 (pv 2) rfl) ea_nil))) (a, ns, n, b) ⟨by dsimp only; omega, h1⟩ rfl rfl)) (el_cons (ev_add ev_int (ev_callA 1 1 (l := a) (ds := town (n + 1)) (ds' := town (n + 2)) (O := da (draw ns (n + 1) b)) G__law_draw (ea_f (P := fscr K ns) (ev_var (P := fscr K ns) 0 (pv 0) rfl) (ea_sl (pv 1) rfl (ea_v (ev_vard 2 (pv 2) rfl) ea_nil))) (a, ns, n + 1, b) ⟨by dsimp only; omega, h1⟩ rfl rfl)) el_nil)) two_le) (eg_tup rfl (egs_cons (eg_name 3 hN) (egs_cons (eg_name 4 hN) egs_nil))) ?_)
  show BV _ [some (scr K ns), some (llA a (town (n + 2))), some (da b), some (da (tallOf ns n b)), some (da (wideOf ns n b)), none, none, none] _ _
  refine bv_cons (sv_set 5 (EV.eqd (ev_callA 1 1 (l := a) (ds := town (n + 2)) (ds' := town (n + 3)) (O := dd (pickD ns (n + 2) [Datum.toD (2 : Int), Datum.toD (3 : Int), Datum.toD (4 : Int), Datum.toD (6 : Int), Datum.toD (10 : Int), Datum.toD (1000 : Int)])) G__law_pick (ea_f (P := fscr K ns) (ev_var (P := fscr K ns) 0 (pv 0) rfl) (ea_sl (pv 1) rfl (ea_v (ev_frz (ev_lst (el_cons ev_int (el_cons ev_int (el_cons ev_int (el_cons ev_int (el_cons ev_int (el_cons ev_int el_nil)))))) (by decide))) ea_nil))) (a, ns, n + 2, _) ⟨by show n + 2 < 1000000; omega, by simp⟩ rfl rfl) (highs_at ns (n + 2))) ?_ hN)
  show BV _ [some (scr K ns), some (llA a (town (n + 3))), some (da b), some (da (tallOf ns n b)), some (da (wideOf ns n b)), some (da (highOf ns n)), none, none] _ _
  refine bv_cons (sv_ret (ev_landOf T.tuple (ev_frz (ev_of (ev_lcR (ix := [6]) [("_law_turn", 6)] (fun i => Tup.mk (lineOf ns (n + 3 + i * (wideOf ns n b).toNat) (wideOf ns n b).toNat (highOf ns n)))
    (fun i => [some (scr K ns), some (llA a (town (n + 3 + i * (wideOf ns n b).toNat))), some (da b), some (da (tallOf ns n b)), some (da (wideOf ns n b)), some (da (highOf ns n)), none, none])
    (fun i x => [some (scr K ns), some (llA a (town (n + 3 + i * (wideOf ns n b).toNat))), some (da b), some (da (tallOf ns n b)), some (da (wideOf ns n b)), some (da (highOf ns n)), some (da x), none]) rfl hN (ei_range1 T.range (ev_vard 3 (pv 3) rfl) ⟨by omega, by omega⟩) (by rw [Nat.zero_mul]; first | done | rfl)
    (blkOk_by (N := ["_law_script", "_law_town", "_law_bound", "_law_tall", "_law_wide", "_law_high_here", "_law_turn", "_law_k"]) (sc := defScope s__law_land) (by decide +kernel)) (size64' (by omega)) (by intro j i hi O; simp at hi; subst hi; simp) (by simp)
    (fun j x s H C cl fp => (show EG _ _ _ _ _ _ from eg_name 6 hN))
    (fun j x hj s H C cl fp => ⟨_, show EV _ _ _ _ _ from ev_tupleOf T.tuple (ev_frz (ev_of (ev_lcR (ix := [7]) [("_law_k", 7)] (fun i => draw ns (n + 3 + j * (wideOf ns n b).toNat + i) (highOf ns n))
      (fun i => [some (scr K ns), some (llA a (town (n + 3 + j * (wideOf ns n b).toNat + i))), some (da b), some (da (tallOf ns n b)), some (da (wideOf ns n b)), some (da (highOf ns n)), some (da x), none])
      (fun i y => [some (scr K ns), some (llA a (town (n + 3 + j * (wideOf ns n b).toNat + i))), some (da b), some (da (tallOf ns n b)), some (da (wideOf ns n b)), some (da (highOf ns n)), some (da x), some (da y)]) rfl hN (ei_range1 T.range (ev_vard 4 (pv 4) rfl) ⟨by omega, by omega⟩) rfl
      (blkOk_by (N := ["_law_script", "_law_town", "_law_bound", "_law_tall", "_law_wide", "_law_high_here", "_law_turn", "_law_k"]) (sc := inS (lcAt s__law_land 0) (defScope s__law_land)) (by decide +kernel)) (size64' (by omega)) (by intro j i hi O; simp at hi; subst hi; simp) (by simp)
      (fun i y s H C cl fp => (show EG _ _ _ _ _ _ from eg_name 7 hN))
      (fun i y hi s H C cl fp => ⟨_, show EV _ _ _ _ _ from ev_callA 1 1 (l := a) (ds := town (n + 3 + j * (wideOf ns n b).toNat + i)) (ds' := town (n + 3 + j * (wideOf ns n b).toNat + (i + 1))) (O := da (draw ns (n + 3 + j * (wideOf ns n b).toNat + i) (highOf ns n))) G__law_draw (ea_f (P := fscr K ns) (ev_var (P := fscr K ns) 0 (pv 0) rfl) (ea_sl (pv 1) rfl (ea_v (ev_vard 5 (pv 5) rfl) ea_nil))) (a, ns, n + 3 + j * (wideOf ns n b).toNat + i, highOf ns n) ⟨hij j i hj hi, hh.1⟩ rfl rfl,
        (Wk.eq rfl (Wk.eq rfl (Wk.eq rfl (Wk.eq rfl (Wk.eq rfl (Wk.eq rfl (Wk.eq rfl (Wk.drop Wk.nil))))))))⟩)))),
      (Wk.eq rfl (Wk.eq (by rw [Nat.succ_mul, Nat.add_assoc (n + 3)]) (Wk.eq rfl (Wk.eq rfl (Wk.eq rfl (Wk.eq rfl (Wk.drop (Wk.eq rfl Wk.nil))))))))⟩))))) ⟨congrArg (fun z => da z) (land_eq ns n b), bkA (n := 3) (k := 1) rfl⟩)

abbrev s_is_whole : Stmt := top 7
theorem sc_is_whole : FnScope ["thing", "low", "high"] ["thing", "low", "high"] (defScope s_is_whole) := ⟨rfl, rfl, rfl, by decide +kernel, rfl, by decide +kernel, by decide +kernel⟩
def sp_is_whole : Sp := spF (τ := Int × Int × Int) (fun t => True) (fun t => [some (da t.1), some (da t.2.1), some (da t.2.2)]) (fun t => da (m_whole t.1 t.2.1 t.2.2)) (fun _ => List.replicate 3 none)
theorem ok_is_whole {f : Addr} {fd : FuncData} (F : Fun K "is_whole" "is_whole" s_is_whole f fd) (hmg : mg "is_whole" = some (.ref f)) (hb : Binds K fd ["thing", "low", "high"] []) (T : Txt mg) : HF P w K mg base 1 "is_whole" (sp_is_whole) := by
  refine hf_of F sc_is_whole hmg hb (fun _ => rfl) (fun _ => rfl) (fun t i O h => pin0 h) ?_
  rintro X - - - - - ⟨cdv, A, outer, s, H, E, rfl⟩ hr ⟨thing, low, high⟩ hok
  have hN := sc_is_whole.nd
  try dsimp only at hok
  show BV _ [some (da thing), some (da low), some (da high)] _ (retD (da (m_whole thing low high)) _)
  refine bv_cons (sv_ret (ev_and (ev_isi (k := true) (kitInt _) T.isi T.int (ev_vard 0 (pv 0) rfl)) (fun h2 => (ev_and (ev_not (ev_isi (k := false) (kitBool _) T.isi T.bool (ev_vard 0 (pv 0) rfl))) (fun h1 => (ev_one (ev_chain op_le op_le (ev_vard 1 (pv 1) rfl) (ev_vard 0 (pv 0) rfl) (ev_vard 2 (pv 2) rfl))))))) ⟨?_, Bk.none 3⟩)
  show (da ((true && ((!false) && (decide (low ≤ thing) && decide (thing ≤ high)))) : Bool) : OP) = _
  refine congrArg (fun z => da z) ?_
  rfl

abbrev s_is_line : Stmt := top 8
theorem sc_is_line : FnScope ["thing", "long", "one"] ["thing", "long"] (defScope s_is_line) := ⟨rfl, rfl, rfl, by decide +kernel, rfl, by decide +kernel, by decide +kernel⟩
def sp_is_line : Sp := spF (τ := (Tup Int) × Int) (fun t => t.1.items.length ≤ 1000) (fun t => [some (da t.1), some (da t.2)]) (fun t => da (lineB t.1 t.2)) (fun _ => List.replicate 2 none)
theorem ok_is_line {f : Addr} {fd : FuncData} (F : Fun K "is_line" "is_line" s_is_line f fd) (hmg : mg "is_line" = some (.ref f)) (hb : Binds K fd ["thing", "long"] []) (T : Txt mg) (G_is_whole : HF P w K mg base 1 "is_whole" sp_is_whole) : HF P w K mg base 2 "is_line" (sp_is_line) := by
  refine hf_of F sc_is_line hmg hb (fun _ => rfl) (fun _ => rfl) (fun t i O h => pin0 h) ?_
  rintro X - - - - - ⟨cdv, A, outer, s, H, E, rfl⟩ hr ⟨thing, long⟩ hok
  have hN := sc_is_line.nd
  try dsimp only at hok
  show BV _ [some (da thing), some (da long), none] _ (retD (da (lineB thing long)) _)
  refine bv_cons (sv_if (et_w (ew_or (et_not (et_val (ev_isi (k := true) (kitTuple _) T.isi T.tuple (ev_vard 0 (pv 0) rfl)))) (fun h1 => (ew_or1 (et_cmp (ec_ne (by assumption) (ev_lenT T.len (ev_vard 0 (pv 0) rfl)) (ev_vard 1 (pv 1) rfl))))))) (fun hb2 => ?_) (fun hb2 => ?_))
  · skip
    refine bv_cons (sv_ret ev_bl ⟨?_, Bk.none 2⟩)
    show (da (false : Bool) : OP) = _
    refine congrArg (fun z => da z) ?_
    first | rfl | (simp_all [lineB]; done)
  · skip
    refine bv_nil ?_
    show BV _ [some (da thing), some (da long), none] _ _
    refine bv_cons (sv_ret (ev_all rfl T.all (ev_frzA (α := Bool) (ev_of (ev_lc (ix := [2]) [("one", 2)] (fun (x3 : Int) => ((m_whole x3 0 999) : Bool)) (fun x3 => [some (da thing), some (da long), some (da x3)]) rfl hN (ei_tup (ev_vard 0 (pv 0) rfl)) (blkOk_by (N := ["thing", "long", "one"]) (sc := defScope s_is_line) (by decide +kernel)) (by first | exact Nat.le_of_lt (small1000 hok) | omega) (by intro i hi O; simp at hi; subst hi; simp) (by simp) (fun x3 m4 s H C cl fp => (show EG _ _ _ _ _ _ from (eg_name 2 hN))) (fun x3 m4 s H C cl fp => (show EV _ _ _ _ _ from (ev_call G_is_whole (ea_v (ev_vard 2 (pv 2) rfl) (ea_v ev_int (ea_v (ev_glob T.high) ea_nil))) (x3, 0, 999) trivial))) (fun x3 => (Wk.eq rfl (Wk.eq rfl (Wk.drop Wk.nil)))))))) ⟨?_, Bk.none 2⟩)
    show (da (((thing.items.map (fun (x3 : Int) => ((m_whole x3 0 999) : Bool))).all id) : Bool) : OP) = _
    refine congrArg (fun z => da z) ?_
    first | rfl | (simp_all [lineB]; done)

abbrev s_is_land : Stmt := top 9
theorem sc_is_land : FnScope ["thing", "line"] ["thing"] (defScope s_is_land) := ⟨rfl, rfl, rfl, by decide +kernel, rfl, by decide +kernel, by decide +kernel⟩
def sp_is_land : Sp := spF (τ := Land) (fun t => LandOk t) (fun t => [some (da t)]) (fun t => da true) (fun _ => List.replicate 1 none)
theorem ok_is_land {f : Addr} {fd : FuncData} (F : Fun K "is_land" "is_land" s_is_land f fd) (hmg : mg "is_land" = some (.ref f)) (hb : Binds K fd ["thing"] []) (T : Txt mg) (G_is_line : HF P w K mg base 2 "is_line" sp_is_line) : HF P w K mg base 3 "is_land" (sp_is_land) := by
  refine hf_of F sc_is_land hmg hb (fun _ => rfl) (fun _ => rfl) (fun t i O h => pin0 h) ?_
  rintro X - - - - - ⟨cdv, A, outer, s, H, E, rfl⟩ hr thing hok
  have hN := sc_is_land.nd
  try dsimp only at hok
  show BV _ [some (da thing), none] _ (retD (da true) _)
  refine bv_cons (sv_if (et_w (ew_or (et_not (et_val (ev_isi (k := true) (kitTuple _) T.isi T.tuple (ev_vard 0 (pv 0) rfl)))) (fun h1 => (ew_or1 (et_not (et_chain op_le op_le ev_int (ev_lenL T.len (ev_vard 0 (pv 0) rfl)) (ev_glob T.most))))))) (fun hb2 => ?_) (fun hb2 => ?_))
  · skip
    refine bv_cons (sv_ret ev_bl ⟨?_, Bk.none 1⟩)
    show (da (false : Bool) : OP) = _
    refine congrArg (fun z => da z) ?_
    first | (exfalso; have := hok.r1; have := hok.r8; have := hok.c1; have := hok.c8; have := row0_len hok; simp_all; omega) | exact land_lines hok
  · skip
    refine bv_nil ?_
    show BV _ [some (da thing), none] _ _
    refine bv_cons (sv_if (et_w (ew_or (et_not (et_val (ev_isi (k := true) (kitTuple _) T.isi T.tuple (ev_row0 (ev_vard 0 (pv 0) rfl) (by first | exact hok | exact rows_small hok | omega))))) (fun h3 => (ew_or1 (et_not (et_chain op_le op_le ev_int (ev_lenT T.len (ev_row0 (ev_vard 0 (pv 0) rfl) (by first | exact hok | exact rows_small hok | omega))) (ev_glob T.most))))))) (fun hb4 => ?_) (fun hb4 => ?_))
    · skip
      refine bv_cons (sv_ret ev_bl ⟨?_, Bk.none 1⟩)
      show (da (false : Bool) : OP) = _
      refine congrArg (fun z => da z) ?_
      first | (exfalso; have := hok.r1; have := hok.r8; have := hok.c1; have := hok.c8; have := row0_len hok; simp_all; omega) | exact land_lines hok
    · skip
      refine bv_nil ?_
      show BV _ [some (da thing), none] _ _
      refine bv_cons (sv_ret (ev_all rfl T.all (ev_frzA (α := Bool) (ev_of (ev_lc (ix := [1]) [("line", 1)] (fun (x5 : Tup Int) => ((lineB x5 ((Tup.mk (rowAt thing 0)).items.length : Int)) : Bool)) (fun x5 => [some (da thing), some (da x5)]) rfl hN (ei_tup (ev_vard 0 (pv 0) rfl)) (blkOk_by (N := ["thing", "line"]) (sc := defScope s_is_land) (by decide +kernel)) (by first | exact hok | exact rows_small hok | omega) (by intro i hi O; simp at hi; subst hi; simp) (by simp) (fun x5 m6 s H C cl fp => (show EG _ _ _ _ _ _ from (eg_name 1 hN))) (fun x5 m6 s H C cl fp => (show EV _ _ _ _ _ from (ev_call G_is_line (ea_v (ev_vard 1 (pv 1) rfl) (ea_v (ev_lenT T.len (ev_row0 (ev_vard 0 (pv 0) rfl) (by first | exact hok | exact rows_small hok | omega))) ea_nil)) (x5, ((Tup.mk (rowAt thing 0)).items.length : Int)) (by first | assumption | exact row_small hok (by assumption) | (simp; omega))))) (fun x5 => (Wk.eq rfl (Wk.drop Wk.nil))))))) ⟨?_, Bk.none 1⟩)
      show (da (((((rowsT thing).items).map (fun (x5 : Tup Int) => ((lineB x5 ((Tup.mk (rowAt thing 0)).items.length : Int)) : Bool))).all id) : Bool) : OP) = _
      refine congrArg (fun z => da z) ?_
      first | (exfalso; have := hok.r1; have := hok.r8; have := hok.c1; have := hok.c8; have := row0_len hok; simp_all; omega) | exact land_lines hok

abbrev s_need_land : Stmt := top 10
theorem sc_need_land : FnScope ["thing"] ["thing"] (defScope s_need_land) := ⟨rfl, rfl, rfl, by decide +kernel, rfl, by decide +kernel, by decide +kernel⟩
def sp_need_land : Sp := spF (τ := Land) (fun t => LandOk t) (fun t => [some (da t)]) (fun t => da ()) (fun _ => List.replicate 1 none)
theorem ok_need_land {f : Addr} {fd : FuncData} (F : Fun K "need_land" "need_land" s_need_land f fd) (hmg : mg "need_land" = some (.ref f)) (hb : Binds K fd ["thing"] []) (T : Txt mg) (G_is_land : HF P w K mg base 3 "is_land" sp_is_land) : HF P w K mg base 4 "need_land" (sp_need_land) := by
  refine hf_of F sc_need_land hmg hb (fun _ => rfl) (fun _ => rfl) (fun t i O h => pin0 h) ?_
  rintro X - - - - - ⟨cdv, A, outer, s, H, E, rfl⟩ hr thing hok
  have hN := sc_need_land.nd
  try dsimp only at hok
  show BV _ [some (da thing)] _ (retD (da ()) _)
  refine bv_cons (sv_if (et_not (et_val (ev_call G_is_land (ea_v (ev_vard 0 (pv 0) rfl) ea_nil) thing (by first | exact hok | exact hok.1 | assumption)))) (fun hb1 => ?_) (fun hb1 => ?_))
  · skip
    exfalso; simp_all
  · skip
    refine bv_nil ?_
    show BV _ [some (da thing)] _ _
    exact bv_nil ⟨rfl, Bk.none 1⟩

--M
abbrev s_need_level : Stmt := top 20
theorem sc_need_level : FnScope ["land", "level"] ["land", "level"] (defScope s_need_level) := ⟨rfl, rfl, rfl, by decide +kernel, rfl, by decide +kernel, by decide +kernel⟩
def sp_need_level : Sp := spF (τ := Land × Int × Unit) (fun t => m_need_level t.1 t.2.1 = .ok t.2.2) (fun t => [some (da t.1), some (da t.2.1)]) (fun t => da t.2.2) (fun t => List.replicate 2 none)
set_option maxHeartbeats 0 in
theorem ok_need_level {f : Addr} {fd : FuncData} (F : Fun K "need_level" "need_level" s_need_level f fd) (hmg : mg "need_level" = some (.ref f)) (hb : Binds K fd ["land", "level"] []) (T : Txt mg) (G_need_land : HF P w K mg base 4 "need_land" sp_need_land) (G_is_whole : HF P w K mg base 1 "is_whole" sp_is_whole) : HF P w K mg base 5 "need_level" (sp_need_level) := by
  refine hf_of F sc_need_level hmg hb (fun _ => rfl) (fun _ => rfl) (fun t i O h => pin0 h) ?_
  rintro X - - - - - ⟨cdv, A, outer, s, H, E, rfl⟩ hr ⟨land, level, rr⟩ hm
  have hN := sc_need_level.nd
  replace hm : m_need_level land level = .ok rr := hm
  unfold m_need_level at hm
  show BV _ [some (da land), some (da level)] _ (retD (da rr) _)
  replace hm := gd_ok hm; obtain ⟨g1, hm⟩ := hm
  refine bv_cons (sv_expr (ev_call G_need_land (ea_v (ev_vard 0 (pv 0) rfl) ea_nil) land g1) ?_)
  show BV _ [some (da land), some (da level)] _ _
  refine bv_cons (sv_if (et_not (et_val (ev_call G_is_whole (ea_v (ev_vard 1 (pv 1) rfl) (ea_v ev_int (ea_v (ev_glob T.high) ea_nil))) (level, 0, 999) trivial))) (fun hb2 => ?_) (fun hb2 => ?_))
  · replace hm := ifok_t hm hb2
    cases hm
  · replace hm := ifok_f hm hb2
    refine bv_nil ?_
    show BV _ [some (da land), some (da level)] _ _
    exact bv_nil ⟨rfl, Bk.none 2⟩

abbrev s_is_cell : Stmt := top 11
theorem sc_is_cell : FnScope ["land", "thing"] ["land", "thing"] (defScope s_is_cell) := ⟨rfl, rfl, rfl, by decide +kernel, rfl, by decide +kernel, by decide +kernel⟩
def sp_is_cell : Sp := spF (τ := Land × Cell) (fun t => LandOk t.1) (fun t => [some (da t.1), some (da t.2)]) (fun t => da (decide (IsCell t.1 t.2))) (fun _ => List.replicate 2 none)
theorem ok_is_cell {f : Addr} {fd : FuncData} (F : Fun K "is_cell" "is_cell" s_is_cell f fd) (hmg : mg "is_cell" = some (.ref f)) (hb : Binds K fd ["land", "thing"] []) (T : Txt mg) (G_is_whole : HF P w K mg base 1 "is_whole" sp_is_whole) : HF P w K mg base 2 "is_cell" (sp_is_cell) := by
  refine hf_of F sc_is_cell hmg hb (fun _ => rfl) (fun _ => rfl) (fun t i O h => pin0 h) ?_
  rintro X - - - - - ⟨cdv, A, outer, s, H, E, rfl⟩ hr ⟨land, thing⟩ hok
  have hN := sc_is_cell.nd
  try dsimp only at hok
  show BV _ [some (da land), some (da thing)] _ (retD (da (decide (IsCell land thing))) _)
  refine bv_cons (sv_if (et_w (ew_or (et_not (et_val (ev_isi (k := true) (kitTuple _) T.isi T.tuple (ev_vard 1 (pv 1) rfl)))) (fun h1 => (ew_or1 (et_cmp (ec_ne (by assumption) (ev_lenP T.len (ev_vard 1 (pv 1) rfl)) ev_int)))))) (fun hb2 => ?_) (fun hb2 => ?_))
  · skip
    refine bv_cons (sv_ret ev_bl ⟨?_, Bk.none 2⟩)
    show (da (false : Bool) : OP) = _
    refine congrArg (fun z => da z) ?_
    first | (exfalso; simp_all; done) | exact is_cell_eq hok
  · skip
    refine bv_nil ?_
    show BV _ [some (da land), some (da thing)] _ _
    refine bv_cons (sv_ret (ev_and (ev_call G_is_whole (ea_v (ev_fst (ev_vard 1 (pv 1) rfl)) (ea_v ev_int (ea_v (ev_sub (ev_lenL T.len (ev_vard 0 (pv 0) rfl)) ev_int) ea_nil))) (thing.1, 0, ((nR land : Int) - 1)) trivial) (fun h3 => (ev_one (ev_call G_is_whole (ea_v (ev_snd (ev_vard 1 (pv 1) rfl)) (ea_v ev_int (ea_v (ev_sub (ev_lenT T.len (ev_row0 (ev_vard 0 (pv 0) rfl) (by first | assumption | exact hok | exact hok.1 | exact hok.2 | omega))) ev_int) ea_nil))) (thing.2, 0, (((Tup.mk (rowAt land 0)).items.length : Int) - 1)) trivial)))) ⟨?_, Bk.none 2⟩)
    show (da (((m_whole thing.1 0 ((nR land : Int) - 1)) && (m_whole thing.2 0 (((Tup.mk (rowAt land 0)).items.length : Int) - 1))) : Bool) : OP) = _
    refine congrArg (fun z => da z) ?_
    first | (exfalso; simp_all; done) | exact is_cell_eq hok

abbrev s_beside_of : Stmt := top 14
theorem sc_beside_of : FnScope ["land", "cell", "down", "across", "some", "one"] ["land", "cell"] (defScope s_beside_of) := ⟨rfl, rfl, rfl, by decide +kernel, rfl, by decide +kernel, by decide +kernel⟩
def sp_beside_of : Sp := spF (τ := Land × Cell) (fun t => LandOk t.1) (fun t => [some (da t.1), some (da t.2)]) (fun t => da (bes t.1 t.2)) (fun _ => List.replicate 2 none)
theorem ok_beside_of {f : Addr} {fd : FuncData} (F : Fun K "beside_of" "beside_of" s_beside_of f fd) (hmg : mg "beside_of" = some (.ref f)) (hb : Binds K fd ["land", "cell"] []) (T : Txt mg) (G_is_cell : HF P w K mg base 2 "is_cell" sp_is_cell) : HF P w K mg base 3 "beside_of" (sp_beside_of) := by
  refine hf_of F sc_beside_of hmg hb (fun _ => rfl) (fun _ => rfl) (fun t i O h => pin0 h) ?_
  rintro X - - - - - ⟨cdv, A, outer, s, H, E, rfl⟩ hr ⟨land, cell⟩ hok
  have hN := sc_beside_of.nd
  try dsimp only at hok
  show BV _ [some (da land), some (da cell), none, none, none, none] _ (retD (da (bes land cell)) _)
  refine bv_cons (sv_asg (ev_vard 1 (pv 1) rfl) (eg_tup rfl (egs_cons (eg_name 2 hN) (egs_cons (eg_name 3 hN) egs_nil))) ?_)
  show BV _ [some (da land), some (da cell), some (da cell.1), some (da cell.2), none, none] _ _
  refine bv_gen (f := fun (down : Int) => [some (da land), some (da cell), some (da down), some (da cell.2), none, none]) cell.1 ?_
  intro down h_down
  show BV _ [some (da land), some (da cell), some (da down), some (da cell.2), none, none] _ _
  refine bv_gen (f := fun (across : Int) => [some (da land), some (da cell), some (da down), some (da across), none, none]) cell.2 ?_
  intro across h_across
  show BV _ [some (da land), some (da cell), some (da down), some (da across), none, none] _ _
  refine bv_cons (sv_set 4 (ev_frzA (α := Int × Int) (ev_lstA (xs := [((down - 1), across), (down, (across - 1)), (down, (across + 1)), ((down + 1), across)]) (el_cons (ev_pair (ev_sub (ev_vard 2 (pv 2) rfl) ev_int) (ev_vard 3 (pv 3) rfl)) (el_cons (ev_pair (ev_vard 2 (pv 2) rfl) (ev_sub (ev_vard 3 (pv 3) rfl) ev_int)) (el_cons (ev_pair (ev_vard 2 (pv 2) rfl) (ev_add (ev_vard 3 (pv 3) rfl) ev_int)) (el_cons (ev_pair (ev_add (ev_vard 2 (pv 2) rfl) ev_int) (ev_vard 3 (pv 3) rfl)) el_nil)))) (show 4 ≤ 1000 by decide))) ?_ hN)
  show BV _ [some (da land), some (da cell), some (da down), some (da across), some (da [((down - 1), across), (down, (across - 1)), (down, (across + 1)), ((down + 1), across)]), none] _ _
  refine bv_gen (f := fun (some0 : List (Int × Int)) => [some (da land), some (da cell), some (da down), some (da across), some (da some0), none]) [((down - 1), across), (down, (across - 1)), (down, (across + 1)), ((down + 1), across)] ?_
  intro some0 h_some0
  show BV _ [some (da land), some (da cell), some (da down), some (da across), some (da some0), none] _ _
  have hs4 : some0.length ≤ 64 := by rw [h_some0]; exact (show 4 ≤ 64 by decide)
  refine bv_cons (sv_ret (ev_frzA (α := Int × Int) (ev_of (ev_lcF (ix := [5]) [("one", 5)] (fun (x1 : Int × Int) => (decide (IsCell land x1))) (fun (x1 : Int × Int) => (x1 : Int × Int)) (fun x1 => [some (da land), some (da cell), some (da down), some (da across), some (da some0), some (da x1)]) rfl hN (ei_lst (ev_vard 4 (pv 4) rfl)) (blkOk_by (N := ["land", "cell", "down", "across", "some", "one"]) (sc := defScope s_beside_of) (by decide +kernel)) (by first | assumption | exact size64' hs4 | omega) (by intro i hi O; simp at hi; subst hi; simp) (by simp) (fun x1 m2 s H C cl fp => (show EG _ _ _ _ _ _ from (eg_name 5 hN))) (fun x1 m2 s H C cl fp => (show ETs _ _ _ _ _ from ets_one (et_val (ev_call G_is_cell (ea_v (ev_vard 0 (pv 0) rfl) (ea_v (ev_vard 5 (pv 5) rfl) ea_nil)) (land, x1) (by first | exact hok | exact hok.1 | assumption))))) (fun x1 m2 h3 s H C cl fp => (show EV _ _ _ _ _ from (ev_vard 5 (pv 5) rfl))) (fun x1 => (Wk.eq rfl (Wk.eq rfl (Wk.eq rfl (Wk.eq rfl (Wk.eq rfl (Wk.drop Wk.nil)))))))))) ⟨?_, Bk.none 2⟩)
  show (da (((some0.filter (fun (x1 : Int × Int) => (decide (IsCell land x1)))).map (fun (x1 : Int × Int) => (x1 : Int × Int))) : List (Int × Int)) : OP) = _
  refine congrArg (fun z => da z) ?_
  -- goal 1 (return): return [one for one in some if is_cell(land, one)]
  rw [List.map_id', h_some0, h_down, h_across]; exact bes_four

abbrev s_spread_of : Stmt := top 15
theorem sc_spread_of : FnScope ["land", "cell", "good", "found", "left", "other"] ["land", "cell", "good"] (defScope s_spread_of) := ⟨rfl, rfl, rfl, by decide +kernel, rfl, by decide +kernel, by decide +kernel⟩
def sp_spread_of : Sp := spF (τ := Land × Cell × (List (Cell × Bool))) (fun t => LandOk t.1 ∧ IsCell t.1 t.2.1 ∧ (t.2.2).length ≤ 1000) (fun t => [some (da t.1), some (da t.2.1), some (dF t.2.2)]) (fun t => da (comp t.1 (fun z => inK t.2.2 z = true) t.2.1)) (fun _ => List.replicate 3 none)
theorem ok_spread_of {f : Addr} {fd : FuncData} (F : Fun K "spread_of" "spread_of" s_spread_of f fd) (hmg : mg "spread_of" = some (.ref f)) (hb : Binds K fd ["land", "cell", "good"] []) (T : Txt mg) (G_beside_of : HF P w K mg base 3 "beside_of" sp_beside_of) : HF P w K mg base 4 "spread_of" (sp_spread_of) := by
  refine hf_of F sc_spread_of hmg hb (fun _ => rfl) (fun _ => rfl) (fun t i O h => pin0 h) ?_
  rintro X - - - - - ⟨cdv, A, outer, s, H, E, rfl⟩ hr ⟨land, cell, good⟩ hok
  have hN := sc_spread_of.nd
  try dsimp only at hok
  show BV _ [some (da land), some (da cell), some (dF good), none, none, none] _ (retD (da (comp land (fun z => inK good z = true) cell)) _)
  refine bv_cons (sv_parO 3 4 rfl (ev_disp1 (by assumption) (ev_vard 1 (pv 1) rfl) ev_bl) (ev_lstA (xs := [cell]) (el_cons (ev_vard 1 (pv 1) rfl) el_nil) (show 1 ≤ 1000 by decide)) ?_ hN)
  show BV _ [some (da land), some (da cell), some (dF good), some (dO [(cell, true)]), some (la [cell]), none] _ _
  refine bv_gen (f := fun (found : List (Cell × Bool)) => [some (da land), some (da cell), some (dF good), some (dO found), some (la [cell]), none]) [(cell, true)] ?_
  intro found h_found
  show BV _ [some (da land), some (da cell), some (dF good), some (dO found), some (la [cell]), none] _ _
  refine bv_gen (f := fun (left : List Cell) => [some (da land), some (da cell), some (dF good), some (dO found), some (la left), none]) [cell] ?_
  intro left h_left
  show BV _ [some (da land), some (da cell), some (dF good), some (dO found), some (la left), none] _ _
  refine bv_cons (sv_while (τ := (List Cell) × (List (Cell × Bool))) PassesOwn.never (fun t1 => [some (da land), some (da cell), some (dF good), some (dO t1.2), some (la t1.1), none]) (fun t1 => SpW land (fun z => inK good z = true) cell t1.2 t1.1 ∧ SpC land (fun z => inK good z = true) t1.2 (fun z => z ∉ t1.1)) (fun t1 => 2 * (64 - (t1.2).length) + (t1.1).length) (fun t1 => decide (t1.1 ≠ [])) (left, found) ?_ (Wk.ofEq rfl) ?_ ?_ ?_)
  · skip
    -- goal 1 (while 0 start): 
    subst h_found h_left
    exact spread_start hok.2.1
  · rintro ⟨left_1, found_1⟩ hW0
    try dsimp only at hW0
    show ET _ [some (da land), some (da cell), some (dF good), some (dO found_1), some (la left_1), none] _ _ _
    exact (et_cmp (ec_neO 4 (by assumption) (pv 4) rfl (ev_frzA (α := Cell) (ev_nil (α := Cell))) rfl))
  · rintro ⟨left_2, found_2⟩ hW0 hw0
    try dsimp only at hW0 hw0
    show BV _ [some (da land), some (da cell), some (dF good), some (dO found_2), some (la left_2), none] _ _
    obtain ⟨hSW, hSC⟩ := hW0
    have hne : left_2 ≠ [] := of_decide_eq_true hw0
    obtain ⟨ys, x, hlx⟩ : ∃ ys y, left_2 = ys ++ [y] := ⟨left_2.dropLast, left_2.getLast hne, (List.dropLast_concat_getLast hne).symm⟩
    have hx : left_2.getLastD (0, 0) = x := by rw [hlx]; simp
    have hdl : left_2.dropLast = ys := by rw [hlx]; simp
    have hxm : x ∈ left_2 := by rw [hlx]; simp
    refine bv_cons (sv_forI (α := Cell) (τ := (List (Cell × Bool)) × (List Cell)) (xs := (bes land (left_2.getLastD (0, 0)))) (ix := [5]) rfl PassesOwn.never (ei_lst (ev_call G_beside_of (ea_v (ev_vard 0 (pv 0) rfl) (ea_v (ev_popA 4 (0, 0) (pv 4) rfl (by first | assumption | omega)) ea_nil)) (land, (left_2.getLastD (0, 0))) (by first | exact hok | exact hok.1 | assumption))) (fun t2 => [some (da land), some (da cell), some (dF good), some (dO t2.1), some (la t2.2), none]) (fun t2 x3 => [some (da land), some (da cell), some (dF good), some (dO t2.1), some (la t2.2), some (da x3)]) (fun (i : Nat) (t2 : (List (Cell × Bool)) × (List Cell)) => (SpW land (fun z => inK good z = true) cell t2.1 t2.2 ∧ inK t2.1 (left_2.getLastD (0, 0)) = true ∧ SpC land (fun z => inK good z = true) t2.1 (fun z => z ∉ t2.2 ∧ z ≠ left_2.getLastD (0, 0)) ∧ (∀ b, b ∈ (bes land (left_2.getLastD (0, 0))).take i → inK good b = true → inK t2.1 b = true)) ∧ 2 * (64 - (t2.1).length) + (t2.2).length + 1 ≤ 2 * (64 - found_2.length) + left_2.length) (found_2, (left_2.dropLast)) ?_ (Wk.ofEq rfl) (fun t2 x3 => (eg_name 5 hN)) ?_ ?_)
    · skip
      -- goal 2 (loop 1 start): 
      rw [hdl, hx]
      have hln := hSW.len
      rw [hlx, List.length_append, List.length_singleton] at hln
      refine ⟨⟨⟨hSW.rch, hSW.has, fun z hz => hSW.sub z (by rw [hlx]; exact List.mem_append.mpr (.inl hz)), hSW.nd, ?_⟩, hSW.sub x hxm, fun z hz hz2 => hSC z hz ?_, ?_⟩, ?_⟩
      · show ys.length ≤ found_2.length
        omega
      · intro m
        rw [hlx] at m
        rcases List.mem_append.mp m with q | q
        · exact hz2.1 q
        · exact hz2.2 (by simpa using q)
      · intro b hb; simp at hb
      · show 2 * (64 - found_2.length) + ys.length + 1 ≤ 2 * (64 - found_2.length) + left_2.length
        rw [hlx, List.length_append, List.length_singleton]; omega
    · rintro i4 x3 ⟨found_3, left_3⟩ hx1 hI1
      try dsimp only at hI1
      show BV _ [some (da land), some (da cell), some (dF good), some (dO found_3), some (la left_3), some (da x3)] _ _
      obtain ⟨⟨hSW1, hxin, hSC1, hT1⟩, hM1⟩ := hI1
      have hb1 : x3 ∈ bes land (left_2.getLastD (0, 0)) := List.mem_of_getElem? hx1
      have hrx := (hSW1.rch _ hxin).1
      have hf64 := hSW1.few hok.1
      have hl64 := hSW1.len
      have hfl : found_3.length < sizeLine := small1000 (by omega)
      have hll : left_3.length < sizeLine := small1000 (by omega)
      refine bv_cons (sv_if (et_w (ew_and (et_cmp (ec_inD (by assumption) (ev_vard 5 (pv 5) rfl) (evd_frz (ev_var (P := dFP good) 2 (pv 2) rfl)))) (fun h5 => (ew_and1 (et_cmp (ec_notinD (by assumption) (ev_vard 5 (pv 5) rfl) (evd_own 3 (pv 3) rfl))))))) (fun hb6 => ?_) (fun hb6 => ?_))
      · skip
        refine bv_cons (sv_dput 3 (by assumption) ev_bl (pv 3) rfl (ev_vard 5 (pv 5) rfl) rfl (by first | assumption | omega) ?_)
        show BV _ [some (da land), some (da cell), some (dF good), some (dO (putP found_3 x3 true)), some (la left_3), some (da x3)] _ _
        refine bv_cons (sv_expr (ev_appendA 4 (pv 4) rfl (ev_vard 5 (pv 5) rfl) rfl (by first | assumption | omega)) ?_)
        show BV _ [some (da land), some (da cell), some (dF good), some (dO (putP found_3 x3 true)), some (la (left_3 ++ [x3])), some (da x3)] _ _
        refine bv_nil ?_
        show BV _ [some (da land), some (da cell), some (dF good), some (dO (putP found_3 x3 true)), some (la (left_3 ++ [x3])), some (da x3)] _ _
        refine bv_nil ⟨((putP found_3 x3 true), (left_3 ++ [x3])), ?_, (Wk.eq rfl (Wk.eq rfl (Wk.eq rfl (Wk.eq rfl (Wk.eq rfl (Wk.drop Wk.nil))))))⟩
        -- goal 3 (loop 1 turn): 
        obtain ⟨hg, hn⟩ : inK good x3 = true ∧ inK found_3 x3 = false := by simpa using hb6
        have hp := hSW1.push hrx hb1 hg hn
        have h64 := hp.few hok.1
        refine ⟨⟨hp, by rw [getK_put, hxin]; rfl, hSC1.push fun z hz => ⟨⟨fun m => hz.1 (List.mem_append.mpr (.inl m)), hz.2⟩, fun e => hz.1 (by rw [e]; simp)⟩, ?_⟩, ?_⟩
        · intro b hb hgb
          rw [List.take_succ, hx1] at hb
          rw [getK_put]
          rcases List.mem_append.mp hb with q | q
          · rw [hT1 b q hgb]; rfl
          · have e : b = x3 := by simpa using q
            rw [e]; simp
        · rw [putP_new hn] at h64 ⊢
          rw [List.length_append, List.length_singleton] at h64 ⊢
          rw [List.length_append, List.length_singleton]
          omega
      · skip
        refine bv_nil ?_
        show BV _ [some (da land), some (da cell), some (dF good), some (dO found_3), some (la left_3), some (da x3)] _ _
        refine bv_nil ⟨(found_3, left_3), ?_, (Wk.eq rfl (Wk.eq rfl (Wk.eq rfl (Wk.eq rfl (Wk.eq rfl (Wk.drop Wk.nil))))))⟩
        -- goal 4 (loop 1 turn): 
        refine ⟨⟨hSW1, hxin, hSC1, fun b hb hgb => ?_⟩, hM1⟩
        rw [List.take_succ, hx1] at hb
        rcases List.mem_append.mp hb with q | q
        · exact hT1 b q hgb
        · have e : b = x3 := by simpa using q
          rw [e] at hgb ⊢
          simpa [hgb] using hb6
    · rintro ⟨found_4, left_4⟩ hE1
      try dsimp only at hE1
      show BV _ [some (da land), some (da cell), some (dF good), some (dO found_4), some (la left_4), none] _ _
      refine bv_nil ⟨(left_4, found_4), ?_, ?_, (Wk.eq rfl (Wk.eq rfl (Wk.eq rfl (Wk.eq rfl (Wk.eq rfl (Wk.eq rfl Wk.nil))))))⟩
      · skip
        -- goal 5 (while 0 keeps): 
        obtain ⟨⟨hSW1, hxin, hSC1, hT1⟩, hM1⟩ := hE1
        rw [List.take_length] at hT1
        refine ⟨hSW1, fun z hz hz2 b hb hgb => ?_⟩
        by_cases e : z = left_2.getLastD (0, 0)
        · rw [e] at hb; exact hT1 b hb hgb
        · exact hSC1 z hz ⟨hz2, e⟩ b hb hgb
      · skip
        -- goal 6 (while 0 falls): 
        have := hE1.2
        show 2 * (64 - found_4.length) + left_4.length < 2 * (64 - found_2.length) + left_2.length
        omega
  · rintro ⟨left_5, found_5⟩ hV0 hv0
    try dsimp only at hV0 hv0
    show BV _ [some (da land), some (da cell), some (dF good), some (dO found_5), some (la left_5), none] _ _
    have hs5 : (found_5.map (·.1)).length ≤ sizeLine := by rw [List.length_map]; exact size64' (hV0.1.few hok.1)
    refine bv_frzD 3 rfl ?_
    show BV _ [some (da land), some (da cell), some (dF good), some (dF found_5), some (la left_5), none] _ _
    refine bv_cons (sv_ret (ev_frzA (α := Cell) (ev_sorted sortable_pair (by assumption) T.sorted (ev_frzA (α := Cell) (ev_listD rfl T.list (evd_frz (ev_var (P := dFP found_5) 3 (pv 3) rfl)))) (by first | assumption | omega))) ⟨?_, Bk.none 3⟩)
    show (da (((found_5.map (·.1)).mergeSort (leOf Cell)) : List Cell) : OP) = _
    refine congrArg (fun z => da z) ?_
    -- goal 7 (return): return sorted(list(found))
    have hl0 : left_5 = [] := by simpa using hv0
    subst hl0
    exact spread_end hV0.1 hV0.2

--M
abbrev s_parts_of : Stmt := top 16
theorem sc_parts_of : FnScope ["land", "good", "made", "seen", "cell", "one"] ["land", "good"] (defScope s_parts_of) := ⟨rfl, rfl, rfl, by decide +kernel, rfl, by decide +kernel, by decide +kernel⟩
def sp_parts_of : Sp := spF (τ := Land × (List (Cell × Bool)) × (List (List Cell))) (fun t => m_parts_of t.1 t.2.1 = .ok t.2.2) (fun t => [some (da t.1), some (dF t.2.1)]) (fun t => da t.2.2) (fun t => List.replicate 2 none)
set_option maxHeartbeats 0 in
theorem ok_parts_of {f : Addr} {fd : FuncData} (F : Fun K "parts_of" "parts_of" s_parts_of f fd) (hmg : mg "parts_of" = some (.ref f)) (hb : Binds K fd ["land", "good"] []) (T : Txt mg) (G_spread_of : HF P w K mg base 4 "spread_of" sp_spread_of) : HF P w K mg base 5 "parts_of" (sp_parts_of) := by
  refine hf_of F sc_parts_of hmg hb (fun _ => rfl) (fun _ => rfl) (fun t i O h => pin0 h) ?_
  rintro X - - - - - ⟨cdv, A, outer, s, H, E, rfl⟩ hr ⟨land, good, rr⟩ hm
  have hN := sc_parts_of.nd
  replace hm : m_parts_of land good = .ok rr := hm
  unfold m_parts_of at hm
  show BV _ [some (da land), some (dF good), none, none, none, none] _ (retD (da rr) _)
  replace hm := Rs.bind_ok hm; obtain ⟨made, q1, hm⟩ := hm
  replace q1 := Rs.inj q1
  replace hm := Rs.bind_ok hm; obtain ⟨seen, q2, hm⟩ := hm
  replace q2 := Rs.inj q2
  refine bv_cons (sv_parO 2 3 rfl (EV.eq (ev_nil (α := List Cell)) (congrArg (fun z => la z) q1)) (EV.eq (ev_dnew (β := Bool)) (congrArg (fun z => dO z) q2)) ?_ hN)
  show BV _ [some (da land), some (dF good), some (la made), some (dO seen), none, none] _ _
  replace hm := gd_ok hm; obtain ⟨g3, hm⟩ := hm
  replace hm := Rs.bind_ok hm; obtain ⟨⟨made_3, seen_3⟩, e23, hm⟩ := hm
  refine bv_cons (sv_forM (α := Cell) (τ := (List (List Cell)) × (List (Cell × Bool))) (ix := [4]) rfl (ei_lst (ev_frzA (α := Cell) (ev_sorted sortable_pair (by assumption) T.sorted (ev_frzA (α := Cell) (ev_listD rfl T.list (evd_frz (ev_var (P := dFP good) 1 (pv 1) rfl)))) g3))) PassesOwn.never (fun (x : Cell) t => m_parts_of_b1 land good x t.1 t.2) (made, seen) _ e23 (fun (t4 : (List (List Cell)) × (List (Cell × Bool))) => [some (da land), some (dF good), some (la t4.1), some (dO t4.2), none, none]) (fun (t4 : (List (List Cell)) × (List (Cell × Bool))) (x5 : Cell) => [some (da land), some (dF good), some (la t4.1), some (dO t4.2), some (da x5), none]) rfl (fun t x => (eg_name 4 hN)) ?_ ?_)
  · rintro ⟨made_1, seen_1⟩ x tz _ hm
    replace hm : m_parts_of_b1 land good x made_1 seen_1 = Rs.ok tz := hm
    unfold m_parts_of_b1 at hm
    show BV _ [some (da land), some (dF good), some (la made_1), some (dO seen_1), some (da x), none] _ _
    refine bv_cons (sv_if (et_cmp (ec_notinD (by assumption) (ev_vard 4 (pv 4) rfl) (evd_own 3 (pv 3) rfl))) (fun hb8 => ?_) (fun hb8 => ?_))
    · replace hm := ifok_t hm hb8
      replace hm := gd_ok hm; obtain ⟨g9, hm⟩ := hm
      replace hm := gd_ok hm; obtain ⟨g10, hm⟩ := hm
      refine bv_cons (sv_expr (ev_appendA 2 (pv 2) rfl (ev_call G_spread_of (ea_v (ev_vard 0 (pv 0) rfl) (ea_v (ev_vard 4 (pv 4) rfl) (ea_f (P := dFP good) (ev_var (P := dFP good) 1 (pv 1) rfl) ea_nil))) (land, x, good) g9) rfl g10) ?_)
      show BV _ [some (da land), some (dF good), some (la (made_1 ++ [(comp land (fun z => inK good z = true) x)])), some (dO seen_1), some (da x), none] _ _
      replace hm := Rs.bind_ok hm; obtain ⟨made_2, q11, hm⟩ := hm
      replace q11 := Rs.inj q11
      refine bv_wk (Wk.ofEq (congrArg (fun (made_2 : List (List Cell)) => [some (da land), some (dF good), some (la made_2), some (dO seen_1), some (da x), none]) q11)) ?_
      show BV _ [some (da land), some (dF good), some (la made_2), some (dO seen_1), some (da x), none] _ _
      replace hm := gd_ok hm; obtain ⟨g12, hm⟩ := hm
      replace hm := gd_ok hm; obtain ⟨g13, hm⟩ := hm
      replace hm := gd_ok hm; obtain ⟨g19, hm⟩ := hm
      replace hm := gd_ok hm; obtain ⟨g20, hm⟩ := hm
      replace hm := gd_ok hm; obtain ⟨g21, hm⟩ := hm
      refine bv_cons (sv_expr (ev_updD 3 (by assumption) (pv 3) rfl (ev_dictP (by assumption) rfl T.dict (ev_frzA (α := Cell × Bool) (ev_of (ev_lc (ix := [5]) [("one", 5)] (fun (x_1 : Cell) => ((x_1, true) : Cell × Bool)) (fun x_1 => [some (da land), some (dF good), some (la made_2), some (dO seen_1), some (da x), some (da x_1)]) rfl hN (ei_lst (ev_ixO 2 (pv 2) rfl (ev_neg ev_int) (atI_map _ (atI_lastD (d := []) g12)))) (blkOk_by (N := ["land", "good", "made", "seen", "cell", "one"]) (sc := (defScope s_parts_of)) (by decide +kernel)) g13 (by intro i hi O; simp at hi; subst hi; simp) (by simp) (fun x_1 m14 s H C cl fp => (show EG _ _ _ _ _ _ from (eg_name 5 hN))) (fun x_1 m14 s H C cl fp => (show EV _ _ _ _ _ from (ev_pair (ev_vard 5 (pv 5) rfl) ev_bl))) (fun x_1 => (Wk.eq rfl (Wk.eq rfl (Wk.eq rfl (Wk.eq rfl (Wk.eq rfl (Wk.drop Wk.nil)))))))))) g19) rfl g20 g19 g21) ?_)
      show BV _ [some (da land), some (dF good), some (la made_2), some (dO (mergeP seen_1 ((made_2.getLastD []).map (fun (x_1 : Cell) => ((x_1, true) : Cell × Bool))))), some (da x), none] _ _
      replace hm := Rs.bind_ok hm; obtain ⟨seen_2, q22, hm⟩ := hm
      replace q22 := Rs.inj q22
      refine bv_wk (Wk.ofEq (congrArg (fun (seen_2 : List (Cell × Bool)) => [some (da land), some (dF good), some (la made_2), some (dO seen_2), some (da x), none]) q22)) ?_
      show BV _ [some (da land), some (dF good), some (la made_2), some (dO seen_2), some (da x), none] _ _
      refine bv_nil ?_
      show BV _ [some (da land), some (dF good), some (la made_2), some (dO seen_2), some (da x), none] _ _
      cases hm
      exact bv_nil (Wk.eq rfl (Wk.eq rfl (Wk.eq rfl (Wk.eq rfl (Wk.drop (Wk.eq rfl Wk.nil))))))
    · replace hm := ifok_f hm hb8
      refine bv_nil ?_
      show BV _ [some (da land), some (dF good), some (la made_1), some (dO seen_1), some (da x), none] _ _
      cases hm
      exact bv_nil (Wk.eq rfl (Wk.eq rfl (Wk.eq rfl (Wk.eq rfl (Wk.drop (Wk.eq rfl Wk.nil))))))
  · show BV _ [some (da land), some (dF good), some (la made_3), some (dO seen_3), none, none] _ _
    refine bv_frzS 2 rfl ?_
    show BV _ [some (da land), some (dF good), some (da made_3), some (dO seen_3), none, none] _ _
    exact bv_cons (sv_ret (ev_vard 2 (pv 2) rfl) ⟨congrArg (fun z => da z) (Rs.inj hm), Bk.none 2⟩)

abbrev s_cells_of : Stmt := top 12
theorem sc_cells_of : FnScope ["land", "made", "down", "across"] ["land"] (defScope s_cells_of) := ⟨rfl, rfl, rfl, by decide +kernel, rfl, by decide +kernel, by decide +kernel⟩
def sp_cells_of : Sp := spF (τ := Land) (fun t => LandOk t) (fun t => [some (da t)]) (fun t => da (cellsOf t)) (fun _ => List.replicate 1 none)
theorem ok_cells_of {f : Addr} {fd : FuncData} (F : Fun K "cells_of" "cells_of" s_cells_of f fd) (hmg : mg "cells_of" = some (.ref f)) (hb : Binds K fd ["land"] []) (T : Txt mg) : HF P w K mg base 1 "cells_of" (sp_cells_of) := by
  refine hf_of F sc_cells_of hmg hb (fun _ => rfl) (fun _ => rfl) (fun t i O h => pin0 h) ?_
  rintro X - - - - - ⟨cdv, A, outer, s, H, E, rfl⟩ hr land hok
  have hN := sc_cells_of.nd
  try dsimp only at hok
  show BV _ [some (da land), none, none, none] _ (retD (da (cellsOf land)) _)
  refine bv_cons (sv_set 1 (ev_nil (α := Cell)) ?_ hN)
  show BV _ [some (da land), some (la []), none, none] _ _
  refine bv_cons (sv_for (α := Int) (τ := (List Cell)) (ix := [2]) rfl (ei_range1 T.range (ev_lenL T.len (ev_vard 0 (pv 0) rfl)) (by first | exact hok | exact row_size hok | exact rg_row hok | exact rg_rows hok | exact cells_size hok (by assumption) (by assumption) _ (by rw [List.length_map, rng_length, Int.toNat_natCast]) | omega)) PassesOwn.never [] (fun t1 x2 => (t1 ++ ((rng 0 (((Tup.mk (rowAt land 0)).items.length : Int) : Int).toNat).map (fun (x8 : Int) => ((x2, x8) : Int × Int))))) (fun t1 => [some (da land), some (la t1), none, none]) (fun t1 x2 => [some (da land), some (la t1), some (da x2), none]) (fun _ => True) trivial rfl (fun t1 x2 => (eg_name 2 hN)) ?_ (fun _ => ?_))
  · intro pre3 x2 post4 t1 hx5 hI6 ht7
    show BV _ [some (da land), some (la t1), some (da x2), none] _ _
    refine bv_cons (sv_expr (ev_extendA 1 (pv 1) rfl (ev_frzA (α := Int × Int) (ev_of (ev_lc (ix := [3]) [("across", 3)] (fun (x8 : Int) => ((x2, x8) : Int × Int)) (fun x8 => [some (da land), some (la t1), some (da x2), some (da x8)]) rfl hN (ei_range1 T.range (ev_lenT T.len (ev_row0 (ev_vard 0 (pv 0) rfl) (by first | exact hok | exact row_size hok | exact rg_row hok | exact rg_rows hok | exact cells_size hok (by assumption) (by assumption) _ (by rw [List.length_map, rng_length, Int.toNat_natCast]) | omega))) (by first | exact hok | exact row_size hok | exact rg_row hok | exact rg_rows hok | exact cells_size hok (by assumption) (by assumption) _ (by rw [List.length_map, rng_length, Int.toNat_natCast]) | omega)) (blkOk_by (N := ["land", "made", "down", "across"]) (sc := defScope s_cells_of) (by decide +kernel)) (by first | exact hok | exact row_size hok | exact rg_row hok | exact rg_rows hok | exact cells_size hok (by assumption) (by assumption) _ (by rw [List.length_map, rng_length, Int.toNat_natCast]) | omega) (by intro i hi O; simp at hi; subst hi; simp) (by simp) (fun x8 m9 s H C cl fp => (show EG _ _ _ _ _ _ from (eg_name 3 hN))) (fun x8 m9 s H C cl fp => (show EV _ _ _ _ _ from (ev_pair (ev_vard 2 (pv 2) rfl) (ev_vard 3 (pv 3) rfl)))) (fun x8 => (Wk.eq rfl (Wk.eq rfl (Wk.eq rfl (Wk.drop Wk.nil)))))))) rfl (by first | exact hok | exact row_size hok | exact rg_row hok | exact rg_rows hok | exact cells_size hok (by assumption) (by assumption) _ (by rw [List.length_map, rng_length, Int.toNat_natCast]) | omega)) ?_)
    show BV _ [some (da land), some (la (t1 ++ ((rng 0 (((Tup.mk (rowAt land 0)).items.length : Int) : Int).toNat).map (fun (x8 : Int) => ((x2, x8) : Int × Int))))), some (da x2), none] _ _
    exact bv_nil ⟨trivial, (Wk.eq rfl (Wk.eq (by first | rfl | (simp only [*, if_true, if_false, Bool.false_eq_true]; done) | (simp [*]; done)) (Wk.drop (Wk.eq rfl Wk.nil))))⟩
  · skip
    show BV _ [some (da land), some (la ((rng 0 ((nR land : Int) : Int).toNat).foldl (fun (t1 : (List Cell)) x2 => (t1 ++ ((rng 0 (((Tup.mk (rowAt land 0)).items.length : Int) : Int).toNat).map (fun (x8 : Int) => ((x2, x8) : Int × Int))))) [])), none, none] _ _
    refine bv_frzS 1 rfl ?_
    show BV _ [some (da land), some (da ((rng 0 ((nR land : Int) : Int).toNat).foldl (fun (t1 : (List Cell)) x2 => (t1 ++ ((rng 0 (((Tup.mk (rowAt land 0)).items.length : Int) : Int).toNat).map (fun (x8 : Int) => ((x2, x8) : Int × Int))))) [])), none, none] _ _
    refine bv_cons (sv_ret (ev_vard 1 (pv 1) rfl) ⟨?_, Bk.none 1⟩)
    show (da (((rng 0 ((nR land : Int) : Int).toNat).foldl (fun (t1 : (List Cell)) x2 => (t1 ++ ((rng 0 (((Tup.mk (rowAt land 0)).items.length : Int) : Int).toNat).map (fun (x8 : Int) => ((x2, x8) : Int × Int))))) []) : List Cell) : OP) = _
    refine congrArg (fun z => da z) ?_
    exact cells_fold hok

abbrev s_at : Stmt := top 13
theorem sc_at : FnScope ["land", "cell"] ["land", "cell"] (defScope s_at) := ⟨rfl, rfl, rfl, by decide +kernel, rfl, by decide +kernel, by decide +kernel⟩
def sp_at : Sp := spF (τ := Land × Cell) (fun t => LandOk t.1 ∧ IsCell t.1 t.2) (fun t => [some (da t.1), some (da t.2)]) (fun t => da (hAt t.1 t.2)) (fun _ => List.replicate 2 none)
theorem ok_at {f : Addr} {fd : FuncData} (F : Fun K "at" "at" s_at f fd) (hmg : mg "at" = some (.ref f)) (hb : Binds K fd ["land", "cell"] []) (T : Txt mg) : HF P w K mg base 1 "at" (sp_at) := by
  refine hf_of F sc_at hmg hb (fun _ => rfl) (fun _ => rfl) (fun t i O h => pin0 h) ?_
  rintro X - - - - - ⟨cdv, A, outer, s, H, E, rfl⟩ hr ⟨land, cell⟩ hok
  have hN := sc_at.nd
  try dsimp only at hok
  show BV _ [some (da land), some (da cell)] _ (retD (da (hAt land cell)) _)
  refine bv_cons (sv_ret (ev_ixT (ev_row (ev_vard 0 (pv 0) rfl) (ev_fst (ev_vard 1 (pv 1) rfl)) (by first | exact hok.2.1 | exact (atI_col hok.1 hok.2).1 | exact (atI_col hok.1 hok.2).2)) (ev_snd (ev_vard 1 (pv 1) rfl)) (atI_getD 0 (by first | exact hok.2.1 | exact (atI_col hok.1 hok.2).1 | exact (atI_col hok.1 hok.2).2) (by first | exact hok.2.1 | exact (atI_col hok.1 hok.2).1 | exact (atI_col hok.1 hok.2).2))) ⟨?_, Bk.none 2⟩)
  show (da (((Tup.mk (rowAt land cell.1)).items.getD (cell.2 : Int).toNat 0) : Int) : OP) = _
  refine congrArg (fun z => da z) ?_
  rfl

--M
abbrev s_land_at : Stmt := top 18
theorem sc_land_at : FnScope ["land", "level", "cell"] ["land", "level"] (defScope s_land_at) := ⟨rfl, rfl, rfl, by decide +kernel, rfl, by decide +kernel, by decide +kernel⟩
def sp_land_at : Sp := spF (τ := Land × Int × (List (Cell × Bool))) (fun t => m_land_at t.1 t.2.1 = .ok t.2.2) (fun t => [some (da t.1), some (da t.2.1)]) (fun t => dF t.2.2) (fun t => List.replicate 2 none)
set_option maxHeartbeats 0 in
theorem ok_land_at {f : Addr} {fd : FuncData} (F : Fun K "land_at" "land_at" s_land_at f fd) (hmg : mg "land_at" = some (.ref f)) (hb : Binds K fd ["land", "level"] []) (T : Txt mg) (G_cells_of : HF P w K mg base 1 "cells_of" sp_cells_of) (G_at : HF P w K mg base 1 "at" sp_at) : HF P w K mg base 2 "land_at" (sp_land_at) := by
  refine hf_of F sc_land_at hmg hb (fun _ => rfl) (fun _ => rfl) (fun t i O h => pin0 h) ?_
  rintro X - - - - - ⟨cdv, A, outer, s, H, E, rfl⟩ hr ⟨land, level, rr⟩ hm
  have hN := sc_land_at.nd
  replace hm : m_land_at land level = .ok rr := hm
  unfold m_land_at at hm
  show BV _ [some (da land), some (da level), none] _ (retD (dF rr) _)
  replace hm := gd_ok hm; obtain ⟨g1, hm⟩ := hm
  replace hm := gd_ok hm; obtain ⟨g2, hm⟩ := hm
  replace hm := Rs.bind_ok hm; obtain ⟨ys, e9, hm⟩ := hm
  replace hm := gd_ok hm; obtain ⟨g10, hm⟩ := hm
  exact bv_cons (sv_ret (ev_frzD (ev_dictP (by assumption) rfl T.dict (ev_frzA (α := Cell × Bool) (ev_of (ev_lcM (ix := [2]) [("cell", 2)] (fun (x : Cell) => gd (LandOk land ∧ IsCell land x) (Rs.ok (decide (level ≤ (hAt land x))))) (fun (x : Cell) => Rs.ok ((x, true) : Cell × Bool)) e9 (fun x => [some (da land), some (da level), some (da x)]) rfl hN (ei_lst (ev_call G_cells_of (ea_v (ev_vard 0 (pv 0) rfl) ea_nil) land g1)) (blkOk_by (N := ["land", "level", "cell"]) (sc := (defScope s_land_at)) (by decide +kernel)) g2 (by intro i hi O; simp at hi; subst hi; simp) (by simp) (fun x m4 s H C cl fp => (show EG _ _ _ _ _ _ from (eg_name 2 hN))) (fun x k8 m4 hk5 s H C cl fp => (by replace hk5 := gd_ok hk5; obtain ⟨g3, hk5⟩ := hk5; exact (show ETs _ _ _ _ _ from ets_one (ET.eqb (et_cmp (ec_ge (ev_call G_at (ea_v (ev_vard 0 (pv 0) rfl) (ea_v (ev_vard 2 (pv 2) rfl) ea_nil)) (land, x) g3) (ev_vard 1 (pv 1) rfl))) (Rs.inj hk5))))) (fun x y7 m4 hk5 hy6 s H C cl fp => (by skip; exact (show EV _ _ _ _ _ from EV.eqa (x := ((x, true) : Cell × Bool)) (ev_pair (ev_vard 2 (pv 2) rfl) ev_bl) (Rs.inj hy6)))) (fun x => (Wk.eq rfl (Wk.eq rfl (Wk.drop Wk.nil))))))) g10)) ⟨congrArg (fun z => dF z) (Rs.inj hm), Bk.none 2⟩)

--M
abbrev s_islands_of : Stmt := top 21
theorem sc_islands_of : FnScope ["land", "level"] ["land", "level"] (defScope s_islands_of) := ⟨rfl, rfl, rfl, by decide +kernel, rfl, by decide +kernel, by decide +kernel⟩
def sp_islands_of : Sp := spF (τ := Land × Int × (List (List Cell))) (fun t => m_islands_of t.1 t.2.1 = .ok t.2.2) (fun t => [some (da t.1), some (da t.2.1)]) (fun t => da t.2.2) (fun t => List.replicate 2 none)
set_option maxHeartbeats 0 in
theorem ok_islands_of {f : Addr} {fd : FuncData} (F : Fun K "islands_of" "islands_of" s_islands_of f fd) (hmg : mg "islands_of" = some (.ref f)) (hb : Binds K fd ["land", "level"] []) (T : Txt mg) (G_parts_of : HF P w K mg base 5 "parts_of" (sp_parts_of)) (G_land_at : HF P w K mg base 2 "land_at" (sp_land_at)) : HF P w K mg base 6 "islands_of" (sp_islands_of) := by
  refine hf_of F sc_islands_of hmg hb (fun _ => rfl) (fun _ => rfl) (fun t i O h => pin0 h) ?_
  rintro X - - - - - ⟨cdv, A, outer, s, H, E, rfl⟩ hr ⟨land, level, rr⟩ hm
  have hN := sc_islands_of.nd
  replace hm : m_islands_of land level = .ok rr := hm
  unfold m_islands_of at hm
  show BV _ [some (da land), some (da level)] _ (retD (da rr) _)
  replace hm := Rs.bind_ok hm; obtain ⟨got, e1, hm⟩ := hm
  replace hm := Rs.bind_ok hm; obtain ⟨got_1, e2, hm⟩ := hm
  exact bv_cons (sv_ret (ev_call G_parts_of (ea_v (ev_vard 0 (pv 0) rfl) (ea_f (P := dFP got) (ev_call G_land_at (ea_v (ev_vard 0 (pv 0) rfl) (ea_v (ev_vard 1 (pv 1) rfl) ea_nil)) (land, level, got) e1) ea_nil)) (land, got, got_1) e2) ⟨congrArg (fun z => da z) (Rs.inj hm), Bk.none 2⟩)

--M
abbrev s_islands : Stmt := top 22
theorem sc_islands : FnScope ["land", "level"] ["land", "level"] (defScope s_islands) := ⟨rfl, rfl, rfl, by decide +kernel, rfl, by decide +kernel, by decide +kernel⟩
def sp_islands : Sp := spF (τ := Land × Int × (List (List Cell))) (fun t => m_islands t.1 t.2.1 = .ok t.2.2) (fun t => [some (da t.1), some (da t.2.1)]) (fun t => da t.2.2) (fun t => List.replicate 2 none)
set_option maxHeartbeats 0 in
theorem ok_islands {f : Addr} {fd : FuncData} (F : Fun K "islands" "islands" s_islands f fd) (hmg : mg "islands" = some (.ref f)) (hb : Binds K fd ["land", "level"] []) (T : Txt mg) (G_need_level : HF P w K mg base 5 "need_level" (sp_need_level)) (G_islands_of : HF P w K mg base 6 "islands_of" (sp_islands_of)) : HF P w K mg base 7 "islands" (sp_islands) := by
  refine hf_of F sc_islands hmg hb (fun _ => rfl) (fun _ => rfl) (fun t i O h => pin0 h) ?_
  rintro X - - - - - ⟨cdv, A, outer, s, H, E, rfl⟩ hr ⟨land, level, rr⟩ hm
  have hN := sc_islands.nd
  replace hm : m_islands land level = .ok rr := hm
  unfold m_islands at hm
  show BV _ [some (da land), some (da level)] _ (retD (da rr) _)
  replace hm := Rs.bind_ok hm; obtain ⟨got, e1, hm⟩ := hm
  refine bv_cons (sv_expr (ev_call G_need_level (ea_v (ev_vard 0 (pv 0) rfl) (ea_v (ev_vard 1 (pv 1) rfl) ea_nil)) (land, level, got) e1) ?_)
  show BV _ [some (da land), some (da level)] _ _
  replace hm := Rs.bind_ok hm; obtain ⟨got_1, e2, hm⟩ := hm
  exact bv_cons (sv_ret (ev_call G_islands_of (ea_v (ev_vard 0 (pv 0) rfl) (ea_v (ev_vard 1 (pv 1) rfl) ea_nil)) (land, level, got_1) e2) ⟨congrArg (fun z => da z) (Rs.inj hm), Bk.none 2⟩)

--M
abbrev s_map_at : Stmt := top 25
theorem sc_map_at : FnScope ["land", "level", "rows", "line", "number", "island", "down", "across"] ["land", "level"] (defScope s_map_at) := ⟨rfl, rfl, rfl, by decide +kernel, rfl, by decide +kernel, by decide +kernel⟩
def sp_map_at : Sp := spF (τ := Land × Int × (List Str)) (fun t => m_map_at t.1 t.2.1 = .ok t.2.2) (fun t => [some (da t.1), some (da t.2.1)]) (fun t => da t.2.2) (fun t => List.replicate 2 none)
set_option maxHeartbeats 0 in
theorem ok_map_at {f : Addr} {fd : FuncData} (F : Fun K "map_at" "map_at" s_map_at f fd) (hmg : mg "map_at" = some (.ref f)) (hb : Binds K fd ["land", "level"] []) (T : Txt mg) (G_need_level : HF P w K mg base 5 "need_level" (sp_need_level)) (G_islands_of : HF P w K mg base 6 "islands_of" (sp_islands_of)) (TSIGNS : ∃ t, mg "SIGNS" = some (.str ("abcdefghijklmnopqrstuvwxyzABCDEF" : Str) t)) : HF P w K mg base 7 "map_at" (sp_map_at) := by
  refine hf_of F sc_map_at hmg hb (fun _ => rfl) (fun _ => rfl) (fun t i O h => pin0 h) ?_
  rintro X - - - - - ⟨cdv, A, outer, s, H, E, rfl⟩ hr ⟨land, level, rr⟩ hm
  have hN := sc_map_at.nd
  replace hm : m_map_at land level = .ok rr := hm
  unfold m_map_at at hm
  show BV _ [some (da land), some (da level), none, none, none, none, none, none] _ (retD (da rr) _)
  replace hm := Rs.bind_ok hm; obtain ⟨got, e1, hm⟩ := hm
  refine bv_cons (sv_expr (ev_call G_need_level (ea_v (ev_vard 0 (pv 0) rfl) (ea_v (ev_vard 1 (pv 1) rfl) ea_nil)) (land, level, got) e1) ?_)
  show BV _ [some (da land), some (da level), none, none, none, none, none, none] _ _
  replace hm := gd_ok hm; obtain ⟨g2, hm⟩ := hm
  replace hm := Rs.bind_ok hm; obtain ⟨rows, e10, hm⟩ := hm
  refine bv_cons (sv_lc 2 (ev_lc2M (ix := [3]) [("line", 3)] (fun (x : Tup Int) => gd (LandOk land) (gd ((0 : Int) ≤ ((Tup.mk (rowAt land 0)).items.length : Int) ∧ ((Tup.mk (rowAt land 0)).items.length : Int) ≤ 1000) (Rs.ok ((List.replicate (((Tup.mk (rowAt land 0)).items.length : Int) : Int).toNat (("." : Str) : Str)) : List Str)))) e10 (fun x => [some (da land), some (da level), none, some (da x), none, none, none, none]) rfl hN (ei_tup (ev_vard 0 (pv 0) rfl)) (blkOk_by (N := ["land", "level", "rows", "line", "number", "island", "down", "across"]) (sc := (defScope s_map_at)) (by decide +kernel)) g2 (by intro i hi O; simp at hi; subst hi; simp) (by simp) (fun x m5 s H C cl fp => (show EG _ _ _ _ _ _ from (eg_name 3 hN))) (fun x y8 m5 hy7 s H C cl fp => (by replace hy7 := gd_ok hy7; obtain ⟨g3, hy7⟩ := hy7; replace hy7 := gd_ok hy7; obtain ⟨g4, hy7⟩ := hy7; exact (show EV _ _ _ _ _ from EV.eq (ev_repA (x := (("." : Str) : Str)) (ev_frzA (α := Str) (ev_lstA (α := Str) (xs := [("." : Str)]) (el_cons ev_str el_nil) (show 1 ≤ 1000 by decide))) (ev_lenT T.len (ev_row0 (ev_vard 0 (pv 0) rfl) g3)) g4) (congrArg (fun z => la z) (Rs.inj hy7))))) (fun x => (Wk.eq rfl (Wk.eq rfl (Wk.eq rfl (Wk.drop (Wk.eq rfl (Wk.eq rfl (Wk.eq rfl (Wk.eq rfl Wk.nil)))))))))) ?_ hN)
  show BV _ [some (da land), some (da level), some (la2 rows), none, none, none, none, none] _ _
  replace hm := Rs.bind_ok hm; obtain ⟨got_1, e11, hm⟩ := hm
  replace hm := Rs.bind_ok hm; obtain ⟨rows_5, e26, hm⟩ := hm
  refine bv_cons (sv_forM (α := Int × (List Cell)) (τ := List (List Str)) (ix := [4, 5]) rfl (ei_enum T.enum (ev_call G_islands_of (ea_v (ev_vard 0 (pv 0) rfl) (ea_v (ev_vard 1 (pv 1) rfl) ea_nil)) (land, level, got_1) e11)) PassesOwn.never (fun (x_1 : Int × (List Cell)) t => m_map_at_b1 x_1 t) rows _ e26 (fun (t12 : List (List Str)) => [some (da land), some (da level), some (la2 t12), none, none, none, none, none]) (fun (t12 : List (List Str)) (x13 : Int × (List Cell)) => [some (da land), some (da level), some (la2 t12), none, some (da x13.1), some (da x13.2), none, none]) rfl (fun t x => (eg_tup rfl (egs_cons (eg_name 4 hN) (egs_cons (eg_name 5 hN) egs_nil)))) ?_ ?_)
  · rintro rows_1 x_1 tz _ hm
    replace hm : m_map_at_b1 x_1 rows_1 = Rs.ok tz := hm
    unfold m_map_at_b1 at hm
    show BV _ [some (da land), some (da level), some (la2 rows_1), none, some (da x_1.1), some (da x_1.2), none, none] _ _
    replace hm := Rs.bind_ok hm; obtain ⟨rows_4, e25, hm⟩ := hm
    refine bv_cons (sv_forM (α := Cell) (τ := List (List Str)) (ix := [6, 7]) rfl (ei_lst (ev_vard 5 (pv 5) rfl)) PassesOwn.never (fun (x_2 : Cell) t => m_map_at_b2 x_1 x_2 t) rows_1 _ e25 (fun (t16 : List (List Str)) => [some (da land), some (da level), some (la2 t16), none, some (da x_1.1), some (da x_1.2), none, none]) (fun (t16 : List (List Str)) (x17 : Cell) => [some (da land), some (da level), some (la2 t16), none, some (da x_1.1), some (da x_1.2), some (da x17.1), some (da x17.2)]) rfl (fun t x => (eg_tup rfl (egs_cons (eg_name 6 hN) (egs_cons (eg_name 7 hN) egs_nil)))) ?_ ?_)
    · rintro rows_2 x_2 tz _ hm
      replace hm : m_map_at_b2 x_1 x_2 rows_2 = Rs.ok tz := hm
      unfold m_map_at_b2 at hm
      show BV _ [some (da land), some (da level), some (la2 rows_2), none, some (da x_1.1), some (da x_1.2), some (da x_2.1), some (da x_2.2)] _ _
      replace hm := gd_ok hm; obtain ⟨g20, hm⟩ := hm
      replace hm := gd_ok hm; obtain ⟨g21, hm⟩ := hm
      replace hm := gd_ok hm; obtain ⟨g22, hm⟩ := hm
      replace hm := gd_ok hm; obtain ⟨g23, hm⟩ := hm
      refine bv_cons (sv_set2A 2 (ev_ixStr (ev_globS TSIGNS) (ev_vard 4 (pv 4) rfl) g20 g21) (pv 2) rfl (ev_vard 6 (pv 6) rfl) (ev_vard 7 (pv 7) rfl) g22 g23 ?_)
      show BV _ [some (da land), some (da level), some (la2 (set2 rows_2 x_2.1 x_2.2 (chS ("abcdefghijklmnopqrstuvwxyzABCDEF" : Str) x_1.1))), none, some (da x_1.1), some (da x_1.2), some (da x_2.1), some (da x_2.2)] _ _
      replace hm := Rs.bind_ok hm; obtain ⟨rows_3, q24, hm⟩ := hm
      replace q24 := Rs.inj q24
      refine bv_wk (Wk.ofEq (congrArg (fun (rows_3 : List (List Str)) => [some (da land), some (da level), some (la2 rows_3), none, some (da x_1.1), some (da x_1.2), some (da x_2.1), some (da x_2.2)]) q24)) ?_
      show BV _ [some (da land), some (da level), some (la2 rows_3), none, some (da x_1.1), some (da x_1.2), some (da x_2.1), some (da x_2.2)] _ _
      cases hm
      exact bv_nil (Wk.eq rfl (Wk.eq rfl (Wk.eq rfl (Wk.eq rfl (Wk.eq rfl (Wk.eq rfl (Wk.drop (Wk.drop Wk.nil))))))))
    · show BV _ [some (da land), some (da level), some (la2 rows_4), none, some (da x_1.1), some (da x_1.2), none, none] _ _
      cases hm
      exact bv_nil (Wk.eq rfl (Wk.eq rfl (Wk.eq rfl (Wk.eq rfl (Wk.drop (Wk.drop (Wk.eq rfl (Wk.eq rfl Wk.nil))))))))
  · show BV _ [some (da land), some (da level), some (la2 rows_5), none, none, none, none, none] _ _
    refine bv_frz2A 2 rfl ?_
    show BV _ [some (da land), some (da level), some (da rows_5), none, none, none, none, none] _ _
    replace hm := gd_ok hm; obtain ⟨g27, hm⟩ := hm
    replace hm := Rs.bind_ok hm; obtain ⟨ys, e34, hm⟩ := hm
    exact bv_cons (sv_ret (ev_frzA (α := Str) (ev_of (ev_lcM (ix := [3]) [("line", 3)] (fun (x_3 : List Str) => Rs.ok true) (fun (x_3 : List Str) => gd ((x_3.map (·.length)).sum + x_3.length * ("" : Str).length ≤ 16777216) (Rs.ok ((Txt.join ("" : Str) x_3) : Str))) e34 (fun x_3 => [some (da land), some (da level), some (da rows_5), some (da x_3), none, none, none, none]) rfl hN (ei_lst (ev_vard 2 (pv 2) rfl)) (blkOk_by (N := ["land", "level", "rows", "line", "number", "island", "down", "across"]) (sc := (defScope s_map_at)) (by decide +kernel)) g27 (by intro i hi O; simp at hi; subst hi; simp) (by simp) (fun x_3 m29 s H C cl fp => (show EG _ _ _ _ _ _ from (eg_name 3 hN))) (fun x_3 k33 m29 hk30 s H C cl fp => (Rs.inj hk30) ▸ ets_nil) (fun x_3 y32 m29 hk30 hy31 s H C cl fp => (by replace hy31 := gd_ok hy31; obtain ⟨g28, hy31⟩ := hy31; exact (show EV _ _ _ _ _ from EV.eqa (x := ((Txt.join ("" : Str) x_3) : Str)) (ev_joinS ev_str (ev_vard 3 (pv 3) rfl) g28) (Rs.inj hy31)))) (fun x_3 => (Wk.eq rfl (Wk.eq rfl (Wk.eq rfl (Wk.drop (Wk.eq rfl (Wk.eq rfl (Wk.eq rfl (Wk.eq rfl Wk.nil)))))))))))) ⟨congrArg (fun z => da z) (Rs.inj hm), Bk.none 2⟩)

abbrev s__law_cells : Stmt := top 32
theorem sc__law_cells : FnScope ["_law_land_here", "_law_made", "_law_down", "_law_across"] ["_law_land_here"] (defScope s__law_cells) := ⟨rfl, rfl, rfl, by decide +kernel, rfl, by decide +kernel, by decide +kernel⟩
def sp__law_cells : Sp := spF (τ := Land) (fun t => LandOk t) (fun t => [some (da t)]) (fun t => da (cellsOf t)) (fun _ => List.replicate 1 none)
theorem ok__law_cells {f : Addr} {fd : FuncData} (F : Fun K "_law_cells" "_law_cells" s__law_cells f fd) (hmg : mg "_law_cells" = some (.ref f)) (hb : Binds K fd ["_law_land_here"] []) (T : Txt mg) : HF P w K mg base 1 "_law_cells" (sp__law_cells) := by
  refine hf_of F sc__law_cells hmg hb (fun _ => rfl) (fun _ => rfl) (fun t i O h => pin0 h) ?_
  rintro X - - - - - ⟨cdv, A, outer, s, H, E, rfl⟩ hr _law_land_here hok
  have hN := sc__law_cells.nd
  try dsimp only at hok
  show BV _ [some (da _law_land_here), none, none, none] _ (retD (da (cellsOf _law_land_here)) _)
  refine bv_cons (sv_set 1 (ev_nil (α := Cell)) ?_ hN)
  show BV _ [some (da _law_land_here), some (la []), none, none] _ _
  refine bv_cons (sv_for (α := Int) (τ := (List Cell)) (ix := [2]) rfl (ei_range1 T.range (ev_lenL T.len (ev_vard 0 (pv 0) rfl)) (by first | exact hok | exact row_size hok | exact rg_row hok | exact rg_rows hok | exact cells_size hok (by assumption) (by assumption) _ (by rw [List.length_map, rng_length, Int.toNat_natCast]) | omega)) PassesOwn.never [] (fun t1 x2 => (t1 ++ ((rng 0 (((Tup.mk (rowAt _law_land_here 0)).items.length : Int) : Int).toNat).map (fun (x8 : Int) => ((x2, x8) : Int × Int))))) (fun t1 => [some (da _law_land_here), some (la t1), none, none]) (fun t1 x2 => [some (da _law_land_here), some (la t1), some (da x2), none]) (fun _ => True) trivial rfl (fun t1 x2 => (eg_name 2 hN)) ?_ (fun _ => ?_))
  · intro pre3 x2 post4 t1 hx5 hI6 ht7
    show BV _ [some (da _law_land_here), some (la t1), some (da x2), none] _ _
    refine bv_cons (sv_expr (ev_extendA 1 (pv 1) rfl (ev_frzA (α := Int × Int) (ev_of (ev_lc (ix := [3]) [("_law_across", 3)] (fun (x8 : Int) => ((x2, x8) : Int × Int)) (fun x8 => [some (da _law_land_here), some (la t1), some (da x2), some (da x8)]) rfl hN (ei_range1 T.range (ev_lenT T.len (ev_row0 (ev_vard 0 (pv 0) rfl) (by first | exact hok | exact row_size hok | exact rg_row hok | exact rg_rows hok | exact cells_size hok (by assumption) (by assumption) _ (by rw [List.length_map, rng_length, Int.toNat_natCast]) | omega))) (by first | exact hok | exact row_size hok | exact rg_row hok | exact rg_rows hok | exact cells_size hok (by assumption) (by assumption) _ (by rw [List.length_map, rng_length, Int.toNat_natCast]) | omega)) (blkOk_by (N := ["_law_land_here", "_law_made", "_law_down", "_law_across"]) (sc := defScope s__law_cells) (by decide +kernel)) (by first | exact hok | exact row_size hok | exact rg_row hok | exact rg_rows hok | exact cells_size hok (by assumption) (by assumption) _ (by rw [List.length_map, rng_length, Int.toNat_natCast]) | omega) (by intro i hi O; simp at hi; subst hi; simp) (by simp) (fun x8 m9 s H C cl fp => (show EG _ _ _ _ _ _ from (eg_name 3 hN))) (fun x8 m9 s H C cl fp => (show EV _ _ _ _ _ from (ev_pair (ev_vard 2 (pv 2) rfl) (ev_vard 3 (pv 3) rfl)))) (fun x8 => (Wk.eq rfl (Wk.eq rfl (Wk.eq rfl (Wk.drop Wk.nil)))))))) rfl (by first | exact hok | exact row_size hok | exact rg_row hok | exact rg_rows hok | exact cells_size hok (by assumption) (by assumption) _ (by rw [List.length_map, rng_length, Int.toNat_natCast]) | omega)) ?_)
    show BV _ [some (da _law_land_here), some (la (t1 ++ ((rng 0 (((Tup.mk (rowAt _law_land_here 0)).items.length : Int) : Int).toNat).map (fun (x8 : Int) => ((x2, x8) : Int × Int))))), some (da x2), none] _ _
    exact bv_nil ⟨trivial, (Wk.eq rfl (Wk.eq (by first | rfl | (simp only [*, if_true, if_false, Bool.false_eq_true]; done) | (simp [*]; done)) (Wk.drop (Wk.eq rfl Wk.nil))))⟩
  · skip
    show BV _ [some (da _law_land_here), some (la ((rng 0 ((nR _law_land_here : Int) : Int).toNat).foldl (fun (t1 : (List Cell)) x2 => (t1 ++ ((rng 0 (((Tup.mk (rowAt _law_land_here 0)).items.length : Int) : Int).toNat).map (fun (x8 : Int) => ((x2, x8) : Int × Int))))) [])), none, none] _ _
    refine bv_frzS 1 rfl ?_
    show BV _ [some (da _law_land_here), some (da ((rng 0 ((nR _law_land_here : Int) : Int).toNat).foldl (fun (t1 : (List Cell)) x2 => (t1 ++ ((rng 0 (((Tup.mk (rowAt _law_land_here 0)).items.length : Int) : Int).toNat).map (fun (x8 : Int) => ((x2, x8) : Int × Int))))) [])), none, none] _ _
    refine bv_cons (sv_ret (ev_vard 1 (pv 1) rfl) ⟨?_, Bk.none 1⟩)
    show (da (((rng 0 ((nR _law_land_here : Int) : Int).toNat).foldl (fun (t1 : (List Cell)) x2 => (t1 ++ ((rng 0 (((Tup.mk (rowAt _law_land_here 0)).items.length : Int) : Int).toNat).map (fun (x8 : Int) => ((x2, x8) : Int × Int))))) []) : List Cell) : OP) = _
    refine congrArg (fun z => da z) ?_
    exact cells_fold hok

abbrev s__law_high : Stmt := top 33
theorem sc__law_high : FnScope ["_law_land_here", "_law_spot"] ["_law_land_here", "_law_spot"] (defScope s__law_high) := ⟨rfl, rfl, rfl, by decide +kernel, rfl, by decide +kernel, by decide +kernel⟩
def sp__law_high : Sp := spF (τ := Land × Cell) (fun t => LandOk t.1 ∧ IsCell t.1 t.2) (fun t => [some (da t.1), some (da t.2)]) (fun t => da (hAt t.1 t.2)) (fun _ => List.replicate 2 none)
theorem ok__law_high {f : Addr} {fd : FuncData} (F : Fun K "_law_high" "_law_high" s__law_high f fd) (hmg : mg "_law_high" = some (.ref f)) (hb : Binds K fd ["_law_land_here", "_law_spot"] []) (T : Txt mg) : HF P w K mg base 1 "_law_high" (sp__law_high) := by
  refine hf_of F sc__law_high hmg hb (fun _ => rfl) (fun _ => rfl) (fun t i O h => pin0 h) ?_
  rintro X - - - - - ⟨cdv, A, outer, s, H, E, rfl⟩ hr ⟨_law_land_here, _law_spot⟩ hok
  have hN := sc__law_high.nd
  try dsimp only at hok
  show BV _ [some (da _law_land_here), some (da _law_spot)] _ (retD (da (hAt _law_land_here _law_spot)) _)
  refine bv_cons (sv_ret (ev_ixT (ev_row (ev_vard 0 (pv 0) rfl) (ev_fst (ev_vard 1 (pv 1) rfl)) (by first | exact hok.2.1 | exact (atI_col hok.1 hok.2).1 | exact (atI_col hok.1 hok.2).2)) (ev_snd (ev_vard 1 (pv 1) rfl)) (atI_getD 0 (by first | exact hok.2.1 | exact (atI_col hok.1 hok.2).1 | exact (atI_col hok.1 hok.2).2) (by first | exact hok.2.1 | exact (atI_col hok.1 hok.2).1 | exact (atI_col hok.1 hok.2).2))) ⟨?_, Bk.none 2⟩)
  show (da (((Tup.mk (rowAt _law_land_here _law_spot.1)).items.getD (_law_spot.2 : Int).toNat 0) : Int) : OP) = _
  refine congrArg (fun z => da z) ?_
  rfl

abbrev s__law_near : Stmt := top 34
theorem sc__law_near : FnScope ["_law_one", "_law_other"] ["_law_one", "_law_other"] (defScope s__law_near) := ⟨rfl, rfl, rfl, by decide +kernel, rfl, by decide +kernel, by decide +kernel⟩
def sp__law_near : Sp := spF (τ := Cell × Cell) (fun t => True) (fun t => [some (da t.1), some (da t.2)]) (fun t => da (nearB t.1 t.2)) (fun _ => List.replicate 2 none)
theorem ok__law_near {f : Addr} {fd : FuncData} (F : Fun K "_law_near" "_law_near" s__law_near f fd) (hmg : mg "_law_near" = some (.ref f)) (hb : Binds K fd ["_law_one", "_law_other"] []) (T : Txt mg) : HF P w K mg base 1 "_law_near" (sp__law_near) := by
  refine hf_of F sc__law_near hmg hb (fun _ => rfl) (fun _ => rfl) (fun t i O h => pin0 h) ?_
  rintro X - - - - - ⟨cdv, A, outer, s, H, E, rfl⟩ hr ⟨_law_one, _law_other⟩ hok
  have hN := sc__law_near.nd
  try dsimp only at hok
  show BV _ [some (da _law_one), some (da _law_other)] _ (retD (da (nearB _law_one _law_other)) _)
  refine bv_cons (sv_ret (ev_cmp (ec_eq (by assumption) (ev_add (ev_absI T.abs (ev_sub (ev_fst (ev_vard 0 (pv 0) rfl)) (ev_fst (ev_vard 1 (pv 1) rfl)))) (ev_absI T.abs (ev_sub (ev_snd (ev_vard 0 (pv 0) rfl)) (ev_snd (ev_vard 1 (pv 1) rfl))))) ev_int)) ⟨?_, Bk.none 2⟩)
  show (da (decide (((absI (_law_one.1 - _law_other.1)) + (absI (_law_one.2 - _law_other.2))) = 1) : Bool) : OP) = _
  refine congrArg (fun z => da z) ?_
  rfl

--M
abbrev s__law_parts : Stmt := top 35
theorem sc__law_parts : FnScope ["_law_some", "_law_touch", "_law_labels", "_law_going", "_law_spot", "_law_one", "_law_other", "_law_firsts", "_law_first"] ["_law_some", "_law_touch"] (defScope s__law_parts) := ⟨rfl, rfl, rfl, by decide +kernel, rfl, by decide +kernel, by decide +kernel⟩
def sp__law_parts (P : Program) (w : World) (K : PySem.W.Frag) (mg : Str → Option Value) (base : Heap) : Sp := spF (τ := (List Cell) × (Cell → Cell → Rs Bool) × (List (List Cell))) (fun t => m__law_parts t.1 t.2.1 = .ok t.2.2) (fun t => [some (da t.1), some (fz (fnP P w K mg base 6 (spF (τ := Cell × Cell × Bool) (fun tq => t.2.1 tq.1 tq.2.1 = .ok tq.2.2) (fun tq => [some (da tq.1), some (da tq.2.1)]) (fun tq => da tq.2.2) (fun _ => List.replicate 2 none))))]) (fun t => da t.2.2) (fun t => List.replicate 2 none)
set_option maxHeartbeats 0 in
theorem ok__law_parts {f : Addr} {fd : FuncData} (F : Fun K "_law_parts" "_law_parts" s__law_parts f fd) (hmg : mg "_law_parts" = some (.ref f)) (hb : Binds K fd ["_law_some", "_law_touch"] []) (T : Txt mg) : HF P w K mg base 7 "_law_parts" (sp__law_parts P w K mg base) := by
  refine hf_of F sc__law_parts hmg hb (fun _ => rfl) (fun _ => rfl) (fun t i O h => pin0 h) ?_
  rintro X - - - - - ⟨cdv, A, outer, s, H, E, rfl⟩ hr ⟨some0, touch, rr⟩ hm
  have hN := sc__law_parts.nd
  replace hm : m__law_parts some0 touch = .ok rr := hm
  unfold m__law_parts at hm
  show BV _ [some (da some0), some (fz (fnP P w K mg base 6 (spF (τ := Cell × Cell × Bool) (fun tq => touch tq.1 tq.2.1 = .ok tq.2.2) (fun tq => [some (da tq.1), some (da tq.2.1)]) (fun tq => da tq.2.2) (fun _ => List.replicate 2 none)))), none, none, none, none, none, none, none] _ (retD (da rr) _)
  replace hm := gd_ok hm; obtain ⟨g1, hm⟩ := hm
  replace hm := gd_ok hm; obtain ⟨g7, hm⟩ := hm
  replace hm := Rs.bind_ok hm; obtain ⟨labels, q8, hm⟩ := hm
  replace q8 := Rs.inj q8
  replace hm := Rs.bind_ok hm; obtain ⟨going, q9, hm⟩ := hm
  replace q9 := Rs.inj q9
  refine bv_cons (sv_asgO 2 3 rfl (EV.eq (ev_dictP (by assumption) rfl T.dict (ev_frzA (α := Cell × Cell) (ev_of (ev_lc (ix := [4]) [("_law_spot", 4)] (fun (x : Cell) => ((x, x) : Cell × Cell)) (fun x => [some (da some0), some (fz (fnP P w K mg base 6 (spF (τ := Cell × Cell × Bool) (fun tq => touch tq.1 tq.2.1 = .ok tq.2.2) (fun tq => [some (da tq.1), some (da tq.2.1)]) (fun tq => da tq.2.2) (fun _ => List.replicate 2 none)))), none, none, some (da x), none, none, none, none]) rfl hN (ei_lst (ev_vard 0 (pv 0) rfl)) (blkOk_by (N := ["_law_some", "_law_touch", "_law_labels", "_law_going", "_law_spot", "_law_one", "_law_other", "_law_firsts", "_law_first"]) (sc := (defScope s__law_parts)) (by decide +kernel)) g1 (by intro i hi O; simp at hi; subst hi; simp) (by simp) (fun x m2 s H C cl fp => (show EG _ _ _ _ _ _ from (eg_name 4 hN))) (fun x m2 s H C cl fp => (show EV _ _ _ _ _ from (ev_pair (ev_vard 4 (pv 4) rfl) (ev_vard 4 (pv 4) rfl)))) (fun x => (Wk.eq rfl (Wk.eq rfl (Wk.eq rfl (Wk.eq rfl (Wk.drop (Wk.eq rfl (Wk.eq rfl (Wk.eq rfl (Wk.eq rfl Wk.nil))))))))))))) g7) (congrArg (fun z => dO z) q8)) (EV.eq ev_bl (congrArg (fun z => da z) q9)) ?_ hN)
  show BV _ [some (da some0), some (fz (fnP P w K mg base 6 (spF (τ := Cell × Cell × Bool) (fun tq => touch tq.1 tq.2.1 = .ok tq.2.2) (fun tq => [some (da tq.1), some (da tq.2.1)]) (fun tq => da tq.2.2) (fun _ => List.replicate 2 none)))), some (dO labels), some (da going), none, none, none, none, none] _ _
  replace hm := Rs.bind_ok hm; obtain ⟨⟨going_7, labels_7⟩, e34, hm⟩ := hm
  refine bv_cons (sv_whM (τ := Bool × (List (Cell × Cell))) PassesOwn.never (fun t => m__law_parts_b1_c t.1 t.2) (fun t => m__law_parts_b1 some0 touch t.1 t.2) 1000000 (going, labels) _ e34 (fun (t10 : Bool × (List (Cell × Cell))) => [some (da some0), some (fz (fnP P w K mg base 6 (spF (τ := Cell × Cell × Bool) (fun tq => touch tq.1 tq.2.1 = .ok tq.2.2) (fun tq => [some (da tq.1), some (da tq.2.1)]) (fun tq => da tq.2.2) (fun _ => List.replicate 2 none)))), some (dO t10.2), some (da t10.1), none, none, none, none, none]) (Wk.ofEq rfl) ?_ ?_ ?_)
  · rintro ⟨going_1, labels_1⟩ kz hm
    replace hm : m__law_parts_b1_c going_1 labels_1 = Rs.ok kz := hm
    unfold m__law_parts_b1_c at hm
    show ET _ [some (da some0), some (fz (fnP P w K mg base 6 (spF (τ := Cell × Cell × Bool) (fun tq => touch tq.1 tq.2.1 = .ok tq.2.2) (fun tq => [some (da tq.1), some (da tq.2.1)]) (fun tq => da tq.2.2) (fun _ => List.replicate 2 none)))), some (dO labels_1), some (da going_1), none, none, none, none, none] _ _ _
    exact ET.eqb (et_val (ev_vard 3 (pv 3) rfl)) (Rs.inj hm)
  · rintro ⟨going_1, labels_1⟩ tz _ hm
    replace hm : m__law_parts_b1 some0 touch going_1 labels_1 = Rs.ok tz := hm
    unfold m__law_parts_b1 at hm
    show BV _ [some (da some0), some (fz (fnP P w K mg base 6 (spF (τ := Cell × Cell × Bool) (fun tq => touch tq.1 tq.2.1 = .ok tq.2.2) (fun tq => [some (da tq.1), some (da tq.2.1)]) (fun tq => da tq.2.2) (fun _ => List.replicate 2 none)))), some (dO labels_1), some (da going_1), none, none, none, none, none] _ _
    replace hm := Rs.bind_ok hm; obtain ⟨going_2, q13, hm⟩ := hm
    replace q13 := Rs.inj q13
    refine bv_cons (sv_set 3 (EV.eq ev_bl (congrArg (fun z => da z) q13)) ?_ hN)
    show BV _ [some (da some0), some (fz (fnP P w K mg base 6 (spF (τ := Cell × Cell × Bool) (fun tq => touch tq.1 tq.2.1 = .ok tq.2.2) (fun tq => [some (da tq.1), some (da tq.2.1)]) (fun tq => da tq.2.2) (fun _ => List.replicate 2 none)))), some (dO labels_1), some (da going_2), none, none, none, none, none] _ _
    replace hm := Rs.bind_ok hm; obtain ⟨⟨labels_6, going_6⟩, e33, hm⟩ := hm
    refine bv_cons (sv_forM (α := Cell) (τ := (List (Cell × Cell)) × Bool) (ix := [5]) rfl (ei_lst (ev_vard 0 (pv 0) rfl)) PassesOwn.never (fun (x_1 : Cell) t => m__law_parts_b2 some0 touch x_1 t.1 t.2) (labels_1, going_2) _ e33 (fun (t14 : (List (Cell × Cell)) × Bool) => [some (da some0), some (fz (fnP P w K mg base 6 (spF (τ := Cell × Cell × Bool) (fun tq => touch tq.1 tq.2.1 = .ok tq.2.2) (fun tq => [some (da tq.1), some (da tq.2.1)]) (fun tq => da tq.2.2) (fun _ => List.replicate 2 none)))), some (dO t14.1), some (da t14.2), none, none, none, none, none]) (fun (t14 : (List (Cell × Cell)) × Bool) (x15 : Cell) => [some (da some0), some (fz (fnP P w K mg base 6 (spF (τ := Cell × Cell × Bool) (fun tq => touch tq.1 tq.2.1 = .ok tq.2.2) (fun tq => [some (da tq.1), some (da tq.2.1)]) (fun tq => da tq.2.2) (fun _ => List.replicate 2 none)))), some (dO t14.1), some (da t14.2), none, some (da x15), none, none, none]) rfl (fun t x => (eg_name 5 hN)) ?_ ?_)
    · rintro ⟨labels_2, going_3⟩ x_1 tz _ hm
      replace hm : m__law_parts_b2 some0 touch x_1 labels_2 going_3 = Rs.ok tz := hm
      unfold m__law_parts_b2 at hm
      show BV _ [some (da some0), some (fz (fnP P w K mg base 6 (spF (τ := Cell × Cell × Bool) (fun tq => touch tq.1 tq.2.1 = .ok tq.2.2) (fun tq => [some (da tq.1), some (da tq.2.1)]) (fun tq => da tq.2.2) (fun _ => List.replicate 2 none)))), some (dO labels_2), some (da going_3), none, some (da x_1), none, none, none] _ _
      replace hm := Rs.bind_ok hm; obtain ⟨⟨labels_5, going_5⟩, e32, hm⟩ := hm
      refine bv_cons (sv_forM (α := Cell) (τ := (List (Cell × Cell)) × Bool) (ix := [6]) rfl (ei_lst (ev_vard 0 (pv 0) rfl)) PassesOwn.never (fun (x_2 : Cell) t => m__law_parts_b3 touch x_1 x_2 t.1 t.2) (labels_2, going_3) _ e32 (fun (t18 : (List (Cell × Cell)) × Bool) => [some (da some0), some (fz (fnP P w K mg base 6 (spF (τ := Cell × Cell × Bool) (fun tq => touch tq.1 tq.2.1 = .ok tq.2.2) (fun tq => [some (da tq.1), some (da tq.2.1)]) (fun tq => da tq.2.2) (fun _ => List.replicate 2 none)))), some (dO t18.1), some (da t18.2), none, some (da x_1), none, none, none]) (fun (t18 : (List (Cell × Cell)) × Bool) (x19 : Cell) => [some (da some0), some (fz (fnP P w K mg base 6 (spF (τ := Cell × Cell × Bool) (fun tq => touch tq.1 tq.2.1 = .ok tq.2.2) (fun tq => [some (da tq.1), some (da tq.2.1)]) (fun tq => da tq.2.2) (fun _ => List.replicate 2 none)))), some (dO t18.1), some (da t18.2), none, some (da x_1), some (da x19), none, none]) rfl (fun t x => (eg_name 6 hN)) ?_ ?_)
      · rintro ⟨labels_3, going_4⟩ x_2 tz _ hm
        replace hm : m__law_parts_b3 touch x_1 x_2 labels_3 going_4 = Rs.ok tz := hm
        unfold m__law_parts_b3 at hm
        show BV _ [some (da some0), some (fz (fnP P w K mg base 6 (spF (τ := Cell × Cell × Bool) (fun tq => touch tq.1 tq.2.1 = .ok tq.2.2) (fun tq => [some (da tq.1), some (da tq.2.1)]) (fun tq => da tq.2.2) (fun _ => List.replicate 2 none)))), some (dO labels_3), some (da going_4), none, some (da x_1), some (da x_2), none, none] _ _
        replace hm := Rs.bind_ok hm; obtain ⟨y, e22, hm⟩ := hm
        replace hm := Rs.bind_ok hm; obtain ⟨y_1, e23, hm⟩ := hm
        replace hm := Rs.bind_ok hm; obtain ⟨v, e26, hm⟩ := hm
        refine bv_cons (sv_if (et_w (ew_andM (et_cmp (ec_ltD (γ := Cell) (by assumption) (ev_dgetO 2 (by assumption) (pv 2) rfl (ev_vard 6 (pv 6) rfl) rfl (ofO_ok e22)) (ev_dgetO 2 (by assumption) (pv 2) rfl (ev_vard 5 (pv 5) rfl) rfl (ofO_ok e23)))) e26 (fun hx24 hy27 => (by replace hy27 := Rs.bind_ok hy27; obtain ⟨y_2, e25, hy27⟩ := hy27; exact EW.eqb (ew_and1 (et_val (ev_callF 1 (ea_v (ev_vard 5 (pv 5) rfl) (ea_v (ev_vard 6 (pv 6) rfl) ea_nil)) (pv 1) rfl rfl (x_1, x_2, y_2) e25))) (Rs.inj hy27))))) (fun hb28 => ?_) (fun hb28 => ?_))
        · replace hm := ifok_t hm hb28
          replace hm := Rs.bind_ok hm; obtain ⟨y_3, e29, hm⟩ := hm
          replace hm := gd_ok hm; obtain ⟨g30, hm⟩ := hm
          refine bv_cons (sv_dputP 2 3 (by assumption) rfl (ev_dgetO 2 (by assumption) (pv 2) rfl (ev_vard 6 (pv 6) rfl) rfl (ofO_ok e29)) ev_bl (pv 2) rfl (ev_vard 5 (pv 5) rfl) g30 ?_ hN)
          show BV _ [some (da some0), some (fz (fnP P w K mg base 6 (spF (τ := Cell × Cell × Bool) (fun tq => touch tq.1 tq.2.1 = .ok tq.2.2) (fun tq => [some (da tq.1), some (da tq.2.1)]) (fun tq => da tq.2.2) (fun _ => List.replicate 2 none)))), some (dO (putP labels_3 x_1 y_3)), some (da true), none, some (da x_1), some (da x_2), none, none] _ _
          replace hm := Rs.bind_ok hm; obtain ⟨labels_4, q31, hm⟩ := hm
          replace q31 := Rs.inj q31
          refine bv_wk (Wk.ofEq (congrArg (fun (labels_4 : List (Cell × Cell)) => [some (da some0), some (fz (fnP P w K mg base 6 (spF (τ := Cell × Cell × Bool) (fun tq => touch tq.1 tq.2.1 = .ok tq.2.2) (fun tq => [some (da tq.1), some (da tq.2.1)]) (fun tq => da tq.2.2) (fun _ => List.replicate 2 none)))), some (dO labels_4), some (da true), none, some (da x_1), some (da x_2), none, none]) q31)) ?_
          show BV _ [some (da some0), some (fz (fnP P w K mg base 6 (spF (τ := Cell × Cell × Bool) (fun tq => touch tq.1 tq.2.1 = .ok tq.2.2) (fun tq => [some (da tq.1), some (da tq.2.1)]) (fun tq => da tq.2.2) (fun _ => List.replicate 2 none)))), some (dO labels_4), some (da true), none, some (da x_1), some (da x_2), none, none] _ _
          refine bv_nil ?_
          show BV _ [some (da some0), some (fz (fnP P w K mg base 6 (spF (τ := Cell × Cell × Bool) (fun tq => touch tq.1 tq.2.1 = .ok tq.2.2) (fun tq => [some (da tq.1), some (da tq.2.1)]) (fun tq => da tq.2.2) (fun _ => List.replicate 2 none)))), some (dO labels_4), some (da true), none, some (da x_1), some (da x_2), none, none] _ _
          cases hm
          exact bv_nil (Wk.eq rfl (Wk.eq rfl (Wk.eq rfl (Wk.eq rfl (Wk.eq rfl (Wk.eq rfl (Wk.drop (Wk.eq rfl (Wk.eq rfl Wk.nil)))))))))
        · replace hm := ifok_f hm hb28
          refine bv_nil ?_
          show BV _ [some (da some0), some (fz (fnP P w K mg base 6 (spF (τ := Cell × Cell × Bool) (fun tq => touch tq.1 tq.2.1 = .ok tq.2.2) (fun tq => [some (da tq.1), some (da tq.2.1)]) (fun tq => da tq.2.2) (fun _ => List.replicate 2 none)))), some (dO labels_3), some (da going_4), none, some (da x_1), some (da x_2), none, none] _ _
          cases hm
          exact bv_nil (Wk.eq rfl (Wk.eq rfl (Wk.eq rfl (Wk.eq rfl (Wk.eq rfl (Wk.eq rfl (Wk.drop (Wk.eq rfl (Wk.eq rfl Wk.nil)))))))))
      · show BV _ [some (da some0), some (fz (fnP P w K mg base 6 (spF (τ := Cell × Cell × Bool) (fun tq => touch tq.1 tq.2.1 = .ok tq.2.2) (fun tq => [some (da tq.1), some (da tq.2.1)]) (fun tq => da tq.2.2) (fun _ => List.replicate 2 none)))), some (dO labels_5), some (da going_5), none, some (da x_1), none, none, none] _ _
        cases hm
        exact bv_nil (Wk.eq rfl (Wk.eq rfl (Wk.eq rfl (Wk.eq rfl (Wk.eq rfl (Wk.drop (Wk.eq rfl (Wk.eq rfl (Wk.eq rfl Wk.nil)))))))))
    · show BV _ [some (da some0), some (fz (fnP P w K mg base 6 (spF (τ := Cell × Cell × Bool) (fun tq => touch tq.1 tq.2.1 = .ok tq.2.2) (fun tq => [some (da tq.1), some (da tq.2.1)]) (fun tq => da tq.2.2) (fun _ => List.replicate 2 none)))), some (dO labels_6), some (da going_6), none, none, none, none, none] _ _
      cases hm
      exact bv_nil (Wk.eq rfl (Wk.eq rfl (Wk.eq rfl (Wk.eq rfl (Wk.eq rfl (Wk.eq rfl (Wk.eq rfl (Wk.eq rfl (Wk.eq rfl Wk.nil)))))))))
  · show BV _ [some (da some0), some (fz (fnP P w K mg base 6 (spF (τ := Cell × Cell × Bool) (fun tq => touch tq.1 tq.2.1 = .ok tq.2.2) (fun tq => [some (da tq.1), some (da tq.2.1)]) (fun tq => da tq.2.2) (fun _ => List.replicate 2 none)))), some (dO labels_7), some (da going_7), none, none, none, none, none] _ _
    refine bv_frzD 2 rfl ?_
    show BV _ [some (da some0), some (fz (fnP P w K mg base 6 (spF (τ := Cell × Cell × Bool) (fun tq => touch tq.1 tq.2.1 = .ok tq.2.2) (fun tq => [some (da tq.1), some (da tq.2.1)]) (fun tq => da tq.2.2) (fun _ => List.replicate 2 none)))), some (dF labels_7), some (da going_7), none, none, none, none, none] _ _
    replace hm := Rs.bind_ok hm; obtain ⟨firsts, e41, hm⟩ := hm
    replace hm := gd_ok hm; obtain ⟨g42, hm⟩ := hm
    replace hm := gd_ok hm; obtain ⟨g43, hm⟩ := hm
    replace hm := Rs.bind_ok hm; obtain ⟨firsts_1, q44, hm⟩ := hm
    replace q44 := Rs.inj q44
    refine bv_cons (sv_set 7 (ev_frzA (α := Cell) (EV.eq (ev_sortSetC (by assumption) rfl T.sorted T.set (ev_frzA (α := Cell) (ev_of (ev_lcM (ix := [4]) [("_law_spot", 4)] (fun (x_3 : Cell) => Rs.ok true) (fun (x_3 : Cell) => (ofO (getK labels_7 x_3)).bind fun y_4 => Rs.ok (y_4 : Cell)) e41 (fun x_3 => [some (da some0), some (fz (fnP P w K mg base 6 (spF (τ := Cell × Cell × Bool) (fun tq => touch tq.1 tq.2.1 = .ok tq.2.2) (fun tq => [some (da tq.1), some (da tq.2.1)]) (fun tq => da tq.2.2) (fun _ => List.replicate 2 none)))), some (dF labels_7), some (da going_7), some (da x_3), none, none, none, none]) rfl hN (ei_lst (ev_vard 0 (pv 0) rfl)) (blkOk_by (N := ["_law_some", "_law_touch", "_law_labels", "_law_going", "_law_spot", "_law_one", "_law_other", "_law_firsts", "_law_first"]) (sc := (defScope s__law_parts)) (by decide +kernel)) g1 (by intro i hi O; simp at hi; subst hi; simp) (by simp) (fun x_3 m36 s H C cl fp => (show EG _ _ _ _ _ _ from (eg_name 4 hN))) (fun x_3 k40 m36 hk37 s H C cl fp => (Rs.inj hk37) ▸ ets_nil) (fun x_3 y39 m36 hk37 hy38 s H C cl fp => (by replace hy38 := Rs.bind_ok hy38; obtain ⟨y_4, e35, hy38⟩ := hy38; exact (show EV _ _ _ _ _ from EV.eqa (x := (y_4 : Cell)) (ev_dgetF (by assumption) (ev_var (P := dFP labels_7) 2 (pv 2) rfl) (ev_vard 4 (pv 4) rfl) (ofO_ok e35)) (Rs.inj hy38)))) (fun x_3 => (Wk.eq rfl (Wk.eq rfl (Wk.eq rfl (Wk.eq rfl (Wk.drop (Wk.eq rfl (Wk.eq rfl (Wk.eq rfl (Wk.eq rfl Wk.nil))))))))))))) g42 g43) (congrArg (fun z => la z) q44))) ?_ hN)
    show BV _ [some (da some0), some (fz (fnP P w K mg base 6 (spF (τ := Cell × Cell × Bool) (fun tq => touch tq.1 tq.2.1 = .ok tq.2.2) (fun tq => [some (da tq.1), some (da tq.2.1)]) (fun tq => da tq.2.2) (fun _ => List.replicate 2 none)))), some (dF labels_7), some (da going_7), none, none, none, some (da firsts_1), none] _ _
    replace hm := gd_ok hm; obtain ⟨g45, hm⟩ := hm
    replace hm := Rs.bind_ok hm; obtain ⟨ys_1, e58, hm⟩ := hm
    exact bv_cons (sv_ret (ev_frzA (α := List Cell) (ev_of (ev_lcM (ix := [8]) [("_law_first", 8)] (fun (x_4 : Cell) => Rs.ok true) (fun (x_4 : Cell) => (lcM (fun (x_5 : Cell) => (ofO (getK labels_7 x_5)).bind fun y_5 => Rs.ok (decide (y_5 = x_4))) (fun (x_5 : Cell) => Rs.ok (x_5 : Cell)) some0).bind fun ys => Rs.ok (ys : List Cell)) e58 (fun x_4 => [some (da some0), some (fz (fnP P w K mg base 6 (spF (τ := Cell × Cell × Bool) (fun tq => touch tq.1 tq.2.1 = .ok tq.2.2) (fun tq => [some (da tq.1), some (da tq.2.1)]) (fun tq => da tq.2.2) (fun _ => List.replicate 2 none)))), some (dF labels_7), some (da going_7), none, none, none, some (da firsts_1), some (da x_4)]) rfl hN (ei_lst (ev_vard 7 (pv 7) rfl)) (blkOk_by (N := ["_law_some", "_law_touch", "_law_labels", "_law_going", "_law_spot", "_law_one", "_law_other", "_law_firsts", "_law_first"]) (sc := (defScope s__law_parts)) (by decide +kernel)) g45 (by intro i hi O; simp at hi; subst hi; simp) (by simp) (fun x_4 m53 s H C cl fp => (show EG _ _ _ _ _ _ from (eg_name 8 hN))) (fun x_4 k57 m53 hk54 s H C cl fp => (Rs.inj hk54) ▸ ets_nil) (fun x_4 y56 m53 hk54 hy55 s H C cl fp => (by replace hy55 := Rs.bind_ok hy55; obtain ⟨ys, e52, hy55⟩ := hy55; exact (show EV _ _ _ _ _ from EV.eqa (x := (ys : List Cell)) (ev_frzA (α := Cell) (ev_of (ev_lcM (ix := [4]) [("_law_spot", 4)] (fun (x_5 : Cell) => (ofO (getK labels_7 x_5)).bind fun y_5 => Rs.ok (decide (y_5 = x_4))) (fun (x_5 : Cell) => Rs.ok (x_5 : Cell)) e52 (fun x_5 => [some (da some0), some (fz (fnP P w K mg base 6 (spF (τ := Cell × Cell × Bool) (fun tq => touch tq.1 tq.2.1 = .ok tq.2.2) (fun tq => [some (da tq.1), some (da tq.2.1)]) (fun tq => da tq.2.2) (fun _ => List.replicate 2 none)))), some (dF labels_7), some (da going_7), some (da x_5), none, none, some (da firsts_1), some (da x_4)]) rfl hN (ei_lst (ev_vard 0 (pv 0) rfl)) (blkOk_by (N := ["_law_some", "_law_touch", "_law_labels", "_law_going", "_law_spot", "_law_one", "_law_other", "_law_firsts", "_law_first"]) (sc := (inS (lcAt s__law_parts 2) (defScope s__law_parts))) (by decide +kernel)) g1 (by intro i hi O; simp at hi; subst hi; simp) (by simp) (fun x_5 m47 s H C cl fp => (show EG _ _ _ _ _ _ from (eg_name 4 hN))) (fun x_5 k51 m47 hk48 s H C cl fp => (by replace hk48 := Rs.bind_ok hk48; obtain ⟨y_5, e46, hk48⟩ := hk48; exact (show ETs _ _ _ _ _ from ets_one (ET.eqb (et_cmp (ec_eq (α := Cell) (by assumption) (ev_dgetF (by assumption) (ev_var (P := dFP labels_7) 2 (pv 2) rfl) (ev_vard 4 (pv 4) rfl) (ofO_ok e46)) (ev_vard 8 (pv 8) rfl))) (Rs.inj hk48))))) (fun x_5 y50 m47 hk48 hy49 s H C cl fp => (by skip; exact (show EV _ _ _ _ _ from EV.eqa (x := (x_5 : Cell)) (ev_vard 4 (pv 4) rfl) (Rs.inj hy49)))) (fun x_5 => (Wk.eq rfl (Wk.eq rfl (Wk.eq rfl (Wk.eq rfl (Wk.drop (Wk.eq rfl (Wk.eq rfl (Wk.eq rfl (Wk.eq rfl Wk.nil))))))))))))) (Rs.inj hy55)))) (fun x_4 => (Wk.eq rfl (Wk.eq rfl (Wk.eq rfl (Wk.eq rfl (Wk.eq rfl (Wk.eq rfl (Wk.eq rfl (Wk.eq rfl (Wk.drop Wk.nil))))))))))))) ⟨congrArg (fun z => da z) (Rs.inj hm), Bk.none 2⟩)
noncomputable def m_law_k38_b3 (signs : Str) (x_2 : Int × (List Cell)) (x_3 : Cell) (due_2 : List (List Str)) : Rs (List (List Str)) := gd ((0 : Int) ≤ x_2.1 ∧ x_2.1 < (signs.cps.toList.length : Int)) (gd (signs.length ≤ sizeLine) (gd ((0 : Int) ≤ x_3.1 ∧ x_3.1 < (due_2.length : Int)) (gd ((0 : Int) ≤ x_3.2 ∧ x_3.2 < ((due_2.getD (x_3.1 : Int).toNat []).length : Int)) ((Rs.ok (set2 due_2 x_3.1 x_3.2 (chS signs x_2.1))).bind fun due_3 => Rs.ok due_3))))
noncomputable def m_law_k38_b2 (signs : Str) (x_2 : Int × (List Cell)) (due_1 : List (List Str)) : Rs (List (List Str)) := (forM (fun (x_3 : Cell) t => m_law_k38_b3 signs x_2 x_3 t) x_2.2 due_1).bind fun due_4 => Rs.ok due_4
noncomputable def m_law_k38_j1 (ns : List Int) (n1_1 : Nat) (land_here_1 : Land) : Rs (Bool) := gd (LandOk land_here_1) (gd (n1_1 < 1000000) (gd ((cellsOf land_here_1) ≠ []) ((Rs.ok (pick ns n1_1 (cellsOf land_here_1))).bind fun spot => (Rs.ok (n1_1 + 1)).bind fun n1_2 => gd (LandOk land_here_1 ∧ IsCell land_here_1 spot) (gd (n1_2 < 1000000) (gd ((n1_2 + 1) < 1000000) (gd (([(hAt land_here_1 spot), 0, 1, 2, 999, (draw ns n1_2 1000)] : List Int) ≠ []) ((Rs.ok (pick ns (n1_2 + 1) [(hAt land_here_1 spot), 0, 1, 2, 999, (draw ns n1_2 1000)])).bind fun level => (Rs.ok ((n1_2 + 1) + 1)).bind fun n1_3 => gd ((cellsOf land_here_1).length ≤ sizeLine) ((lcM (fun (x : Cell) => gd (LandOk land_here_1 ∧ IsCell land_here_1 x) (Rs.ok (decide (level ≤ (hAt land_here_1 x))))) (fun (x : Cell) => Rs.ok (x : Cell)) (cellsOf land_here_1)).bind fun dry => (if (decide ((dry.length : Int) < 40)) = true then (m__law_parts dry (fun a b => Rs.ok (nearB a b))).bind fun parts_here => Rs.ok parts_here else (m_islands land_here_1 level).bind fun parts_here_1 => Rs.ok parts_here_1).bind fun v => (Rs.ok ("abcdefghijklmnopqrstuvwxyzABCDEFGHIJKLMNOPQRSTUVWXYZ" : Str)).bind fun signs => gd (((rowsT land_here_1).items).length ≤ sizeLine) ((lcM (fun (x_1 : Tup Int) => Rs.ok true) (fun (x_1 : Tup Int) => gd ((0 : Int) ≤ ((Tup.mk (rowAt land_here_1 0)).items.length : Int) ∧ ((Tup.mk (rowAt land_here_1 0)).items.length : Int) ≤ 1000) (Rs.ok ((List.replicate (((Tup.mk (rowAt land_here_1 0)).items.length : Int) : Int).toNat (("." : Str) : Str)) : List Str))) ((rowsT land_here_1).items)).bind fun due => (forM (fun (x_2 : Int × (List Cell)) t => m_law_k38_b2 signs x_2 t) (enumL v) due).bind fun due_5 => (m_map_at land_here_1 level).bind fun got => gd (due_5.length ≤ sizeLine) ((lcM (fun (x_4 : List Str) => Rs.ok true) (fun (x_4 : List Str) => gd ((x_4.map (·.length)).sum + x_4.length * ("" : Str).length ≤ 16777216) (Rs.ok ((Txt.join ("" : Str) x_4) : Str))) due_5).bind fun ys => (if (decide (got = ys)) = true then (m_islands land_here_1 level).bind fun got_1 => Rs.ok (decide (got_1 = v)) else Rs.ok false).bind fun v_1 => Rs.ok v_1))))))))))
noncomputable def m_law_k38 (ns : List Int) : Rs (Bool) := gd (0 < 900000) ((Rs.ok (landOf ns 0 8)).bind fun land_here => (Rs.ok (landN ns 0 8)).bind fun n1 => gd (n1 < 1000000) (if (decide ((draw ns n1 4) = 0)) = true then gd ((rng 0 (8 : Int).toNat).length ≤ sizeLine) ((Rs.ok (Land.mk (((rng 0 (8 : Int).toNat).map (fun (x_5 : Int) => ((Tup.mk ((rng 0 (8 : Int).toNat).map (fun (x_6 : Int) => ((9 * (if (decide (((x_5 + x_6) % 2) = 0)) = true then (1 : Int) else 0)) : Int)))) : Tup Int))).map Tup.items))).bind fun land_here_2 => (Rs.ok (n1 + 1)).bind fun n1_4 => m_law_k38_j1 ns n1_4 land_here_2) else m_law_k38_j1 ns (n1 + 1) land_here))
abbrev s_law : Stmt := top 36
theorem sc_law : FnScope ["_law_script", "_law_town", "_law_land_here", "_law_down", "_law_across", "_law_spot", "_law_level", "_law_dry", "_law_parts_here", "_law_signs", "_law_due", "_law_belt", "_law_number", "_law_piece"] ["_law_script"] (defScope s_law) := ⟨rfl, rfl, rfl, by decide +kernel, rfl, by decide +kernel, by decide +kernel⟩
set_option maxHeartbeats 0 in
theorem ok_law (hL : ∀ ns, m_law_k38 ns = .ok true) {f : Addr} {fd : FuncData} (F : Fun K "law" "law" s_law f fd) (T : Txt mg) (G__law_land : HF P w K mg base 5 "_law_land" (sp__law_land K)) (G__law_draw : HF P w K mg base 3 "_law_draw" (sp__law_draw K)) (G__law_pick : HF P w K mg base 4 "_law_pick" (sp__law_pick K)) (G__law_cells : HF P w K mg base 1 "_law_cells" sp__law_cells) (G__law_high : HF P w K mg base 1 "_law_high" sp__law_high) (G__law_parts : HF P w K mg base 7 "_law_parts" (sp__law_parts P w K mg base)) (G__law_near : HF P w K mg base 1 "_law_near" sp__law_near) (G_islands : HF P w K mg base 7 "islands" (sp_islands)) (G_map_at : HF P w K mg base 7 "map_at" (sp_map_at)) : FnOk P w K mg base CX0 8 f fd ["_law_script"] (sp_law K) := by
  refine fn_of F sc_law (fun _ => rfl) (fun _ => rfl) (fun t i O h => pin0 (n := 1) h) ?_
  rintro X - - - - - ⟨cdv, A, outer, s, H, E, rfl⟩ hr ns -
  have hN := sc_law.nd
  have hm := hL ns
  unfold m_law_k38 at hm
  show BV _ [some (scr K ns), none, none, none, none, none, none, none, none, none, none, none, none, none] _ (retD (da true) _)
  refine bv_cons (sv_set 1 (ev_lst el_nil (Nat.zero_le _)) ?_ hN)
  show BV _ [some (scr K ns), some (ll (town 0)), none, none, none, none, none, none, none, none, none, none, none, none] _ _
  replace hm := gd_ok hm; obtain ⟨g1, hm⟩ := hm
  replace hm := Rs.bind_ok hm; obtain ⟨land_here, q2, hm⟩ := hm
  replace q2 := Rs.inj q2
  refine bv_cons (sv_set 2 (EV.eq (ev_callT 1 1 (ds := town (0)) (ds' := town ((landN ns 0 8))) (O := da (landOf ns 0 8)) G__law_land (ea_f (P := fscr K ns) (ev_var (P := fscr K ns) 0 (pv 0) rfl) (ea_sl (pv 1) rfl (ea_v ev_int ea_nil))) (fun a => (a, ns, 0, 8)) (fun _ => ⟨g1, (show (0 : Int) < 8 by decide), (show (8 : Int) ≤ 8 by decide)⟩) (fun _ => rfl) rfl) (congrArg (fun z => da z) q2)) ?_ hN)
  show BV _ [some (scr K ns), some (ll (town (landN ns 0 8))), some (da land_here), none, none, none, none, none, none, none, none, none, none, none] _ _
  replace hm := Rs.bind_ok hm; obtain ⟨n1, q3, hm⟩ := hm
  replace q3 := Rs.inj q3
  refine bv_wk (Wk.ofEq (congrArg (fun (n1 : Nat) => [some (scr K ns), some (ll (town n1)), some (da land_here), none, none, none, none, none, none, none, none, none, none, none]) q3)) ?_
  show BV _ [some (scr K ns), some (ll (town n1)), some (da land_here), none, none, none, none, none, none, none, none, none, none, none] _ _
  replace hm := gd_ok hm; obtain ⟨g4, hm⟩ := hm
  refine bv_join (τ := Nat × Land) (fun t6 => m_law_k38_j1 ns t6.1 t6.2 = .ok true) (fun t6 => [some (scr K ns), some (ll (town t6.1)), some (da t6.2), none, none, none, none, none, none, none, none, none, none, none]) ?_ ?_
  · rintro ⟨n1_1, land_here_1⟩ hm
    replace hm : m_law_k38_j1 ns n1_1 land_here_1 = .ok true := hm
    unfold m_law_k38_j1 at hm
    show BV _ [some (scr K ns), some (ll (town n1_1)), some (da land_here_1), none, none, none, none, none, none, none, none, none, none, none] _ _
    replace hm := gd_ok hm; obtain ⟨g7, hm⟩ := hm
    replace hm := gd_ok hm; obtain ⟨g8, hm⟩ := hm
    replace hm := gd_ok hm; obtain ⟨g9, hm⟩ := hm
    replace hm := Rs.bind_ok hm; obtain ⟨spot, q10, hm⟩ := hm
    replace q10 := Rs.inj q10
    refine bv_cons (sv_set 5 (EV.eq (EV.eqd (ev_callT 1 1 (ds := town (n1_1)) (ds' := town ((n1_1 + 1))) (O := dd (pickD ns n1_1 (((cellsOf land_here_1) : List Cell).map Datum.toD))) G__law_pick (ea_f (P := fscr K ns) (ev_var (P := fscr K ns) 0 (pv 0) rfl) (ea_sl (pv 1) rfl (ea_v (ev_call G__law_cells (ea_v (ev_vard 2 (pv 2) rfl) ea_nil) land_here_1 g7) ea_nil))) (fun a => (a, ns, n1_1, (((cellsOf land_here_1) : List Cell).map Datum.toD))) (fun _ => ⟨g8, map_ne g9⟩) (fun _ => rfl) rfl) (pickD_map g9)) (congrArg (fun z => da z) q10)) ?_ hN)
    show BV _ [some (scr K ns), some (ll (town (n1_1 + 1))), some (da land_here_1), none, none, some (da spot), none, none, none, none, none, none, none, none] _ _
    replace hm := Rs.bind_ok hm; obtain ⟨n1_2, q11, hm⟩ := hm
    replace q11 := Rs.inj q11
    refine bv_wk (Wk.ofEq (congrArg (fun (n1_2 : Nat) => [some (scr K ns), some (ll (town n1_2)), some (da land_here_1), none, none, some (da spot), none, none, none, none, none, none, none, none]) q11)) ?_
    show BV _ [some (scr K ns), some (ll (town n1_2)), some (da land_here_1), none, none, some (da spot), none, none, none, none, none, none, none, none] _ _
    replace hm := gd_ok hm; obtain ⟨g12, hm⟩ := hm
    replace hm := gd_ok hm; obtain ⟨g13, hm⟩ := hm
    replace hm := gd_ok hm; obtain ⟨g14, hm⟩ := hm
    replace hm := gd_ok hm; obtain ⟨g15, hm⟩ := hm
    replace hm := Rs.bind_ok hm; obtain ⟨level, q16, hm⟩ := hm
    replace q16 := Rs.inj q16
    refine bv_cons (sv_set 6 (EV.eq (EV.eqd (ev_callT 1 1 (ds := town ((n1_2 + 1))) (ds' := town (((n1_2 + 1) + 1))) (O := dd (pickD ns (n1_2 + 1) (([(hAt land_here_1 spot), 0, 1, 2, 999, (draw ns n1_2 1000)] : List Int).map Datum.toD))) G__law_pick (ea_f (P := fscr K ns) (ev_var (P := fscr K ns) 0 (pv 0) rfl) (ea_sl (pv 1) rfl (ea_v (ev_frzA (α := Int) (ev_lstA (α := Int) (xs := [(hAt land_here_1 spot), 0, 1, 2, 999, (draw ns n1_2 1000)]) (el_cons (ev_call G__law_high (ea_v (ev_vard 2 (pv 2) rfl) (ea_v (ev_vard 5 (pv 5) rfl) ea_nil)) (land_here_1, spot) g12) (el_cons ev_int (el_cons ev_int (el_cons ev_int (el_cons ev_int (el_cons (ev_callT 1 1 (ds := town (n1_2)) (ds' := town ((n1_2 + 1))) (O := da (draw ns n1_2 1000)) G__law_draw (ea_f (P := fscr K ns) (ev_var (P := fscr K ns) 0 (pv 0) rfl) (ea_sl (pv 1) rfl (ea_v ev_int ea_nil))) (fun a => (a, ns, n1_2, 1000)) (fun _ => ⟨g13, (show (0 : Int) < 1000 by decide)⟩) (fun _ => rfl) rfl) el_nil)))))) (show 6 ≤ 1000 by decide))) ea_nil))) (fun a => (a, ns, (n1_2 + 1), (([(hAt land_here_1 spot), 0, 1, 2, 999, (draw ns n1_2 1000)] : List Int).map Datum.toD))) (fun _ => ⟨g14, map_ne g15⟩) (fun _ => rfl) rfl) (pickD_map g15)) (congrArg (fun z => da z) q16)) ?_ hN)
    show BV _ [some (scr K ns), some (ll (town ((n1_2 + 1) + 1))), some (da land_here_1), none, none, some (da spot), some (da level), none, none, none, none, none, none, none] _ _
    replace hm := Rs.bind_ok hm; obtain ⟨n1_3, q17, hm⟩ := hm
    replace q17 := Rs.inj q17
    refine bv_wk (Wk.ofEq (congrArg (fun (n1_3 : Nat) => [some (scr K ns), some (ll (town n1_3)), some (da land_here_1), none, none, some (da spot), some (da level), none, none, none, none, none, none, none]) q17)) ?_
    show BV _ [some (scr K ns), some (ll (town n1_3)), some (da land_here_1), none, none, some (da spot), some (da level), none, none, none, none, none, none, none] _ _
    replace hm := gd_ok hm; obtain ⟨g18, hm⟩ := hm
    replace hm := Rs.bind_ok hm; obtain ⟨dry, e25, hm⟩ := hm
    refine bv_cons (sv_lc 7 (LCV.keep (P := Ev.fd (Datum.toD spot)) 5 rfl (ev_lcM (ix := [5]) [("_law_spot", 5)] (fun (x : Cell) => gd (LandOk land_here_1 ∧ IsCell land_here_1 x) (Rs.ok (decide (level ≤ (hAt land_here_1 x))))) (fun (x : Cell) => Rs.ok (x : Cell)) e25 (fun x => [some (scr K ns), some (ll (town n1_3)), some (da land_here_1), none, none, some (da x), some (da level), none, none, none, none, none, none, none]) rfl hN (ei_lst (ev_call G__law_cells (ea_v (ev_vard 2 (pv 2) rfl) ea_nil) land_here_1 g7)) (blkOk_by (N := ["_law_script", "_law_town", "_law_land_here", "_law_down", "_law_across", "_law_spot", "_law_level", "_law_dry", "_law_parts_here", "_law_signs", "_law_due", "_law_belt", "_law_number", "_law_piece"]) (sc := (defScope s_law)) (by decide +kernel)) g18 (by intro i hi O; simp at hi; subst hi; simp) (by simp) (fun x m20 s H C cl fp => (show EG _ _ _ _ _ _ from (eg_name 5 hN))) (fun x k24 m20 hk21 s H C cl fp => (by replace hk21 := gd_ok hk21; obtain ⟨g19, hk21⟩ := hk21; exact (show ETs _ _ _ _ _ from ets_one (ET.eqb (et_cmp (ec_ge (ev_call G__law_high (ea_v (ev_vard 2 (pv 2) rfl) (ea_v (ev_vard 5 (pv 5) rfl) ea_nil)) (land_here_1, x) g19) (ev_vard 6 (pv 6) rfl))) (Rs.inj hk21))))) (fun x y23 m20 hk21 hy22 s H C cl fp => (by skip; exact (show EV _ _ _ _ _ from EV.eqa (x := (x : Cell)) (ev_vard 5 (pv 5) rfl) (Rs.inj hy22)))) (fun x => (Wk.eq rfl (Wk.eq rfl (Wk.eq rfl (Wk.eq rfl (Wk.eq rfl (Wk.drop (Wk.eq rfl (Wk.eq rfl (Wk.eq rfl (Wk.eq rfl (Wk.eq rfl (Wk.eq rfl (Wk.eq rfl (Wk.eq rfl Wk.nil)))))))))))))))) (by simp)) ?_ hN)
    show BV _ [some (scr K ns), some (ll (town n1_3)), some (da land_here_1), none, none, some (da spot), some (da level), some (la dry), none, none, none, none, none, none] _ _
    refine bv_frzS 7 rfl ?_
    show BV _ [some (scr K ns), some (ll (town n1_3)), some (da land_here_1), none, none, some (da spot), some (da level), some (da dry), none, none, none, none, none, none] _ _
    replace hm := Rs.bind_ok hm; obtain ⟨v, e31, hm⟩ := hm
    refine bv_cons (sv_set 8 (ev_iteM (v := v) (et_cmp (ec_lt (ev_len T.len (ev_vard 7 (pv 7) rfl)) ev_int)) e31 (fun h26 hy30 => (by replace hy30 := Rs.bind_ok hy30; obtain ⟨parts_here, e28, hy30⟩ := hy30; exact EV.eqa (x := parts_here) (ev_call G__law_parts (ea_v (ev_vard 7 (pv 7) rfl) (ea_f (ev_fn (k := 6) (sp := (spF (τ := Cell × Cell × Bool) (fun tq => (fun a b => Rs.ok (nearB a b)) tq.1 tq.2.1 = .ok tq.2.2) (fun tq => [some (da tq.1), some (da tq.2.1)]) (fun tq => da tq.2.2) (fun _ => List.replicate 2 none))) (fnv_of G__law_near (by decide) (fun vs H Q E h => by obtain ⟨⟨x, y, z⟩, h1, h2⟩ := h; have e : nearB x y = z := Rs.inj h1; subst e; exact ⟨(x, y), trivial, h2⟩))) ea_nil)) (dry, (fun a b => Rs.ok (nearB a b)), parts_here) e28) (Rs.inj hy30))) (fun h27 hy30 => (by replace hy30 := Rs.bind_ok hy30; obtain ⟨parts_here_1, e29, hy30⟩ := hy30; exact EV.eqa (x := parts_here_1) (ev_call G_islands (ea_v (ev_vard 2 (pv 2) rfl) (ea_v (ev_vard 6 (pv 6) rfl) ea_nil)) (land_here_1, level, parts_here_1) e29) (Rs.inj hy30)))) ?_ hN)
    show BV _ [some (scr K ns), some (ll (town n1_3)), some (da land_here_1), none, none, some (da spot), some (da level), some (da dry), some (da v), none, none, none, none, none] _ _
    replace hm := Rs.bind_ok hm; obtain ⟨signs, q32, hm⟩ := hm
    replace q32 := Rs.inj q32
    refine bv_cons (sv_set 9 (EV.eq ev_str (congrArg (fun z => da z) q32)) ?_ hN)
    show BV _ [some (scr K ns), some (ll (town n1_3)), some (da land_here_1), none, none, some (da spot), some (da level), some (da dry), some (da v), some (da signs), none, none, none, none] _ _
    replace hm := gd_ok hm; obtain ⟨g33, hm⟩ := hm
    replace hm := Rs.bind_ok hm; obtain ⟨due, e40, hm⟩ := hm
    refine bv_cons (sv_lc 10 (ev_lc2M (ix := [11]) [("_law_belt", 11)] (fun (x_1 : Tup Int) => gd ((0 : Int) ≤ ((Tup.mk (rowAt land_here_1 0)).items.length : Int) ∧ ((Tup.mk (rowAt land_here_1 0)).items.length : Int) ≤ 1000) (Rs.ok ((List.replicate (((Tup.mk (rowAt land_here_1 0)).items.length : Int) : Int).toNat (("." : Str) : Str)) : List Str))) e40 (fun x_1 => [some (scr K ns), some (ll (town n1_3)), some (da land_here_1), none, none, some (da spot), some (da level), some (da dry), some (da v), some (da signs), none, some (da x_1), none, none]) rfl hN (ei_tup (ev_vard 2 (pv 2) rfl)) (blkOk_by (N := ["_law_script", "_law_town", "_law_land_here", "_law_down", "_law_across", "_law_spot", "_law_level", "_law_dry", "_law_parts_here", "_law_signs", "_law_due", "_law_belt", "_law_number", "_law_piece"]) (sc := (defScope s_law)) (by decide +kernel)) g33 (by intro i hi O; simp at hi; subst hi; simp) (by simp) (fun x_1 m35 s H C cl fp => (show EG _ _ _ _ _ _ from (eg_name 11 hN))) (fun x_1 y38 m35 hy37 s H C cl fp => (by replace hy37 := gd_ok hy37; obtain ⟨g34, hy37⟩ := hy37; exact (show EV _ _ _ _ _ from EV.eq (ev_repA (x := (("." : Str) : Str)) (ev_frzA (α := Str) (ev_lstA (α := Str) (xs := [("." : Str)]) (el_cons ev_str el_nil) (show 1 ≤ 1000 by decide))) (ev_lenT T.len (ev_row0 (ev_vard 2 (pv 2) rfl) g7)) g34) (congrArg (fun z => la z) (Rs.inj hy37))))) (fun x_1 => (Wk.eq rfl (Wk.eq rfl (Wk.eq rfl (Wk.eq rfl (Wk.eq rfl (Wk.eq rfl (Wk.eq rfl (Wk.eq rfl (Wk.eq rfl (Wk.eq rfl (Wk.eq rfl (Wk.drop (Wk.eq rfl (Wk.eq rfl Wk.nil)))))))))))))))) ?_ hN)
    show BV _ [some (scr K ns), some (ll (town n1_3)), some (da land_here_1), none, none, some (da spot), some (da level), some (da dry), some (da v), some (da signs), some (la2 due), none, none, none] _ _
    replace hm := Rs.bind_ok hm; obtain ⟨due_5, e55, hm⟩ := hm
    refine bv_cons (sv_forM (α := Int × (List Cell)) (τ := List (List Str)) (ix := [12, 13]) rfl (ei_enum T.enum (ev_vard 8 (pv 8) rfl)) PassesOwn.never (fun (x_2 : Int × (List Cell)) t => m_law_k38_b2 signs x_2 t) due _ e55 (fun (t41 : List (List Str)) => [some (scr K ns), some (ll (town n1_3)), some (da land_here_1), none, none, some (da spot), some (da level), some (da dry), some (da v), some (da signs), some (la2 t41), none, none, none]) (fun (t41 : List (List Str)) (x42 : Int × (List Cell)) => [some (scr K ns), some (ll (town n1_3)), some (da land_here_1), none, none, some (da spot), some (da level), some (da dry), some (da v), some (da signs), some (la2 t41), none, some (da x42.1), some (da x42.2)]) rfl (fun t x => (eg_tup rfl (egs_cons (eg_name 12 hN) (egs_cons (eg_name 13 hN) egs_nil)))) ?_ ?_)
    · rintro due_1 x_2 tz _ hm
      replace hm : m_law_k38_b2 signs x_2 due_1 = Rs.ok tz := hm
      unfold m_law_k38_b2 at hm
      show BV _ [some (scr K ns), some (ll (town n1_3)), some (da land_here_1), none, none, some (da spot), some (da level), some (da dry), some (da v), some (da signs), some (la2 due_1), none, some (da x_2.1), some (da x_2.2)] _ _
      replace hm := Rs.bind_ok hm; obtain ⟨due_4, e54, hm⟩ := hm
      refine bv_cons (sv_forM (α := Cell) (τ := List (List Str)) (ix := [3, 4]) rfl (ei_lst (ev_vard 13 (pv 13) rfl)) PassesOwn.never (fun (x_3 : Cell) t => m_law_k38_b3 signs x_2 x_3 t) due_1 _ e54 (fun (t45 : List (List Str)) => [some (scr K ns), some (ll (town n1_3)), some (da land_here_1), none, none, some (da spot), some (da level), some (da dry), some (da v), some (da signs), some (la2 t45), none, some (da x_2.1), some (da x_2.2)]) (fun (t45 : List (List Str)) (x46 : Cell) => [some (scr K ns), some (ll (town n1_3)), some (da land_here_1), some (da x46.1), some (da x46.2), some (da spot), some (da level), some (da dry), some (da v), some (da signs), some (la2 t45), none, some (da x_2.1), some (da x_2.2)]) rfl (fun t x => (eg_tup rfl (egs_cons (eg_name 3 hN) (egs_cons (eg_name 4 hN) egs_nil)))) ?_ ?_)
      · rintro due_2 x_3 tz _ hm
        replace hm : m_law_k38_b3 signs x_2 x_3 due_2 = Rs.ok tz := hm
        unfold m_law_k38_b3 at hm
        show BV _ [some (scr K ns), some (ll (town n1_3)), some (da land_here_1), some (da x_3.1), some (da x_3.2), some (da spot), some (da level), some (da dry), some (da v), some (da signs), some (la2 due_2), none, some (da x_2.1), some (da x_2.2)] _ _
        replace hm := gd_ok hm; obtain ⟨g49, hm⟩ := hm
        replace hm := gd_ok hm; obtain ⟨g50, hm⟩ := hm
        replace hm := gd_ok hm; obtain ⟨g51, hm⟩ := hm
        replace hm := gd_ok hm; obtain ⟨g52, hm⟩ := hm
        refine bv_cons (sv_set2A 10 (ev_ixStr (ev_vard 9 (pv 9) rfl) (ev_vard 12 (pv 12) rfl) g49 g50) (pv 10) rfl (ev_vard 3 (pv 3) rfl) (ev_vard 4 (pv 4) rfl) g51 g52 ?_)
        show BV _ [some (scr K ns), some (ll (town n1_3)), some (da land_here_1), some (da x_3.1), some (da x_3.2), some (da spot), some (da level), some (da dry), some (da v), some (da signs), some (la2 (set2 due_2 x_3.1 x_3.2 (chS signs x_2.1))), none, some (da x_2.1), some (da x_2.2)] _ _
        replace hm := Rs.bind_ok hm; obtain ⟨due_3, q53, hm⟩ := hm
        replace q53 := Rs.inj q53
        refine bv_wk (Wk.ofEq (congrArg (fun (due_3 : List (List Str)) => [some (scr K ns), some (ll (town n1_3)), some (da land_here_1), some (da x_3.1), some (da x_3.2), some (da spot), some (da level), some (da dry), some (da v), some (da signs), some (la2 due_3), none, some (da x_2.1), some (da x_2.2)]) q53)) ?_
        show BV _ [some (scr K ns), some (ll (town n1_3)), some (da land_here_1), some (da x_3.1), some (da x_3.2), some (da spot), some (da level), some (da dry), some (da v), some (da signs), some (la2 due_3), none, some (da x_2.1), some (da x_2.2)] _ _
        cases hm
        exact bv_nil (Wk.eq rfl (Wk.eq rfl (Wk.eq rfl (Wk.drop (Wk.drop (Wk.eq rfl (Wk.eq rfl (Wk.eq rfl (Wk.eq rfl (Wk.eq rfl (Wk.eq rfl (Wk.eq rfl (Wk.eq rfl (Wk.eq rfl Wk.nil))))))))))))))
      · show BV _ [some (scr K ns), some (ll (town n1_3)), some (da land_here_1), none, none, some (da spot), some (da level), some (da dry), some (da v), some (da signs), some (la2 due_4), none, some (da x_2.1), some (da x_2.2)] _ _
        cases hm
        exact bv_nil (Wk.eq rfl (Wk.eq rfl (Wk.eq rfl (Wk.eq rfl (Wk.eq rfl (Wk.eq rfl (Wk.eq rfl (Wk.eq rfl (Wk.eq rfl (Wk.eq rfl (Wk.eq rfl (Wk.eq rfl (Wk.drop (Wk.drop Wk.nil))))))))))))))
    · show BV _ [some (scr K ns), some (ll (town n1_3)), some (da land_here_1), none, none, some (da spot), some (da level), some (da dry), some (da v), some (da signs), some (la2 due_5), none, none, none] _ _
      refine bv_frz2A 10 rfl ?_
      show BV _ [some (scr K ns), some (ll (town n1_3)), some (da land_here_1), none, none, some (da spot), some (da level), some (da dry), some (da v), some (da signs), some (da due_5), none, none, none] _ _
      replace hm := Rs.bind_ok hm; obtain ⟨got, e56, hm⟩ := hm
      replace hm := gd_ok hm; obtain ⟨g57, hm⟩ := hm
      replace hm := Rs.bind_ok hm; obtain ⟨ys, e64, hm⟩ := hm
      replace hm := Rs.bind_ok hm; obtain ⟨v_1, e67, hm⟩ := hm
      exact bv_cons (sv_ret (ev_andM (ev_cmp (ec_eq (α := List Str) (by assumption) (ev_call G_map_at (ea_v (ev_vard 2 (pv 2) rfl) (ea_v (ev_vard 6 (pv 6) rfl) ea_nil)) (land_here_1, level, got) e56) (ev_frzA (α := Str) (ev_of (ev_lcM (ix := [11]) [("_law_belt", 11)] (fun (x_4 : List Str) => Rs.ok true) (fun (x_4 : List Str) => gd ((x_4.map (·.length)).sum + x_4.length * ("" : Str).length ≤ 16777216) (Rs.ok ((Txt.join ("" : Str) x_4) : Str))) e64 (fun x_4 => [some (scr K ns), some (ll (town n1_3)), some (da land_here_1), none, none, some (da spot), some (da level), some (da dry), some (da v), some (da signs), some (da due_5), some (da x_4), none, none]) rfl hN (ei_lst (ev_vard 10 (pv 10) rfl)) (blkOk_by (N := ["_law_script", "_law_town", "_law_land_here", "_law_down", "_law_across", "_law_spot", "_law_level", "_law_dry", "_law_parts_here", "_law_signs", "_law_due", "_law_belt", "_law_number", "_law_piece"]) (sc := (defScope s_law)) (by decide +kernel)) g57 (by intro i hi O; simp at hi; subst hi; simp) (by simp) (fun x_4 m59 s H C cl fp => (show EG _ _ _ _ _ _ from (eg_name 11 hN))) (fun x_4 k63 m59 hk60 s H C cl fp => (Rs.inj hk60) ▸ ets_nil) (fun x_4 y62 m59 hk60 hy61 s H C cl fp => (by replace hy61 := gd_ok hy61; obtain ⟨g58, hy61⟩ := hy61; exact (show EV _ _ _ _ _ from EV.eqa (x := ((Txt.join ("" : Str) x_4) : Str)) (ev_joinS ev_str (ev_vard 11 (pv 11) rfl) g58) (Rs.inj hy61)))) (fun x_4 => (Wk.eq rfl (Wk.eq rfl (Wk.eq rfl (Wk.eq rfl (Wk.eq rfl (Wk.eq rfl (Wk.eq rfl (Wk.eq rfl (Wk.eq rfl (Wk.eq rfl (Wk.eq rfl (Wk.drop (Wk.eq rfl (Wk.eq rfl Wk.nil)))))))))))))))))))) e67 (fun hx65 hy68 => (by replace hy68 := Rs.bind_ok hy68; obtain ⟨got_1, e66, hy68⟩ := hy68; exact EV.eqa (ev_one (ev_cmp (ec_eq (α := List (List Cell)) (by assumption) (ev_call G_islands (ea_v (ev_vard 2 (pv 2) rfl) (ea_v (ev_vard 6 (pv 6) rfl) ea_nil)) (land_here_1, level, got_1) e66) (ev_vard 8 (pv 8) rfl)))) (Rs.inj hy68)))) ⟨congrArg (fun z => da z) (Rs.inj hm), Bk.none 1⟩)
  refine sv_if (et_cmp (ec_eq (α := Int) (by assumption) (ev_callT 1 1 (ds := town (n1)) (ds' := town ((n1 + 1))) (O := da (draw ns n1 4)) G__law_draw (ea_f (P := fscr K ns) (ev_var (P := fscr K ns) 0 (pv 0) rfl) (ea_sl (pv 1) rfl (ea_v ev_int ea_nil))) (fun a => (a, ns, n1, 4)) (fun _ => ⟨g4, (show (0 : Int) < 4 by decide)⟩) (fun _ => rfl) rfl) ev_int)) (fun hb5 => ?_) (fun hb5 => ?_)
  · replace hm := ifok_t hm hb5
    replace hm := gd_ok hm; obtain ⟨g69, hm⟩ := hm
    replace hm := Rs.bind_ok hm; obtain ⟨land_here_2, q80, hm⟩ := hm
    replace q80 := Rs.inj q80
    refine bv_cons (sv_set 2 (EV.eq (ev_landOf T.tuple (ev_frzA (α := Tup Int) (ev_of (ev_lc (ix := [3]) [("_law_down", 3)] (fun (x_5 : Int) => ((Tup.mk ((rng 0 (8 : Int).toNat).map (fun (x_6 : Int) => ((9 * (if (decide (((x_5 + x_6) % 2) = 0)) = true then (1 : Int) else 0)) : Int)))) : Tup Int)) (fun x_5 => [some (scr K ns), some (ll (town (n1 + 1))), some (da land_here), some (da x_5), none, none, none, none, none, none, none, none, none, none]) rfl hN (ei_range1 T.range ev_int ⟨by decide, by decide⟩) (blkOk_by (N := ["_law_script", "_law_town", "_law_land_here", "_law_down", "_law_across", "_law_spot", "_law_level", "_law_dry", "_law_parts_here", "_law_signs", "_law_due", "_law_belt", "_law_number", "_law_piece"]) (sc := (defScope s_law)) (by decide +kernel)) g69 (by intro i hi O; simp at hi; subst hi; simp) (by simp) (fun x_5 m75 s H C cl fp => (show EG _ _ _ _ _ _ from (eg_name 3 hN))) (fun x_5 m75 s H C cl fp => (show EV _ _ _ _ _ from (ev_tupleOf T.tuple (ev_frzA (α := Int) (ev_of (ev_lc (ix := [4]) [("_law_across", 4)] (fun (x_6 : Int) => ((9 * (if (decide (((x_5 + x_6) % 2) = 0)) = true then (1 : Int) else 0)) : Int)) (fun x_6 => [some (scr K ns), some (ll (town (n1 + 1))), some (da land_here), some (da x_5), some (da x_6), none, none, none, none, none, none, none, none, none]) rfl hN (ei_range1 T.range ev_int ⟨by decide, by decide⟩) (blkOk_by (N := ["_law_script", "_law_town", "_law_land_here", "_law_down", "_law_across", "_law_spot", "_law_level", "_law_dry", "_law_parts_here", "_law_signs", "_law_due", "_law_belt", "_law_number", "_law_piece"]) (sc := (inS (lcAt s_law 0) (defScope s_law))) (by decide +kernel)) g69 (by intro i hi O; simp at hi; subst hi; simp) (by simp) (fun x_6 m70 s H C cl fp => (show EG _ _ _ _ _ _ from (eg_name 4 hN))) (fun x_6 m70 s H C cl fp => (show EV _ _ _ _ _ from (ev_mul ev_int (ev_intB T.int (ev_cmp (ec_eq (α := Int) (by assumption) (ev_mod (ev_add (ev_vard 3 (pv 3) rfl) (ev_vard 4 (pv 4) rfl)) ev_int (by decide)) ev_int))) (Or.inl ⟨by decide, by decide⟩)))) (fun x_6 => (Wk.eq rfl (Wk.eq rfl (Wk.eq rfl (Wk.eq rfl (Wk.drop (Wk.eq rfl (Wk.eq rfl (Wk.eq rfl (Wk.eq rfl (Wk.eq rfl (Wk.eq rfl (Wk.eq rfl (Wk.eq rfl (Wk.eq rfl Wk.nil))))))))))))))))))))) (fun x_5 => (Wk.eq rfl (Wk.eq rfl (Wk.eq rfl (Wk.drop (Wk.eq rfl (Wk.eq rfl (Wk.eq rfl (Wk.eq rfl (Wk.eq rfl (Wk.eq rfl (Wk.eq rfl (Wk.eq rfl (Wk.eq rfl (Wk.eq rfl Wk.nil))))))))))))))))))) (congrArg (fun z => da z) q80)) ?_ hN)
    show BV _ [some (scr K ns), some (ll (town (n1 + 1))), some (da land_here_2), none, none, none, none, none, none, none, none, none, none, none] _ _
    replace hm := Rs.bind_ok hm; obtain ⟨n1_4, q81, hm⟩ := hm
    replace q81 := Rs.inj q81
    refine bv_wk (Wk.ofEq (congrArg (fun (n1_4 : Nat) => [some (scr K ns), some (ll (town n1_4)), some (da land_here_2), none, none, none, none, none, none, none, none, none, none, none]) q81)) ?_
    show BV _ [some (scr K ns), some (ll (town n1_4)), some (da land_here_2), none, none, none, none, none, none, none, none, none, none, none] _ _
    exact bv_nil ⟨(n1_4, land_here_2), hm, (Wk.eq rfl (Wk.eq rfl (Wk.eq rfl (Wk.eq rfl (Wk.eq rfl (Wk.eq rfl (Wk.eq rfl (Wk.eq rfl (Wk.eq rfl (Wk.eq rfl (Wk.eq rfl (Wk.eq rfl (Wk.eq rfl (Wk.eq rfl Wk.nil))))))))))))))⟩
  · replace hm := ifok_f hm hb5
    exact bv_nil ⟨((n1 + 1), land_here), hm, (Wk.eq rfl (Wk.eq rfl (Wk.eq rfl (Wk.eq rfl (Wk.eq rfl (Wk.eq rfl (Wk.eq rfl (Wk.eq rfl (Wk.eq rfl (Wk.eq rfl (Wk.eq rfl (Wk.eq rfl (Wk.eq rfl (Wk.eq rfl Wk.nil))))))))))))))⟩
end

theorem law_loop {L : Land} (ok : LandOk L) (h : Int) (t : List (List Str)) : forM (fun (x_2 : Int × (List Cell)) t => m_law_k38_b2 ("abcdefghijklmnopqrstuvwxyzABCDEFGHIJKLMNOPQRSTUVWXYZ" : Str) x_2 t) (enumL (islG L h)) t = forM (fun (x_1 : Int × (List Cell)) t => mapB1 (chS ("abcdefghijklmnopqrstuvwxyzABCDEF" : Str)) x_1 t) (enumL (islG L h)) t :=
  forM_congr t fun x hx t => by
    have hl := (enum_in hx).2
    have h32 := isl32 ok h
    have e52 : (("abcdefghijklmnopqrstuvwxyzABCDEFGHIJKLMNOPQRSTUVWXYZ" : Str).cps.toList.length : Int) = 52 := by decide
    have es : chS ("abcdefghijklmnopqrstuvwxyzABCDEFGHIJKLMNOPQRSTUVWXYZ" : Str) x.1 = chS ("abcdefghijklmnopqrstuvwxyzABCDEF" : Str) x.1 := by
      have := sign_same ⟨x.1.toNat, by omega⟩
      dsimp only at this
      rw [Int.toNat_of_nonneg hl.1] at this
      exact this
    show m_law_k38_b2 _ x t = mapB1 _ x t
    unfold m_law_k38_b2 mapB1
    rw [rs_eta]
    refine forM_congr t fun c _ s => ?_
    show m_law_k38_b3 _ x c s = mapB2 _ x c s
    unfold m_law_k38_b3 mapB2
    rw [gd_pos (by rw [e52]; omega), gd_pos (szl (by decide)), es]
    rfl
theorem j1_eq (ns : List Int) {n : Nat} (hn : n ≤ 1000) {M : Land} (ok : LandOk M) : m_law_k38_j1 ns n M = .ok true := by
  have hne := cells_ne ok
  unfold m_law_k38_j1
  rw [gd_pos ok, gd_pos (by omega), gd_pos hne]
  simp only [Rs.ok_bind]
  have ha := mem_cellsOf.mp (pick_mem (ns := ns) (n := n) hne)
  generalize pick ns n (cellsOf M) = a at ha ⊢
  rw [gd_pos ⟨ok, ha⟩, gd_pos (by omega), gd_pos (by omega), gd_pos (by simp)]
  have hv : 0 ≤ pick ns (n + 1 + 1) [(hAt M a), 0, 1, 2, 999, (draw ns (n + 1) 1000)] ∧ pick ns (n + 1 + 1) [(hAt M a), 0, 1, 2, 999, (draw ns (n + 1) 1000)] ≤ 999 := by
    have := pick_mem (ns := ns) (n := n + 1 + 1) (xs := [(hAt M a), 0, 1, 2, 999, (draw ns (n + 1) 1000)]) (by simp)
    have hd := draw_range (ns := ns) (n := n + 1) (b := 1000) (by decide)
    have hh := hAt_range ok ha
    generalize pick ns (n + 1 + 1) [(hAt M a), 0, 1, 2, 999, (draw ns (n + 1) 1000)] = x at this ⊢
    simp only [List.mem_cons, List.not_mem_nil, or_false] at this
    omega
  generalize pick ns (n + 1 + 1) [(hAt M a), 0, 1, 2, 999, (draw ns (n + 1) 1000)] = lv at hv ⊢
  rw [gd_pos (size64' (cells64 ok)), lcM_pure (fun x => decide (lv ≤ hAt M x)) (fun x => x) (fun x hx => by rw [gd_pos ⟨ok, mem_cellsOf.mp hx⟩]) (fun _ _ _ => rfl), List.map_id']
  simp only [Rs.ok_bind]
  have edue : (cellsOf M).filter (fun x => decide (lv ≤ hAt M x)) = cellsP M (hiB M lv) := rfl
  rw [edue]
  have parts : (if (decide (((cellsP M (hiB M lv)).length : Int) < 40)) = true then (m__law_parts (cellsP M (hiB M lv)) (fun a b => Rs.ok (nearB a b))).bind fun parts_here => Rs.ok parts_here else (m_islands M lv).bind fun parts_here_1 => Rs.ok parts_here_1) = Rs.ok (islG M lv) := by
    by_cases q : ((cellsP M (hiB M lv)).length : Int) < 40
    · rw [if_pos (decide_eq_true q), m__law_parts_eq (near_tot _) near_symm (cellsP_sorted M _) (cellsP_rg ok _) (by omega)]
      rfl
    · rw [if_neg (by simpa using q), islands_eq ok hv.1 hv.2]
      rfl
  rw [parts]
  simp only [Rs.ok_bind]
  have c8 := ok.c8
  have r8 : (rowsT M).items.length ≤ 16777216 := by rw [rows_len]; exact Nat.le_trans ok.r8 (by decide)
  rw [gd_pos (szl r8), lcM_map (fun _ => List.replicate (nC M) ("." : Str)) fun x _ => by rw [row0_m ok, gd_pos (by omega), Int.toNat_natCast]]
  simp only [Rs.ok_bind]
  rw [law_loop ok]
  obtain ⟨t, t1, t2, t3⟩ := map_at_eq ok hv.1 hv.2
  show (forM _ _ (rows0 M)).bind _ = _
  rw [t1]
  simp only [Rs.ok_bind]
  rw [t3]
  simp only [Rs.ok_bind]
  rw [gd_pos (szl (by rw [t2.len]; exact Nat.le_trans ok.r8 (by decide))), join_ok ok t2]
  simp only [Rs.ok_bind]
  rw [if_pos (by simp), islands_eq ok hv.1 hv.2]
  simp
theorem law_true (ns : List Int) : m_law_k38 ns = .ok true := by
  have ok : LandOk (landOf ns 0 8) := landOf_ok (by decide) (by decide)
  have hn := landN_le (ns := ns) (n := 0) (b := 8) (by decide) (by decide)
  unfold m_law_k38
  rw [gd_pos (by decide)]
  simp only [Rs.ok_bind]
  generalize landOf ns 0 8 = L at ok ⊢
  generalize landN ns 0 8 = n0 at hn ⊢
  rw [gd_pos (by omega)]
  split
  · rw [gd_pos (szl (by rw [rng_length]; decide))]
    refine j1_eq ns (by omega) ?_
    rw [List.map_map]
    refine rows_ok8 (by rw [List.length_map, rng_length]; rfl) fun r hr => ?_
    obtain ⟨i, _, rfl⟩ := List.mem_map.mp hr
    refine ⟨by show (List.map _ _).length = 8; rw [List.length_map, rng_length]; rfl, fun h hh => ?_⟩
    obtain ⟨j, _, rfl⟩ := List.mem_map.mp hh
    split <;> omega
  · exact j1_eq ns (by omega) ok

end Ev
namespace Ev
open PySem L2
open PySem.W (Datum Tup T3 T4 Holds HoldAll DatumOrd EachIs SomeDatum)
instance tb0 : Tb := ⟨[]⟩
theorem all_mk {l : PySem.W.OpenLaw} {w : World} {K : PySem.W.Frag} {h : Heap} {mg : Str → Option Value} {fa f0 f1 f2 f3 f4 f5 f6 f7 f8 f9 f10 f11 f12 f13 f14 f15 f16 f17 f18 f19 f20 f21 f22 f23 f24 : Addr} (X : K.In h) (G : h.Ns mainGlobals mg) (hfa : mg "law" = some (.ref fa))
    {od0 an0 od1 an1 od2 an2 od3 an3 od4 an4 od5 an5 od6 an6 od7 an7 od8 an8 od9 an9 od10 an10 od11 an11 od12 an12 od13 an13 od14 an14 od15 an15 od16 an16 od17 an17 od18 an18 od19 an19 od20 an20 od21 an21 od22 an22 od23 an23 od24 an24 : Option Addr} {sl0 sl1 sl2 sl3 sl4 sl5 sl6 sl7 sl8 sl9 sl10 sl11 sl12 sl13 sl14 sl15 sl16 sl17 sl18 sl19 sl20 sl21 sl22 sl23 sl24 : Array (Option Value)} {oc0 kV0 dc0 pm0 cd0 ct0 oc1 kV1 dc1 pm1 cd1 ct1 oc2 kV2 dc2 pm2 cd2 ct2 oc3 kV3 dc3 pm3 cd3 ct3 oc4 kV4 dc4 pm4 cd4 ct4 oc5 kV5 dc5 pm5 cd5 ct5 oc6 kV6 dc6 pm6 cd6 ct6 oc7 kV7 dc7 pm7 cd7 ct7 oc8 kV8 dc8 pm8 cd8 ct8 oc9 kV9 dc9 pm9 cd9 ct9 oc10 kV10 dc10 pm10 cd10 ct10 oc11 kV11 dc11 pm11 cd11 ct11 oc12 kV12 dc12 pm12 cd12 ct12 oc13 kV13 dc13 pm13 cd13 ct13 oc14 kV14 dc14 pm14 cd14 ct14 oc15 kV15 dc15 pm15 cd15 ct15 oc16 kV16 dc16 pm16 cd16 ct16 oc17 kV17 dc17 pm17 cd17 ct17 oc18 kV18 dc18 pm18 cd18 ct18 oc19 kV19 dc19 pm19 cd19 ct19 oc20 kV20 dc20 pm20 cd20 ct20 oc21 kV21 dc21 pm21 cd21 ct21 oc22 kV22 dc22 pm22 cd22 ct22 oc23 kV23 dc23 pm23 cd23 ct23 oc24 kV24 dc24 pm24 cd24 ct24 : Value}
    (a0 : PySem.W.nsIn K mainGlobals "_law_cell_at" = some (some (.ref f0))) (l0 : K.lookup f0 = some ⟨oc0, od0, .func (PySem.W.fnOf "_law_cell_at" "_law_cell_at" (defArgs s__law_cell_at) (defBody s__law_cell_at) (defScope s__law_cell_at) .none kV0 dc0 pm0 an0 cd0 ct0), sl0⟩) (c0 : PySem.W.codeIn K cd0 "_law_cell_at" = true) (k0 : PySem.W.keepIn K (.ref f0) = true)
    (a1 : PySem.W.nsIn K mainGlobals "_law_mixed" = some (some (.ref f1))) (l1 : K.lookup f1 = some ⟨oc1, od1, .func (PySem.W.fnOf "_law_mixed" "_law_mixed" (defArgs s__law_mixed) (defBody s__law_mixed) (defScope s__law_mixed) .none kV1 dc1 pm1 an1 cd1 ct1), sl1⟩) (c1 : PySem.W.codeIn K cd1 "_law_mixed" = true) (k1 : PySem.W.keepIn K (.ref f1) = true)
    (a2 : PySem.W.nsIn K mainGlobals "_law_draw" = some (some (.ref f2))) (l2 : K.lookup f2 = some ⟨oc2, od2, .func (PySem.W.fnOf "_law_draw" "_law_draw" (defArgs s__law_draw) (defBody s__law_draw) (defScope s__law_draw) .none kV2 dc2 pm2 an2 cd2 ct2), sl2⟩) (c2 : PySem.W.codeIn K cd2 "_law_draw" = true) (k2 : PySem.W.keepIn K (.ref f2) = true)
    (a3 : PySem.W.nsIn K mainGlobals "_law_pick" = some (some (.ref f3))) (l3 : K.lookup f3 = some ⟨oc3, od3, .func (PySem.W.fnOf "_law_pick" "_law_pick" (defArgs s__law_pick) (defBody s__law_pick) (defScope s__law_pick) .none kV3 dc3 pm3 an3 cd3 ct3), sl3⟩) (c3 : PySem.W.codeIn K cd3 "_law_pick" = true) (k3 : PySem.W.keepIn K (.ref f3) = true)
    (a4 : PySem.W.nsIn K mainGlobals "_law_land" = some (some (.ref f4))) (l4 : K.lookup f4 = some ⟨oc4, od4, .func (PySem.W.fnOf "_law_land" "_law_land" (defArgs s__law_land) (defBody s__law_land) (defScope s__law_land) .none kV4 dc4 pm4 an4 cd4 ct4), sl4⟩) (c4 : PySem.W.codeIn K cd4 "_law_land" = true) (k4 : PySem.W.keepIn K (.ref f4) = true)
    (a5 : PySem.W.nsIn K mainGlobals "is_whole" = some (some (.ref f5))) (l5 : K.lookup f5 = some ⟨oc5, od5, .func (PySem.W.fnOf "is_whole" "is_whole" (defArgs s_is_whole) (defBody s_is_whole) (defScope s_is_whole) .none kV5 dc5 pm5 an5 cd5 ct5), sl5⟩) (c5 : PySem.W.codeIn K cd5 "is_whole" = true) (k5 : PySem.W.keepIn K (.ref f5) = true)
    (a6 : PySem.W.nsIn K mainGlobals "is_line" = some (some (.ref f6))) (l6 : K.lookup f6 = some ⟨oc6, od6, .func (PySem.W.fnOf "is_line" "is_line" (defArgs s_is_line) (defBody s_is_line) (defScope s_is_line) .none kV6 dc6 pm6 an6 cd6 ct6), sl6⟩) (c6 : PySem.W.codeIn K cd6 "is_line" = true) (k6 : PySem.W.keepIn K (.ref f6) = true)
    (a7 : PySem.W.nsIn K mainGlobals "is_land" = some (some (.ref f7))) (l7 : K.lookup f7 = some ⟨oc7, od7, .func (PySem.W.fnOf "is_land" "is_land" (defArgs s_is_land) (defBody s_is_land) (defScope s_is_land) .none kV7 dc7 pm7 an7 cd7 ct7), sl7⟩) (c7 : PySem.W.codeIn K cd7 "is_land" = true) (k7 : PySem.W.keepIn K (.ref f7) = true)
    (a8 : PySem.W.nsIn K mainGlobals "need_land" = some (some (.ref f8))) (l8 : K.lookup f8 = some ⟨oc8, od8, .func (PySem.W.fnOf "need_land" "need_land" (defArgs s_need_land) (defBody s_need_land) (defScope s_need_land) .none kV8 dc8 pm8 an8 cd8 ct8), sl8⟩) (c8 : PySem.W.codeIn K cd8 "need_land" = true) (k8 : PySem.W.keepIn K (.ref f8) = true)
    (a9 : PySem.W.nsIn K mainGlobals "need_level" = some (some (.ref f9))) (l9 : K.lookup f9 = some ⟨oc9, od9, .func (PySem.W.fnOf "need_level" "need_level" (defArgs s_need_level) (defBody s_need_level) (defScope s_need_level) .none kV9 dc9 pm9 an9 cd9 ct9), sl9⟩) (c9 : PySem.W.codeIn K cd9 "need_level" = true) (k9 : PySem.W.keepIn K (.ref f9) = true)
    (a10 : PySem.W.nsIn K mainGlobals "is_cell" = some (some (.ref f10))) (l10 : K.lookup f10 = some ⟨oc10, od10, .func (PySem.W.fnOf "is_cell" "is_cell" (defArgs s_is_cell) (defBody s_is_cell) (defScope s_is_cell) .none kV10 dc10 pm10 an10 cd10 ct10), sl10⟩) (c10 : PySem.W.codeIn K cd10 "is_cell" = true) (k10 : PySem.W.keepIn K (.ref f10) = true)
    (a11 : PySem.W.nsIn K mainGlobals "beside_of" = some (some (.ref f11))) (l11 : K.lookup f11 = some ⟨oc11, od11, .func (PySem.W.fnOf "beside_of" "beside_of" (defArgs s_beside_of) (defBody s_beside_of) (defScope s_beside_of) .none kV11 dc11 pm11 an11 cd11 ct11), sl11⟩) (c11 : PySem.W.codeIn K cd11 "beside_of" = true) (k11 : PySem.W.keepIn K (.ref f11) = true)
    (a12 : PySem.W.nsIn K mainGlobals "spread_of" = some (some (.ref f12))) (l12 : K.lookup f12 = some ⟨oc12, od12, .func (PySem.W.fnOf "spread_of" "spread_of" (defArgs s_spread_of) (defBody s_spread_of) (defScope s_spread_of) .none kV12 dc12 pm12 an12 cd12 ct12), sl12⟩) (c12 : PySem.W.codeIn K cd12 "spread_of" = true) (k12 : PySem.W.keepIn K (.ref f12) = true)
    (a13 : PySem.W.nsIn K mainGlobals "parts_of" = some (some (.ref f13))) (l13 : K.lookup f13 = some ⟨oc13, od13, .func (PySem.W.fnOf "parts_of" "parts_of" (defArgs s_parts_of) (defBody s_parts_of) (defScope s_parts_of) .none kV13 dc13 pm13 an13 cd13 ct13), sl13⟩) (c13 : PySem.W.codeIn K cd13 "parts_of" = true) (k13 : PySem.W.keepIn K (.ref f13) = true)
    (a14 : PySem.W.nsIn K mainGlobals "cells_of" = some (some (.ref f14))) (l14 : K.lookup f14 = some ⟨oc14, od14, .func (PySem.W.fnOf "cells_of" "cells_of" (defArgs s_cells_of) (defBody s_cells_of) (defScope s_cells_of) .none kV14 dc14 pm14 an14 cd14 ct14), sl14⟩) (c14 : PySem.W.codeIn K cd14 "cells_of" = true) (k14 : PySem.W.keepIn K (.ref f14) = true)
    (a15 : PySem.W.nsIn K mainGlobals "at" = some (some (.ref f15))) (l15 : K.lookup f15 = some ⟨oc15, od15, .func (PySem.W.fnOf "at" "at" (defArgs s_at) (defBody s_at) (defScope s_at) .none kV15 dc15 pm15 an15 cd15 ct15), sl15⟩) (c15 : PySem.W.codeIn K cd15 "at" = true) (k15 : PySem.W.keepIn K (.ref f15) = true)
    (a16 : PySem.W.nsIn K mainGlobals "land_at" = some (some (.ref f16))) (l16 : K.lookup f16 = some ⟨oc16, od16, .func (PySem.W.fnOf "land_at" "land_at" (defArgs s_land_at) (defBody s_land_at) (defScope s_land_at) .none kV16 dc16 pm16 an16 cd16 ct16), sl16⟩) (c16 : PySem.W.codeIn K cd16 "land_at" = true) (k16 : PySem.W.keepIn K (.ref f16) = true)
    (a17 : PySem.W.nsIn K mainGlobals "islands_of" = some (some (.ref f17))) (l17 : K.lookup f17 = some ⟨oc17, od17, .func (PySem.W.fnOf "islands_of" "islands_of" (defArgs s_islands_of) (defBody s_islands_of) (defScope s_islands_of) .none kV17 dc17 pm17 an17 cd17 ct17), sl17⟩) (c17 : PySem.W.codeIn K cd17 "islands_of" = true) (k17 : PySem.W.keepIn K (.ref f17) = true)
    (a18 : PySem.W.nsIn K mainGlobals "islands" = some (some (.ref f18))) (l18 : K.lookup f18 = some ⟨oc18, od18, .func (PySem.W.fnOf "islands" "islands" (defArgs s_islands) (defBody s_islands) (defScope s_islands) .none kV18 dc18 pm18 an18 cd18 ct18), sl18⟩) (c18 : PySem.W.codeIn K cd18 "islands" = true) (k18 : PySem.W.keepIn K (.ref f18) = true)
    (a19 : PySem.W.nsIn K mainGlobals "map_at" = some (some (.ref f19))) (l19 : K.lookup f19 = some ⟨oc19, od19, .func (PySem.W.fnOf "map_at" "map_at" (defArgs s_map_at) (defBody s_map_at) (defScope s_map_at) .none kV19 dc19 pm19 an19 cd19 ct19), sl19⟩) (c19 : PySem.W.codeIn K cd19 "map_at" = true) (k19 : PySem.W.keepIn K (.ref f19) = true)
    (a20 : PySem.W.nsIn K mainGlobals "_law_cells" = some (some (.ref f20))) (l20 : K.lookup f20 = some ⟨oc20, od20, .func (PySem.W.fnOf "_law_cells" "_law_cells" (defArgs s__law_cells) (defBody s__law_cells) (defScope s__law_cells) .none kV20 dc20 pm20 an20 cd20 ct20), sl20⟩) (c20 : PySem.W.codeIn K cd20 "_law_cells" = true) (k20 : PySem.W.keepIn K (.ref f20) = true)
    (a21 : PySem.W.nsIn K mainGlobals "_law_high" = some (some (.ref f21))) (l21 : K.lookup f21 = some ⟨oc21, od21, .func (PySem.W.fnOf "_law_high" "_law_high" (defArgs s__law_high) (defBody s__law_high) (defScope s__law_high) .none kV21 dc21 pm21 an21 cd21 ct21), sl21⟩) (c21 : PySem.W.codeIn K cd21 "_law_high" = true) (k21 : PySem.W.keepIn K (.ref f21) = true)
    (a22 : PySem.W.nsIn K mainGlobals "_law_near" = some (some (.ref f22))) (l22 : K.lookup f22 = some ⟨oc22, od22, .func (PySem.W.fnOf "_law_near" "_law_near" (defArgs s__law_near) (defBody s__law_near) (defScope s__law_near) .none kV22 dc22 pm22 an22 cd22 ct22), sl22⟩) (c22 : PySem.W.codeIn K cd22 "_law_near" = true) (k22 : PySem.W.keepIn K (.ref f22) = true)
    (a23 : PySem.W.nsIn K mainGlobals "_law_parts" = some (some (.ref f23))) (l23 : K.lookup f23 = some ⟨oc23, od23, .func (PySem.W.fnOf "_law_parts" "_law_parts" (defArgs s__law_parts) (defBody s__law_parts) (defScope s__law_parts) .none kV23 dc23 pm23 an23 cd23 ct23), sl23⟩) (c23 : PySem.W.codeIn K cd23 "_law_parts" = true) (k23 : PySem.W.keepIn K (.ref f23) = true)
    (a24 : PySem.W.nsIn K mainGlobals "law" = some (some (.ref f24))) (l24 : K.lookup f24 = some ⟨oc24, od24, .func (PySem.W.fnOf "law" "law" (defArgs s_law) (defBody s_law) (defScope s_law) .none kV24 dc24 pm24 an24 cd24 ct24), sl24⟩) (c24 : PySem.W.codeIn K cd24 "law" = true) (k24 : PySem.W.keepIn K (.ref f24) = true)
    {t1 t2 : Tok} (zM : PySem.W.nsIn K mainGlobals "MOST" = some (some (.int 8 t1))) (zH : PySem.W.nsIn K mainGlobals "HIGH" = some (some (.int 999 t2)))
    (z0 : PySem.W.nsIn K mainGlobals "len" = some none)
    (z1 : PySem.W.nsIn K mainGlobals "isinstance" = some none)
    (z2 : PySem.W.nsIn K mainGlobals "int" = some none)
    (z3 : PySem.W.nsIn K mainGlobals "bool" = some none)
    (z4 : PySem.W.nsIn K mainGlobals "tuple" = some none)
    (z5 : PySem.W.nsIn K mainGlobals "list" = some none)
    (z6 : PySem.W.nsIn K mainGlobals "str" = some none)
    (z7 : PySem.W.nsIn K mainGlobals "all" = some none)
    (z8 : PySem.W.nsIn K mainGlobals "any" = some none)
    (z9 : PySem.W.nsIn K mainGlobals "range" = some none)
    (z10 : PySem.W.nsIn K mainGlobals "min" = some none)
    (z11 : PySem.W.nsIn K mainGlobals "max" = some none)
    (z12 : PySem.W.nsIn K mainGlobals "sum" = some none)
    (z13 : PySem.W.nsIn K mainGlobals "abs" = some none)
    (z14 : PySem.W.nsIn K mainGlobals "sorted" = some none)
    (z15 : PySem.W.nsIn K mainGlobals "set" = some none)
    (z16 : PySem.W.nsIn K mainGlobals "dict" = some none)
    (z17 : PySem.W.nsIn K mainGlobals "zip" = some none)
    (z18 : PySem.W.nsIn K mainGlobals "enumerate" = some none)
    (z19 : PySem.W.nsIn K mainGlobals "reversed" = some none)
    {tSSIGNS : Tok} (zSSIGNS : PySem.W.nsIn K mainGlobals "SIGNS" = some (some (.str ("abcdefghijklmnopqrstuvwxyzABCDEF" : Str) tSSIGNS)))
    : ∃ fd : FuncData, (∀ (s : Shared) (v : Value), BindsTo s fd ⟨[v], []⟩ [("_law_script", v)]) ∧ ∀ base : Heap, K.In base → base.Ns mainGlobals mg → FnOk l.prog w K mg base CX0 8 fa fd ["_law_script"] (sp_law K) := by
  have e := hfa.symm.trans (PySem.W.mg_of X G a24)
  cases e
  have T : Txt mg := ⟨⟨_, PySem.W.mg_of X G zM⟩, ⟨_, PySem.W.mg_of X G zH⟩, PySem.W.mg_none_of X G z0, PySem.W.mg_none_of X G z1, PySem.W.mg_none_of X G z2, PySem.W.mg_none_of X G z3, PySem.W.mg_none_of X G z4, PySem.W.mg_none_of X G z5, PySem.W.mg_none_of X G z6, PySem.W.mg_none_of X G z7, PySem.W.mg_none_of X G z8, PySem.W.mg_none_of X G z9, PySem.W.mg_none_of X G z10, PySem.W.mg_none_of X G z11, PySem.W.mg_none_of X G z12, PySem.W.mg_none_of X G z13, PySem.W.mg_none_of X G z14, PySem.W.mg_none_of X G z15, PySem.W.mg_none_of X G z16, PySem.W.mg_none_of X G z17, PySem.W.mg_none_of X G z18, PySem.W.mg_none_of X G z19⟩
  have TSIGNS : ∃ t, mg "SIGNS" = some (.str ("abcdefghijklmnopqrstuvwxyzABCDEF" : Str) t) := ⟨_, PySem.W.mg_of X G zSSIGNS⟩
  have F0 := fun_mk (st := s__law_cell_at) l0 c0 k0
  have b0 := F0.binds (ps := ["_law_script", "_law_k"]) fun _ _ _ _ _ _ us hl => match us, hl with | [_, _], _ => rfl
  have F1 := fun_mk (st := s__law_mixed) l1 c1 k1
  have b1 := F1.binds (ps := ["_law_script", "_law_k", "_law_bound"]) fun _ _ _ _ _ _ us hl => match us, hl with | [_, _, _], _ => rfl
  have F2 := fun_mk (st := s__law_draw) l2 c2 k2
  have b2 := F2.binds (ps := ["_law_script", "_law_town", "_law_bound"]) fun _ _ _ _ _ _ us hl => match us, hl with | [_, _, _], _ => rfl
  have F3 := fun_mk (st := s__law_pick) l3 c3 k3
  have b3 := F3.binds (ps := ["_law_script", "_law_town", "_law_some"]) fun _ _ _ _ _ _ us hl => match us, hl with | [_, _, _], _ => rfl
  have F4 := fun_mk (st := s__law_land) l4 c4 k4
  have b4 := F4.binds (ps := ["_law_script", "_law_town", "_law_bound"]) fun _ _ _ _ _ _ us hl => match us, hl with | [_, _, _], _ => rfl
  have F5 := fun_mk (st := s_is_whole) l5 c5 k5
  have b5 := F5.binds (ps := ["thing", "low", "high"]) fun _ _ _ _ _ _ us hl => match us, hl with | [_, _, _], _ => rfl
  have F6 := fun_mk (st := s_is_line) l6 c6 k6
  have b6 := F6.binds (ps := ["thing", "long"]) fun _ _ _ _ _ _ us hl => match us, hl with | [_, _], _ => rfl
  have F7 := fun_mk (st := s_is_land) l7 c7 k7
  have b7 := F7.binds (ps := ["thing"]) fun _ _ _ _ _ _ us hl => match us, hl with | [_], _ => rfl
  have F8 := fun_mk (st := s_need_land) l8 c8 k8
  have b8 := F8.binds (ps := ["thing"]) fun _ _ _ _ _ _ us hl => match us, hl with | [_], _ => rfl
  have F9 := fun_mk (st := s_need_level) l9 c9 k9
  have b9 := F9.binds (ps := ["land", "level"]) fun _ _ _ _ _ _ us hl => match us, hl with | [_, _], _ => rfl
  have F10 := fun_mk (st := s_is_cell) l10 c10 k10
  have b10 := F10.binds (ps := ["land", "thing"]) fun _ _ _ _ _ _ us hl => match us, hl with | [_, _], _ => rfl
  have F11 := fun_mk (st := s_beside_of) l11 c11 k11
  have b11 := F11.binds (ps := ["land", "cell"]) fun _ _ _ _ _ _ us hl => match us, hl with | [_, _], _ => rfl
  have F12 := fun_mk (st := s_spread_of) l12 c12 k12
  have b12 := F12.binds (ps := ["land", "cell", "good"]) fun _ _ _ _ _ _ us hl => match us, hl with | [_, _, _], _ => rfl
  have F13 := fun_mk (st := s_parts_of) l13 c13 k13
  have b13 := F13.binds (ps := ["land", "good"]) fun _ _ _ _ _ _ us hl => match us, hl with | [_, _], _ => rfl
  have F14 := fun_mk (st := s_cells_of) l14 c14 k14
  have b14 := F14.binds (ps := ["land"]) fun _ _ _ _ _ _ us hl => match us, hl with | [_], _ => rfl
  have F15 := fun_mk (st := s_at) l15 c15 k15
  have b15 := F15.binds (ps := ["land", "cell"]) fun _ _ _ _ _ _ us hl => match us, hl with | [_, _], _ => rfl
  have F16 := fun_mk (st := s_land_at) l16 c16 k16
  have b16 := F16.binds (ps := ["land", "level"]) fun _ _ _ _ _ _ us hl => match us, hl with | [_, _], _ => rfl
  have F17 := fun_mk (st := s_islands_of) l17 c17 k17
  have b17 := F17.binds (ps := ["land", "level"]) fun _ _ _ _ _ _ us hl => match us, hl with | [_, _], _ => rfl
  have F18 := fun_mk (st := s_islands) l18 c18 k18
  have b18 := F18.binds (ps := ["land", "level"]) fun _ _ _ _ _ _ us hl => match us, hl with | [_, _], _ => rfl
  have F19 := fun_mk (st := s_map_at) l19 c19 k19
  have b19 := F19.binds (ps := ["land", "level"]) fun _ _ _ _ _ _ us hl => match us, hl with | [_, _], _ => rfl
  have F20 := fun_mk (st := s__law_cells) l20 c20 k20
  have b20 := F20.binds (ps := ["_law_land_here"]) fun _ _ _ _ _ _ us hl => match us, hl with | [_], _ => rfl
  have F21 := fun_mk (st := s__law_high) l21 c21 k21
  have b21 := F21.binds (ps := ["_law_land_here", "_law_spot"]) fun _ _ _ _ _ _ us hl => match us, hl with | [_, _], _ => rfl
  have F22 := fun_mk (st := s__law_near) l22 c22 k22
  have b22 := F22.binds (ps := ["_law_one", "_law_other"]) fun _ _ _ _ _ _ us hl => match us, hl with | [_, _], _ => rfl
  have F23 := fun_mk (st := s__law_parts) l23 c23 k23
  have b23 := F23.binds (ps := ["_law_some", "_law_touch"]) fun _ _ _ _ _ _ us hl => match us, hl with | [_, _], _ => rfl
  have F24 := fun_mk (st := s_law) l24 c24 k24
  refine ⟨PySem.W.fnOf "law" "law" (defArgs s_law) (defBody s_law) (defScope s_law) .none kV24 dc24 pm24 an24 cd24 ct24, fun s v => .of_eq rfl, fun base _ _ => ?_⟩
  have g__law_cell_at := ok__law_cell_at (P := l.prog) (w := w) (base := base) F0 (PySem.W.mg_of X G a0) b0 T 
  have g__law_mixed := ok__law_mixed (P := l.prog) (w := w) (base := base) F1 (PySem.W.mg_of X G a1) b1 T g__law_cell_at
  have g__law_draw := ok__law_draw (P := l.prog) (w := w) (base := base) F2 (PySem.W.mg_of X G a2) b2 T g__law_mixed
  have g__law_pick := ok__law_pick (P := l.prog) (w := w) (base := base) F3 (PySem.W.mg_of X G a3) b3 T g__law_draw
  have g__law_land := ok__law_land (P := l.prog) (w := w) (base := base) F4 (PySem.W.mg_of X G a4) b4 T g__law_draw g__law_pick
  have g_is_whole := ok_is_whole (P := l.prog) (w := w) (base := base) F5 (PySem.W.mg_of X G a5) b5 T 
  have g_is_line := ok_is_line (P := l.prog) (w := w) (base := base) F6 (PySem.W.mg_of X G a6) b6 T g_is_whole
  have g_is_land := ok_is_land (P := l.prog) (w := w) (base := base) F7 (PySem.W.mg_of X G a7) b7 T g_is_line
  have g_need_land := ok_need_land (P := l.prog) (w := w) (base := base) F8 (PySem.W.mg_of X G a8) b8 T g_is_land
  have g_need_level := ok_need_level (P := l.prog) (w := w) (base := base) F9 (PySem.W.mg_of X G a9) b9 T g_need_land g_is_whole
  have g_is_cell := ok_is_cell (P := l.prog) (w := w) (base := base) F10 (PySem.W.mg_of X G a10) b10 T g_is_whole
  have g_beside_of := ok_beside_of (P := l.prog) (w := w) (base := base) F11 (PySem.W.mg_of X G a11) b11 T g_is_cell
  have g_spread_of := ok_spread_of (P := l.prog) (w := w) (base := base) F12 (PySem.W.mg_of X G a12) b12 T g_beside_of
  have g_parts_of := ok_parts_of (P := l.prog) (w := w) (base := base) F13 (PySem.W.mg_of X G a13) b13 T g_spread_of
  have g_cells_of := ok_cells_of (P := l.prog) (w := w) (base := base) F14 (PySem.W.mg_of X G a14) b14 T 
  have g_at := ok_at (P := l.prog) (w := w) (base := base) F15 (PySem.W.mg_of X G a15) b15 T 
  have g_land_at := ok_land_at (P := l.prog) (w := w) (base := base) F16 (PySem.W.mg_of X G a16) b16 T g_cells_of g_at
  have g_islands_of := ok_islands_of (P := l.prog) (w := w) (base := base) F17 (PySem.W.mg_of X G a17) b17 T g_parts_of g_land_at
  have g_islands := ok_islands (P := l.prog) (w := w) (base := base) F18 (PySem.W.mg_of X G a18) b18 T g_need_level g_islands_of
  have g_map_at := ok_map_at (P := l.prog) (w := w) (base := base) F19 (PySem.W.mg_of X G a19) b19 T g_need_level g_islands_of TSIGNS
  have g__law_cells := ok__law_cells (P := l.prog) (w := w) (base := base) F20 (PySem.W.mg_of X G a20) b20 T 
  have g__law_high := ok__law_high (P := l.prog) (w := w) (base := base) F21 (PySem.W.mg_of X G a21) b21 T 
  have g__law_near := ok__law_near (P := l.prog) (w := w) (base := base) F22 (PySem.W.mg_of X G a22) b22 T 
  have g__law_parts := ok__law_parts (P := l.prog) (w := w) (base := base) F23 (PySem.W.mg_of X G a23) b23 T 
  exact ok_law law_true F24 T g__law_land g__law_draw g__law_pick g__law_cells g__law_high g__law_parts g__law_near g_islands g_map_at
end Ev
open PySem PySem.W PyProof.Rows in
set_option maxRecDepth 100000 in
set_option maxHeartbeats 0 in
theorem PySem.Challenge.cw_peakland_k38_whole_maps_holds : PySem.Challenge.rw_peakland_k38_whole_maps.Holds := by
  w_on; o_law; k_head; (case hw => w_witness2)
  k_fill
  refine Ev.law_walk (hT := rfl) (l := PySem.Challenge.rw_peakland_k38_whole_maps) (k := 8) (x := "_law_script") rfl rfl ⟨rfl, by decide, by decide⟩ (fun w h Y => PySem.W.kIn_of Y) ?F
  case F =>
    intro w mg fa h KX G hmg
    refine' Ev.all_mk KX G hmg ?a0 ?l0 ?c0 ?k0 ?a1 ?l1 ?c1 ?k1 ?a2 ?l2 ?c2 ?k2 ?a3 ?l3 ?c3 ?k3 ?a4 ?l4 ?c4 ?k4 ?a5 ?l5 ?c5 ?k5 ?a6 ?l6 ?c6 ?k6 ?a7 ?l7 ?c7 ?k7 ?a8 ?l8 ?c8 ?k8 ?a9 ?l9 ?c9 ?k9 ?a10 ?l10 ?c10 ?k10 ?a11 ?l11 ?c11 ?k11 ?a12 ?l12 ?c12 ?k12 ?a13 ?l13 ?c13 ?k13 ?a14 ?l14 ?c14 ?k14 ?a15 ?l15 ?c15 ?k15 ?a16 ?l16 ?c16 ?k16 ?a17 ?l17 ?c17 ?k17 ?a18 ?l18 ?c18 ?k18 ?a19 ?l19 ?c19 ?k19 ?a20 ?l20 ?c20 ?k20 ?a21 ?l21 ?c21 ?k21 ?a22 ?l22 ?c22 ?k22 ?a23 ?l23 ?c23 ?k23 ?a24 ?l24 ?c24 ?k24 ?zM ?zH ?z0 ?z1 ?z2 ?z3 ?z4 ?z5 ?z6 ?z7 ?z8 ?z9 ?z10 ?z11 ?z12 ?z13 ?z14 ?z15 ?z16 ?z17 ?z18 ?z19 ?zSSIGNS
    (case a0 => k_is)
    (case l0 => k_is)
    (case c0 => k_is)
    (case k0 => k_is)
    (case a1 => k_is)
    (case l1 => k_is)
    (case c1 => k_is)
    (case k1 => k_is)
    (case a2 => k_is)
    (case l2 => k_is)
    (case c2 => k_is)
    (case k2 => k_is)
    (case a3 => k_is)
    (case l3 => k_is)
    (case c3 => k_is)
    (case k3 => k_is)
    (case a4 => k_is)
    (case l4 => k_is)
    (case c4 => k_is)
    (case k4 => k_is)
    (case a5 => k_is)
    (case l5 => k_is)
    (case c5 => k_is)
    (case k5 => k_is)
    (case a6 => k_is)
    (case l6 => k_is)
    (case c6 => k_is)
    (case k6 => k_is)
    (case a7 => k_is)
    (case l7 => k_is)
    (case c7 => k_is)
    (case k7 => k_is)
    (case a8 => k_is)
    (case l8 => k_is)
    (case c8 => k_is)
    (case k8 => k_is)
    (case a9 => k_is)
    (case l9 => k_is)
    (case c9 => k_is)
    (case k9 => k_is)
    (case a10 => k_is)
    (case l10 => k_is)
    (case c10 => k_is)
    (case k10 => k_is)
    (case a11 => k_is)
    (case l11 => k_is)
    (case c11 => k_is)
    (case k11 => k_is)
    (case a12 => k_is)
    (case l12 => k_is)
    (case c12 => k_is)
    (case k12 => k_is)
    (case a13 => k_is)
    (case l13 => k_is)
    (case c13 => k_is)
    (case k13 => k_is)
    (case a14 => k_is)
    (case l14 => k_is)
    (case c14 => k_is)
    (case k14 => k_is)
    (case a15 => k_is)
    (case l15 => k_is)
    (case c15 => k_is)
    (case k15 => k_is)
    (case a16 => k_is)
    (case l16 => k_is)
    (case c16 => k_is)
    (case k16 => k_is)
    (case a17 => k_is)
    (case l17 => k_is)
    (case c17 => k_is)
    (case k17 => k_is)
    (case a18 => k_is)
    (case l18 => k_is)
    (case c18 => k_is)
    (case k18 => k_is)
    (case a19 => k_is)
    (case l19 => k_is)
    (case c19 => k_is)
    (case k19 => k_is)
    (case a20 => k_is)
    (case l20 => k_is)
    (case c20 => k_is)
    (case k20 => k_is)
    (case a21 => k_is)
    (case l21 => k_is)
    (case c21 => k_is)
    (case k21 => k_is)
    (case a22 => k_is)
    (case l22 => k_is)
    (case c22 => k_is)
    (case k22 => k_is)
    (case a23 => k_is)
    (case l23 => k_is)
    (case c23 => k_is)
    (case k23 => k_is)
    (case a24 => k_is)
    (case l24 => k_is)
    (case c24 => k_is)
    (case k24 => k_is)
    (case zM => k_is)
    (case zH => k_is)
    (case z0 => k_is)
    (case z1 => k_is)
    (case z2 => k_is)
    (case z3 => k_is)
    (case z4 => k_is)
    (case z5 => k_is)
    (case z6 => k_is)
    (case z7 => k_is)
    (case z8 => k_is)
    (case z9 => k_is)
    (case z10 => k_is)
    (case z11 => k_is)
    (case z12 => k_is)
    (case z13 => k_is)
    (case z14 => k_is)
    (case z15 => k_is)
    (case z16 => k_is)
    (case z17 => k_is)
    (case z18 => k_is)
    (case z19 => k_is)
    (case zSSIGNS => k_is)
