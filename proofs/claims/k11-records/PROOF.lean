import PyProof.Rows.All
import Wide.All
import OpenK.AllK
import Wide.FinOn
import HandS.ForMost
import HandS.IsInst
import HandS.Deep
import HandS.Defaults
import HandS.Steps
import HandS.More
import HandS.TryOnly
import HandS.Exc
import HandS.ExcOwn
import HandS.WordsExc
import HandS.HeadHook1
import HandS.HeadHook2
import KE.KStateDown
import Lean
import HandS.Head0
import HandS.Head1
import HandS.Head2
import HandS.HeadEnd
import PySem.Challenge.RW_gridwhole_k11_records
set_option Elab.async false
set_option linter.all false
set_option maxRecDepth 100000
set_option maxHeartbeats 0
/-! DL: data that stands in a frozen region F of the heap, owned regions beside it, and what a def may do to them. -/
namespace DL
open PySem PySem.Spec L2

/-! ### regions -/
def emp : Hp := fun _ => Option.none
def cell (p : Addr) (o : HO) : Hp := fun a => if a = p then some o else Option.none
def un (F R : Hp) : Hp := fun a => match F a with | some o => some o | Option.none => R a
def Dj (A B : Hp) : Prop := ∀ a, A a ≠ Option.none → B a = Option.none
theorem ns {α : Type} {x : Option α} {a : α} (h : x = some a) : x ≠ Option.none := by rw [h]; intro q; cases q
theorem sn {α : Type} {x : Option α} (h : x ≠ Option.none) : ∃ a, x = some a := by
  cases x with
  | none => exact absurd rfl h
  | some a => exact ⟨a, rfl⟩
theorem Dj.symm {A B : Hp} (h : Dj A B) : Dj B A := fun a hb => by
  cases q : A a with
  | none => rfl
  | some o => exact absurd (h a (ns q)) hb
theorem cell_same {p : Addr} {o : HO} : cell p o p = some o := by unfold cell; rw [if_pos rfl]
theorem cell_ne {p a : Addr} {o : HO} (h : a ≠ p) : cell p o a = Option.none := by unfold cell; rw [if_neg h]
theorem cell_at {p a : Addr} {o : HO} (h : cell p o a ≠ Option.none) : a = p := by
  by_cases e : a = p
  · exact e
  · exact absurd (cell_ne e) h
theorem cell_some {p a : Addr} {o u : HO} (h : cell p o a = some u) : a = p ∧ u = o := by
  have e := cell_at (ns h)
  subst e
  rw [cell_same] at h
  cases h
  exact ⟨rfl, rfl⟩
theorem upd_cell {p : Addr} {o u : HO} : upd (cell p o) p u = cell p u := by
  funext b
  unfold upd cell
  split <;> rfl
theorem emp_dj {A : Hp} : Dj A emp := fun _ _ => rfl
theorem emp_same {A : Hp} : Same emp A := fun _ _ h => by cases h
theorem un_l {F R : Hp} : Same F (un F R) := fun a o h => by unfold un; rw [h]
theorem un_r {F R : Hp} (d : Dj F R) : Same R (un F R) := fun a o h => by
  unfold un
  cases q : F a with
  | none => exact h
  | some u =>
    have := d a (ns q)
    rw [this] at h
    cases h
theorem un_some {F R : Hp} {a : Addr} {o : HO} (h : un F R a = some o) : F a = some o ∨ (F a = Option.none ∧ R a = some o) := by
  unfold un at h
  cases q : F a with
  | none => rw [q] at h; exact .inr ⟨rfl, h⟩
  | some u => rw [q] at h; cases h; exact .inl rfl
theorem un_ne {F R : Hp} {a : Addr} (h : un F R a ≠ Option.none) : F a ≠ Option.none ∨ R a ≠ Option.none := by
  obtain ⟨o, e⟩ := sn h
  rcases un_some e with q | ⟨_, q⟩
  · exact .inl (ns q)
  · exact .inr (ns q)
theorem same_upd {F : Hp} {p : Addr} {o : HO} (h : F p = Option.none) : Same F (upd F p o) := fun a u e => by
  rw [upd_ne (ne_of_none e h)]
  exact e
theorem same_none {F H : Hp} (s : Same F H) {p : Addr} (h : H p = Option.none) : F p = Option.none := s.free h

/-! ### data in a region -/
mutual
inductive Da (F : Hp) : V → PyData → Prop
  | non : Da F .non .none
  | bl (b : Bool) : Da F (.bl b) (.bool b)
  | int (i : Int) : Da F (.int i) (.int i)
  | str (x : Str) : Da F (.str x) (.str x)
  | lst {a : Addr} {xs : List V} {ds : List PyData} : F a = some (.lst xs) → DaA F xs ds → Da F (.ref a) (.list ds)
  | tup {a : Addr} {xs : List V} {ds : List PyData} : F a = some (.tup xs) → DaA F xs ds → Da F (.ref a) (.tuple ds)
inductive DaA (F : Hp) : List V → List PyData → Prop
  | nil : DaA F [] []
  | cons {v : V} {vs : List V} {d : PyData} {ds : List PyData} : Da F v d → DaA F vs ds → DaA F (v :: vs) (d :: ds)
end
section
variable {F F' H : Hp} {K : PySem.W.Frag}
mutual
theorem Da.mono (s : Same F F') : ∀ {v : V} {d : PyData}, Da F v d → Da F' v d
  | _, _, .non => .non
  | _, _, .bl b => .bl b
  | _, _, .int i => .int i
  | _, _, .str x => .str x
  | _, _, .lst h a => .lst (s _ _ h) (DaA.mono s a)
  | _, _, .tup h a => .tup (s _ _ h) (DaA.mono s a)
theorem DaA.mono (s : Same F F') : ∀ {vs : List V} {ds : List PyData}, DaA F vs ds → DaA F' vs ds
  | _, _, .nil => .nil
  | _, _, .cons h a => .cons (Da.mono s h) (DaA.mono s a)
end
mutual
theorem Da.dp (s : Same F H) : ∀ {v : V} {d : PyData}, Da F v d → Dp K H v d
  | _, _, .non => .non
  | _, _, .bl b => .bl b
  | _, _, .int i => .int i
  | _, _, .str x => .str x
  | _, _, .lst h a => .lst (SqL.of (s _ _ h)) (DaA.dp s a)
  | _, _, .tup h a => .tup (SqT.of (s _ _ h)) (DaA.dp s a)
theorem DaA.dp (s : Same F H) : ∀ {vs : List V} {ds : List PyData}, DaA F vs ds → DpAll K H vs ds
  | _, _, .nil => .nil
  | _, _, .cons h a => .cons (Da.dp s h) (DaA.dp s a)
end
theorem DaA.length : ∀ {vs : List V} {ds : List PyData}, DaA F vs ds → vs.length = ds.length
  | _, _, .nil => rfl
  | _, _, .cons _ a => by rw [List.length_cons, List.length_cons, DaA.length a]
theorem DaA.get : ∀ {vs : List V} {ds : List PyData} {i : Nat} {v : V} {d : PyData}, DaA F vs ds → vs[i]? = some v → ds[i]? = some d → Da F v d
  | _, _, 0, _, _, .cons h _, e1, e2 => by
    simp only [List.length_cons, Nat.zero_lt_succ, List.getElem?_eq_getElem, List.getElem_cons_zero, Option.some.injEq] at e1 e2
    subst e1 e2
    exact h
  | _, _, i + 1, _, _, .cons _ a, e1, e2 => by
    simp only [List.getElem?_cons_succ] at e1 e2
    exact DaA.get a e1 e2
theorem DaA.ex {vs : List V} {ds : List PyData} (a : DaA F vs ds) {i : Nat} {d : PyData} (e : ds[i]? = some d) : ∃ v, vs[i]? = some v ∧ Da F v d := by
  have hi : i < ds.length := (List.getElem?_eq_some_iff.mp e).1
  have hv : i < vs.length := by rw [a.length]; exact hi
  exact ⟨vs[i], List.getElem?_eq_getElem hv, a.get (List.getElem?_eq_getElem hv) e⟩
theorem DaA.exV {vs : List V} {ds : List PyData} (a : DaA F vs ds) {i : Nat} {v : V} (e : vs[i]? = some v) : ∃ d, ds[i]? = some d ∧ Da F v d := by
  have hv : i < vs.length := (List.getElem?_eq_some_iff.mp e).1
  have hi : i < ds.length := by rw [← a.length]; exact hv
  exact ⟨ds[i], List.getElem?_eq_getElem hi, a.get e (List.getElem?_eq_getElem hi)⟩
theorem DaA.append : ∀ {vs ws : List V} {ds es : List PyData}, DaA F vs ds → DaA F ws es → DaA F (vs ++ ws) (ds ++ es)
  | _, _, _, _, .nil, b => b
  | _, _, _, _, .cons h a, b => .cons h (DaA.append a b)
theorem DaA.one {v : V} {d : PyData} (h : Da F v d) : DaA F [v] [d] := .cons h .nil
theorem DaA.snoc {vs : List V} {ds : List PyData} {v : V} {d : PyData} (a : DaA F vs ds) (h : Da F v d) : DaA F (vs ++ [v]) (ds ++ [d]) := a.append (.one h)
theorem DaA.take : ∀ {vs : List V} {ds : List PyData} (n : Nat), DaA F vs ds → DaA F (vs.take n) (ds.take n)
  | _, _, 0, _ => by rw [List.take_zero, List.take_zero]; exact .nil
  | _, _, _ + 1, .nil => .nil
  | _, _, n + 1, .cons h a => .cons h (DaA.take n a)
theorem DaA.drop : ∀ {vs : List V} {ds : List PyData} (n : Nat), DaA F vs ds → DaA F (vs.drop n) (ds.drop n)
  | _, _, 0, a => a
  | _, _, _ + 1, .nil => .nil
  | _, _, n + 1, .cons _ a => DaA.drop n a
theorem DaA.set : ∀ {vs : List V} {ds : List PyData} (i : Nat) {v : V} {d : PyData}, DaA F vs ds → Da F v d → DaA F (vs.set i v) (ds.set i d)
  | _, _, _, _, _, .nil, _ => .nil
  | _, _, 0, _, _, .cons _ a, h => .cons h a
  | _, _, i + 1, _, _, .cons g a, h => .cons g (DaA.set i a h)
theorem DaA.reverse : ∀ {vs : List V} {ds : List PyData}, DaA F vs ds → DaA F vs.reverse ds.reverse
  | _, _, .nil => .nil
  | _, _, .cons h a => by rw [List.reverse_cons, List.reverse_cons]; exact (DaA.reverse a).snoc h
theorem DaA.ints : ∀ {ns : List Int}, DaA F (ns.map V.int) (ns.map PyData.int)
  | [] => .nil
  | n :: r => .cons (.int n) (DaA.ints (ns := r))
theorem DaA.strs : ∀ {ns : List Str}, DaA F (ns.map V.str) (ns.map PyData.str)
  | [] => .nil
  | n :: r => .cons (.str n) (DaA.strs (ns := r))
theorem DaA.bls : ∀ {ns : List Bool}, DaA F (ns.map V.bl) (ns.map PyData.bool)
  | [] => .nil
  | n :: r => .cons (.bl n) (DaA.bls (ns := r))
theorem Da.of_int {v : V} {i : Int} (h : Da F v (.int i)) : v = .int i := by cases h; rfl
theorem Da.of_str {v : V} {i : Str} (h : Da F v (.str i)) : v = .str i := by cases h; rfl
theorem Da.of_bl {v : V} {i : Bool} (h : Da F v (.bool i)) : v = .bl i := by cases h; rfl
theorem Da.of_non {v : V} (h : Da F v .none) : v = .non := by cases h; rfl
theorem Da.of_lst {v : V} {ds : List PyData} (h : Da F v (.list ds)) : ∃ a xs, v = .ref a ∧ F a = some (.lst xs) ∧ DaA F xs ds := by
  cases h with
  | lst e a => exact ⟨_, _, rfl, e, a⟩
theorem Da.of_tup {v : V} {ds : List PyData} (h : Da F v (.tuple ds)) : ∃ a xs, v = .ref a ∧ F a = some (.tup xs) ∧ DaA F xs ds := by
  cases h with
  | tup e a => exact ⟨_, _, rfl, e, a⟩
theorem DaA.ints_inv : ∀ {vs : List V} {ns : List Int}, DaA F vs (ns.map PyData.int) → vs = ns.map V.int
  | [], [], .nil => rfl
  | _ :: _, n :: r, .cons h a => by
    rw [h.of_int, DaA.ints_inv (ns := r) a]
    rfl
theorem DaA.strs_inv : ∀ {vs : List V} {ns : List Str}, DaA F vs (ns.map PyData.str) → vs = ns.map V.str
  | [], [], .nil => rfl
  | _ :: _, n :: r, .cons h a => by
    rw [h.of_str, DaA.strs_inv (ns := r) a]
    rfl
theorem DaA.bls_inv : ∀ {vs : List V} {ns : List Bool}, DaA F vs (ns.map PyData.bool) → vs = ns.map V.bl
  | [], [], .nil => rfl
  | _ :: _, n :: r, .cons h a => by
    rw [h.of_bl, DaA.bls_inv (ns := r) a]
    rfl
end

/-! ### what a call may do: (F, H) and the region R that it was lent become (F', H') and R' -/
structure Go (F H R F' H' R' : Hp) : Prop where
  ff : Same F F'
  fh : Same F' H'
  rh : Same R' H'
  dj : Dj F' R'
  keep : ∀ a o, H a = some o → R a = Option.none → H' a = some o
  dom : ∀ a, H a ≠ Option.none → H' a ≠ Option.none
  newF : ∀ a, F' a ≠ Option.none → F a ≠ Option.none ∨ R a ≠ Option.none ∨ H a = Option.none
  newR : ∀ a, R' a ≠ Option.none → R a ≠ Option.none ∨ H a = Option.none

/-- where a body stands: entered at F0, H0 with the lent region B; now at F, H with the owned regions -/
structure Mem (F0 H0 B F H : Hp) (own : List Hp) : Prop where
  ff : Same F0 F
  fh : Same F H
  oh : ∀ R ∈ own, Same R H
  fo : ∀ R ∈ own, Dj F R
  oo : own.Pairwise Dj
  keep : ∀ a o, H0 a = some o → B a = Option.none → H a = some o
  dom : ∀ a, H0 a ≠ Option.none → H a ≠ Option.none
  newF : ∀ a, F a ≠ Option.none → F0 a ≠ Option.none ∨ B a ≠ Option.none ∨ H0 a = Option.none
  newO : ∀ R ∈ own, ∀ a, R a ≠ Option.none → B a ≠ Option.none ∨ H0 a = Option.none

section
variable {F0 H0 B F H R R' A C F' H' : Hp} {own : List Hp} {p : Addr} {o : HO}
theorem Mem.start (s : Same F H) (r : Same B H) (d : Dj F B) : Mem F H B F H [B] :=
  ⟨.refl F, s, fun R h => (by cases List.mem_singleton.mp h; exact r), fun R h => (by cases List.mem_singleton.mp h; exact d), List.pairwise_singleton _ _, fun _ _ e _ => e, fun _ e => e, fun _ e => .inl e, fun R h a e => (by cases List.mem_singleton.mp h; exact .inl e)⟩
theorem Mem.start0 (s : Same F H) : Mem F H emp F H [] :=
  ⟨.refl F, s, fun R h => (nomatch h), fun R h => (nomatch h), List.Pairwise.nil, fun _ _ e _ => e, fun _ e => e, fun _ e => .inl e, fun R h => (nomatch h)⟩
theorem Mem.perm {own' : List Hp} (m : Mem F0 H0 B F H own) (h : own.Perm own') : Mem F0 H0 B F H own' :=
  ⟨m.ff, m.fh, fun R q => m.oh R (h.mem_iff.mpr q), fun R q => m.fo R (h.mem_iff.mpr q), (h.pairwise_iff (fun {_ _} d => Dj.symm d)).mp m.oo, m.keep, m.dom, m.newF, fun R q => m.newO R (h.mem_iff.mpr q)⟩
theorem Mem.drop (m : Mem F0 H0 B F H (R :: own)) : Mem F0 H0 B F H own :=
  ⟨m.ff, m.fh, fun R q => m.oh R (List.mem_cons_of_mem _ q), fun R q => m.fo R (List.mem_cons_of_mem _ q), (List.pairwise_cons.mp m.oo).2, m.keep, m.dom, m.newF, fun R q => m.newO R (List.mem_cons_of_mem _ q)⟩
/-- a new object joins the frozen region -/
theorem Mem.allocF (m : Mem F0 H0 B F H own) (h : H p = Option.none) : Mem F0 H0 B (upd F p o) (upd H p o) own := by
  have fp := m.fh.free h
  have hop : ∀ R ∈ own, R p = Option.none := fun R q => (m.oh R q).free h
  have h0p : H0 p = Option.none := by
    cases q : H0 p with
    | none => rfl
    | some u => exact absurd h (m.dom p (ns q))
  refine ⟨m.ff.trans (same_upd fp), fun a u e => ?_, fun R q => (m.oh R q).trans (same_upd h), fun R q a e => ?_, m.oo, fun a u e b => same_upd h a u (m.keep a u e b), fun a e => ?_, fun a e => ?_, m.newO⟩
  · by_cases hp : a = p
    · subst hp
      rw [upd_same] at e ⊢
      exact e
    · rw [upd_ne hp] at e ⊢
      exact m.fh a u e
  · by_cases hp : a = p
    · rw [hp]; exact hop R q
    · rw [upd_ne hp] at e; exact m.fo R q a e
  · obtain ⟨u, q⟩ := sn (m.dom a e)
    exact ns (same_upd h a u q)
  · by_cases hp : a = p
    · exact .inr (.inr (by rw [hp]; exact h0p))
    · rw [upd_ne hp] at e; exact m.newF a e
/-- a new object of one's own -/
theorem Mem.alloc (m : Mem F0 H0 B F H own) (h : H p = Option.none) : Mem F0 H0 B F (upd H p o) (cell p o :: own) := by
  have fp := m.fh.free h
  have hop : ∀ R ∈ own, R p = Option.none := fun R q => (m.oh R q).free h
  have h0p : H0 p = Option.none := by
    cases q : H0 p with
    | none => rfl
    | some u => exact absurd h (m.dom p (ns q))
  refine ⟨m.ff, m.fh.trans (same_upd h), fun R q => ?_, fun R q => ?_, List.pairwise_cons.mpr ⟨fun R q a e => ?_, m.oo⟩, fun a u e b => same_upd h a u (m.keep a u e b), fun a e => ?_, m.newF, fun R q a e => ?_⟩
  · rcases List.mem_cons.mp q with rfl | q
    · intro a u e
      obtain ⟨rfl, rfl⟩ := cell_some e
      exact upd_same
    · exact (m.oh R q).trans (same_upd h)
  · rcases List.mem_cons.mp q with rfl | q
    · refine Dj.symm fun a e => ?_
      rw [cell_at e]; exact fp
    · exact m.fo R q
  · rw [cell_at e]; exact hop R q
  · obtain ⟨u, q⟩ := sn (m.dom a e)
    exact ns (same_upd h a u q)
  · rcases List.mem_cons.mp q with rfl | q
    · exact .inr (by rw [cell_at e]; exact h0p)
    · exact m.newO R q a e
/-- a call that was lent the first region -/
theorem Mem.go (m : Mem F0 H0 B F H (R :: own)) (g : Go F H R F' H' R') : Mem F0 H0 B F' H' (R' :: own) := by
  have rH : Same R H := m.oh R List.mem_cons_self
  have rs : ∀ S ∈ own, ∀ a, S a ≠ Option.none → R a = Option.none := fun S q a e => (Dj.symm ((List.pairwise_cons.mp m.oo).1 S q)) a e
  have sH : ∀ S ∈ own, Same S H' := fun S q a u e => g.keep a u (m.oh S (List.mem_cons_of_mem _ q) a u e) (rs S q a (ns e))
  refine ⟨m.ff.trans g.ff, g.fh, fun S q => ?_, fun S q => ?_, List.pairwise_cons.mpr ⟨fun S q a e => ?_, (List.pairwise_cons.mp m.oo).2⟩, fun a u e b => ?_, fun a e => g.dom a (m.dom a e), fun a e => ?_, fun S q a e => ?_⟩
  · rcases List.mem_cons.mp q with rfl | q
    · exact g.rh
    · exact sH S q
  · rcases List.mem_cons.mp q with rfl | q
    · exact g.dj
    · intro a e
      rcases g.newF a e with z | z | z
      · exact m.fo S (List.mem_cons_of_mem _ q) a z
      · exact (List.pairwise_cons.mp m.oo).1 S q a z
      · exact (m.oh S (List.mem_cons_of_mem _ q)).free z
  · rcases g.newR a e with z | z
    · exact (List.pairwise_cons.mp m.oo).1 S q a z
    · exact (m.oh S (List.mem_cons_of_mem _ q)).free z
  · refine g.keep a u (m.keep a u e b) ?_
    cases z : R a with
    | none => rfl
    | some w =>
      rcases m.newO R List.mem_cons_self a (ns z) with y | y
      · exact absurd b y
      · rw [y] at e; cases e
  · rcases g.newF a e with z | z | z
    · exact m.newF a z
    · exact .inr (m.newO R List.mem_cons_self a z)
    · refine .inr (.inr ?_)
      cases y : H0 a with
      | none => rfl
      | some w => exact absurd z (m.dom a (ns y))
  · rcases List.mem_cons.mp q with rfl | q
    · rcases g.newR a e with z | z
      · exact m.newO R List.mem_cons_self a z
      · refine .inr ?_
        cases y : H0 a with
        | none => rfl
        | some w => exact absurd z (m.dom a (ns y))
    · exact m.newO S (List.mem_cons_of_mem _ q) a e
theorem Mem.addE (m : Mem F0 H0 B F H own) : Mem F0 H0 B F H (emp :: own) :=
  ⟨m.ff, m.fh, fun R q => (by rcases List.mem_cons.mp q with rfl | q; exact emp_same; exact m.oh R q), fun R q => (by rcases List.mem_cons.mp q with rfl | q; exact emp_dj; exact m.fo R q),
    List.pairwise_cons.mpr ⟨fun R _ a e => absurd rfl e, m.oo⟩, m.keep, m.dom, m.newF, fun R q a e => (by rcases List.mem_cons.mp q with rfl | q; exact absurd rfl e; exact m.newO R q a e)⟩
/-- a call that was lent nothing -/
theorem Mem.go0 (m : Mem F0 H0 B F H own) (g : Go F H emp F' H' emp) : Mem F0 H0 B F' H' own := (m.addE.go g).drop
/-- a region is written at p -/
theorem Go.write (s : Same F H) (r : Same R H) (d : Dj F R) (h : R p ≠ Option.none) : Go F H R F (upd H p o) (upd R p o) := by
  have fp : F p = Option.none := Dj.symm d p h
  have at_ : ∀ {a : Addr}, upd R p o a ≠ Option.none → R a ≠ Option.none := fun {a} e => by
    by_cases hp : a = p
    · rw [hp]; exact h
    · rw [upd_ne hp] at e; exact e
  refine ⟨.refl F, fun a u e => ?_, fun a u e => ?_, fun a e => ?_, fun a u e b => ?_, fun a e => ?_, fun a e => .inl e, fun a e => .inl (at_ e)⟩
  · rw [upd_ne (ne_of_none e fp)]; exact s a u e
  · by_cases hp : a = p
    · subst hp; rw [upd_same] at e ⊢; exact e
    · rw [upd_ne hp] at e ⊢; exact r a u e
  · by_cases hp : a = p
    · rw [hp] at e; exact absurd fp e
    · rw [upd_ne hp]; exact d a e
  · rw [upd_ne (show a ≠ p from fun q => h (by rw [← q]; exact b))]; exact e
  · by_cases hp : a = p
    · rw [hp, upd_same]; intro q; cases q
    · rw [upd_ne hp]; exact e
theorem Mem.write (m : Mem F0 H0 B F H (R :: own)) (h : R p ≠ Option.none) : Mem F0 H0 B F (upd H p o) (upd R p o :: own) :=
  m.go (Go.write m.fh (m.oh R List.mem_cons_self) (m.fo R List.mem_cons_self) h)
theorem Mem.put {u : HO} (m : Mem F0 H0 B F H (cell p o :: own)) : Mem F0 H0 B F (upd H p u) (cell p u :: own) := by
  have q := m.write (p := p) (o := u) (by rw [cell_same]; intro z; cases z)
  rw [upd_cell] at q
  exact q
/-- a region is frozen -/
theorem Mem.freeze (m : Mem F0 H0 B F H (R :: own)) : Mem F0 H0 B (un F R) H own := by
  refine ⟨m.ff.trans un_l, fun a u e => ?_, fun S q => m.oh S (List.mem_cons_of_mem _ q), fun S q a e => ?_, (List.pairwise_cons.mp m.oo).2, m.keep, m.dom, fun a e => ?_, fun S q => m.newO S (List.mem_cons_of_mem _ q)⟩
  · rcases un_some e with z | ⟨_, z⟩
    · exact m.fh a u z
    · exact m.oh R List.mem_cons_self a u z
  · rcases un_ne e with z | z
    · exact m.fo S (List.mem_cons_of_mem _ q) a z
    · exact (List.pairwise_cons.mp m.oo).1 S q a z
  · rcases un_ne e with z | z
    · exact m.newF a z
    · exact .inr (m.newO R List.mem_cons_self a z)
/-- the end of a body: what it was lent stands first -/
theorem Mem.fin (m : Mem F0 H0 B F H (R :: own)) : Go F0 H0 B F H R :=
  ⟨m.ff, m.fh, m.oh R List.mem_cons_self, m.fo R List.mem_cons_self, m.keep, m.dom, m.newF, m.newO R List.mem_cons_self⟩
theorem Mem.fin0 (m : Mem F0 H0 emp F H own) : Go F0 H0 emp F H emp := m.addE.fin
theorem Mem.swap (m : Mem F0 H0 B F H (A :: C :: own)) : Mem F0 H0 B F H (C :: A :: own) := m.perm (.swap C A own)
theorem Mem.rot3 {S : Hp} (m : Mem F0 H0 B F H (A :: C :: S :: own)) : Mem F0 H0 B F H (S :: A :: C :: own) := (m.perm (.cons A (.swap S C own))).perm (.swap S A (C :: own))
theorem Mem.at0 (m : Mem F0 H0 B F H (cell p o :: own)) : H p = some o := m.oh _ List.mem_cons_self p o cell_same
theorem Mem.at1 (m : Mem F0 H0 B F H (A :: cell p o :: own)) : H p = some o := m.oh _ (List.mem_cons_of_mem _ List.mem_cons_self) p o cell_same
theorem Mem.at2 (m : Mem F0 H0 B F H (A :: C :: cell p o :: own)) : H p = some o := m.oh _ (List.mem_cons_of_mem _ (List.mem_cons_of_mem _ List.mem_cons_self)) p o cell_same
theorem Mem.at3 {S : Hp} (m : Mem F0 H0 B F H (A :: C :: S :: cell p o :: own)) : H p = some o := m.oh _ (List.mem_cons_of_mem _ (List.mem_cons_of_mem _ (List.mem_cons_of_mem _ List.mem_cons_self))) p o cell_same
/-- an owned cell of a pure body (nothing is lent) is frozen -/
theorem Mem.freeze0 (m : Mem F0 H0 emp F H (R :: own)) : Mem F0 H0 emp (un F R) H own := m.freeze
end
/-- a list of one's own becomes data -/
theorem Da.frozen {F : Hp} {p : Addr} {vs : List V} {ds : List PyData} (d : Dj F (cell p (.lst vs))) (a : DaA F vs ds) : Da (un F (cell p (.lst vs))) (.ref p) (.list ds) :=
  .lst (un_r d p _ cell_same) (a.mono un_l)
end DL

/-! DLs: the steps of a reading, each as a lemma. -/
namespace DL
open PySem PySem.Spec L2

section
variable {F0 H0 B F H R R' A C F' H' : Hp} {own : List Hp} {p : Addr} {o : HO}
theorem Mem.go1 (m : Mem F0 H0 B F H (A :: R :: own)) (g : Go F H R F' H' R') : Mem F0 H0 B F' H' (A :: R' :: own) := (m.swap.go g).swap
theorem Mem.go2 (m : Mem F0 H0 B F H (A :: C :: R :: own)) (g : Go F H R F' H' R') : Mem F0 H0 B F' H' (A :: C :: R' :: own) :=
  ((m.rot3.go g).perm (.swap A R' (C :: own))).perm (.cons A (.swap C R' own))
theorem Mem.go3 {S : Hp} (m : Mem F0 H0 B F H (A :: C :: S :: R :: own)) (g : Go F H R F' H' R') : Mem F0 H0 B F' H' (A :: C :: S :: R' :: own) := by
  have q : (A :: C :: S :: R :: own).Perm (R :: A :: C :: S :: own) := ((((List.Perm.swap R S own).cons C).trans (.swap R C (S :: own))).cons A).trans (.swap R A (C :: S :: own))
  have q' : (R' :: A :: C :: S :: own).Perm (A :: C :: S :: R' :: own) := (((((List.Perm.swap R' S own).cons C).trans (.swap R' C (S :: own))).cons A).trans (.swap R' A (C :: S :: own))).symm
  exact ((m.perm q).go g).perm q'
theorem Mem.put1 {u : HO} (m : Mem F0 H0 B F H (A :: cell p o :: own)) : Mem F0 H0 B F (upd H p u) (A :: cell p u :: own) := m.swap.put.swap
theorem Mem.put2 {u : HO} (m : Mem F0 H0 B F H (A :: C :: cell p o :: own)) : Mem F0 H0 B F (upd H p u) (A :: C :: cell p u :: own) := ((m.rot3.put).perm (.swap A _ (C :: own))).perm (.cons A (.swap C _ own))
theorem Mem.put3 {S : Hp} {u : HO} (m : Mem F0 H0 B F H (A :: C :: S :: cell p o :: own)) : Mem F0 H0 B F (upd H p u) (A :: C :: S :: cell p u :: own) := by
  have q : ∀ R : Hp, (A :: C :: S :: R :: own).Perm (R :: A :: C :: S :: own) := fun R => ((((List.Perm.swap R S own).cons C).trans (.swap R C (S :: own))).cons A).trans (.swap R A (C :: S :: own))
  exact ((m.perm (q _)).put).perm (q _).symm
theorem Mem.drop1 (m : Mem F0 H0 B F H (A :: R :: own)) : Mem F0 H0 B F H (A :: own) := m.swap.drop
theorem Mem.oh0 (m : Mem F0 H0 B F H (R :: own)) : Same R H := m.oh _ List.mem_cons_self
theorem Mem.oh1 (m : Mem F0 H0 B F H (A :: R :: own)) : Same R H := m.oh _ (List.mem_cons_of_mem _ List.mem_cons_self)
theorem Mem.oh2 (m : Mem F0 H0 B F H (A :: C :: R :: own)) : Same R H := m.oh _ (List.mem_cons_of_mem _ (List.mem_cons_of_mem _ List.mem_cons_self))
theorem Mem.fo0 (m : Mem F0 H0 B F H (R :: own)) : Dj F R := m.fo _ List.mem_cons_self
theorem Mem.fo1 (m : Mem F0 H0 B F H (A :: R :: own)) : Dj F R := m.fo _ (List.mem_cons_of_mem _ List.mem_cons_self)
theorem Mem.fo2 (m : Mem F0 H0 B F H (A :: C :: R :: own)) : Dj F R := m.fo _ (List.mem_cons_of_mem _ (List.mem_cons_of_mem _ List.mem_cons_self))
end
/-- a call that changed nothing that was there -/
theorem Go.same {F H H' : Hp} (s : Same F H) (h : Same H H') : Go F H emp F H' emp :=
  ⟨.refl F, s.trans h, emp_same, emp_dj, fun a o e _ => h a o e, fun a e => (let ⟨o, q⟩ := sn e; ns (h a o q)), fun _ e => .inl e, fun _ e => absurd rfl e⟩
theorem Mem.refl0 {F0 H0 B F H : Hp} {own : List Hp} (m : Mem F0 H0 B F H own) : Go F H emp F H emp := .same m.fh (.refl H)
theorem Go.same0 {F H F' H' : Hp} (g : Go F H emp F' H' emp) : Same H H' := fun a o e => g.keep a o e rfl

/-! ### expressions -/
section
variable {σ : L2.St} {H : Hp} {Q : VK} {v w : V} {ta tb tc : TE} {r : R2} {K : PySem.W.Frag}
theorem s_var {i : Nat} (h : σ[i]? = some (some v)) (q : Q v H) : tVar i σ H Q := ⟨v, h, q⟩
theorem s_c (q : Q v H) : tC v σ H Q := q
theorem s_op (q : ta σ H (fun x H1 => tb σ H1 fun y H2 => r x y H2 Q)) : tOp r ta tb σ H Q := q
theorem s_un {r : V → Hp → VK → Prop} (q : ta σ H (fun x H1 => r x H1 Q)) : tUn r ta σ H Q := q
theorem s_I0 {g : Int → Int → V} {i j : Int} (q : Q (g i j) H) : rI0 g (.int i) (.int j) H Q := ⟨i, j, rfl, rfl, q⟩
theorem s_I {c : Int → Int → Prop} {g : Int → Int → V} {i j : Int} (hc : c i j) (q : Q (g i j) H) : rI c g (.int i) (.int j) H Q := ⟨i, j, rfl, rfl, hc, q⟩
theorem s_U {g : Int → V} {i : Int} (q : Q (g i) H) : rU g (.int i) H Q := ⟨i, rfl, q⟩
theorem dec_int {i j : Int} : decide (V.int i = V.int j) = decide (i = j) := by
  by_cases h : i = j
  · rw [decide_eq_true h, decide_eq_true (congrArg V.int h)]
  · rw [decide_eq_false h, decide_eq_false (fun q => h (V.int.inj q))]
theorem dec_str {i j : Str} : decide (V.str i = V.str j) = decide (i = j) := by
  by_cases h : i = j
  · rw [decide_eq_true h, decide_eq_true (congrArg V.str h)]
  · rw [decide_eq_false h, decide_eq_false (fun q => h (V.str.inj q))]
theorem dec_bl {i j : Bool} : decide (V.bl i = V.bl j) = decide (i = j) := by
  by_cases h : i = j
  · rw [decide_eq_true h, decide_eq_true (congrArg V.bl h)]
  · rw [decide_eq_false h, decide_eq_false (fun q => h (V.bl.inj q))]
theorem s_eqI {i j : Int} (q : Q (.bl (decide (i = j))) H) : rEq (.int i) (.int j) H Q := ⟨rfl, by rw [dec_int]; exact q⟩
theorem s_eqS {i j : Str} (q : Q (.bl (decide (i = j))) H) : rEq (.str i) (.str j) H Q := ⟨rfl, by rw [dec_str]; exact q⟩
theorem s_eqB {i j : Bool} (q : Q (.bl (decide (i = j))) H) : rEq (.bl i) (.bl j) H Q := ⟨rfl, by rw [dec_bl]; exact q⟩
theorem s_neI {i j : Int} (q : Q (.bl (!decide (i = j))) H) : rNe (.int i) (.int j) H Q := ⟨rfl, by rw [dec_int]; exact q⟩
theorem s_neS {i j : Str} (q : Q (.bl (!decide (i = j))) H) : rNe (.str i) (.str j) H Q := ⟨rfl, by rw [dec_str]; exact q⟩
theorem s_neB {i j : Bool} (q : Q (.bl (!decide (i = j))) H) : rNe (.bl i) (.bl j) H Q := ⟨rfl, by rw [dec_bl]; exact q⟩
theorem s_isN (q : Q (.bl (decide (v = .non))) H) : rIsN v .non H Q := ⟨rfl, q⟩
theorem s_notN (q : Q (.bl (!decide (v = .non))) H) : rNotN v .non H Q := ⟨rfl, q⟩
/-! tests -/
variable {c : TT} {t u : TT} {QB : Bool → Hp → Prop}
def tqB (QB : Bool → Hp → Prop) : VK := fun x H => ∃ k, x = .bl k ∧ QB k H
theorem s_test (q : ta σ H (tqB QB)) : tTest ta σ H QB := q
theorem s_tB (q : ta σ H (tqB QB)) : tB ta σ H QB := q
theorem s_tq {k : Bool} (q : QB k H) : tqB QB (.bl k) H := ⟨k, rfl, q⟩
theorem s_not (q : t σ H (fun c H1 => QB (!c) H1)) : tNot t σ H QB := q
theorem s_and (q : t σ H (fun c H1 => if c = true then u σ H1 QB else QB false H1)) : tAnd t u σ H QB := q
theorem s_or (q : t σ H (fun c H1 => if c = true then QB true H1 else u σ H1 QB)) : tOr t u σ H QB := q
theorem s_ifE (q : t σ H (fun c H1 => if c = true then ta σ H1 Q else tb σ H1 Q)) : tIf t ta tb σ H Q := q
/-- a value that is an `and`, an `or` of truth values -/
theorem s_andV (q : ta σ H (tqB fun c H1 => if c = true then tb σ H1 Q else Q (.bl false) H1)) : tAndV ta tb σ H Q := q
theorem s_orV (q : ta σ H (tqB fun c H1 => if c = true then Q (.bl true) H1 else tb σ H1 Q)) : tOrV ta tb σ H Q := q
theorem s_notV (q : ta σ H (tqB fun c H1 => Q (.bl (!c)) H1)) : tNotV ta σ H Q := q
/-- a cut: what is known of the value behind an expression -/
theorem s_cut {te : TE} (P : V → Hp → Prop) (h : ∀ Q : VK, (∀ v H', P v H' → Q v H') → te σ H Q) (q : ∀ v H', P v H' → Q v H') : te σ H Q := h Q q
theorem s_cutT (P : Bool → Hp → Prop) (h : ∀ Q : Bool → Hp → Prop, (∀ b H', P b H' → Q b H') → c σ H Q) (q : ∀ b H', P b H' → QB b H') : c σ H QB := h QB q
/-! arguments -/
variable {tr : TA} {QA : List V → Hp → Prop}
theorem s_nil (q : QA [] H) : tNil σ H QA := q
theorem s_cons (q : ta σ H (fun x H1 => tr σ H1 fun xs H2 => QA (x :: xs) H2)) : tCons ta tr σ H QA := q
theorem s_CB {r : List V → Hp → VK → Prop} (q : tr σ H (fun vs H1 => r vs H1 Q)) : tCB r tr σ H Q := q
theorem s_call {sp : Sp} {E : XK} (q : tr σ H (fun vs H1 => sp vs H1 Q E)) : tCall sp [] E tr σ H Q := by
  have e : tCall sp [] E tr σ H Q = tr σ H (fun vs H1 => sp (vs ++ []) H1 Q E) := rfl
  simp only [List.append_nil] at e
  rw [e]
  exact q
end

/-! ### statements: the ends n, r, b, c -/
section
variable {σ : L2.St} {H : Hp} {n b c : L2.St → Hp → Prop} {r : VK} {t u : TS} {te : TE} {tc : TT}
theorem s_seq (q : t ⟨u ⟨n, r, b, c⟩, r, b, c⟩ σ H) : tSeq t u ⟨n, r, b, c⟩ σ H := q
theorem s_next (q : n σ H) : tNext ⟨n, r, b, c⟩ σ H := q
theorem s_brk (q : b σ H) : tBreak ⟨n, r, b, c⟩ σ H := q
theorem s_cont (q : c σ H) : tCont ⟨n, r, b, c⟩ σ H := q
theorem s_drop (q : te σ H fun _ H1 => n σ H1) : tDrop te ⟨n, r, b, c⟩ σ H := q
theorem s_ret (q : te σ H r) : tRet te ⟨n, r, b, c⟩ σ H := q
theorem s_retN (q : r .non H) : tRetN ⟨n, r, b, c⟩ σ H := q
theorem s_if (q : tc σ H fun k H1 => if k = true then t ⟨n, r, b, c⟩ σ H1 else u ⟨n, r, b, c⟩ σ H1) : tIfS tc t u ⟨n, r, b, c⟩ σ H := q
theorem s_asg {g : TG} (q : te σ H fun x H1 => g x σ H1 n) : tAsg te g ⟨n, r, b, c⟩ σ H := q
theorem s_name {i : Nat} {v : V} {N : L2.St → Hp → Prop} (q : N (σ.set i (some v)) H) : gName i v σ H N := q
theorem s_aug {i : Nat} {x : V} {ti : TIp} (h : σ[i]? = some (some x)) (q : te σ H fun y H1 => ti x y H1 fun z H2 => n (σ.set i (some z)) H2) : tAug i te ti ⟨n, r, b, c⟩ σ H := ⟨x, h, q⟩
theorem s_ipI {f : Int → Int → Int} {i j : Int} {Q : VK} (q : Q (.int (f i j)) H) : ipI f (.int i) (.int j) H Q := ⟨i, j, rfl, rfl, q⟩
/-- the ways through a statement are joined -/
theorem s_join (P : L2.St → Hp → Prop) (h : ∀ N : L2.St → Hp → Prop, (∀ σ' H', P σ' H' → N σ' H') → t ⟨N, r, b, c⟩ σ H) (q : ∀ σ' H', P σ' H' → n σ' H') : t ⟨n, r, b, c⟩ σ H := h n q
end

/-! ### objects -/
section
variable {σ : L2.St} {F0 H0 B F H : Hp} {own : List Hp} {Q : VK} {K : PySem.W.Frag} {tr : TA} {v : V}
/-- a new object -/
def AlO (H : Hp) (o : HO) (Q : VK) : Prop := ∀ p, H p = Option.none → Q (.ref p) (upd H p o)
theorem s_tup (q : tr σ H fun xs H1 => xs.length ≤ sizeLine ∧ AlO H1 (.tup xs) Q) : tTup tr σ H Q := q
theorem s_lst (q : tr σ H fun xs H1 => xs.length ≤ sizeLine ∧ AlO H1 (.lst xs) Q) : tLst tr σ H Q := q
theorem m_tup {vs : List V} {ds : List PyData} (m : Mem F0 H0 B F H own) (a : DaA F vs ds) (hz : vs.length ≤ sizeLine) (q : ∀ p F' H', Mem F0 H0 B F' H' own → Same F F' → Da F' (.ref p) (.tuple ds) → Q (.ref p) H') :
    vs.length ≤ sizeLine ∧ AlO H (.tup vs) Q :=
  ⟨hz, fun p hp => q p _ _ (m.allocF hp) (same_upd (m.fh.free hp)) (.tup upd_same (a.mono (same_upd (m.fh.free hp))))⟩
/-- a new list: data at once, or one's own -/
theorem m_lstF {vs : List V} {ds : List PyData} (m : Mem F0 H0 B F H own) (a : DaA F vs ds) (q : ∀ p F' H', Mem F0 H0 B F' H' own → Same F F' → Da F' (.ref p) (.list ds) → Q (.ref p) H') :
    AlO H (.lst vs) Q :=
  fun p hp => q p _ _ (m.allocF hp) (same_upd (m.fh.free hp)) (.lst upd_same (a.mono (same_upd (m.fh.free hp))))
theorem m_lst {vs : List V} (m : Mem F0 H0 B F H own) (q : ∀ p H', Mem F0 H0 B F H' (cell p (.lst vs) :: own) → Q (.ref p) H') :
    AlO H (.lst vs) Q := fun p hp => q p _ (m.alloc hp)
theorem m_lz {n : Nat} {P : Prop} (h : n ≤ 1000) (q : P) : n ≤ sizeLine ∧ P := ⟨Nat.le_of_lt (small1000 h), q⟩
/-- an item of data -/
theorem at_da {xs : List V} {ds : List PyData} {i : Int} {d : PyData} (a : DaA F xs ds) (h : atI ds i = some d) : ∃ v, atI xs i = some v ∧ Da F v d := by
  unfold atI at h ⊢
  rw [a.length]
  cases e : ixN ds.length i with
  | none => rw [e] at h; cases h
  | some j =>
    rw [e] at h
    exact a.ex h
theorem m_ixT {x : V} {ds : List PyData} {i : Int} {d : PyData} (m : Mem F0 H0 B F H own) (h : Da F x (.tuple ds)) (hi : atI ds i = some d) (q : ∀ v, Da F v d → Q v H) : rIxT K x (.int i) H Q := by
  obtain ⟨a, xs, rfl, e, aa⟩ := h.of_tup
  obtain ⟨v, ev, dv⟩ := at_da aa hi
  exact ⟨a, xs, i, v, rfl, rfl, SqT.of (m.fh _ _ e), ev, q v dv⟩
theorem m_ixL {x : V} {ds : List PyData} {i : Int} {d : PyData} (m : Mem F0 H0 B F H own) (h : Da F x (.list ds)) (hi : atI ds i = some d) (q : ∀ v, Da F v d → Q v H) : rIxL K x (.int i) H Q := by
  obtain ⟨a, xs, rfl, e, aa⟩ := h.of_lst
  obtain ⟨v, ev, dv⟩ := at_da aa hi
  exact ⟨a, xs, i, v, rfl, rfl, SqL.of (m.fh _ _ e), ev, q v dv⟩
theorem s_ixL {a : Addr} {xs : List V} {i : Int} {v : V} (h : H a = some (.lst xs)) (hi : atI xs i = some v) (q : Q v H) : rIxL K (.ref a) (.int i) H Q := ⟨a, xs, i, v, rfl, rfl, SqL.of h, hi, q⟩
theorem s_ixQ {a : Addr} {xs : List V} {i : Int} {v : V} (h : SqL K H a xs) (hi : atI xs i = some v) (q : Q v H) : rIxL K (.ref a) (.int i) H Q := ⟨a, xs, i, v, rfl, rfl, h, hi, q⟩
theorem s_ixS {z : Str} {i : Int} {c : Nat} (hz : z.length ≤ sizeLine) (hi : atI z.cps.toList i = some c) (q : Q (.str ⟨#[c]⟩) H) : rIxS (.str z) (.int i) H Q := ⟨z, i, c, rfl, rfl, hz, hi, q⟩
/-- targets -/
theorem s_setL {a : Addr} {xs : List V} {k : Int} {j : Nat} {N : Hp → Prop} (h : H a = some (.lst xs)) (hj : ixN xs.length k = some j) (q : N (upd H a (.lst (xs.set j v)))) : rSetL (.ref a) (.int k) v H N := ⟨a, xs, k, j, rfl, rfl, h, hj, q⟩
theorem s_sub {to ti : TE} {t : TSet} {N : L2.St → Hp → Prop} (q : to σ H fun o H1 => ti σ H1 fun i H2 => t o i v H2 fun H3 => N σ H3) : gSub to ti t v σ H N := q
theorem s_tupG {a : Addr} {xs : List V} {n : Nat} {t : TGs} {N : L2.St → Hp → Prop} (h : SqT K H a xs) (hn : xs.length = n) (q : t xs σ H N) : gTup K n t (.ref a) σ H N := ⟨a, xs, rfl, h, hn, q⟩
theorem s_gCons {w : V} {t : TG} {u : TGs} {ws : List V} {N : L2.St → Hp → Prop} (q : t w σ H fun σ' H' => u ws σ' H' N) : gCons t u (w :: ws) σ H N := ⟨w, ws, rfl, q⟩
theorem s_gNil {N : L2.St → Hp → Prop} (q : N σ H) : gNil [] σ H N := ⟨rfl, q⟩
end

/-! ### lists: read by place within an augmented store -/
section
variable {X : Cx}
theorem get_list : PGet X (rIxL X.K) := by
  intro pins s σ H o i ov iv Q I ro ri h
  obtain ⟨p, xs, k, z, rfl, rfl, hq, he, q⟩ := h
  cases ro
  obtain ⟨t, rfl⟩ := ri
  obtain ⟨its, r, pl, hz⟩ := I.list hq
  obtain ⟨j, h1, h2, h3, h4, h5⟩ := atI_get he
  obtain ⟨w, ew, rw'⟩ := r.get h2
  have hl := r.length
  have hn := line63
  have fin : EP X pins σ Q w s := ⟨z, H, I, rw', q⟩
  by_cases h0 : 0 ≤ k
  · have hj : k.toNat = j := by
      rw [seqIndex_of h0 h5] at h1
      exact Option.some.inj h1
    exact wpAny_getItem_list pl.isList h0 (by omega) (by rw [hj]; simpa using ew) fin
  · have hj : (k + (its.toArray.size : Int)).toNat = j := by
      rw [seqIndex_neg (by omega) h4] at h1
      rw [List.size_toArray, ← hl]
      exact Option.some.inj h1
    exact wpAny_getItem_list_neg pl.isList (by omega) (by rw [List.size_toArray] <;> omega) (by omega) (by rw [hj]; simpa using ew) fin
end
end DL

/-! DLe: loops and comprehensions. -/
namespace DL
open PySem PySem.Spec L2

/-- what is wanted at a for's head -/
def ForW (J : It) (g : TG) (tb : TS) (n : L2.St → Hp → Prop) (r : VK) (σ : L2.St) (H1 : Hp) : Prop := ∃ W : Nat → Nat → L2.St → Hp → Prop, (∃ m, W 0 m σ H1) ∧ ∀ i m σ H, W i m σ H →
  (J.stop i H ∧ n σ H) ∨ (J.go i H ∧ ∃ N : L2.St → Hp → Prop, (∀ σ' H', N σ' H' → ∃ m', m' < m ∧ W (i + 1) m' σ' H') ∧ ∀ x H', J.yld i H x H' → g x σ H' fun σ2 H2 => tb ⟨N, r, n, N⟩ σ2 H2)
theorem s_for {wi : TI} {g : TG} {tb : TS} {n b c : L2.St → Hp → Prop} {r : VK} {σ : L2.St} {H : Hp} (q : wi σ H fun J H1 => ForW J g tb n r σ H1) : tFor wi g tb ⟨n, r, b, c⟩ σ H := q
theorem for_gen {J : It} {g : TG} {tb : TS} {n : L2.St → Hp → Prop} {r : VK} {σ : L2.St} {H : Hp} {k : Nat} (P : Nat → L2.St → Hp → Prop) (h0 : P 0 σ H) (hgo : ∀ i σ H, i < k → P i σ H → J.go i H) (hst : ∀ σ H, P k σ H → J.stop k H)
    (hs : ∀ i σ H, i < k → P i σ H → ∀ x H', J.yld i H x H' → g x σ H' fun σ2 H2 => tb ⟨P (i + 1), r, n, P (i + 1)⟩ σ2 H2) (hd : ∀ σ H, P k σ H → n σ H) : ForW J g tb n r σ H := by
  refine ⟨fun i m σ H => m = k - i ∧ i ≤ k ∧ P i σ H, ⟨k, by simp, Nat.zero_le _, h0⟩, ?_⟩
  rintro i m σ H ⟨rfl, hi, p⟩
  by_cases hlt : i < k
  · exact .inr ⟨hgo i σ H hlt p, P (i + 1), fun σ' H' p' => ⟨k - (i + 1), by omega, rfl, hlt, p'⟩, hs i σ H hlt p⟩
  · have e : i = k := by omega
    subst e
    exact .inl ⟨hst σ H p, hd σ H p⟩

/-- what is wanted at a comprehension's head -/
def LcW (J : It) (g : TG) (tt : TT) (te : TE) (vs : List Nat) (Q : VK) (σ : L2.St) (H1 : Hp) : Prop := ∀ D, H1 D = Option.none → ∃ W : Nat → Nat → Hp → Prop, (∃ m, W 0 m (upd H1 D (.lst []))) ∧ ∀ i m H, W i m H →
  (J.stop i H ∧ Q (.ref D) H) ∨ (J.go i H ∧ ∃ Nx : Hp → Prop, (∀ H', Nx H' → ∃ m', m' < m ∧ W (i + 1) m' H') ∧ ∀ x H', J.yld i H x H' → g x (wipe σ vs) H' fun σ2 H2 => wipe σ2 vs = wipe σ vs ∧ tt σ2 H2 fun b H3 =>
    if b = true then te σ2 H3 fun y H4 => ∃ acc, H4 D = some (.lst acc) ∧ acc.length < sizeLine ∧ Nx (upd H4 D (.lst (acc ++ [y]))) else Nx H3)
/-- an element has come: it goes to the list at D -/
def LcE (D : Addr) (N : Hp → Prop) : VK := fun y H4 => ∃ acc, H4 D = some (.lst acc) ∧ acc.length < sizeLine ∧ N (upd H4 D (.lst (acc ++ [y])))
theorem s_lc {wi : TI} {g : TG} {tt : TT} {te : TE} {vs : List Nat} {σ : L2.St} {H : Hp} {Q : VK} (q : wi σ H fun J H1 => LcW J g tt te vs Q σ H1) : tLc wi g tt te vs σ H Q := q
theorem lc_gen {J : It} {g : TG} {tt : TT} {te : TE} {vs : List Nat} {Q : VK} {σ : L2.St} {H : Hp} {k : Nat} (h : ∀ D, H D = Option.none → ∃ P : Nat → Hp → Prop, P 0 (upd H D (.lst [])) ∧ (∀ i H, i < k → P i H → J.go i H) ∧ (∀ H, P k H → J.stop k H) ∧
    (∀ i H, i < k → P i H → ∀ x H', J.yld i H x H' → g x (wipe σ vs) H' fun σ2 H2 => wipe σ2 vs = wipe σ vs ∧ tt σ2 H2 fun b H3 => if b = true then te σ2 H3 (LcE D (P (i + 1))) else P (i + 1) H3) ∧ (∀ H, P k H → Q (.ref D) H)) : LcW J g tt te vs Q σ H := by
  intro D hD
  obtain ⟨P, h0, hgo, hst, hs, hd⟩ := h D hD
  refine ⟨fun i m H => m = k - i ∧ i ≤ k ∧ P i H, ⟨k, by simp, Nat.zero_le _, h0⟩, ?_⟩
  rintro i m H ⟨rfl, hi, p⟩
  by_cases hlt : i < k
  · exact .inr ⟨hgo i H hlt p, P (i + 1), fun H' p' => ⟨k - (i + 1), by omega, rfl, hlt, p'⟩, hs i H hlt p⟩
  · have e : i = k := by omega
    subst e
    exact .inl ⟨hst H p, hd H p⟩
theorem s_yes {σ : L2.St} {H : Hp} {Q : Bool → Hp → Prop} (q : Q true H) : tYes σ H Q := q

/-! ### what stands behind a turn -/
def Nx (F0 H0 B F : Hp) (I : L2.St → Hp → List Hp → Prop) : L2.St → Hp → Prop := fun σ H => ∃ F' own, Same F F' ∧ Mem F0 H0 B F' H own ∧ I σ F' own
def NxC (F0 H0 B F : Hp) (D : Addr) (I : List V → Hp → List Hp → Prop) : Hp → Prop := fun H => ∃ F' own acc, Same F F' ∧ Mem F0 H0 B F' H (cell D (.lst acc) :: own) ∧ I acc F' own
section
variable {F0 H0 B F H F' H' : Hp} {own own' : List Hp} {D : Addr} {y : V} {acc : List V}
theorem Nx.mk {I : L2.St → Hp → List Hp → Prop} {σ : L2.St} (s : Same F F') (m : Mem F0 H0 B F' H own) (i : I σ F' own) : Nx F0 H0 B F I σ H := ⟨F', own, s, m, i⟩
theorem LcE.mk {I : List V → Hp → List Hp → Prop} (s : Same F F') (m : Mem F0 H0 B F' H (cell D (.lst acc) :: own)) (hz : acc.length < sizeLine) (i : I (acc ++ [y]) F' own) : LcE D (NxC F0 H0 B F D I) y H :=
  ⟨acc, m.at0, hz, F', own, acc ++ [y], s, m.put, i⟩
theorem NxC.mk {I : List V → Hp → List Hp → Prop} (s : Same F F') (m : Mem F0 H0 B F' H (cell D (.lst acc) :: own)) (i : I acc F' own) : NxC F0 H0 B F D I H := ⟨F', own, acc, s, m, i⟩
end

/-! ### sources -/
section
variable {F0 H0 B F H : Hp} {own : List Hp} {σ : L2.St} {K : PySem.W.Frag} {R : It → Hp → Prop} {ta : TA} {te : TE} {g : TG} {tb : TS} {n : L2.St → Hp → Prop} {r : VK} {Q : VK} {tt : TT} {vs : List Nat}
def lsQ (K : PySem.W.Frag) (R : It → Hp → Prop) : VK := fun x H1 => ∃ a, x = .ref a ∧ (∃ xs, SqL K H1 a xs) ∧ R (Itl K a) H1
def ltQ (K : PySem.W.Frag) (R : It → Hp → Prop) : VK := fun x H1 => ∃ a, x = .ref a ∧ (∃ xs, SqT K H1 a xs) ∧ R (Itt K a) H1
def r1Q (R : It → Hp → Prop) : List V → Hp → Prop := fun vs H1 => ∃ j : Int, vs = [.int j] ∧ -(2 ^ 62) ≤ j ∧ j < 2 ^ 62 ∧ R (Itr 0 j.toNat) H1
def r2Q (R : It → Hp → Prop) : List V → Hp → Prop := fun vs H1 => ∃ i j : Int, vs = [.int i, .int j] ∧ (-(2 ^ 62) ≤ i ∧ i < 2 ^ 62 ∧ -(2 ^ 62) ≤ j ∧ j < 2 ^ 62) ∧ R (Itr i (j - i).toNat) H1
def zpQ (K : PySem.W.Frag) (R : It → Hp → Prop) : List V → Hp → Prop := fun vs H1 => ∃ a b xs ys, vs = [.ref a, .ref b] ∧ SqL K H1 a xs ∧ SqL K H1 b ys ∧ R (Itz K a b) H1
def enQ (K : PySem.W.Frag) (R : It → Hp → Prop) : List V → Hp → Prop := fun vs H1 => ∃ a xs, vs = [.ref a] ∧ SqL K H1 a xs ∧ R (Ite K a) H1
def stQ (R : It → Hp → Prop) : VK := fun v H1 => ∃ x, v = .str x ∧ R (Its x) H1
theorem s_iList (q : te σ H (lsQ K R)) : iList K te σ H R := q
theorem s_iTup (q : te σ H (ltQ K R)) : iTup K te σ H R := q
theorem s_iRng1 (q : ta σ H (r1Q R)) : iRng1 ta σ H R := q
theorem s_iRng2 (q : ta σ H (r2Q R)) : iRng2 ta σ H R := q
theorem s_iZip (q : ta σ H (zpQ K R)) : iZip K ta σ H R := q
theorem s_iEnum (q : ta σ H (enQ K R)) : iEnum K ta σ H R := q
theorem s_iStr (q : te σ H (stQ R)) : iStr te σ H R := q
theorem s_r1 {j : Int} (h1 : -(2 ^ 62) ≤ j) (h2 : j < 2 ^ 62) (q : R (Itr 0 j.toNat) H) : r1Q R [.int j] H := ⟨j, rfl, h1, h2, q⟩
theorem s_r2 {i j : Int} (h1 : -(2 ^ 62) ≤ i) (h2 : i < 2 ^ 62) (h3 : -(2 ^ 62) ≤ j) (h4 : j < 2 ^ 62) (q : R (Itr i (j - i).toNat) H) : r2Q R [.int i, .int j] H := ⟨i, j, rfl, ⟨h1, h2, h3, h4⟩, q⟩
theorem s_st {z : Str} (q : R (Its z) H) : stQ R (.str z) H := ⟨z, rfl, q⟩

/-! a for over data, over a range, over a text -/
theorem m_forR {lo : Int} {k : Nat} (m : Mem F0 H0 B F H own) (I : Nat → L2.St → Hp → List Hp → Prop) (h0 : I 0 σ F own)
    (hs : ∀ (i : Nat) σ F' H' own', i < k → Same F F' → Mem F0 H0 B F' H' own' → I i σ F' own' → g (.int (lo + i)) σ H' fun σ2 H2 => tb ⟨Nx F0 H0 B F (I (i + 1)), r, n, Nx F0 H0 B F (I (i + 1))⟩ σ2 H2)
    (hd : ∀ σ F' H' own', Same F F' → Mem F0 H0 B F' H' own' → I k σ F' own' → n σ H') : ForW (Itr lo k) g tb n r σ H := by
  refine for_gen (k := k) (fun i => Nx F0 H0 B F (I i)) ⟨F, own, .refl F, m, h0⟩ (fun i σ H hi _ => hi) (fun σ H _ => Nat.le_refl _) (fun i σ H hi ⟨F', own', s, m', hI⟩ x H' y => ?_) fun σ H ⟨F', own', s, m', hI⟩ => hd σ F' H own' s m' hI
  obtain ⟨rfl, rfl⟩ := y
  exact hs i σ F' _ own' hi s m' hI
theorem m_forL {x : V} {ds : List PyData} (m : Mem F0 H0 B F H own) (h : Da F x (.list ds)) (I : Nat → L2.St → Hp → List Hp → Prop) (h0 : I 0 σ F own)
    (hs : ∀ (i : Nat) d v σ F' H' own', ds[i]? = some d → Same F F' → Mem F0 H0 B F' H' own' → Da F' v d → I i σ F' own' → g v σ H' fun σ2 H2 => tb ⟨Nx F0 H0 B F (I (i + 1)), r, n, Nx F0 H0 B F (I (i + 1))⟩ σ2 H2)
    (hd : ∀ σ F' H' own', Same F F' → Mem F0 H0 B F' H' own' → I ds.length σ F' own' → n σ H') : lsQ K (fun J H1 => ForW J g tb n r σ H1) x H := by
  obtain ⟨a, xs, rfl, e, aa⟩ := h.of_lst
  have at_ : ∀ {H : Hp} {i : Nat} {σ : L2.St}, Nx F0 H0 B F (I i) σ H → SqL K H a xs := fun {H i σ} ⟨F', own', s, m', hI⟩ => SqL.of (m'.fh _ _ (s _ _ e))
  have el := aa.length
  refine ⟨a, rfl, ⟨xs, SqL.of (m.fh _ _ e)⟩, for_gen (k := xs.length) (fun i => Nx F0 H0 B F (I i)) ⟨F, own, .refl F, m, h0⟩ (fun i σ H hi p => ⟨xs, xs[i], at_ p, by simp [hi]⟩) (fun σ H p => ⟨xs, at_ p, Nat.le_refl _⟩) (fun i σ H hi p x H' y => ?_) fun σ H ⟨F', own', s, m', hI⟩ => hd σ F' H own' s m' (el ▸ hI)⟩
  obtain ⟨rfl, y⟩ := y
  have ex := y xs (at_ p)
  obtain ⟨F', own', s, m', hI⟩ := p
  obtain ⟨d, ed, dd⟩ := aa.exV ex
  exact hs i d x σ F' _ own' ed s m' (dd.mono s) hI
theorem m_forT {x : V} {ds : List PyData} (m : Mem F0 H0 B F H own) (h : Da F x (.tuple ds)) (I : Nat → L2.St → Hp → List Hp → Prop) (h0 : I 0 σ F own)
    (hs : ∀ (i : Nat) d v σ F' H' own', ds[i]? = some d → Same F F' → Mem F0 H0 B F' H' own' → Da F' v d → I i σ F' own' → g v σ H' fun σ2 H2 => tb ⟨Nx F0 H0 B F (I (i + 1)), r, n, Nx F0 H0 B F (I (i + 1))⟩ σ2 H2)
    (hd : ∀ σ F' H' own', Same F F' → Mem F0 H0 B F' H' own' → I ds.length σ F' own' → n σ H') : ltQ K (fun J H1 => ForW J g tb n r σ H1) x H := by
  obtain ⟨a, xs, rfl, e, aa⟩ := h.of_tup
  have at_ : ∀ {H : Hp} {i : Nat} {σ : L2.St}, Nx F0 H0 B F (I i) σ H → SqT K H a xs := fun {H i σ} ⟨F', own', s, m', hI⟩ => SqT.of (m'.fh _ _ (s _ _ e))
  have el := aa.length
  refine ⟨a, rfl, ⟨xs, SqT.of (m.fh _ _ e)⟩, for_gen (k := xs.length) (fun i => Nx F0 H0 B F (I i)) ⟨F, own, .refl F, m, h0⟩ (fun i σ H hi p => ⟨xs, xs[i], at_ p, by simp [hi]⟩) (fun σ H p => ⟨xs, at_ p, Nat.le_refl _⟩) (fun i σ H hi p x H' y => ?_) fun σ H ⟨F', own', s, m', hI⟩ => hd σ F' H own' s m' (el ▸ hI)⟩
  obtain ⟨rfl, y⟩ := y
  have ex := y xs (at_ p)
  obtain ⟨F', own', s, m', hI⟩ := p
  obtain ⟨d, ed, dd⟩ := aa.exV ex
  exact hs i d x σ F' _ own' ed s m' (dd.mono s) hI
theorem m_forS {z : Str} (m : Mem F0 H0 B F H own) (I : Nat → L2.St → Hp → List Hp → Prop) (h0 : I 0 σ F own)
    (hs : ∀ (i : Nat) c σ F' H' own', z.cps[i]? = some c → Same F F' → Mem F0 H0 B F' H' own' → I i σ F' own' → g (.str ⟨#[c]⟩) σ H' fun σ2 H2 => tb ⟨Nx F0 H0 B F (I (i + 1)), r, n, Nx F0 H0 B F (I (i + 1))⟩ σ2 H2)
    (hd : ∀ σ F' H' own', Same F F' → Mem F0 H0 B F' H' own' → I z.cps.size σ F' own' → n σ H') : ForW (Its z) g tb n r σ H := by
  refine for_gen (k := z.cps.size) (fun i => Nx F0 H0 B F (I i)) ⟨F, own, .refl F, m, h0⟩ (fun i σ H hi _ => hi) (fun σ H _ => Nat.le_refl _) (fun i σ H hi ⟨F', own', s, m', hI⟩ x H' y => ?_) fun σ H ⟨F', own', s, m', hI⟩ => hd σ F' H own' s m' hI
  obtain ⟨rfl, c, ec, rfl⟩ := y
  exact hs i c σ F' _ own' ec s m' hI
/-- for a, b in zip(..) of two lists of data, as long -/
theorem m_forZ {x y : V} {ds es : List PyData} {t : TGs} (m : Mem F0 H0 B F H own) (h : Da F x (.list ds)) (h' : Da F y (.list es)) (hl : ds.length ≤ es.length) (I : Nat → L2.St → Hp → List Hp → Prop) (h0 : I 0 σ F own)
    (hs : ∀ (i : Nat) d e v w σ F' H' own', ds[i]? = some d → es[i]? = some e → Same F F' → Mem F0 H0 B F' H' own' → Da F' v d → Da F' w e → I i σ F' own' → t [v, w] σ H' fun σ2 H2 => tb ⟨Nx F0 H0 B F (I (i + 1)), r, n, Nx F0 H0 B F (I (i + 1))⟩ σ2 H2)
    (hI : ∀ i σ F1 F2 o, Same F1 F2 → I i σ F1 o → I i σ F2 o)
    (hd : ∀ σ F' H' own', Same F F' → Mem F0 H0 B F' H' own' → I ds.length σ F' own' → n σ H') : zpQ K (fun J H1 => ForW J (gTup K 2 t) tb n r σ H1) [x, y] H := by
  obtain ⟨a, xs, rfl, e, aa⟩ := h.of_lst
  obtain ⟨b, ys, rfl, e', bb⟩ := h'.of_lst
  have at_ : ∀ {H : Hp} {i : Nat} {σ : L2.St}, Nx F0 H0 B F (I i) σ H → SqL K H a xs ∧ SqL K H b ys := fun {H i σ} ⟨F', own', s, m', hI⟩ => ⟨SqL.of (m'.fh _ _ (s _ _ e)), SqL.of (m'.fh _ _ (s _ _ e'))⟩
  have el := aa.length
  have el' := bb.length
  refine ⟨a, b, xs, ys, rfl, SqL.of (m.fh _ _ e), SqL.of (m.fh _ _ e'), for_gen (k := xs.length) (fun i => Nx F0 H0 B F (I i)) ⟨F, own, .refl F, m, h0⟩
    (fun i σ H hi p => ⟨xs, ys, xs[i], ys[i]'(by omega), (at_ p).1, (at_ p).2, by simp [hi], by rw [List.getElem?_eq_getElem]⟩) (fun σ H p => ⟨xs, ys, (at_ p).1, (at_ p).2, .inl (Nat.le_refl _)⟩) (fun i σ H hi p x H' y => ?_) fun σ H ⟨F', own', s, m', hI⟩ => hd σ F' H own' s m' (el ▸ hI)⟩
  obtain ⟨T, v, w, rfl, nT, rfl, y1, y2⟩ := y
  have ex := y1 xs (at_ p).1
  have ey := y2 ys (at_ p).2
  obtain ⟨F', own', s, m', hI'⟩ := p
  obtain ⟨d, ed, dd⟩ := aa.exV ex
  obtain ⟨d', ed', dd'⟩ := bb.exV ey
  have s2 : Same F' (upd F' T (.tup [v, w])) := same_upd (m'.fh.free nT)
  refine ⟨T, [v, w], rfl, SqT.of upd_same, rfl, hs i d d' v w σ _ _ own' ed ed' (s.trans s2) (m'.allocF nT) ((dd.mono s).mono s2) ((dd'.mono s).mono s2) (hI _ _ _ _ _ s2 hI')⟩
/-- for i, x in enumerate(..) of a list of data -/
theorem m_forE {x : V} {ds : List PyData} {t : TGs} (m : Mem F0 H0 B F H own) (h : Da F x (.list ds)) (I : Nat → L2.St → Hp → List Hp → Prop) (h0 : I 0 σ F own)
    (hs : ∀ (i : Nat) d v σ F' H' own', ds[i]? = some d → Same F F' → Mem F0 H0 B F' H' own' → Da F' v d → I i σ F' own' → t [.int i, v] σ H' fun σ2 H2 => tb ⟨Nx F0 H0 B F (I (i + 1)), r, n, Nx F0 H0 B F (I (i + 1))⟩ σ2 H2)
    (hI : ∀ i σ F1 F2 o, Same F1 F2 → I i σ F1 o → I i σ F2 o)
    (hd : ∀ σ F' H' own', Same F F' → Mem F0 H0 B F' H' own' → I ds.length σ F' own' → n σ H') : enQ K (fun J H1 => ForW J (gTup K 2 t) tb n r σ H1) [x] H := by
  obtain ⟨a, xs, rfl, e, aa⟩ := h.of_lst
  have at_ : ∀ {H : Hp} {i : Nat} {σ : L2.St}, Nx F0 H0 B F (I i) σ H → SqL K H a xs := fun {H i σ} ⟨F', own', s, m', hI⟩ => SqL.of (m'.fh _ _ (s _ _ e))
  have el := aa.length
  refine ⟨a, xs, rfl, SqL.of (m.fh _ _ e), for_gen (k := xs.length) (fun i => Nx F0 H0 B F (I i)) ⟨F, own, .refl F, m, h0⟩
    (fun i σ H hi p => ⟨xs, xs[i], at_ p, by simp [hi]⟩) (fun σ H p => ⟨xs, at_ p, Nat.le_refl _⟩) (fun i σ H hi p x H' y => ?_) fun σ H ⟨F', own', s, m', hI⟩ => hd σ F' H own' s m' (el ▸ hI)⟩
  obtain ⟨T, v, rfl, nT, rfl, y1⟩ := y
  have ex := y1 xs (at_ p)
  obtain ⟨F', own', s, m', hI'⟩ := p
  obtain ⟨d, ed, dd⟩ := aa.exV ex
  have s2 : Same F' (upd F' T (.tup [.int (i : Nat), v])) := same_upd (m'.fh.free nT)
  refine ⟨T, [.int (i : Nat), v], rfl, SqT.of upd_same, rfl, hs i d v σ _ _ own' ed (s.trans s2) (m'.allocF nT) ((dd.mono s).mono s2) (hI _ _ _ _ _ s2 hI')⟩

/-! comprehensions over data, over a range, over a text -/
theorem m_lcR {lo : Int} {k : Nat} (m : Mem F0 H0 B F H own) (I : Nat → List V → Hp → List Hp → Prop) (h0 : I 0 [] F own)
    (hs : ∀ (i : Nat) acc D F' H' own', i < k → Same F F' → Mem F0 H0 B F' H' (cell D (.lst acc) :: own') → I i acc F' own' → g (.int (lo + i)) (wipe σ vs) H' fun σ2 H2 => wipe σ2 vs = wipe σ vs ∧ tt σ2 H2 fun b H3 =>
      if b = true then te σ2 H3 (LcE D (NxC F0 H0 B F D (I (i + 1)))) else NxC F0 H0 B F D (I (i + 1)) H3)
    (hd : ∀ D acc F' H' own', Same F F' → Mem F0 H0 B F' H' (cell D (.lst acc) :: own') → I k acc F' own' → Q (.ref D) H') : LcW (Itr lo k) g tt te vs Q σ H := by
  refine lc_gen (k := k) fun D hD => ⟨fun i => NxC F0 H0 B F D (I i), ⟨F, own, [], .refl F, m.alloc hD, h0⟩, fun i H hi _ => hi, fun H _ => Nat.le_refl _, fun i H hi ⟨F', own', acc, s, m', hI⟩ x H' y => ?_, fun H ⟨F', own', acc, s, m', hI⟩ => hd D acc F' H own' s m' hI⟩
  obtain ⟨rfl, rfl⟩ := y
  exact hs i acc D F' _ own' hi s m' hI
theorem m_lcL {x : V} {ds : List PyData} (m : Mem F0 H0 B F H own) (h : Da F x (.list ds)) (I : Nat → List V → Hp → List Hp → Prop) (h0 : I 0 [] F own)
    (hs : ∀ (i : Nat) d v acc D F' H' own', ds[i]? = some d → Same F F' → Mem F0 H0 B F' H' (cell D (.lst acc) :: own') → Da F' v d → I i acc F' own' → g v (wipe σ vs) H' fun σ2 H2 => wipe σ2 vs = wipe σ vs ∧ tt σ2 H2 fun b H3 =>
      if b = true then te σ2 H3 (LcE D (NxC F0 H0 B F D (I (i + 1)))) else NxC F0 H0 B F D (I (i + 1)) H3)
    (hd : ∀ D acc F' H' own', Same F F' → Mem F0 H0 B F' H' (cell D (.lst acc) :: own') → I ds.length acc F' own' → Q (.ref D) H') : lsQ K (fun J H1 => LcW J g tt te vs Q σ H1) x H := by
  obtain ⟨a, xs, rfl, e, aa⟩ := h.of_lst
  have el := aa.length
  refine ⟨a, rfl, ⟨xs, SqL.of (m.fh _ _ e)⟩, lc_gen (k := xs.length) fun D hD => ?_⟩
  have at_ : ∀ {H : Hp} {i : Nat}, NxC F0 H0 B F D (I i) H → SqL K H a xs := fun {H i} ⟨F', own', acc, s, m', hI⟩ => SqL.of (m'.fh _ _ (s _ _ e))
  refine ⟨fun i => NxC F0 H0 B F D (I i), ⟨F, own, [], .refl F, m.alloc hD, h0⟩, fun i H hi p => ⟨xs, xs[i], at_ p, by simp [hi]⟩, fun H p => ⟨xs, at_ p, Nat.le_refl _⟩, fun i H hi p x H' y => ?_, fun H ⟨F', own', acc, s, m', hI⟩ => hd D acc F' H own' s m' (el ▸ hI)⟩
  obtain ⟨rfl, y⟩ := y
  have ex := y xs (at_ p)
  obtain ⟨F', own', acc, s, m', hI⟩ := p
  obtain ⟨d, ed, dd⟩ := aa.exV ex
  exact hs i d x acc D F' _ own' ed s m' (dd.mono s) hI
theorem m_lcT {x : V} {ds : List PyData} (m : Mem F0 H0 B F H own) (h : Da F x (.tuple ds)) (I : Nat → List V → Hp → List Hp → Prop) (h0 : I 0 [] F own)
    (hs : ∀ (i : Nat) d v acc D F' H' own', ds[i]? = some d → Same F F' → Mem F0 H0 B F' H' (cell D (.lst acc) :: own') → Da F' v d → I i acc F' own' → g v (wipe σ vs) H' fun σ2 H2 => wipe σ2 vs = wipe σ vs ∧ tt σ2 H2 fun b H3 =>
      if b = true then te σ2 H3 (LcE D (NxC F0 H0 B F D (I (i + 1)))) else NxC F0 H0 B F D (I (i + 1)) H3)
    (hd : ∀ D acc F' H' own', Same F F' → Mem F0 H0 B F' H' (cell D (.lst acc) :: own') → I ds.length acc F' own' → Q (.ref D) H') : ltQ K (fun J H1 => LcW J g tt te vs Q σ H1) x H := by
  obtain ⟨a, xs, rfl, e, aa⟩ := h.of_tup
  have el := aa.length
  refine ⟨a, rfl, ⟨xs, SqT.of (m.fh _ _ e)⟩, lc_gen (k := xs.length) fun D hD => ?_⟩
  have at_ : ∀ {H : Hp} {i : Nat}, NxC F0 H0 B F D (I i) H → SqT K H a xs := fun {H i} ⟨F', own', acc, s, m', hI⟩ => SqT.of (m'.fh _ _ (s _ _ e))
  refine ⟨fun i => NxC F0 H0 B F D (I i), ⟨F, own, [], .refl F, m.alloc hD, h0⟩, fun i H hi p => ⟨xs, xs[i], at_ p, by simp [hi]⟩, fun H p => ⟨xs, at_ p, Nat.le_refl _⟩, fun i H hi p x H' y => ?_, fun H ⟨F', own', acc, s, m', hI⟩ => hd D acc F' H own' s m' (el ▸ hI)⟩
  obtain ⟨rfl, y⟩ := y
  have ex := y xs (at_ p)
  obtain ⟨F', own', acc, s, m', hI⟩ := p
  obtain ⟨d, ed, dd⟩ := aa.exV ex
  exact hs i d x acc D F' _ own' ed s m' (dd.mono s) hI
theorem m_lcS {z : Str} (m : Mem F0 H0 B F H own) (I : Nat → List V → Hp → List Hp → Prop) (h0 : I 0 [] F own)
    (hs : ∀ (i : Nat) c acc D F' H' own', z.cps[i]? = some c → Same F F' → Mem F0 H0 B F' H' (cell D (.lst acc) :: own') → I i acc F' own' → g (.str ⟨#[c]⟩) (wipe σ vs) H' fun σ2 H2 => wipe σ2 vs = wipe σ vs ∧ tt σ2 H2 fun b H3 =>
      if b = true then te σ2 H3 (LcE D (NxC F0 H0 B F D (I (i + 1)))) else NxC F0 H0 B F D (I (i + 1)) H3)
    (hd : ∀ D acc F' H' own', Same F F' → Mem F0 H0 B F' H' (cell D (.lst acc) :: own') → I z.cps.size acc F' own' → Q (.ref D) H') : LcW (Its z) g tt te vs Q σ H := by
  refine lc_gen (k := z.cps.size) fun D hD => ⟨fun i => NxC F0 H0 B F D (I i), ⟨F, own, [], .refl F, m.alloc hD, h0⟩, fun i H hi _ => hi, fun H _ => Nat.le_refl _, fun i H hi ⟨F', own', acc, s, m', hI⟩ x H' y => ?_, fun H ⟨F', own', acc, s, m', hI⟩ => hd D acc F' H own' s m' hI⟩
  obtain ⟨rfl, c, ec, rfl⟩ := y
  exact hs i c acc D F' _ own' ec s m' hI
theorem m_lcZ {x y : V} {ds es : List PyData} {t : TGs} (m : Mem F0 H0 B F H own) (h : Da F x (.list ds)) (h' : Da F y (.list es)) (hl : ds.length ≤ es.length) (I : Nat → List V → Hp → List Hp → Prop) (h0 : I 0 [] F own)
    (hs : ∀ (i : Nat) d e v w acc D F' H' own', ds[i]? = some d → es[i]? = some e → Same F F' → Mem F0 H0 B F' H' (cell D (.lst acc) :: own') → Da F' v d → Da F' w e → I i acc F' own' → t [v, w] (wipe σ vs) H' fun σ2 H2 => wipe σ2 vs = wipe σ vs ∧ tt σ2 H2 fun b H3 =>
      if b = true then te σ2 H3 (LcE D (NxC F0 H0 B F D (I (i + 1)))) else NxC F0 H0 B F D (I (i + 1)) H3)
    (hI : ∀ i a F1 F2 o, Same F1 F2 → I i a F1 o → I i a F2 o)
    (hd : ∀ D acc F' H' own', Same F F' → Mem F0 H0 B F' H' (cell D (.lst acc) :: own') → I ds.length acc F' own' → Q (.ref D) H') : zpQ K (fun J H1 => LcW J (gTup K 2 t) tt te vs Q σ H1) [x, y] H := by
  obtain ⟨a, xs, rfl, e, aa⟩ := h.of_lst
  obtain ⟨b, ys, rfl, e', bb⟩ := h'.of_lst
  have el := aa.length
  have el' := bb.length
  refine ⟨a, b, xs, ys, rfl, SqL.of (m.fh _ _ e), SqL.of (m.fh _ _ e'), lc_gen (k := xs.length) fun D hD => ?_⟩
  have at_ : ∀ {H : Hp} {i : Nat}, NxC F0 H0 B F D (I i) H → SqL K H a xs ∧ SqL K H b ys := fun {H i} ⟨F', own', acc, s, m', hI⟩ => ⟨SqL.of (m'.fh _ _ (s _ _ e)), SqL.of (m'.fh _ _ (s _ _ e'))⟩
  refine ⟨fun i => NxC F0 H0 B F D (I i), ⟨F, own, [], .refl F, m.alloc hD, h0⟩, fun i H hi p => ⟨xs, ys, xs[i], ys[i]'(by omega), (at_ p).1, (at_ p).2, by simp [hi], by rw [List.getElem?_eq_getElem]⟩, fun H p => ⟨xs, ys, (at_ p).1, (at_ p).2, .inl (Nat.le_refl _)⟩, fun i H hi p x H' y => ?_, fun H ⟨F', own', acc, s, m', hI⟩ => hd D acc F' H own' s m' (el ▸ hI)⟩
  obtain ⟨T, v, w, rfl, nT, rfl, y1, y2⟩ := y
  have ex := y1 xs (at_ p).1
  have ey := y2 ys (at_ p).2
  obtain ⟨F', own', acc, s, m', hI'⟩ := p
  obtain ⟨d, ed, dd⟩ := aa.exV ex
  obtain ⟨d', ed', dd'⟩ := bb.exV ey
  have s2 : Same F' (upd F' T (.tup [v, w])) := same_upd (m'.fh.free nT)
  exact ⟨T, [v, w], rfl, SqT.of upd_same, rfl, hs i d d' v w acc D _ _ own' ed ed' (s.trans s2) (m'.allocF nT) ((dd.mono s).mono s2) ((dd'.mono s).mono s2) (hI _ _ _ _ _ s2 hI')⟩
end
/-- a while: the invariant, what falls -/
theorem m_while {F0 H0 B F H : Hp} {own : List Hp} {σ : L2.St} {tc : TT} {tb : TS} {n b c : L2.St → Hp → Prop} {r : VK} (m : Mem F0 H0 B F H own) (I : Nat → L2.St → Hp → List Hp → Prop) (k : Nat) (h0 : I k σ F own)
    (hs : ∀ (k : Nat) σ F' H' own', Same F F' → Mem F0 H0 B F' H' own' → I k σ F' own' → tc σ H' fun b H1 => if b = true then tb ⟨fun σ H => ∃ j, j < k ∧ Nx F0 H0 B F (I j) σ H, r, n, fun σ H => ∃ j, j < k ∧ Nx F0 H0 B F (I j) σ H⟩ σ H1 else n σ H1)
    (mono : ∀ σ H Q Q', (∀ b H1, Q b H1 → Q' b H1) → tc σ H Q → tc σ H Q') : tWhile tc tb ⟨n, r, b, c⟩ σ H := by
  refine ⟨fun k σ H => Nx F0 H0 B F (I k) σ H, ⟨k, F, own, .refl F, m, h0⟩, ?_⟩
  rintro k σ H ⟨F', own', s, m', hI⟩
  refine mono σ H _ _ (fun b H1 q => ?_) (hs k σ F' H own' s m' hI)
  cases b with
  | true => exact ⟨_, fun σ' H' ⟨j, hj, p⟩ => ⟨j, hj, p⟩, q⟩
  | false => exact q
end DL

/-! DLf: defs by name; built-ins. -/
namespace DL
open PySem PySem.Spec PyProof.Rows L2

/-! ### a def of the text that keeps its promise, by its name -/
structure FnE (P : Program) (w : World) (K : PySem.W.Frag) (mg : Str → Option Value) (base : Heap) (CX : CXT) (x : Str) (k : Nat) (ps : List Str) (sp : Sp) : Prop where
  ex : ∃ (f : Addr) (fd : FuncData), mg x = some (.ref f) ∧ PySem.W.keepIn K (.ref f) = true ∧ Binds K fd ps [] ∧ FnOk P w K mg base CX k f fd ps sp
/-- where a def of the top stands -/
def DefAt (K : PySem.W.Frag) (mg : Str → Option Value) (x : Str) (st : Stmt) : Prop := ∃ (f : Addr) (fd : FuncData), mg x = some (.ref f) ∧ FunD K x x (defArgs st) (defBody st) (defScope st) [] [] f fd
abbrev Bnd (x : Str) (st : Stmt) (ps : List Str) : Prop := ∀ (kV doc pm : Value) (an : Option Addr) (cdv ct : Value) (us : List Value), us.length = ps.length → bindArgs (PySem.W.fnOf x x (defArgs st) (defBody st) (defScope st) .none kV doc pm an cdv ct) ⟨us, []⟩ = pure (ps.zip us)
theorem fnX {P : Program} {w : World} {K : PySem.W.Frag} {mg : Str → Option Value} {base : Heap} {CX : CXT} {x : Str} {st : Stmt} {N ps : List Str} {k : Nat} {sp : Sp} (D : DefAt K mg x st) (S : FnScope N ps (defScope st)) (hb : Bnd x st ps) (len : ∀ vs H Q E, sp vs H Q E → vs.length = ps.length)
    (hbody : ∀ (f : Addr) (cdv : Value) (A : Around) (outer : List Env) (s : Shared) (H : Hp) (vs : List V) (Q : VK) (E : XK), Room k (A.deeper (envOfC x (defScope st) s.heap.objs.size f cdv)) → sp vs H Q E →
      ∃ t, PSs (cxOf CX P w K mg base N x (defScope st) f cdv A outer s H E) (defBody st) t ∧ t ⟨fun _ H' => Q .non H', Q, fun _ _ => False, fun _ _ => False⟩ (start N vs) H) : FnE P w K mg base CX x (k + 1) ps sp := by
  obtain ⟨f, fd, hm, F⟩ := D
  exact ⟨f, fd, hm, F.kp, F.bindsN hb, F.ok S len fun cdv A outer s H vs Q E hr h => hbody f cdv A outer s H vs Q E hr h⟩
theorem fnE {P : Program} {w : World} {K : PySem.W.Frag} {mg : Str → Option Value} {base : Heap} {x : Str} {st : Stmt} {N ps : List Str} {k : Nat} {sp : Sp} (D : DefAt K mg x st) (S : FnScope N ps (defScope st)) (hb : Bnd x st ps) (len : ∀ vs H Q E, sp vs H Q E → vs.length = ps.length)
    (hbody : ∀ (f : Addr) (cdv : Value) (A : Around) (outer : List Env) (s : Shared) (H : Hp) (vs : List V) (Q : VK) (E : XK), Room k (A.deeper (envOfC x (defScope st) s.heap.objs.size f cdv)) → sp vs H Q E →
      ∃ t, PSs (cxOf CX0 P w K mg base N x (defScope st) f cdv A outer s H E).nox (defBody st) t ∧ t ⟨fun _ H' => Q .non H', Q, fun _ _ => False, fun _ _ => False⟩ (start N vs) H) : FnE P w K mg base CX0 x (k + 1) ps sp :=
  fnX D S hb len fun f cdv A outer s H vs Q E hr h => (let ⟨t, a, b⟩ := hbody f cdv A outer s H vs Q E hr h; ⟨t, a.nox, b⟩)
theorem fnO {P : Program} {w : World} {K : PySem.W.Frag} {mg : Str → Option Value} {base : Heap} {x : Str} {st : Stmt} {N ps : List Str} {k : Nat} {sp : Sp} {f : Addr} {fd : FuncData} (F : FunD K x x (defArgs st) (defBody st) (defScope st) [] [] f fd) (S : FnScope N ps (defScope st)) (len : ∀ vs H Q E, sp vs H Q E → vs.length = ps.length)
    (hbody : ∀ (f : Addr) (cdv : Value) (A : Around) (outer : List Env) (s : Shared) (H : Hp) (vs : List V) (Q : VK) (E : XK), Room k (A.deeper (envOfC x (defScope st) s.heap.objs.size f cdv)) → sp vs H Q E →
      ∃ t, PSs (cxOf CX0 P w K mg base N x (defScope st) f cdv A outer s H E).nox (defBody st) t ∧ t ⟨fun _ H' => Q .non H', Q, fun _ _ => False, fun _ _ => False⟩ (start N vs) H) : FnOk P w K mg base CX0 (k + 1) f fd ps sp :=
  F.ok S len fun cdv A outer s H vs Q E hr h => (let ⟨t, a, b⟩ := hbody f cdv A outer s H vs Q E hr h; ⟨t, a.nox, b⟩)
theorem FnE.mono {P : Program} {w : World} {K : PySem.W.Frag} {mg : Str → Option Value} {base : Heap} {CX : CXT} {x : Str} {ps : List Str} {j k : Nat} {sp : Sp} (G : FnE P w K mg base CX x j ps sp) (h : j ≤ k) : FnE P w K mg base CX x k ps sp := by
  obtain ⟨f, fd, a, b, c, F⟩ := G.ex
  exact ⟨f, fd, a, b, c, F.mono h⟩
theorem FnE.imp {P : Program} {w : World} {K : PySem.W.Frag} {mg : Str → Option Value} {base : Heap} {CX : CXT} {x : Str} {ps : List Str} {k : Nat} {sp sp' : Sp} (G : FnE P w K mg base CX x k ps sp) (h : ∀ vs H Q E, sp' vs H Q E → sp vs H Q E) : FnE P w K mg base CX x k ps sp' := by
  obtain ⟨f, fd, a, b, c, F⟩ := G.ex
  exact ⟨f, fd, a, b, c, F.imp h⟩
section
variable {X : Cx} {CX : CXT} {k : Nat} {ps : List Str} {sp : Sp} {E : XK} {x : Str} {p pos : Pos} {e : Expr} {es : List Expr} {t : TA}
theorem pe_fn (G : FnE X.prog X.w X.K X.mg X.base CX x k ps sp) (hr : Room k X.A) (hg : Gl X x) (hx : Passes CX X E)
    (ha : PA X (e :: es) t) (hdb : (x == ("__debug__" : Str)) = false := by decide) (he : starEach (e :: es) X.env = (false, eval e X.env) :: starEach es X.env := by rfl) (hpl : (backTo pos (starEach es X.env)).any (·.1) = false := by rfl) :
    PE X (.Call (.Name x p) (e :: es) [] pos) (tCall sp [] E t) := by
  obtain ⟨f, fd, hm, hk, hb, F⟩ := G.ex
  exact pe_call F hr hg hm hk hb .nil hx ha hdb he hpl
theorem pe_fn0 (G : FnE X.prog X.w X.K X.mg X.base CX x k ps sp) (hr : Room k X.A) (hg : Gl X x) (hx : Passes CX X E) (hdb : (x == ("__debug__" : Str)) = false := by decide) : PE X (.Call (.Name x p) [] [] pos) (tCall sp [] E tNil) := by
  obtain ⟨f, fd, hm, hk, hb, F⟩ := G.ex
  exact pe_call0 F hr hg hm hk hb .nil hx hdb
end

theorem pe_ty {X : Cx} {x : Str} {T : String} {pos : Pos} (hg : Gl X x) (hm : X.mg x = Option.none) (hv : bootBuiltins x = some (.type T)) (hn : x ≠ "__name__" := by decide) (hd : (x == ("__debug__" : Str)) = false := by decide) : PE X (.Name x pos) (tC (.ty T)) :=
  pe_bltn hg hm hv (v := .ty T) rfl hn hd
/-! ### built-ins -/
theorem bt_len : bootBuiltins "len" = some (.builtin "len") := by decide +kernel
theorem bt_int : bootBuiltins "int" = some (.type "int") := by decide +kernel
theorem bt_bool : bootBuiltins "bool" = some (.type "bool") := by decide +kernel
theorem bt_str : bootBuiltins "str" = some (.type "str") := by decide +kernel
theorem bt_list : bootBuiltins "list" = some (.type "list") := by decide +kernel
theorem bt_tuple : bootBuiltins "tuple" = some (.type "tuple") := by decide +kernel
theorem bt_min : bootBuiltins "min" = some (.builtin "min") := by decide +kernel
theorem bt_max : bootBuiltins "max" = some (.builtin "max") := by decide +kernel
theorem bt_ord : bootBuiltins "ord" = some (.builtin "ord") := by decide +kernel
theorem bt_isinstance : bootBuiltins "isinstance" = some (.builtin "isinstance") := by decide +kernel
theorem bt_sorted : bootBuiltins "sorted" = some (.builtin "sorted") := by decide +kernel
theorem bt_all : bootBuiltins "all" = some (.builtin "all") := by decide +kernel
def rInt : List V → Hp → VK → Prop := fun xs H Q => ∃ i, xs = [.int i] ∧ Q (.int i) H
def rIntB : List V → Hp → VK → Prop := fun xs H Q => ∃ k : Bool, xs = [.bl k] ∧ Q (.int (if k = true then 1 else 0)) H
def rLenSt : List V → Hp → VK → Prop := fun xs H Q => ∃ z : Str, xs = [.str z] ∧ z.length ≤ sizeLine ∧ Q (.int z.length) H
def rLenQ (K : PySem.W.Frag) : List V → Hp → VK → Prop := fun xs H Q => ∃ p ys, xs = [.ref p] ∧ (SqL K H p ys ∨ SqT K H p ys) ∧ Q (.int ys.length) H
def rListQ (K : PySem.W.Frag) : List V → Hp → VK → Prop := fun xs H Q => ∃ p ys, xs = [.ref p] ∧ (SqL K H p ys ∨ SqT K H p ys) ∧ ∀ l, H l = Option.none → Q (.ref l) (upd H l (.lst ys))
def rTupQ (K : PySem.W.Frag) : List V → Hp → VK → Prop := fun xs H Q => ∃ p ys, xs = [.ref p] ∧ ((SqL K H p ys ∧ ∀ l, H l = Option.none → Q (.ref l) (upd H l (.tup ys))) ∨ (SqT K H p ys ∧ Q (.ref p) H))
def rMin : List V → Hp → VK → Prop := fun xs H Q => ∃ i j, xs = [.int i, .int j] ∧ Q (.int (if j < i then j else i)) H
def rMaxx : List V → Hp → VK → Prop := fun xs H Q => ∃ i j, xs = [.int i, .int j] ∧ Q (.int (if j > i then j else i)) H
def rAddSt : R2 := fun x y H Q => ∃ i j : Str, x = .str i ∧ y = .str j ∧ i.length + j.length ≤ sizeLine ∧ Q (.str (i ++ j)) H
def rJoin (K : PySem.W.Frag) : V → List V → Hp → VK → Prop := fun x xs H Q => ∃ a p, ∃ ys : List Str, x = .str a ∧ xs = [.ref p] ∧ (SqL K H p (ys.map V.str) ∨ SqT K H p (ys.map V.str)) ∧ (ys.map (·.length)).sum + ys.length * a.length ≤ 16777216 ∧ Q (.str (Txt.join a ys)) H
section
variable {X : Cx}
theorem c_int : CallR X (.type "int") rInt := by
  intro pins s σ H xs us Q I r h
  obtain ⟨i, rfl, q⟩ := h
  exact call_int1 pins s σ H _ us Q I r (.inl ⟨i, rfl, q⟩)
theorem c_intB : CallR X (.type "int") rIntB := by
  intro pins s σ H xs us Q I r h
  obtain ⟨i, rfl, q⟩ := h
  exact call_int1 pins s σ H _ us Q I r (.inr ⟨i, rfl, q⟩)
theorem c_lenS : CallR X (.builtin "len") rLenSt := call_len_str
theorem c_lenQ : CallR X (.builtin "len") (rLenQ X.K) := call_len_seq
theorem c_list : CallR X (.type "list") (rListQ X.K) := call_list_of
theorem c_tuple : CallR X (.type "tuple") (rTupQ X.K) := call_tuple_of
theorem c_min2 (hc : X.calm = true) : CallR X (.builtin "min") rMin := call_min2 hc
theorem c_max2 (hc : X.calm = true) : CallR X (.builtin "max") rMaxx := call_max2 hc
theorem op_addS : OpR X (binaryOp .Add) rAddSt := op_add_str
theorem c_append : MtR X "list.append" rAppend := mt_append
theorem c_extend : MtR X "list.extend" rExtend := mt_extend
theorem c_join : MtR X "str.join" (rJoin X.K) := mt_join
end
section
variable {F0 H0 B F H : Hp} {own : List Hp} {σ : L2.St} {K : PySem.W.Frag} {Q : VK} {ta : TE} {t : TA} {v x y : V}
theorem s_BM {T : String} {r : V → List V → Hp → VK → Prop} (q : ta σ H fun x H1 => tyV K T x H1 ∧ t σ H1 fun xs H2 => r x xs H2 Q) : tBM K T r ta t σ H Q := q
theorem s_tyL {P : Prop} {a : Addr} {xs : List V} (h : H a = some (.lst xs)) (q : P) : tyV K "list" (.ref a) H ∧ P := ⟨.inl ⟨rfl, _, SqL.of h⟩, q⟩
theorem s_tyS {P : Prop} {z : Str} (q : P) : tyV K "str" (.str z) H ∧ P := ⟨rfl, q⟩
theorem s_int {i : Int} (q : Q (.int i) H) : rInt [.int i] H Q := ⟨i, rfl, q⟩
theorem s_intB {k : Bool} (q : Q (.int (if k = true then 1 else 0)) H) : rIntB [.bl k] H Q := ⟨k, rfl, q⟩
theorem s_lenS {z : Str} (hz : z.length ≤ sizeLine) (q : Q (.int z.length) H) : rLenSt [.str z] H Q := ⟨z, rfl, hz, q⟩
theorem s_lenL {a : Addr} {xs : List V} (h : H a = some (.lst xs)) (q : Q (.int xs.length) H) : rLenQ K [.ref a] H Q := ⟨a, xs, rfl, .inl (SqL.of h), q⟩
theorem m_lenL {ds : List PyData} (m : Mem F0 H0 B F H own) (h : Da F x (.list ds)) (q : Q (.int ds.length) H) : rLenQ K [x] H Q := by
  obtain ⟨a, xs, rfl, e, aa⟩ := h.of_lst
  exact ⟨a, xs, rfl, .inl (SqL.of (m.fh _ _ e)), by rw [aa.length]; exact q⟩
theorem m_lenT {ds : List PyData} (m : Mem F0 H0 B F H own) (h : Da F x (.tuple ds)) (q : Q (.int ds.length) H) : rLenQ K [x] H Q := by
  obtain ⟨a, xs, rfl, e, aa⟩ := h.of_tup
  exact ⟨a, xs, rfl, .inr (SqT.of (m.fh _ _ e)), by rw [aa.length]; exact q⟩
/-- list(..) of data: data again, or one's own list -/
theorem m_listF {ds : List PyData} (m : Mem F0 H0 B F H own) (h : Da F x (.list ds)) (q : ∀ p F' H', Mem F0 H0 B F' H' own → Same F F' → Da F' (.ref p) (.list ds) → Q (.ref p) H') : rListQ K [x] H Q := by
  obtain ⟨a, xs, rfl, e, aa⟩ := h.of_lst
  exact ⟨a, xs, rfl, .inl (SqL.of (m.fh _ _ e)), m_lstF m aa q⟩
theorem m_listT {ds : List PyData} (m : Mem F0 H0 B F H own) (h : Da F x (.tuple ds)) (q : ∀ p F' H', Mem F0 H0 B F' H' own → Same F F' → Da F' (.ref p) (.list ds) → Q (.ref p) H') : rListQ K [x] H Q := by
  obtain ⟨a, xs, rfl, e, aa⟩ := h.of_tup
  exact ⟨a, xs, rfl, .inr (SqT.of (m.fh _ _ e)), m_lstF m aa q⟩
theorem m_listO {ds : List PyData} (m : Mem F0 H0 B F H own) (h : Da F x (.list ds)) (q : ∀ p vs H', Mem F0 H0 B F H' (cell p (.lst vs) :: own) → DaA F vs ds → Q (.ref p) H') : rListQ K [x] H Q := by
  obtain ⟨a, xs, rfl, e, aa⟩ := h.of_lst
  exact ⟨a, xs, rfl, .inl (SqL.of (m.fh _ _ e)), m_lst m fun p H' m' => q p xs H' m' aa⟩
theorem m_listTO {ds : List PyData} (m : Mem F0 H0 B F H own) (h : Da F x (.tuple ds)) (q : ∀ p vs H', Mem F0 H0 B F H' (cell p (.lst vs) :: own) → DaA F vs ds → Q (.ref p) H') : rListQ K [x] H Q := by
  obtain ⟨a, xs, rfl, e, aa⟩ := h.of_tup
  exact ⟨a, xs, rfl, .inr (SqT.of (m.fh _ _ e)), m_lst m fun p H' m' => q p xs H' m' aa⟩
theorem s_listQ {a : Addr} {xs : List V} (h : SqL K H a xs) (q : AlO H (.lst xs) Q) : rListQ K [.ref a] H Q := ⟨a, xs, rfl, .inl h, q⟩
theorem m_tupL {ds : List PyData} (m : Mem F0 H0 B F H own) (h : Da F x (.list ds)) (q : ∀ p F' H', Mem F0 H0 B F' H' own → Same F F' → Da F' (.ref p) (.tuple ds) → Q (.ref p) H') : rTupQ K [x] H Q := by
  obtain ⟨a, xs, rfl, e, aa⟩ := h.of_lst
  exact ⟨a, xs, rfl, .inl ⟨SqL.of (m.fh _ _ e), fun p hp => q p _ _ (m.allocF hp) (same_upd (m.fh.free hp)) (.tup upd_same (aa.mono (same_upd (m.fh.free hp))))⟩⟩
theorem s_min {i j : Int} (q : Q (.int (if j < i then j else i)) H) : rMin [.int i, .int j] H Q := ⟨i, j, rfl, q⟩
theorem s_max {i j : Int} (q : Q (.int (if j > i then j else i)) H) : rMaxx [.int i, .int j] H Q := ⟨i, j, rfl, q⟩
theorem s_addS {i j : Str} (hz : i.length + j.length ≤ sizeLine) (q : Q (.str (i ++ j)) H) : rAddSt (.str i) (.str j) H Q := ⟨i, j, rfl, rfl, hz, q⟩
/-- xs.append(e), xs one's own: the first, the second .. -/
theorem s_append {a : Addr} {xs : List V} (h : H a = some (.lst xs)) (hz : xs.length < sizeLine) (q : Q .non (upd H a (.lst (xs ++ [y])))) : rAppend (.ref a) [y] H Q := ⟨a, xs, y, rfl, rfl, h, hz, q⟩
theorem m_extend {a : Addr} {xs : List V} {ds : List PyData} (m : Mem F0 H0 B F H own) (hx : H a = some (.lst xs)) (h : Da F y (.list ds)) (hz : xs.length + ds.length ≤ sizeLine) (q : ∀ zs, DaA F zs ds → Q .non (upd H a (.lst (xs ++ zs)))) : rExtend (.ref a) [y] H Q := by
  obtain ⟨b, zs, rfl, e, aa⟩ := h.of_lst
  exact ⟨a, b, xs, zs, rfl, rfl, hx, m.fh _ _ e, by rw [aa.length]; exact hz, q zs aa⟩
/-- + of two lists of data -/
theorem m_cat {ds es : List PyData} (m : Mem F0 H0 B F H own) (h : Da F x (.list ds)) (h' : Da F y (.list es)) (hz : ds.length + es.length ≤ sizeLine) (q : ∀ p F' H', Mem F0 H0 B F' H' own → Same F F' → Da F' (.ref p) (.list (ds ++ es)) → Q (.ref p) H') : rCat x y H Q := by
  obtain ⟨a, xs, rfl, e, aa⟩ := h.of_lst
  obtain ⟨b, ys, rfl, e', bb⟩ := h'.of_lst
  exact ⟨a, b, xs, ys, rfl, rfl, m.fh _ _ e, m.fh _ _ e', by rw [aa.length, bb.length]; exact hz, m_lstF m (aa.append bb) q⟩
theorem m_rep {ds : List PyData} {k : Int} (m : Mem F0 H0 B F H own) (h : Da F x (.list ds)) (h0 : -(2 ^ 63) ≤ k) (h1 : k < 2 ^ 63) (hz : ds.length * k.toNat ≤ sizeLine) (q : ∀ p F' H', Mem F0 H0 B F' H' own → Same F F' → Da F' (.ref p) (.list (List.replicate k.toNat ds).flatten) → Q (.ref p) H') : rRep x (.int k) H Q := by
  obtain ⟨a, xs, rfl, e, aa⟩ := h.of_lst
  refine ⟨a, k, xs, rfl, rfl, m.fh _ _ e, h0, h1, by rw [aa.length]; exact hz, ?_⟩
  have r : ∀ n : Nat, DaA F (List.replicate n xs).flatten (List.replicate n ds).flatten := by
    intro n
    induction n with
    | zero => exact .nil
    | succ n ih => rw [List.replicate_succ, List.replicate_succ, List.flatten_cons, List.flatten_cons]; exact aa.append ih
  exact m_lstF m (r k.toNat) q
/-- slices -/
def cutA {α : Type} (xs : List α) (lo hi : Option Int) : List α := (xs.drop (HT.sIx xs.length 0 lo)).take (HT.sIx xs.length xs.length hi - HT.sIx xs.length 0 lo)
theorem cutA_le {α : Type} (xs : List α) (lo hi : Option Int) : (cutA xs lo hi).length ≤ xs.length := by
  unfold cutA
  rw [List.length_take, List.length_drop]
  omega
theorem DaA.cut {vs : List V} {ds : List PyData} (a : DaA F vs ds) (lo hi : Option Int) : DaA F (cutV vs lo hi) (cutA ds lo hi) := by
  unfold cutV cutA
  rw [a.length]
  exact (a.drop _).take _
def slQ (r : V → Option Int → Option Int → Hp → VK → Prop) (x : V) (Q : VK) (l u : Option Int) (H : Hp) : Prop := r x l u H Q
theorem s_sl {r : V → Option Int → Option Int → Hp → VK → Prop} {te : TE} {tl th : TO} (q : te σ H fun x H1 => tl σ H1 fun l H2 => th σ H2 fun u H3 => r x l u H3 Q) : tSl r te tl th σ H Q := q
theorem s_noP {QO : Option Int → Hp → Prop} (q : QO Option.none H) : tNoPart σ H QO := q
def ptQ (QO : Option Int → Hp → Prop) : VK := fun x H => ∃ i, x = .int i ∧ QO (some i) H
theorem s_part {QO : Option Int → Hp → Prop} (q : ta σ H (ptQ QO)) : tPart ta σ H QO := q
theorem s_pt {QO : Option Int → Hp → Prop} {i : Int} (q : QO (some i) H) : ptQ QO (.int i) H := ⟨i, rfl, q⟩
theorem m_slL {ds : List PyData} {lo hi : Option Int} (m : Mem F0 H0 B F H own) (h : Da F x (.list ds)) (q : ∀ p F' H', Mem F0 H0 B F' H' own → Same F F' → Da F' (.ref p) (.list (cutA ds lo hi)) → Q (.ref p) H') : rSlL K x lo hi H Q := by
  obtain ⟨a, xs, rfl, e, aa⟩ := h.of_lst
  exact ⟨a, xs, rfl, SqL.of (m.fh _ _ e), m_lstF m (aa.cut lo hi) q⟩
theorem s_slS {z : Str} {lo hi : Option Int} (hz : z.length ≤ sizeLine) (q : Q (.str (cutS z lo hi)) H) : rSlS (.str z) lo hi H Q := ⟨z, rfl, hz, q⟩
/-- in a written tuple of texts, of ints -/
theorem m_inT {neg : Bool} {vs : List V} {p : Addr} (h : SqT K H p vs) (hx : flatV x = true) (hf : vs.all flatV = true) (q : Q (.bl (if neg = true then !inV x vs else inV x vs)) H) : rIn K neg x (.ref p) H Q := ⟨p, vs, rfl, .inr h, hx, hf, q⟩
theorem m_join {a : Str} {ys : List Str} (m : Mem F0 H0 B F H own) (h : Da F y (.list (ys.map PyData.str))) (hz : (ys.map (·.length)).sum + ys.length * a.length ≤ 16777216) (q : Q (.str (Txt.join a ys)) H) : rJoin K (.str a) [y] H Q := by
  obtain ⟨b, xs, rfl, e, aa⟩ := h.of_lst
  obtain rfl := aa.strs_inv
  exact ⟨a, b, ys, rfl, rfl, .inl (SqL.of (m.fh _ _ e)), hz, q⟩
theorem s_join_o {a : Str} {ys : List Str} {b : Addr} (h : H b = some (.lst (ys.map V.str))) (hz : (ys.map (·.length)).sum + ys.length * a.length ≤ 16777216) (q : Q (.str (Txt.join a ys)) H) : rJoin K (.str a) [.ref b] H Q := ⟨a, b, ys, rfl, rfl, .inl (SqL.of h), hz, q⟩
end

/-! ### stores to one's own lists: the region is the first, second, third .. -/
section
variable {F0 H0 B F H A C S : Hp} {own : List Hp} {v : V} {p : Addr} {xs ys : List V} {k : Int} {j : Nat} {N : Hp → Prop} {Q : VK}
theorem m_set0 (m : Mem F0 H0 B F H (cell p (.lst xs) :: own)) (hj : ixN xs.length k = some j) (hy : xs.set j v = ys) (q : ∀ H', Mem F0 H0 B F H' (cell p (.lst ys) :: own) → N H') : rSetL (.ref p) (.int k) v H N := by
  subst hy
  exact s_setL m.at0 hj (q _ m.put)
theorem m_set1 (m : Mem F0 H0 B F H (A :: cell p (.lst xs) :: own)) (hj : ixN xs.length k = some j) (hy : xs.set j v = ys) (q : ∀ H', Mem F0 H0 B F H' (A :: cell p (.lst ys) :: own) → N H') : rSetL (.ref p) (.int k) v H N := by
  subst hy
  exact s_setL m.at1 hj (q _ m.put1)
theorem m_set2 (m : Mem F0 H0 B F H (A :: C :: cell p (.lst xs) :: own)) (hj : ixN xs.length k = some j) (hy : xs.set j v = ys) (q : ∀ H', Mem F0 H0 B F H' (A :: C :: cell p (.lst ys) :: own) → N H') : rSetL (.ref p) (.int k) v H N := by
  subst hy
  exact s_setL m.at2 hj (q _ m.put2)
theorem m_app0 (m : Mem F0 H0 B F H (cell p (.lst xs) :: own)) (hz : xs.length < sizeLine) (q : ∀ H', Mem F0 H0 B F H' (cell p (.lst (xs ++ [v])) :: own) → Q .non H') : rAppend (.ref p) [v] H Q := s_append m.at0 hz (q _ m.put)
theorem m_app1 (m : Mem F0 H0 B F H (A :: cell p (.lst xs) :: own)) (hz : xs.length < sizeLine) (q : ∀ H', Mem F0 H0 B F H' (A :: cell p (.lst (xs ++ [v])) :: own) → Q .non H') : rAppend (.ref p) [v] H Q := s_append m.at1 hz (q _ m.put1)
theorem m_app2 (m : Mem F0 H0 B F H (A :: C :: cell p (.lst xs) :: own)) (hz : xs.length < sizeLine) (q : ∀ H', Mem F0 H0 B F H' (A :: C :: cell p (.lst (xs ++ [v])) :: own) → Q .non H') : rAppend (.ref p) [v] H Q := s_append m.at2 hz (q _ m.put2)
theorem m_app3 (m : Mem F0 H0 B F H (A :: C :: S :: cell p (.lst xs) :: own)) (hz : xs.length < sizeLine) (q : ∀ H', Mem F0 H0 B F H' (A :: C :: S :: cell p (.lst (xs ++ [v])) :: own) → Q .non H') : rAppend (.ref p) [v] H Q := s_append m.at3 hz (q _ m.put3)
theorem s_augS {σ : L2.St} {to ti te : TE} {tget : V → V → Hp → VK → Prop} {tip : TIp} {tset : TSet} {n b c : L2.St → Hp → Prop} {r : VK}
    (q : to σ H fun o H1 => ti σ H1 fun i H2 => tget o i H2 fun x H3 => te σ H3 fun y H4 => tip x y H4 fun z H5 => tset o i z H5 fun H6 => n σ H6) : tAugS to ti te tget tip tset ⟨n, r, b, c⟩ σ H := q
/-- a list of one's own becomes data -/
theorem Mem.data {F0 H0 B F H : Hp} {own : List Hp} {ds : List PyData} (m : Mem F0 H0 B F H (cell p (.lst xs) :: own)) (a : DaA F xs ds) :
    ∃ F', Mem F0 H0 B F' H own ∧ Same F F' ∧ Da F' (.ref p) (.list ds) := ⟨_, m.freeze, un_l, Da.frozen m.fo0 a⟩
end
theorem atI_map {α β : Type} {f : α → β} {xs : List α} {i : Int} {x : α} (h : atI xs i = some x) : atI (xs.map f) i = some (f x) := by
  unfold atI at h ⊢
  rw [List.length_map]
  cases e : ixN xs.length i with
  | none => rw [e] at h; cases h
  | some j =>
    rw [e] at h
    show (xs.map f)[j]? = some (f x)
    rw [List.getElem?_map]
    have h' : xs[j]? = some x := h
    rw [h']
    rfl
theorem atI_lt {α : Type} {xs : List α} {i : Int} (h0 : 0 ≤ i) (h1 : i < (xs.length : Int)) : ∃ x, atI xs i = some x ∧ xs[i.toNat]? = some x := by
  have h : i.toNat < xs.length := by omega
  refine ⟨xs[i.toNat], ?_, List.getElem?_eq_getElem h⟩
  have e : i = ((i.toNat : Nat) : Int) := by omega
  have q := atI_nat (xs := xs) (j := i.toNat) (List.getElem?_eq_getElem h)
  rw [← e] at q
  exact q
theorem atI_mem {α : Type} {xs : List α} {i : Int} {x : α} (h : atI xs i = some x) : x ∈ xs := by
  obtain ⟨j, _, e, _⟩ := atI_get h
  exact List.mem_of_getElem? e
theorem atI_at {α : Type} {xs : List α} {i : Int} {j : Nat} {v : α} (e : i = (j : Int)) (h : xs[j]? = some v) : atI xs i = some v := by
  rw [e]
  exact atI_nat h
theorem Mem.startC {F H R C : Hp} (e : R = C) (s : Same F H) (r : Same R H) (d : Dj F R) : Mem F H R F H [C] := by
  subst e
  exact Mem.start s r d
/-! ### texts as lists of codes -/
def mkS (l : List Nat) : Str := ⟨l.toArray⟩
theorem mkS_list (l : List Nat) : (mkS l).cps.toList = l := by unfold mkS; simp
theorem mkS_len (l : List Nat) : (mkS l).length = l.length := by
  show l.toArray.size = l.length
  simp
theorem mkS_of (z : Str) : z = mkS z.cps.toList := by
  unfold mkS
  simp
theorem mkS_app (a b : List Nat) : mkS a ++ mkS b = mkS (a ++ b) := by
  show (⟨a.toArray ++ b.toArray⟩ : Str) = ⟨(a ++ b).toArray⟩
  simp
theorem mkS_one (c : Nat) : (⟨#[c]⟩ : Str) = mkS [c] := rfl
theorem mkS_inj {a b : List Nat} (h : mkS a = mkS b) : a = b := by
  have e := congrArg (fun z : Str => z.cps.toList) h
  simpa [mkS] using e
theorem s_addM {i j : List Nat} {H : Hp} {Q : VK} (hz : i.length + j.length ≤ sizeLine) (q : Q (.str (mkS (i ++ j))) H) : rAddSt (.str (mkS i)) (.str (mkS j)) H Q :=
  s_addS (by rw [mkS_len, mkS_len]; exact hz) (by rw [mkS_app]; exact q)
theorem sz100 {n : Nat} (h : n ≤ 10000000) : n ≤ sizeLine := Nat.le_trans h (by decide)
/-! ### isinstance of data -/
def tyD : PyData → String
  | .none => "NoneType"
  | .bool _ => "bool"
  | .int _ => "int"
  | .str _ => "str"
  | .list _ => "list"
  | .tuple _ => "tuple"
  | .dict _ => "dict"
theorem ty_da {F0 H0 B F H : Hp} {own : List Hp} {K : PySem.W.Frag} {x : V} {d : PyData} (m : Mem F0 H0 B F H own) (h : Da F x d) : TyX K H x (.type (tyD d)) := by
  cases h with
  | non => exact .base .non
  | bl b => exact .base (.bl b)
  | int i => exact .base (.int i)
  | str z => exact .base (.str z)
  | lst e a => exact .base (.lst (m.fh _ _ e))
  | tup e a => exact .base (.tup (m.fh _ _ e))
theorem c_isi {X : Cx} : CallR X (.builtin "isinstance") (rIsi X.K) := call_isi
theorem c_isiT {X : Cx} : CallR X (.builtin "isinstance") (rIsiT X.K) := call_isiT
section
variable {F0 H0 B F H : Hp} {own : List Hp} {K : PySem.W.Frag} {x : V} {d : PyData} {n : String} {r : Bool} {Q : VK}
theorem m_isi (m : Mem F0 H0 B F H own) (h : Da F x d) (hb : kitB (tyD d) n = some r) (q : Q (.bl r) H) : rIsi K [x, .ty n] H Q := ⟨x, .ty n, _, _, r, rfl, .ty n, ty_da m h, kit_ty hb, q⟩
end
/-! ### defs that call themselves -/
theorem FnE.never {P : Program} {w : World} {K : PySem.W.Frag} {mg : Str → Option Value} {base : Heap} {CX : CXT} {x : Str} {st : Stmt} {ps : List Str} (D : DefAt K mg x st) (hb : Bnd x st ps) (k : Nat) : FnE P w K mg base CX x k ps (fun _ _ _ _ => False) := by
  obtain ⟨f, fd, hm, F⟩ := D
  exact ⟨f, fd, hm, F.kp, F.bindsN hb, ⟨fun _ _ _ _ h => h.elim, fun _ _ _ _ _ _ _ _ _ _ _ _ _ h => h.elim⟩⟩
/-- data of such a depth, its lists of such lengths -/
def Fit : Nat → PyData → Prop
  | 0, .list _ => False
  | 0, .tuple _ => False
  | _, .dict _ => False
  | n + 1, .list ds => ds.length ≤ 1000000000 ∧ ∀ d ∈ ds, Fit n d
  | n + 1, .tuple ds => ds.length ≤ 1000000000 ∧ ∀ d ∈ ds, Fit n d
  | _, _ => True
theorem m_ixA {F0 H0 B F H : Hp} {own : List Hp} {K : PySem.W.Frag} {x : V} {ds : List PyData} {i : Int} {d : PyData} {Q : VK} (m : Mem F0 H0 B F H own) (h : Da F x (.list ds) ∨ Da F x (.tuple ds)) (hi : atI ds i = some d) (q : ∀ v, Da F v d → Q v H) : rIx K x (.int i) H Q := by
  rcases h with h | h
  · exact .inl (m_ixL m h hi q)
  · exact .inr (.inl (m_ixT m h hi q))
theorem m_lenA {F0 H0 B F H : Hp} {own : List Hp} {K : PySem.W.Frag} {x : V} {ds : List PyData} {Q : VK} (m : Mem F0 H0 B F H own) (h : Da F x (.list ds) ∨ Da F x (.tuple ds)) (q : Q (.int ds.length) H) : rLenQ K [x] H Q := by
  rcases h with h | h
  · exact m_lenL m h q
  · exact m_lenT m h q
/-- == of the same data -/
theorem m_eqD {F0 H0 B F H : Hp} {own : List Hp} {K : PySem.W.Frag} {x y : V} {d e : PyData} {Q : VK} (m : Mem F0 H0 B F H own) (h : Da F x d) (h' : Da F y e) (hs : SeqAt.shaped d = true) (hs' : SeqAt.shaped e = true) (q : Q (.bl (PyData.eqv d e)) H) : rEqD K x y H Q :=
  ⟨d, e, h.dp m.fh, h'.dp m.fh, hs, hs', q⟩
theorem m_neD {F0 H0 B F H : Hp} {own : List Hp} {K : PySem.W.Frag} {x y : V} {d e : PyData} {Q : VK} (m : Mem F0 H0 B F H own) (h : Da F x d) (h' : Da F y e) (hs : SeqAt.shaped d = true) (hs' : SeqAt.shaped e = true) (q : Q (.bl (!PyData.eqv d e)) H) : rNeD K x y H Q :=
  ⟨d, e, h.dp m.fh, h'.dp m.fh, hs, hs', q⟩
/-! ### more of texts -/
theorem glue_fold : ∀ (ls : List (List Nat)) (acc : Array Nat), (ls.map mkS).foldl (fun (acc : Array Nat) (p : Str) => acc ++ (mkS []).cps ++ p.cps) acc = acc ++ ls.flatten.toArray
  | [], acc => by simp
  | a :: r, acc => by
    rw [List.map_cons, List.foldl_cons, glue_fold r, List.flatten_cons]
    show acc ++ #[] ++ a.toArray ++ r.flatten.toArray = acc ++ (a ++ r.flatten).toArray
    simp
theorem join_nil (ls : List (List Nat)) : Txt.join (mkS []) (ls.map mkS) = mkS ls.flatten := by
  cases ls with
  | nil => rfl
  | cons a r =>
    show (⟨(r.map mkS).foldl (fun (acc : Array Nat) (p : Str) => acc ++ (mkS []).cps ++ p.cps) a.toArray⟩ : Str) = mkS (a :: r).flatten
    rw [glue_fold]
    unfold mkS
    simp
theorem cutS_mk (l : List Nat) (lo hi : Option Int) : cutS (mkS l) lo hi = mkS (cutA l lo hi) := by
  unfold cutS cutA
  rw [mkS_list, mkS_len]
  rfl
theorem s_slM {z : List Nat} {lo hi : Option Int} {H : Hp} {Q : VK} (hz : z.length ≤ sizeLine) (q : Q (.str (mkS (cutA z lo hi))) H) : rSlS (.str (mkS z)) lo hi H Q := s_slS (by rw [mkS_len]; exact hz) (by rw [cutS_mk]; exact q)
theorem s_lenM {z : List Nat} {H : Hp} {Q : VK} (hz : z.length ≤ sizeLine) (q : Q (.int z.length) H) : rLenSt [.str (mkS z)] H Q := s_lenS (by rw [mkS_len]; exact hz) (by rw [mkS_len]; exact q)
theorem s_ixM {z : List Nat} {i : Int} {c : Nat} {H : Hp} {Q : VK} (hz : z.length ≤ sizeLine) (hi : atI z i = some c) (q : Q (.str (mkS [c])) H) : rIxS (.str (mkS z)) (.int i) H Q := s_ixS (c := c) (by rw [mkS_len]; exact hz) (by rw [mkS_list]; exact hi) q
theorem dec_mkS {i j : List Nat} : decide (mkS i = mkS j) = decide (i = j) := by
  by_cases h : i = j
  · rw [h, decide_eq_true rfl, decide_eq_true rfl]
  · rw [decide_eq_false h, decide_eq_false (fun q => h (mkS_inj q))]
theorem s_eqM {i j : List Nat} {H : Hp} {Q : VK} (q : Q (.bl (decide (i = j))) H) : rEq (.str (mkS i)) (.str (mkS j)) H Q := s_eqS (by
  have e : decide (mkS i = mkS j) = decide (i = j) := by
    by_cases h : i = j
    · rw [h, decide_eq_true rfl, decide_eq_true rfl]
    · rw [decide_eq_false h, decide_eq_false (fun q => h (mkS_inj q))]
  rw [e]
  exact q)
theorem sIx0 (n d : Nat) (k : Nat) : HT.sIx n d (some (k : Int)) = min k n := HT.sIx_nat n d k
theorem cutA_nat {α : Type} (l : List α) (i j : Nat) (hj : j ≤ l.length) : cutA l (some (i : Int)) (some (j : Int)) = (l.drop i).take (j - i) := by
  unfold cutA
  rw [sIx0, sIx0, Nat.min_eq_left hj]
  by_cases h : i ≤ l.length
  · rw [Nat.min_eq_left h]
  · rw [List.drop_eq_nil_of_le (show l.length ≤ i by omega), List.drop_eq_nil_of_le (show l.length ≤ min i l.length by omega), List.take_nil, List.take_nil]
theorem cutA_to {α : Type} (l : List α) (j : Nat) : cutA l none (some (j : Int)) = l.take j := by
  unfold cutA
  rw [HT.sIx_none, sIx0, List.drop_zero, Nat.sub_zero]
  by_cases h : j ≤ l.length
  · rw [Nat.min_eq_left h]
  · rw [Nat.min_eq_right (by omega), List.take_length, List.take_of_length_le (by omega)]
theorem cutA_from {α : Type} (l : List α) (i : Nat) : cutA l (some (i : Int)) none = l.drop i := by
  unfold cutA
  rw [HT.sIx_none, sIx0]
  by_cases h : i ≤ l.length
  · rw [Nat.min_eq_left h, List.take_of_length_le (by rw [List.length_drop]; omega)]
  · rw [Nat.min_eq_right (by omega), Nat.sub_self, List.take_zero, List.drop_eq_nil_of_le (by omega)]
theorem DaA.nats {F : Hp} : ∀ {l : List Nat}, DaA F (l.map fun j : Nat => V.int (j : Int)) (l.map fun j : Nat => PyData.int (j : Int))
  | [] => .nil
  | j :: r => .cons (.int _) (DaA.nats (l := r))
theorem DaA.map {α : Type} {F : Hp} {f : α → V} {g : α → PyData} (h : ∀ a, Da F (f a) (g a)) : ∀ l : List α, DaA F (l.map f) (l.map g)
  | [] => .nil
  | a :: r => .cons (h a) (DaA.map h r)
theorem DaA.cons_inv {F : Hp} {vs : List V} {d : PyData} {ds : List PyData} (h : DaA F vs (d :: ds)) : ∃ v r, vs = v :: r ∧ Da F v d ∧ DaA F r ds := by
  cases h with
  | cons a b => exact ⟨_, _, rfl, a, b⟩
theorem DaA.nil_inv {F : Hp} {vs : List V} (h : DaA F vs []) : vs = [] := by
  cases h
  rfl
/-- a new tuple of any values, read at once -/
theorem m_tupV {F0 H0 B F H : Hp} {own : List Hp} {Q : VK} {vs : List V} (m : Mem F0 H0 B F H own) (hz : vs.length ≤ 1000) (q : ∀ p F' H', Mem F0 H0 B F' H' own → Same F F' → H' p = some (.tup vs) → Q (.ref p) H') : vs.length ≤ sizeLine ∧ AlO H (.tup vs) Q :=
  ⟨Nat.le_of_lt (small1000 hz), fun p hp => q p _ _ (m.allocF hp) (same_upd (m.fh.free hp)) upd_same⟩
section
variable {Q : VK} {H : Hp} {A B : Prop}
theorem s_isN0 (q : Q (.bl true) H) : rIsN .non .non H Q := ⟨rfl, q⟩
theorem s_isNI {i : Int} (q : Q (.bl false) H) : rIsN (.int i) .non H Q := ⟨rfl, by rw [decide_eq_false (fun z => nomatch z)]; exact q⟩
theorem s_isNS {i : Str} (q : Q (.bl false) H) : rIsN (.str i) .non H Q := ⟨rfl, by rw [decide_eq_false (fun z => nomatch z)]; exact q⟩
theorem s_isNR {i : Addr} (q : Q (.bl false) H) : rIsN (.ref i) .non H Q := ⟨rfl, by rw [decide_eq_false (fun z => nomatch z)]; exact q⟩
theorem s_notN0 (q : Q (.bl false) H) : rNotN .non .non H Q := ⟨rfl, q⟩
theorem s_notNI {i : Int} (q : Q (.bl true) H) : rNotN (.int i) .non H Q := ⟨rfl, by rw [decide_eq_false (fun z => nomatch z)]; exact q⟩
theorem s_notNS {i : Str} (q : Q (.bl true) H) : rNotN (.str i) .non H Q := ⟨rfl, by rw [decide_eq_false (fun z => nomatch z)]; exact q⟩
theorem s_notNR {i : Addr} (q : Q (.bl true) H) : rNotN (.ref i) .non H Q := ⟨rfl, by rw [decide_eq_false (fun z => nomatch z)]; exact q⟩
theorem s_eqrI {i : Int} (q : Q (.bl true) H) : rEq (.int i) (.int i) H Q := s_eqI (by rw [decide_eq_true rfl]; exact q)
theorem iteNT (q : B) : if (!true) = true then A else B := by
  show if false = true then A else B
  exact iteF q
theorem iteNF (q : A) : if (!false) = true then A else B := by
  show if true = true then A else B
  exact iteT q
end
theorem s_isNB {Q : VK} {H : Hp} {i : Bool} (q : Q (.bl false) H) : rIsN (.bl i) .non H Q := ⟨rfl, by rw [decide_eq_false (fun z => nomatch z)]; exact q⟩
theorem m_tupG {F0 H0 B F H : Hp} {own : List Hp} {K : PySem.W.Frag} {σ : L2.St} {v : V} {ds : List PyData} {n : Nat} {t : TGs} {N : L2.St → Hp → Prop} (m : Mem F0 H0 B F H own) (h : Da F v (.tuple ds)) (hn : ds.length = n) (q : ∀ xs, DaA F xs ds → t xs σ H N) : gTup K n t v σ H N := by
  obtain ⟨a, xs, rfl, e, aa⟩ := h.of_tup
  exact s_tupG (SqT.of (m.fh _ _ e)) (by rw [aa.length]; exact hn) (q xs aa)
theorem m_tupG2 {F0 H0 B F H : Hp} {own : List Hp} {K : PySem.W.Frag} {σ : L2.St} {v : V} {d e : PyData} {t u : TG} {N : L2.St → Hp → Prop} (m : Mem F0 H0 B F H own) (h : Da F v (.tuple [d, e])) (q : ∀ x y, Da F x d → Da F y e → t x σ H fun σ' H' => gCons u gNil [y] σ' H' N) : gTup K 2 (gCons t (gCons u gNil)) v σ H N :=
  m_tupG m h rfl fun xs aa => by
    obtain ⟨x, r, rfl, hx, aa⟩ := aa.cons_inv
    obtain ⟨y, r, rfl, hy, aa⟩ := aa.cons_inv
    obtain rfl := aa.nil_inv
    exact s_gCons (q x y hx hy)
theorem m_tupG3 {F0 H0 B F H : Hp} {own : List Hp} {K : PySem.W.Frag} {σ : L2.St} {v : V} {d e f : PyData} {t u w : TG} {N : L2.St → Hp → Prop} (m : Mem F0 H0 B F H own) (h : Da F v (.tuple [d, e, f])) (q : ∀ x y z, Da F x d → Da F y e → Da F z f → t x σ H fun σ' H' => gCons u (gCons w gNil) [y, z] σ' H' N) : gTup K 3 (gCons t (gCons u (gCons w gNil))) v σ H N :=
  m_tupG m h rfl fun xs aa => by
    obtain ⟨x, r, rfl, hx, aa⟩ := aa.cons_inv
    obtain ⟨y, r, rfl, hy, aa⟩ := aa.cons_inv
    obtain ⟨z, r, rfl, hz, aa⟩ := aa.cons_inv
    obtain rfl := aa.nil_inv
    exact s_gCons (q x y z hx hy hz)
def kitB2 (a n m : String) : Option Bool := match kitB a n with
  | some true => some true
  | some false => kitB a m
  | Option.none => Option.none
theorem kit2 {K : PySem.W.Frag} {a n m : String} {r : Bool} (h : kitB2 a n m = some r) : PySem.W.kitAny K (.type a) [.type n, .type m] = some r := by
  unfold kitB2 at h
  unfold PySem.W.kitAny
  have e1 : PySem.W.kitOne K (.type a) (.type n) = kitB a n := rfl
  have e2 : PySem.W.kitOne K (.type a) (.type m) = kitB a m := rfl
  rw [e1]
  cases q : kitB a n with
  | none => rw [q] at h; cases h
  | some b =>
    rw [q] at h
    cases b with
    | true => exact h
    | false =>
      show PySem.W.kitAny K (.type a) [.type m] = some r
      unfold PySem.W.kitAny
      have h' : kitB a m = some r := h
      rw [e2, h']
      cases r <;> rfl
theorem m_isiT {F0 H0 B F H : Hp} {own : List Hp} {K : PySem.W.Frag} {x : V} {d : PyData} {tp : Addr} {n m : String} {r : Bool} {Q : VK} (M : Mem F0 H0 B F H own) (h : Da F x d) (ht : H tp = some (.tup [.ty n, .ty m])) (hb : kitB2 (tyD d) n m = some r) (q : Q (.bl r) H) : rIsiT K [x, .ref tp] H Q :=
  ⟨x, tp, [.ty n, .ty m], _, [.type n, .type m], r, rfl, ht, .cons (.ty n) (.cons (.ty m) .nil), ty_da M h, kit2 hb, q⟩
end DL

/-! DLo: objects, methods, regions of several cells. -/
namespace DL
open PySem PySem.Spec PyProof.Rows L2

/-! ### regions joined and parted -/
section
variable {F0 H0 B F H R R' A C F' H' : Hp} {own : List Hp}
theorem un_dj {A C S : Hp} (a : Dj A S) (c : Dj C S) : Dj (un A C) S := fun b h => by
  rcases un_ne h with z | z
  · exact a b z
  · exact c b z
theorem un_sub {A C S : Hp} (a : Same A S) (c : Same C S) : Same (un A C) S := fun b o h => by
  rcases un_some h with z | ⟨_, z⟩
  · exact a b o z
  · exact c b o z
theorem un_none {A C : Hp} {b : Addr} (a : A b = Option.none) (c : C b = Option.none) : un A C b = Option.none := by
  unfold un
  rw [a]
  exact c
theorem un_left {A C : Hp} {b : Addr} {o : HO} (a : A b = some o) : un A C b = some o := un_l b o a
theorem un_right {A C : Hp} {b : Addr} {o : HO} (d : Dj A C) (c : C b = some o) : un A C b = some o := un_r d b o c
theorem Mem.dj01 (m : Mem F0 H0 B F H (A :: C :: own)) : Dj A C := (List.pairwise_cons.mp m.oo).1 C List.mem_cons_self
theorem Mem.join (m : Mem F0 H0 B F H (A :: C :: own)) : Mem F0 H0 B F H (un A C :: own) := by
  have oo := List.pairwise_cons.mp m.oo
  have oo2 := List.pairwise_cons.mp oo.2
  refine ⟨m.ff, m.fh, fun R q => ?_, fun R q => ?_, List.pairwise_cons.mpr ⟨fun R q => un_dj (oo.1 R (List.mem_cons_of_mem _ q)) (oo2.1 R q), oo2.2⟩, m.keep, m.dom, m.newF, fun R q a e => ?_⟩
  · rcases List.mem_cons.mp q with rfl | q
    · exact un_sub (m.oh A List.mem_cons_self) (m.oh C (List.mem_cons_of_mem _ List.mem_cons_self))
    · exact m.oh R (List.mem_cons_of_mem _ (List.mem_cons_of_mem _ q))
  · rcases List.mem_cons.mp q with rfl | q
    · exact (un_dj (m.fo A List.mem_cons_self).symm (m.fo C (List.mem_cons_of_mem _ List.mem_cons_self)).symm).symm
    · exact m.fo R (List.mem_cons_of_mem _ (List.mem_cons_of_mem _ q))
  · rcases List.mem_cons.mp q with rfl | q
    · rcases un_ne e with z | z
      · exact m.newO A List.mem_cons_self a z
      · exact m.newO C (List.mem_cons_of_mem _ List.mem_cons_self) a z
    · exact m.newO R (List.mem_cons_of_mem _ (List.mem_cons_of_mem _ q)) a e
theorem Mem.part (m : Mem F0 H0 B F H (un A C :: own)) (d : Dj A C) : Mem F0 H0 B F H (A :: C :: own) := by
  have oo := List.pairwise_cons.mp m.oo
  have sA : ∀ {S : Hp}, Dj (un A C) S → Dj A S := fun {S} h b e => h b (by obtain ⟨o, z⟩ := sn e; exact ns (un_left z))
  have sC : ∀ {S : Hp}, Dj (un A C) S → Dj C S := fun {S} h b e => h b (by obtain ⟨o, z⟩ := sn e; exact ns (un_right d z))
  refine ⟨m.ff, m.fh, fun R q => ?_, fun R q => ?_, List.pairwise_cons.mpr ⟨fun R q => ?_, List.pairwise_cons.mpr ⟨fun R q => sC (oo.1 R q), oo.2⟩⟩, m.keep, m.dom, m.newF, fun R q a e => ?_⟩
  · rcases List.mem_cons.mp q with rfl | q
    · exact fun b o z => m.oh _ List.mem_cons_self b o (un_left z)
    · rcases List.mem_cons.mp q with rfl | q
      · exact fun b o z => m.oh _ List.mem_cons_self b o (un_right d z)
      · exact m.oh R (List.mem_cons_of_mem _ q)
  · rcases List.mem_cons.mp q with rfl | q
    · exact (sA (m.fo _ List.mem_cons_self).symm).symm
    · rcases List.mem_cons.mp q with rfl | q
      · exact (sC (m.fo _ List.mem_cons_self).symm).symm
      · exact m.fo R (List.mem_cons_of_mem _ q)
  · rcases List.mem_cons.mp q with rfl | q
    · exact d
    · exact sA (oo.1 R q)
  · rcases List.mem_cons.mp q with rfl | q
    · obtain ⟨o, z⟩ := sn e
      exact m.newO _ List.mem_cons_self a (ns (un_left z))
    · rcases List.mem_cons.mp q with rfl | q
      · obtain ⟨o, z⟩ := sn e
        exact m.newO _ List.mem_cons_self a (ns (un_right d z))
      · exact m.newO R (List.mem_cons_of_mem _ q) a e
theorem Mem.start2 (s : Same F H) (r : Same A H) (r' : Same C H) (d : Dj F A) (d' : Dj F C) (e : Dj A C) : Mem F H (un A C) F H [A, C] :=
  (Mem.start s (un_sub r r') (un_dj d.symm d'.symm).symm).part e
end

/-! ### defs of a class -/
structure FnM (P : Program) (w : World) (K : PySem.W.Frag) (mg : Str → Option Value) (base : Heap) (CX : CXT) (C : Addr) (m : Str) (k : Nat) (ps : List Str) (sp : Sp) : Prop where
  ex : ∃ (f : Addr) (fd : FuncData), Meth K C m f ∧ Binds K fd ps [] ∧ FnOk P w K mg base CX k f fd ps sp
def MetAt (K : PySem.W.Frag) (C : Addr) (m qual : Str) (st : Stmt) : Prop := ∃ (f : Addr) (fd : FuncData), Meth K C m f ∧ FunD K m qual (defArgs st) (defBody st) (defScope st) [] [] f fd
abbrev BndM (x : Str) (qual : Str) (st : Stmt) (ps : List Str) : Prop := ∀ (kV doc pm : Value) (an : Option Addr) (cdv ct : Value) (us : List Value), us.length = ps.length → bindArgs (PySem.W.fnOf x qual (defArgs st) (defBody st) (defScope st) .none kV doc pm an cdv ct) ⟨us, []⟩ = pure (ps.zip us)
section
variable {P : Program} {w : World} {K : PySem.W.Frag} {mg : Str → Option Value} {base : Heap} {CX : CXT} {C : Addr} {x qual : Str} {st : Stmt} {N ps : List Str} {k : Nat} {sp : Sp}
theorem fnMX (D : MetAt K C x qual st) (S : FnScope N ps (defScope st)) (hb : BndM x qual st ps) (len : ∀ vs H Q E, sp vs H Q E → vs.length = ps.length)
    (hbody : ∀ (f : Addr) (cdv : Value) (A : Around) (outer : List Env) (s : Shared) (H : Hp) (vs : List V) (Q : VK) (E : XK), Room k (A.deeper (envOfC qual (defScope st) s.heap.objs.size f cdv)) → sp vs H Q E →
      ∃ t, PSs (cxOf CX P w K mg base N qual (defScope st) f cdv A outer s H E) (defBody st) t ∧ t ⟨fun _ H' => Q .non H', Q, fun _ _ => False, fun _ _ => False⟩ (start N vs) H) : FnM P w K mg base CX C x (k + 1) ps sp := by
  obtain ⟨f, fd, hm, F⟩ := D
  exact ⟨f, fd, hm, F.bindsN hb, F.ok S len fun cdv A outer s H vs Q E hr h => hbody f cdv A outer s H vs Q E hr h⟩
theorem fnM (D : MetAt K C x qual st) (S : FnScope N ps (defScope st)) (hb : BndM x qual st ps) (len : ∀ vs H Q E, sp vs H Q E → vs.length = ps.length)
    (hbody : ∀ (f : Addr) (cdv : Value) (A : Around) (outer : List Env) (s : Shared) (H : Hp) (vs : List V) (Q : VK) (E : XK), Room k (A.deeper (envOfC qual (defScope st) s.heap.objs.size f cdv)) → sp vs H Q E →
      ∃ t, PSs (cxOf CX0 P w K mg base N qual (defScope st) f cdv A outer s H E).nox (defBody st) t ∧ t ⟨fun _ H' => Q .non H', Q, fun _ _ => False, fun _ _ => False⟩ (start N vs) H) : FnM P w K mg base CX0 C x (k + 1) ps sp :=
  fnMX D S hb len fun f cdv A outer s H vs Q E hr h => (let ⟨t, a, b⟩ := hbody f cdv A outer s H vs Q E hr h; ⟨t, a.nox, b⟩)
/-- a class that is called: its __init__ -/
structure FnI (P : Program) (w : World) (K : PySem.W.Frag) (mg : Str → Option Value) (base : Heap) (CX : CXT) (x : Str) (C : Addr) (k : Nat) (ps : List Str) (sp : Sp) : Prop where
  ex : ∃ (f : Addr) (fd : FuncData), mg x = some (.ref C) ∧ Mk K C f ∧ Binds K fd ps [] ∧ FnOk P w K mg base CX k f fd ps sp
def IniAt (K : PySem.W.Frag) (mg : Str → Option Value) (x : Str) (C : Addr) (qual : Str) (st : Stmt) : Prop := ∃ (f : Addr) (fd : FuncData), mg x = some (.ref C) ∧ Mk K C f ∧ FunD K "__init__" qual (defArgs st) (defBody st) (defScope st) [] [] f fd
theorem fnI (D : IniAt K mg x C qual st) (S : FnScope N ps (defScope st)) (hb : BndM "__init__" qual st ps) (len : ∀ vs H Q E, sp vs H Q E → vs.length = ps.length)
    (hbody : ∀ (f : Addr) (cdv : Value) (A : Around) (outer : List Env) (s : Shared) (H : Hp) (vs : List V) (Q : VK) (E : XK), Room k (A.deeper (envOfC qual (defScope st) s.heap.objs.size f cdv)) → sp vs H Q E →
      ∃ t, PSs (cxOf CX0 P w K mg base N qual (defScope st) f cdv A outer s H E).nox (defBody st) t ∧ t ⟨fun _ H' => Q .non H', Q, fun _ _ => False, fun _ _ => False⟩ (start N vs) H) : FnI P w K mg base CX0 x C (k + 1) ps sp := by
  obtain ⟨f, fd, hg, hm, F⟩ := D
  exact ⟨f, fd, hg, hm, F.bindsN hb, F.ok S len fun cdv A outer s H vs Q E hr h => (let ⟨t, a, b⟩ := hbody f cdv A outer s H vs Q E hr h; ⟨t, a.nox, b⟩)⟩
end
section
variable {X : Cx} {CX : CXT} {k : Nat} {C : Addr} {ps : List Str} {sp : Sp} {E : XK} {x m : Str} {p pos apos : Pos} {e o : Expr} {es : List Expr} {ta : TE} {t : TA}
theorem pe_m {pl : Sem Bool} (G : FnM X.prog X.w X.K X.mg X.base CX C m k ps sp) (he : PE X o ta) (c : Cls X.K C) (hr : Room k X.A) (hx : Passes CX X E) (ha : PA X (e :: es) t)
    (hst : starEach (e :: es) X.env = (false, eval e X.env) :: starEach es X.env := by rfl) (hpl : (backTo pos (starEach es X.env)).any (·.1) = false := by rfl)
    (ht : eval (.Call (.Attribute o m apos) (e :: es) [] pos) X.env = (do
      let ov ← eval o X.env
      standAt apos.atName
      let (f, first) ← holding [ov] (getMethod ov m pl)
      callWith pos f first (backTo pos (starEach (e :: es) X.env)) (backToKw pos (keywordEach [] X.env))) := by rfl) :
    PE X (.Call (.Attribute o m apos) (e :: es) [] pos) (tMeth C m sp [] E ta t) := by
  obtain ⟨f, fd, hm, hb, F⟩ := G.ex
  exact pe_meth he c hm F hr hb .nil hx ha hst hpl ht
theorem pe_m0 {pl : Sem Bool} (G : FnM X.prog X.w X.K X.mg X.base CX C m k ps sp) (he : PE X o ta) (c : Cls X.K C) (hr : Room k X.A) (hx : Passes CX X E)
    (ht : eval (.Call (.Attribute o m apos) [] [] pos) X.env = (do
      let ov ← eval o X.env
      standAt apos.atName
      let (f, first) ← holding [ov] (getMethod ov m pl)
      callWith pos f first (backTo pos (starEach [] X.env)) (backToKw pos (keywordEach [] X.env))) := by rfl) :
    PE X (.Call (.Attribute o m apos) [] [] pos) (tMeth C m sp [] E ta tNil) := by
  obtain ⟨f, fd, hm, hb, F⟩ := G.ex
  exact pe_meth0 he c hm F hr hb .nil hx ht
theorem pe_i (G : FnI X.prog X.w X.K X.mg X.base CX x C k ps sp) (hr : Room (k + 1) X.A) (hg : Gl X x) (hx : Passes CX X E)
    (ha : PA X (e :: es) t) (hdb : (x == ("__debug__" : Str)) = false := by decide) (he : starEach (e :: es) X.env = (false, eval e X.env) :: starEach es X.env := by rfl) (hpl : (backTo pos (starEach es X.env)).any (·.1) = false := by rfl) :
    PE X (.Call (.Name x p) (e :: es) [] pos) (tMake C sp [] E t) := by
  obtain ⟨f, fd, hm, M, hb, F⟩ := G.ex
  exact pe_make M F hr hg hm hb .nil hx ha hdb he hpl
theorem pe_i0 (G : FnI X.prog X.w X.K X.mg X.base CX x C k ps sp) (hr : Room (k + 1) X.A) (hg : Gl X x) (hx : Passes CX X E) (hdb : (x == ("__debug__" : Str)) = false := by decide) : PE X (.Call (.Name x p) [] [] pos) (tMake C sp [] E tNil) := by
  obtain ⟨f, fd, hm, M, hb, F⟩ := G.ex
  exact pe_make0 M F hr hg hm hb .nil hx hdb
theorem pe_cI {i : Int} (hg : Gl X x) (h : ∃ t, X.mg x = some (.int i t)) (hd : (x == ("__debug__" : Str)) = false := by decide) : PE X (.Name x pos) (tC (.int i)) := by
  obtain ⟨t, hm⟩ := h
  exact pe_glob hg hm ⟨_, rfl⟩ hd
theorem pe_cS {z : Str} (hg : Gl X x) (h : ∃ t, X.mg x = some (.str z t)) (hd : (x == ("__debug__" : Str)) = false := by decide) : PE X (.Name x pos) (tC (.str z)) := by
  obtain ⟨t, hm⟩ := h
  exact pe_glob hg hm ⟨_, rfl⟩ hd
end
/-! steps -/
section
variable {σ : L2.St} {H : Hp} {Q : VK} {ta tv : TE} {t : TA} {C : Addr} {m f : Str} {sp : Sp} {E : XK} {K : PySem.W.Frag} {a dx : Addr} {fs : List (Str × V)} {v : V} {n b c : L2.St → Hp → Prop} {r : VK} {y z : V}
def mtQ (C : Addr) (m : Str) (sp : Sp) (E : XK) (t : TA) (σ : L2.St) (Q : VK) : VK := fun x H1 => ∃ a dx fs, x = .ref a ∧ H1 a = some (.ins C dx fs) ∧ fs.lookup m = Option.none ∧ t σ H1 fun vs H2 => sp (x :: (vs ++ [])) H2 Q E
theorem s_meth (q : ta σ H (mtQ C m sp E t σ Q)) : tMeth C m sp [] E ta t σ H Q := q
theorem s_mt (h : H a = some (.ins C dx fs)) (hl : fs.lookup m = Option.none) (q : t σ H fun vs H2 => sp (.ref a :: vs) H2 Q E) : mtQ C m sp E t σ Q (.ref a) H :=
  ⟨a, dx, fs, rfl, h, hl, by simp only [List.append_nil]; exact q⟩
def fdQ (K : PySem.W.Frag) (f : Str) (Q : VK) : VK := fun x H1 => ∃ a C dx fs v, x = .ref a ∧ H1 a = some (.ins C dx fs) ∧ Cls K C ∧ NoAttr K C f ∧ fs.lookup f = some v ∧ Q v H1
theorem s_fld (q : ta σ H (fdQ K f Q)) : tFld K ta f σ H Q := q
theorem s_fd (h : H a = some (.ins C dx fs)) (hc : Cls K C) (hn : NoAttr K C f) (hl : fs.lookup f = some v) (q : Q v H) : fdQ K f Q (.ref a) H := ⟨a, C, dx, fs, v, rfl, h, hc, hn, hl, q⟩
def sfQ (K : PySem.W.Frag) (f : Str) (y : V) (n : L2.St → Hp → Prop) (σ : L2.St) : VK := fun x H2 => ∃ a C dx fs, x = .ref a ∧ H2 a = some (.ins C dx fs) ∧ Cls K C ∧ NoAttr K C f ∧ fs.length < 1000 ∧ n σ (upd H2 a (.ins C dx (putF f y fs)))
theorem s_sfld (q : tv σ H fun y H1 => ta σ H1 (sfQ K f y n σ)) : sFld K ta tv f ⟨n, r, b, c⟩ σ H := q
theorem s_sf (h : H a = some (.ins C dx fs)) (hc : Cls K C) (hn : NoAttr K C f) (hl : fs.length < 1000) (q : n σ (upd H a (.ins C dx (putF f y fs)))) : sfQ K f y n σ (.ref a) H := ⟨a, C, dx, fs, rfl, h, hc, hn, hl, q⟩
def mkQ (C : Addr) (sp : Sp) (E : XK) (Q : VK) : List V → Hp → Prop := fun vs H1 => ∀ x dx, H1 x = Option.none → H1 dx = Option.none → dx ≠ x → sp (.ref x :: (vs ++ [])) (upd (upd H1 dx (.own x)) x (.ins C dx [])) (fun v H2 => v = .non ∧ Q (.ref x) H2) E
theorem s_make (q : t σ H (mkQ C sp E Q)) : tMake C sp [] E t σ H Q := q
/-- a new instance: its two cells are a region of one's own -/
theorem m_mk {F0 H0 B F : Hp} {own : List Hp} {vs : List V} (M : Mem F0 H0 B F H own)
    (q : ∀ x R H', Mem F0 H0 B F H' (R :: own) → (∃ dx, R x = some (.ins C dx []) ∧ R dx = some (.own x)) → sp (.ref x :: vs) H' (fun v H2 => v = .non ∧ Q (.ref x) H2) E) : mkQ C sp E Q vs H := by
  intro x dx nx nd ne
  rw [List.append_nil]
  have M1 := M.alloc (o := .own x) nd
  have nx' : upd H dx (.own x) x = Option.none := by rw [upd_ne ne.symm]; exact nx
  have M2 := M1.alloc (o := .ins C dx []) nx'
  have M3 := M2.join
  exact q x _ _ M3 ⟨dx, un_left cell_same, un_right M2.dj01 cell_same⟩
end
/-! ### lists that stand: in a region, lent or owned -/
section
variable {F0 H0 B F H : Hp} {own : List Hp} {σ : L2.St} {K : PySem.W.Frag} {g : TG} {tb : TS} {n : L2.St → Hp → Prop} {r : VK} {Q : VK} {tt : TT} {te : TE} {vs : List Nat}
theorem m_forQ {a : Addr} {xs : List V} {ds : List PyData} (m : Mem F0 H0 B F H own) (hx : SqL K H a xs) (aa : DaA F xs ds) (I : Nat → L2.St → Hp → List Hp → Prop) (hk : ∀ i σ F' H' own', Same F F' → Mem F0 H0 B F' H' own' → I i σ F' own' → SqL K H' a xs) (h0 : I 0 σ F own)
    (hs : ∀ (i : Nat) d v σ F' H' own', ds[i]? = some d → Same F F' → Mem F0 H0 B F' H' own' → Da F' v d → I i σ F' own' → g v σ H' fun σ2 H2 => tb ⟨Nx F0 H0 B F (I (i + 1)), r, n, Nx F0 H0 B F (I (i + 1))⟩ σ2 H2)
    (hd : ∀ σ F' H' own', Same F F' → Mem F0 H0 B F' H' own' → I ds.length σ F' own' → n σ H') : lsQ K (fun J H1 => ForW J g tb n r σ H1) (.ref a) H := by
  have at_ : ∀ {H : Hp} {i : Nat} {σ : L2.St}, Nx F0 H0 B F (I i) σ H → SqL K H a xs := fun {H i σ} ⟨F', own', s, m', hI⟩ => hk _ _ _ _ _ s m' hI
  have el := aa.length
  refine ⟨a, rfl, ⟨xs, hx⟩, for_gen (k := xs.length) (fun i => Nx F0 H0 B F (I i)) ⟨F, own, .refl F, m, h0⟩ (fun i σ H hi p => ⟨xs, xs[i], at_ p, by simp [hi]⟩) (fun σ H p => ⟨xs, at_ p, Nat.le_refl _⟩) (fun i σ H hi p x H' y => ?_) fun σ H ⟨F', own', s, m', hI⟩ => hd σ F' H own' s m' (el ▸ hI)⟩
  obtain ⟨rfl, y⟩ := y
  have ex := y xs (at_ p)
  obtain ⟨F', own', s, m', hI⟩ := p
  obtain ⟨d, ed, dd⟩ := aa.exV ex
  exact hs i d x σ F' _ own' ed s m' (dd.mono s) hI
theorem m_lcQ {a : Addr} {xs : List V} {ds : List PyData} (m : Mem F0 H0 B F H own) (hx : SqL K H a xs) (aa : DaA F xs ds) (I : Nat → List V → Hp → List Hp → Prop) (hk : ∀ i D acc F' H' own', Same F F' → Mem F0 H0 B F' H' (cell D (.lst acc) :: own') → I i acc F' own' → SqL K H' a xs) (h0 : I 0 [] F own)
    (hs : ∀ (i : Nat) d v acc D F' H' own', ds[i]? = some d → Same F F' → Mem F0 H0 B F' H' (cell D (.lst acc) :: own') → Da F' v d → I i acc F' own' → g v (wipe σ vs) H' fun σ2 H2 => wipe σ2 vs = wipe σ vs ∧ tt σ2 H2 fun b H3 =>
      if b = true then te σ2 H3 (LcE D (NxC F0 H0 B F D (I (i + 1)))) else NxC F0 H0 B F D (I (i + 1)) H3)
    (hd : ∀ D acc F' H' own', Same F F' → Mem F0 H0 B F' H' (cell D (.lst acc) :: own') → I ds.length acc F' own' → Q (.ref D) H') : lsQ K (fun J H1 => LcW J g tt te vs Q σ H1) (.ref a) H := by
  have el := aa.length
  refine ⟨a, rfl, ⟨xs, hx⟩, lc_gen (k := xs.length) fun D hD => ?_⟩
  have at_ : ∀ {H : Hp} {i : Nat}, NxC F0 H0 B F D (I i) H → SqL K H a xs := fun {H i} ⟨F', own', acc, s, m', hI⟩ => hk _ _ _ _ _ _ s m' hI
  refine ⟨fun i => NxC F0 H0 B F D (I i), ⟨F, own, [], .refl F, m.alloc hD, h0⟩, fun i H hi p => ⟨xs, xs[i], at_ p, by simp [hi]⟩, fun H p => ⟨xs, at_ p, Nat.le_refl _⟩, fun i H hi p x H' y => ?_, fun H ⟨F', own', acc, s, m', hI⟩ => hd D acc F' H own' s m' (el ▸ hI)⟩
  obtain ⟨rfl, y⟩ := y
  have ex := y xs (at_ p)
  obtain ⟨F', own', acc, s, m', hI⟩ := p
  obtain ⟨d, ed, dd⟩ := aa.exV ex
  exact hs i d x acc D F' _ own' ed s m' (dd.mono s) hI
theorem s_slQ {a : Addr} {xs : List V} {lo hi : Option Int} (h : SqL K H a xs) (q : AlO H (.lst (cutV xs lo hi)) Q) : rSlL K (.ref a) lo hi H Q := ⟨a, xs, rfl, h, q⟩
theorem s_lenQ {a : Addr} {xs : List V} (h : SqL K H a xs) (q : Q (.int xs.length) H) : rLenQ K [.ref a] H Q := ⟨a, xs, rfl, .inl h, q⟩
/-- list(..) of a list that stands -/
theorem s_ext {a b : Addr} {xs zs : List V} (h : H a = some (.lst xs)) (h' : H b = some (.lst zs)) (hz : xs.length + zs.length ≤ sizeLine) (q : Q .non (upd H a (.lst (xs ++ zs)))) : rExtend (.ref a) [.ref b] H Q := ⟨a, b, xs, zs, rfl, rfl, h, h', hz, q⟩
end
def rIns : V → List V → Hp → VK → Prop := fun x vs H Q => ∃ (l : Addr) (xs : List V) (i : Int) (y : V), x = .ref l ∧ vs = [.int i, y] ∧ H l = some (.lst xs) ∧ xs.length < sizeLine ∧ 0 ≤ i ∧ i < 2 ^ 63 ∧ Q .non (upd H l (.lst (xs.take i.toNat ++ [y] ++ xs.drop i.toNat)))
theorem c_insert {X : Cx} : MtR X "list.insert" rIns := mt_insert
theorem s_ins {H : Hp} {Q : VK} {l : Addr} {xs : List V} {i : Int} {y : V} (h : H l = some (.lst xs)) (hz : xs.length < sizeLine) (h0 : 0 ≤ i) (h1 : i < 2 ^ 63) (q : Q .non (upd H l (.lst (xs.take i.toNat ++ [y] ++ xs.drop i.toNat)))) : rIns (.ref l) [.int i, y] H Q := ⟨l, xs, i, y, rfl, rfl, h, hz, h0, h1, q⟩
/-- what is data of a list's own cell -/
theorem dp_own {K : PySem.W.Frag} {F H : Hp} {a : Addr} {xs : List V} {ds : List PyData} (s : Same F H) (h : H a = some (.lst xs)) (aa : DaA F xs ds) : Dp K H (.ref a) (.list ds) := .lst (SqL.of h) (aa.dp s)
theorem shaped_ints {ns : List Int} : SeqAt.shaped (.list (ns.map PyData.int)) = true := by
  have h1 : ∀ ns : List Int, PyData.canLayAll0 (ns.map PyData.int) = true := by
    intro ns
    induction ns with
    | nil => rfl
    | cons a r ih => simp only [List.map_cons, PyData.canLayAll0, PyData.canLay0, ih, Bool.and_self]
  have h2 : ∀ ns : List Int, PyData.depthAll (ns.map PyData.int) ≤ 1 := by
    intro ns
    induction ns with
    | nil => simp [PyData.depthAll]
    | cons a r ih => simp only [List.map_cons, PyData.depthAll, PyData.depth]; omega
  unfold SeqAt.shaped
  rw [Bool.and_eq_true]
  refine ⟨by rw [PyData.canLay0]; exact h1 ns, decide_eq_true ?_⟩
  have := h2 ns
  rw [PyData.depth]
  omega
/-! ### a new list handed back, owned by the caller -/
theorem un_emp {C : Hp} : un emp C = C := by
  funext b
  rfl
theorem Go.lendO {F H F' H' R C : Hp} (g : Go F H emp F' H' C) (r : Same R H) (d : Dj F R) : Go F H R F' H' (un R C) ∧ Dj R C := by
  have dj : Dj R C := fun a e => by
    obtain ⟨o, q⟩ := sn e
    cases z : C a with
    | none => rfl
    | some u =>
      rcases g.newR a (ns z) with y | y
      · exact absurd rfl y
      · rw [r a o q] at y; cases y
  have rr : Same R H' := fun a o e => g.keep a o (r a o e) rfl
  refine ⟨⟨g.ff, g.fh, un_sub rr g.rh, (un_dj (fun a e => ?_) g.dj.symm).symm, fun a o e _ => g.keep a o e rfl, g.dom, fun a e => ?_, fun a e => ?_⟩, dj⟩
  · cases z : F' a with
    | none => rfl
    | some u =>
      rcases g.newF a (ns z) with y | y | y
      · rw [d a y] at e; exact absurd rfl e
      · exact absurd rfl y
      · obtain ⟨o, q⟩ := sn e
        rw [r a o q] at y; cases y
  · rcases g.newF a e with y | y | y
    · exact .inl y
    · exact absurd rfl y
    · exact .inr (.inr y)
  · rcases un_ne e with y | y
    · exact .inl y
    · rcases g.newR a y with z | z
      · exact absurd rfl z
      · exact .inr z
section
variable {F0 H0 B F H R R' A C S F' H' : Hp} {own : List Hp}
theorem Mem.goO (m : Mem F0 H0 B F H own) (g : Go F H emp F' H' C) : Mem F0 H0 B F' H' (C :: own) := m.addE.go g
/-- one list more, ahead of what was lent -/
theorem Mem.goR (m : Mem F0 H0 B F H (R :: own)) (g : Go F H R F' H' (un R C)) (d : Dj R C) : Mem F0 H0 B F' H' (C :: R :: own) := ((m.go g).part d).swap
theorem Mem.goR1 (m : Mem F0 H0 B F H (A :: R :: own)) (g : Go F H R F' H' (un R C)) (d : Dj R C) : Mem F0 H0 B F' H' (C :: A :: R :: own) := (m.swap.goR g d).perm (.cons C (.swap A R own))
theorem Mem.goR2 (m : Mem F0 H0 B F H (A :: S :: R :: own)) (g : Go F H R F' H' (un R C)) (d : Dj R C) : Mem F0 H0 B F' H' (C :: A :: S :: R :: own) :=
  (m.rot3.goR g d).perm (.cons C ((List.Perm.swap A R (S :: own)).trans (.cons A (.swap S R own))))
theorem Mem.goR3 {T : Hp} (m : Mem F0 H0 B F H (A :: S :: T :: R :: own)) (g : Go F H R F' H' (un R C)) (d : Dj R C) : Mem F0 H0 B F' H' (C :: A :: S :: T :: R :: own) := by
  have q : ∀ R : Hp, (A :: S :: T :: R :: own).Perm (R :: A :: S :: T :: own) := fun R => ((((List.Perm.swap R T own).cons S).trans (.swap R S (T :: own))).cons A).trans (.swap R A (S :: T :: own))
  exact ((m.perm (q R)).goR g d).perm (.cons C (q R).symm)
theorem Mem.oh3 {T : Hp} (m : Mem F0 H0 B F H (A :: C :: T :: R :: own)) : Same R H := m.oh _ (List.mem_cons_of_mem _ (List.mem_cons_of_mem _ (List.mem_cons_of_mem _ List.mem_cons_self)))
theorem Mem.fo3 {T : Hp} (m : Mem F0 H0 B F H (A :: C :: T :: R :: own)) : Dj F R := m.fo _ (List.mem_cons_of_mem _ (List.mem_cons_of_mem _ (List.mem_cons_of_mem _ List.mem_cons_self)))
theorem Mem.oh4 {T U : Hp} (m : Mem F0 H0 B F H (A :: C :: T :: U :: R :: own)) : Same R H := m.oh _ (List.mem_cons_of_mem _ (List.mem_cons_of_mem _ (List.mem_cons_of_mem _ (List.mem_cons_of_mem _ List.mem_cons_self))))
theorem Mem.fo4 {T U : Hp} (m : Mem F0 H0 B F H (A :: C :: T :: U :: R :: own)) : Dj F R := m.fo _ (List.mem_cons_of_mem _ (List.mem_cons_of_mem _ (List.mem_cons_of_mem _ (List.mem_cons_of_mem _ List.mem_cons_self))))
theorem Mem.dj02 (m : Mem F0 H0 B F H (A :: C :: R :: own)) : Dj A R := (List.pairwise_cons.mp m.oo).1 R (List.mem_cons_of_mem _ List.mem_cons_self)
theorem Mem.dj03 {T : Hp} (m : Mem F0 H0 B F H (A :: C :: T :: R :: own)) : Dj A R := (List.pairwise_cons.mp m.oo).1 R (List.mem_cons_of_mem _ (List.mem_cons_of_mem _ List.mem_cons_self))
end
theorem cell_no {p : Addr} {o : HO} {R : Hp} (d : Dj (cell p o) R) : R p = Option.none := d p (by rw [cell_same]; intro q; cases q)
theorem m_tyL {F0 H0 B F H : Hp} {own : List Hp} {K : PySem.W.Frag} {x : V} {ds : List PyData} {P : Prop} (m : Mem F0 H0 B F H own) (h : Da F x (.list ds)) (q : P) : tyV K "list" x H ∧ P := by
  obtain ⟨a, xs, rfl, e, aa⟩ := h.of_lst
  exact s_tyL (m.fh _ _ e) q
theorem s_gLst {K : PySem.W.Frag} {H : Hp} {σ : L2.St} {v : V} {n : Nat} {t : TGs} {N : L2.St → Hp → Prop} {F0 H0 B F : Hp} {own : List Hp} {ds : List PyData} (m : Mem F0 H0 B F H own) (h : Da F v (.list ds)) (hn : ds.length = n) (q : ∀ xs, DaA F xs ds → t xs σ H N) : gLst K n t v σ H N := by
  obtain ⟨a, xs, rfl, e, aa⟩ := h.of_lst
  exact ⟨a, xs, rfl, SqL.of (m.fh _ _ e), by rw [aa.length]; exact hn, q xs aa⟩
/-- some of the owned regions, in an order of one's own -/
theorem Mem.idx {F0 H0 B F H : Hp} {own : List Hp} (m : Mem F0 H0 B F H own) (is : List Nat) (hn : is.Nodup) (hl : ∀ i ∈ is, i < own.length) : Mem F0 H0 B F H (is.map fun i => own.getD i emp) := by
  have gd : ∀ {i : Nat} (q : i < own.length), own.getD i emp = own[i] := fun {i} q => by
    rw [List.getD_eq_getElem?_getD, List.getElem?_eq_getElem q]
    rfl
  have mem : ∀ R ∈ (is.map fun i => own.getD i emp), R ∈ own := fun R h => by
    obtain ⟨i, hi, rfl⟩ := List.mem_map.mp h
    have q := hl i hi
    rw [gd q]
    exact List.getElem_mem q
  refine ⟨m.ff, m.fh, fun R h => m.oh R (mem R h), fun R h => m.fo R (mem R h), ?_, m.keep, m.dom, m.newF, fun R h => m.newO R (mem R h)⟩
  have pw := List.pairwise_iff_getElem.mp m.oo
  rw [List.pairwise_map]
  refine List.Pairwise.imp_of_mem (R := fun a b => a ≠ b) (fun {a b} ha hb hab => ?_) hn
  have qa := hl a ha
  have qb := hl b hb
  rw [gd qa, gd qb]
  rcases Nat.lt_or_gt_of_ne hab with h | h
  · exact pw a b qa qb h
  · exact (pw b a qb qa h).symm
end DL

/-! DLx: errors of the program's own. -/
namespace DL
open PySem PySem.Spec PyProof.Rows L2

/-- an error class of the text, over ValueError -/
structure ExcAt (K : PySem.W.Frag) (mg : Str → Option Value) (x : Str) (C : Addr) : Prop where
  g : mg x = some (.ref C)
  e : PySem.W.excIn K C He.veBase "ValueError.__new__" = true
  k : PySem.W.keepIn K (.ref C) = true
  s : PySem.W.subIn K (.ref C) (.type "BaseException") = some true
  t : PySem.W.typeIn K (.ref C) = some (.type "type")
abbrev WO (E : XK) : WX := fun cls d _ H => E cls d H
def tRz (W : WX) (C : Addr) : TS := fun _ σ H => W (.ref C) Option.none σ H
theorem ps_rz {X : Cx} {W : WX} {x m : Str} {j : Nat} {p p2 pos pos2 : Pos} {C : Addr} (hc : X.calm = true) (tk : Takes X W) (A : ExcAt X.K X.mg x C) (hg : Gl X x) (hdb : (x == ("__debug__" : Str)) = false := by decide) :
    PS X (.Raise (some (.Call (.Name x p) [.Constant (.str m) j p2] [] pos)) none pos2) (tRz W C) :=
  ps_raise hc tk (pmk_own PySem.F.excBase_ValueError A.e A.g A.k (raises_own A.s A.t) hg hdb)
theorem s_rz {W : WX} {C : Addr} {D : Ends} {σ : L2.St} {H : Hp} (q : W (.ref C) Option.none σ H) : tRz W C D σ H := q
/-- try .. except x: suite -/
def tTry (K : PySem.W.Frag) (c : Value) (tb : WX → TS) (ts : Addr → Value → Option Addr → TS) (Wout : WX) : TS := fun D σ H => tb (wOnly K c ts Wout D) D σ H
theorem ps_tr {X : Cx} {x : Str} {C : Addr} {body suite : List Stmt} {b₀ : Stmt} {np pos pos' : Pos} {tb : WX → TS} {ts : Addr → Value → Option Addr → TS} {Wout : WX} (hs : X.stack = X.env :: X.outer) (hf : X.env.frame = some X.env.locals) (hg : Gl X x) (A : ExcAt X.K X.mg x C) (tk : Takes X Wout)
    (hb : ∀ (W : WX) (pn : List (Addr × Obj)) (xe : Value → Shared → Prop), Takes (X.tr pn xe) W → PassesOwn (model X.prog X.w) X.A X.env xe → PSs (X.tr pn xe) body (tb W))
    (hsu : ∀ (a : Addr) (oe : Obj) (cls : Value) (d : Option Addr) (pn : List (Addr × Obj)), Zc cls d oe → (∃ vs, oe.data = .fields vs) → PSs (X.suite a ((a, oe) :: pn)) (b₀ :: suite) (ts a cls d)) (hdb : (x == ("__debug__" : Str)) = false := by decide) :
    PS X (.Try body [.ExceptHandler (some (.Name x np)) none (b₀ :: suite) pos'] [] [] pos) (tTry X.K (.ref C) tb ts Wout) :=
  ps_try_only hs hf ⟨hg, hdb, .inl A.g⟩ tk hb hsu
theorem s_try {K : PySem.W.Frag} {c : Value} {tb : WX → TS} {ts : Addr → Value → Option Addr → TS} {Wout : WX} {D : Ends} {σ : L2.St} {H : Hp} (q : tb (wOnly K c ts Wout D) D σ H) : tTry K c tb ts Wout D σ H := q
/-- the error that the clause names has come -/
theorem s_caught {K : PySem.W.Frag} {C : Addr} {ts : Addr → Value → Option Addr → TS} {Wout : WX} {D : Ends} {σ : L2.St} {H : Hp} {d : Option Addr} (h : PySem.W.exmOne K (.ref C) (.ref C) = some true) (q : ∀ a, H a = Option.none → ts a (.ref C) d D σ H) : wOnly K (.ref C) ts Wout D (.ref C) d σ H :=
  ⟨true, h, fun _ a ha => q a ha, fun z => Bool.noConfusion z⟩
/-! calls within a try -/
def tMethS (C : Addr) (m : Str) (sp : Sp) (E : L2.St → XK) (ta : TE) (t : TA) : TE := fun σ H Q => ta σ H fun x H1 => ∃ a dx fs, x = .ref a ∧ H1 a = some (.ins C dx fs) ∧ fs.lookup m = Option.none ∧ t σ H1 fun vs H2 => sp (x :: vs) H2 Q (E σ)
section
variable {X : Cx} {CX : CXT} {k : Nat} {C : Addr} {ps : List Str} {sp : Sp} {E : L2.St → XK} {x m : Str} {p pos apos : Pos} {e o : Expr} {es : List Expr} {ta : TE} {t : TA}
theorem pe_mS {pl : Sem Bool} (G : FnM X.prog X.w X.K X.mg X.base CX C m k ps sp) (he : PE X o ta) (c : Cls X.K C) (hr : Room k X.A) (hx : ∀ σ, PassesAt CX X σ (E σ)) (ha : PA X (e :: es) t)
    (hst : starEach (e :: es) X.env = (false, eval e X.env) :: starEach es X.env := by rfl) (hpl : (backTo pos (starEach es X.env)).any (·.1) = false := by rfl)
    (ht : eval (.Call (.Attribute o m apos) (e :: es) [] pos) X.env = (do
      let ov ← eval o X.env
      standAt apos.atName
      let (f, first) ← holding [ov] (getMethod ov m pl)
      callWith pos f first (backTo pos (starEach (e :: es) X.env)) (backToKw pos (keywordEach [] X.env))) := by rfl) :
    PE X (.Call (.Attribute o m apos) (e :: es) [] pos) (tMethS C m sp E ta t) := by
  obtain ⟨f, fd, hm, hb, F⟩ := G.ex
  refine ⟨fun pins s σ H Q I h => ?_⟩
  refine PySem.W.methodCall_KW (pl := pl) (thn (he.run pins s σ H _ I h) fun u s1 ⟨x, H1, I1, rx, a, dx, fs, ex, ea, l, q⟩ => ?_) ht
  subst ex
  obtain rfl : u = Value.ref a := rx
  refine getmeth_ok I1 ea c hm l ?_
  refine PySem.W.callWith_K (first := [.ref a]) (h₀ := X.base) I.ok.mod.kin hm.kp (thn (ha.run pos pins s1 σ H1 _ I1 q) fun us s2 ⟨vs, H2, I2, r, q2⟩ => ⟨I2.kIn, ?_⟩) hst hpl
  exact run_fnS (us := .ref a :: us) (vs := .ref a :: vs) F hr hb (hx σ) I2 (.cons rfl r) q2
theorem pe_mS0 {pl : Sem Bool} (G : FnM X.prog X.w X.K X.mg X.base CX C m k ps sp) (he : PE X o ta) (c : Cls X.K C) (hr : Room k X.A) (hx : ∀ σ, PassesAt CX X σ (E σ))
    (ht : eval (.Call (.Attribute o m apos) [] [] pos) X.env = (do
      let ov ← eval o X.env
      standAt apos.atName
      let (f, first) ← holding [ov] (getMethod ov m pl)
      callWith pos f first (backTo pos (starEach [] X.env)) (backToKw pos (keywordEach [] X.env))) := by rfl) :
    PE X (.Call (.Attribute o m apos) [] [] pos) (tMethS C m sp E ta tNil) := by
  obtain ⟨f, fd, hm, hb, F⟩ := G.ex
  refine ⟨fun pins s σ H Q I h => ?_⟩
  refine PySem.W.methodCall_KW (pl := pl) (thn (he.run pins s σ H _ I h) fun u s1 ⟨x, H1, I1, rx, a, dx, fs, ex, ea, l, q⟩ => ?_) ht
  subst ex
  obtain rfl : u = Value.ref a := rx
  refine getmeth_ok I1 ea c hm l ?_
  refine PySem.W.callWith_K0 I1.kIn hm.kp ?_
  exact run_fnS (us := [.ref a]) (vs := [.ref a]) F hr hb (hx σ) I1 (.cons rfl .nil) q
theorem pe_fS (G : FnE X.prog X.w X.K X.mg X.base CX x k ps sp) (hr : Room k X.A) (hg : Gl X x) (hx : ∀ σ, PassesAt CX X σ (E σ))
    (ha : PA X (e :: es) t) (hdb : (x == ("__debug__" : Str)) = false := by decide) (he : starEach (e :: es) X.env = (false, eval e X.env) :: starEach es X.env := by rfl) (hpl : (backTo pos (starEach es X.env)).any (·.1) = false := by rfl) :
    PE X (.Call (.Name x p) (e :: es) [] pos) (tCallS sp E t) := by
  obtain ⟨f, fd, hm, hk, hb, F⟩ := G.ex
  exact pe_callS F hr hg hm hk hb hx ha hdb he hpl
end
section
variable {σ : L2.St} {H : Hp} {Q : VK} {ta : TE} {t : TA} {C : Addr} {m : Str} {sp : Sp} {E : L2.St → XK} {a dx : Addr} {fs : List (Str × V)}
def mtS (C : Addr) (m : Str) (sp : Sp) (E : L2.St → XK) (t : TA) (σ : L2.St) (Q : VK) : VK := fun x H1 => ∃ a dx fs, x = .ref a ∧ H1 a = some (.ins C dx fs) ∧ fs.lookup m = Option.none ∧ t σ H1 fun vs H2 => sp (x :: vs) H2 Q (E σ)
theorem s_methS (q : ta σ H (mtS C m sp E t σ Q)) : tMethS C m sp E ta t σ H Q := q
theorem s_mtS (h : H a = some (.ins C dx fs)) (hl : fs.lookup m = Option.none) (q : t σ H fun vs H2 => sp (.ref a :: vs) H2 Q (E σ)) : mtS C m sp E t σ Q (.ref a) H := ⟨a, dx, fs, rfl, h, hl, q⟩
theorem s_callS (q : t σ H fun vs H1 => sp vs H1 Q (E σ)) : tCallS sp E t σ H Q := q
end
/-! augmented fields -/
section
variable {σ : L2.St} {H : Hp} {ta tv : TE} {f : Str} {K : PySem.W.Frag} {rd : V → V → Hp → VK → Prop} {n b c : L2.St → Hp → Prop} {r : VK} {a C dx : Addr} {fs : List (Str × V)} {v : V}
def faK (K : PySem.W.Frag) (f : Str) (tv : TE) (rd : V → V → Hp → VK → Prop) (n : L2.St → Hp → Prop) (σ : L2.St) : VK := fun x H1 => ∃ a C dx fs v, x = .ref a ∧ H1 a = some (.ins C dx fs) ∧ Cls K C ∧ NoAttr K C f ∧ fs.lookup f = some v ∧
  tv σ H1 fun y H2 => rd v y H2 fun z H3 => ∃ dx' fs', H3 a = some (.ins C dx' fs') ∧ fs'.length < 1000 ∧ n σ (upd H3 a (.ins C dx' (putF f z fs')))
theorem s_fldaug (q : ta σ H (faK K f tv rd n σ)) : sFldAug K ta tv rd f ⟨n, r, b, c⟩ σ H := q
/-- an int field goes on by an int that stands in the text -/
theorem s_fa {i j : Int} (h : H a = some (.ins C dx fs)) (hc : Cls K C) (hn : NoAttr K C f) (hl : fs.lookup f = some (.int i)) (hz : fs.length < 1000) (q : n σ (upd H a (.ins C dx (putF f (.int (i + j)) fs)))) : faK K f (tC (.int j)) rAdd n σ (.ref a) H :=
  ⟨a, C, dx, fs, _, rfl, h, hc, hn, hl, ⟨i, j, rfl, rfl, dx, fs, h, hz, q⟩⟩
end
end DL

namespace K11
open PySem PySem.Spec PyProof.Rows L2 DL
local macro_rules | `(tactic| tm_at "dl hp") => `(tactic| (first | assumption | exact Mem.at0 (by assumption) | exact Mem.at1 (by assumption) | exact Mem.at2 (by assumption) | exact Mem.at3 (by assumption)))
local macro_rules | `(tactic| tm_at "dl ch") => `(tactic| (repeat (first | exact L2.Same.refl _ | assumption | refine L2.Same.trans ?_ (by assumption))))
local macro_rules | `(tactic| tm_at "dl da") => `(tactic| (first | assumption | (refine Da.mono ?_ (by assumption); (repeat (first | exact L2.Same.refl _ | assumption | refine L2.Same.trans ?_ (by assumption))))))
local macro_rules | `(tactic| tm_at "dl st") => `(tactic| (first | ((with_reducible show tVar _ _ _ _); refine s_var (by rfl) ?_) | with_reducible refine s_seq ?_ | with_reducible refine s_asg ?_ | with_reducible refine s_op ?_ | with_reducible refine s_un ?_ | with_reducible refine s_c ?_ | with_reducible refine s_call ?_ | with_reducible refine s_cons ?_ | with_reducible refine s_nil ?_ | with_reducible refine s_CB ?_ | with_reducible refine s_test ?_ | with_reducible refine s_tB ?_ | with_reducible refine s_tq ?_ | with_reducible refine s_if ?_ | with_reducible refine s_drop ?_ | with_reducible refine s_ret ?_ | with_reducible refine s_retN ?_ | with_reducible refine s_next ?_ | with_reducible refine s_brk ?_ | with_reducible refine s_cont ?_ | with_reducible refine s_name ?_ | with_reducible refine s_I0 ?_ | with_reducible refine s_U ?_ | with_reducible refine s_eqI ?_ | with_reducible refine s_eqS ?_ | with_reducible refine s_eqB ?_ | with_reducible refine s_neI ?_ | with_reducible refine s_neS ?_ | with_reducible refine s_neB ?_ | with_reducible refine s_isN0 ?_ | with_reducible refine s_isNI ?_ | with_reducible refine s_isNS ?_ | with_reducible refine s_isNR ?_ | with_reducible refine s_isNB ?_ | with_reducible refine s_notN0 ?_ | with_reducible refine s_notNI ?_ | with_reducible refine s_notNS ?_ | with_reducible refine s_notNR ?_ | with_reducible refine iteNT ?_ | with_reducible refine iteNF ?_ | with_reducible refine s_not ?_ | with_reducible refine s_and ?_ | with_reducible refine s_or ?_ | with_reducible refine s_ifE ?_ | with_reducible refine s_andV ?_ | with_reducible refine s_orV ?_ | with_reducible refine s_notV ?_ | with_reducible refine s_tup ?_ | with_reducible refine s_lst ?_ | with_reducible refine s_sub ?_ | with_reducible refine s_gCons ?_ | with_reducible refine s_gNil ?_ | with_reducible refine s_ipI ?_ | with_reducible refine s_for ?_ | with_reducible refine s_lc ?_ | with_reducible refine s_yes ?_ | with_reducible refine s_iList ?_ | with_reducible refine s_iTup ?_ | with_reducible refine s_iRng1 ?_ | with_reducible refine s_iRng2 ?_ | with_reducible refine s_iZip ?_ | with_reducible refine s_iEnum ?_ | with_reducible refine s_iStr ?_ | with_reducible refine s_st ?_ | with_reducible refine iteT ?_ | with_reducible refine iteF ?_ | with_reducible refine s_BM ?_ | with_reducible refine s_tyS ?_ | with_reducible refine s_int ?_ | with_reducible refine s_intB ?_ | with_reducible refine s_min ?_ | with_reducible refine s_max ?_ | with_reducible refine s_sl ?_ | with_reducible refine s_noP ?_ | with_reducible refine s_meth ?_ | with_reducible refine s_fld ?_ | with_reducible refine s_sfld ?_ | with_reducible refine s_make ?_ | with_reducible refine s_part ?_ | with_reducible refine s_pt ?_ | with_reducible refine s_augS ?_ | with_reducible refine s_fldaug ?_ | with_reducible refine s_inadd ?_ | with_reducible refine s_try ?_ | with_reducible refine s_methS ?_ | with_reducible refine s_callS ?_ | with_reducible refine s_rz ?_ | ((with_reducible show tAug _ _ _ _ _ _); refine s_aug (by rfl) ?_) | ((with_reducible show rI _ _ _ _ _ _); refine s_I (by first | (show (0 : Int) < _; decide) | (exact ⟨by decide, by decide⟩) | (exact .inr ⟨by decide, by decide⟩) | (exact .inl ⟨by decide, by decide⟩) | (exact ⟨by decide, by decide, by decide⟩)) ?_) | ((with_reducible show rIsi _ _ _ _); first | refine m_isi (by assumption) (by assumption) (r := true) (by dsimp only [tyD]; decide +kernel) ?_ | refine m_isi (by assumption) (by assumption) (r := false) (by dsimp only [tyD]; decide +kernel) ?_) | ((with_reducible show tyV _ _ _ _ ∧ _); refine s_tyL (by (first | assumption | exact Mem.at0 (by assumption) | exact Mem.at1 (by assumption) | exact Mem.at2 (by assumption) | exact Mem.at3 (by assumption))) ?_) | ((with_reducible show rIxL _ _ _ _ _); refine s_ixL (by (first | assumption | exact Mem.at0 (by assumption) | exact Mem.at1 (by assumption) | exact Mem.at2 (by assumption) | exact Mem.at3 (by assumption))) (by rfl) ?_)))
local macro_rules | `(tactic| tm_at "dl go") => `(tactic| (repeat (first | ((with_reducible show tVar _ _ _ _); refine s_var (by rfl) ?_) | with_reducible refine s_seq ?_ | with_reducible refine s_asg ?_ | with_reducible refine s_op ?_ | with_reducible refine s_un ?_ | with_reducible refine s_c ?_ | with_reducible refine s_call ?_ | with_reducible refine s_cons ?_ | with_reducible refine s_nil ?_ | with_reducible refine s_CB ?_ | with_reducible refine s_test ?_ | with_reducible refine s_tB ?_ | with_reducible refine s_tq ?_ | with_reducible refine s_if ?_ | with_reducible refine s_drop ?_ | with_reducible refine s_ret ?_ | with_reducible refine s_retN ?_ | with_reducible refine s_next ?_ | with_reducible refine s_brk ?_ | with_reducible refine s_cont ?_ | with_reducible refine s_name ?_ | with_reducible refine s_I0 ?_ | with_reducible refine s_U ?_ | with_reducible refine s_eqI ?_ | with_reducible refine s_eqS ?_ | with_reducible refine s_eqB ?_ | with_reducible refine s_neI ?_ | with_reducible refine s_neS ?_ | with_reducible refine s_neB ?_ | with_reducible refine s_isN0 ?_ | with_reducible refine s_isNI ?_ | with_reducible refine s_isNS ?_ | with_reducible refine s_isNR ?_ | with_reducible refine s_isNB ?_ | with_reducible refine s_notN0 ?_ | with_reducible refine s_notNI ?_ | with_reducible refine s_notNS ?_ | with_reducible refine s_notNR ?_ | with_reducible refine iteNT ?_ | with_reducible refine iteNF ?_ | with_reducible refine s_not ?_ | with_reducible refine s_and ?_ | with_reducible refine s_or ?_ | with_reducible refine s_ifE ?_ | with_reducible refine s_andV ?_ | with_reducible refine s_orV ?_ | with_reducible refine s_notV ?_ | with_reducible refine s_tup ?_ | with_reducible refine s_lst ?_ | with_reducible refine s_sub ?_ | with_reducible refine s_gCons ?_ | with_reducible refine s_gNil ?_ | with_reducible refine s_ipI ?_ | with_reducible refine s_for ?_ | with_reducible refine s_lc ?_ | with_reducible refine s_yes ?_ | with_reducible refine s_iList ?_ | with_reducible refine s_iTup ?_ | with_reducible refine s_iRng1 ?_ | with_reducible refine s_iRng2 ?_ | with_reducible refine s_iZip ?_ | with_reducible refine s_iEnum ?_ | with_reducible refine s_iStr ?_ | with_reducible refine s_st ?_ | with_reducible refine iteT ?_ | with_reducible refine iteF ?_ | with_reducible refine s_BM ?_ | with_reducible refine s_tyS ?_ | with_reducible refine s_int ?_ | with_reducible refine s_intB ?_ | with_reducible refine s_min ?_ | with_reducible refine s_max ?_ | with_reducible refine s_sl ?_ | with_reducible refine s_noP ?_ | with_reducible refine s_meth ?_ | with_reducible refine s_fld ?_ | with_reducible refine s_sfld ?_ | with_reducible refine s_make ?_ | with_reducible refine s_part ?_ | with_reducible refine s_pt ?_ | with_reducible refine s_augS ?_ | with_reducible refine s_fldaug ?_ | with_reducible refine s_inadd ?_ | with_reducible refine s_try ?_ | with_reducible refine s_methS ?_ | with_reducible refine s_callS ?_ | with_reducible refine s_rz ?_ | ((with_reducible show tAug _ _ _ _ _ _); refine s_aug (by rfl) ?_) | ((with_reducible show rI _ _ _ _ _ _); refine s_I (by first | (show (0 : Int) < _; decide) | (exact ⟨by decide, by decide⟩) | (exact .inr ⟨by decide, by decide⟩) | (exact .inl ⟨by decide, by decide⟩) | (exact ⟨by decide, by decide, by decide⟩)) ?_) | ((with_reducible show rIsi _ _ _ _); first | refine m_isi (by assumption) (by assumption) (r := true) (by dsimp only [tyD]; decide +kernel) ?_ | refine m_isi (by assumption) (by assumption) (r := false) (by dsimp only [tyD]; decide +kernel) ?_) | ((with_reducible show tyV _ _ _ _ ∧ _); refine s_tyL (by (first | assumption | exact Mem.at0 (by assumption) | exact Mem.at1 (by assumption) | exact Mem.at2 (by assumption) | exact Mem.at3 (by assumption))) ?_) | ((with_reducible show rIxL _ _ _ _ _); refine s_ixL (by (first | assumption | exact Mem.at0 (by assumption) | exact Mem.at1 (by assumption) | exact Mem.at2 (by assumption) | exact Mem.at3 (by assumption))) (by rfl) ?_))))

def top (i : Nat) : Stmt := PySem.Challenge.pw_gridwhole_k11_records.main.body.getD i (.Pass ⟨0, 0, 0, 0⟩)
abbrev s__law_mix : Stmt := top 16
abbrev n__law_mix : List Str := ["cell", "k", "value"]
theorem sc__law_mix : FnScope ["cell", "k", "value"] ["cell", "k"] (defScope s__law_mix) := ⟨rfl, rfl, rfl, by decide +kernel, rfl, by decide +kernel, by decide +kernel⟩
theorem bd__law_mix : Bnd "_law_mix" s__law_mix ["cell", "k"] := fun _ _ _ _ _ _ us hl => match us, hl with | [_, _], _ => rfl
abbrev s__law_draws : Stmt := top 17
abbrev n__law_draws : List Str := ["script", "draws", "k", "cell", "place"]
theorem sc__law_draws : FnScope ["script", "draws", "k", "cell", "place"] ["script"] (defScope s__law_draws) := ⟨rfl, rfl, rfl, by decide +kernel, rfl, by decide +kernel, by decide +kernel⟩
theorem bd__law_draws : Bnd "_law_draws" s__law_draws ["script"] := fun _ _ _ _ _ _ us hl => match us, hl with | [_], _ => rfl
abbrev s__law_at : Stmt := top 18
abbrev n__law_at : List Str := ["draws", "index"]
theorem sc__law_at : FnScope ["draws", "index"] ["draws", "index"] (defScope s__law_at) := ⟨rfl, rfl, rfl, by decide +kernel, rfl, by decide +kernel, by decide +kernel⟩
theorem bd__law_at : Bnd "_law_at" s__law_at ["draws", "index"] := fun _ _ _ _ _ _ us hl => match us, hl with | [_, _], _ => rfl
abbrev s__law_is_integer : Stmt := top 19
abbrev n__law_is_integer : List Str := ["actual"]
theorem sc__law_is_integer : FnScope ["actual"] ["actual"] (defScope s__law_is_integer) := ⟨rfl, rfl, rfl, by decide +kernel, rfl, by decide +kernel, by decide +kernel⟩
theorem bd__law_is_integer : Bnd "_law_is_integer" s__law_is_integer ["actual"] := fun _ _ _ _ _ _ us hl => match us, hl with | [_], _ => rfl
abbrev s__law_same : Stmt := top 20
abbrev n__law_same : List Str := ["actual", "expected", "k"]
theorem sc__law_same : FnScope ["actual", "expected", "k"] ["actual", "expected"] (defScope s__law_same) := ⟨rfl, rfl, rfl, by decide +kernel, rfl, by decide +kernel, by decide +kernel⟩
theorem bd__law_same : Bnd "_law_same" s__law_same ["actual", "expected"] := fun _ _ _ _ _ _ us hl => match us, hl with | [_, _], _ => rfl
abbrev s__law_next : Stmt := top 21
abbrev n__law_next : List Str := ["state", "limit"]
theorem sc__law_next : FnScope ["state", "limit"] ["state", "limit"] (defScope s__law_next) := ⟨rfl, rfl, rfl, by decide +kernel, rfl, by decide +kernel, by decide +kernel⟩
theorem bd__law_next : Bnd "_law_next" s__law_next ["state", "limit"] := fun _ _ _ _ _ _ us hl => match us, hl with | [_, _], _ => rfl
abbrev s_Reader___init__ : Stmt := inClass (top 6) 0
abbrev n_Reader___init__ : List Str := ["self", "data"]
theorem sc_Reader___init__ : FnScope ["self", "data"] ["self", "data"] (defScope s_Reader___init__) := ⟨rfl, rfl, rfl, by decide +kernel, rfl, by decide +kernel, by decide +kernel⟩
theorem bd_Reader___init__ : BndM "__init__" "Reader.__init__" s_Reader___init__ ["self", "data"] := fun _ _ _ _ _ _ us hl => match us, hl with | [_, _], _ => rfl
abbrev s_Reader_read_byte : Stmt := inClass (top 6) 1
abbrev n_Reader_read_byte : List Str := ["self"]
theorem sc_Reader_read_byte : FnScope ["self"] ["self"] (defScope s_Reader_read_byte) := ⟨rfl, rfl, rfl, by decide +kernel, rfl, by decide +kernel, by decide +kernel⟩
theorem bd_Reader_read_byte : BndM "read_byte" "Reader.read_byte" s_Reader_read_byte ["self"] := fun _ _ _ _ _ _ us hl => match us, hl with | [_], _ => rfl
abbrev s_Reader_read_number : Stmt := inClass (top 6) 4
abbrev n_Reader_read_number : List Str := ["self", "total", "factor", "index", "byte"]
theorem sc_Reader_read_number : FnScope ["self", "total", "factor", "index", "byte"] ["self"] (defScope s_Reader_read_number) := ⟨rfl, rfl, rfl, by decide +kernel, rfl, by decide +kernel, by decide +kernel⟩
theorem bd_Reader_read_number : BndM "read_number" "Reader.read_number" s_Reader_read_number ["self"] := fun _ _ _ _ _ _ us hl => match us, hl with | [_], _ => rfl
abbrev s_write_number : Stmt := top 8
abbrev n_write_number : List Str := ["number", "data"]
theorem sc_write_number : FnScope ["number", "data"] ["number"] (defScope s_write_number) := ⟨rfl, rfl, rfl, by decide +kernel, rfl, by decide +kernel, by decide +kernel⟩
theorem bd_write_number : Bnd "write_number" s_write_number ["number"] := fun _ _ _ _ _ _ us hl => match us, hl with | [_], _ => rfl
abbrev s_checksum : Stmt := top 11
abbrev n_checksum : List Str := ["data", "total", "byte"]
theorem sc_checksum : FnScope ["data", "total", "byte"] ["data"] (defScope s_checksum) := ⟨rfl, rfl, rfl, by decide +kernel, rfl, by decide +kernel, by decide +kernel⟩
theorem bd_checksum : Bnd "checksum" s_checksum ["data"] := fun _ _ _ _ _ _ us hl => match us, hl with | [_], _ => rfl
abbrev s_write_record : Stmt := top 12
abbrev n_write_record : List Str := ["data", "total", "tail"]
theorem sc_write_record : FnScope ["data", "total", "tail"] ["data"] (defScope s_write_record) := ⟨rfl, rfl, rfl, by decide +kernel, rfl, by decide +kernel, by decide +kernel⟩
theorem bd_write_record : Bnd "write_record" s_write_record ["data"] := fun _ _ _ _ _ _ us hl => match us, hl with | [_], _ => rfl
abbrev s__law_number : Stmt := top 22
abbrev n__law_number : List Str := ["number", "data"]
theorem sc__law_number : FnScope ["number", "data"] ["number"] (defScope s__law_number) := ⟨rfl, rfl, rfl, by decide +kernel, rfl, by decide +kernel, by decide +kernel⟩
theorem bd__law_number : Bnd "_law_number" s__law_number ["number"] := fun _ _ _ _ _ _ us hl => match us, hl with | [_], _ => rfl
abbrev s__law_checksum : Stmt := top 23
abbrev n__law_checksum : List Str := ["data", "total", "byte"]
theorem sc__law_checksum : FnScope ["data", "total", "byte"] ["data"] (defScope s__law_checksum) := ⟨rfl, rfl, rfl, by decide +kernel, rfl, by decide +kernel, by decide +kernel⟩
theorem bd__law_checksum : Bnd "_law_checksum" s__law_checksum ["data"] := fun _ _ _ _ _ _ us hl => match us, hl with | [_], _ => rfl
abbrev s__law_record : Stmt := top 24
abbrev n__law_record : List Str := ["data", "total"]
theorem sc__law_record : FnScope ["data", "total"] ["data"] (defScope s__law_record) := ⟨rfl, rfl, rfl, by decide +kernel, rfl, by decide +kernel, by decide +kernel⟩
theorem bd__law_record : Bnd "_law_record" s__law_record ["data"] := fun _ _ _ _ _ _ us hl => match us, hl with | [_], _ => rfl
abbrev s__law_bytes : Stmt := top 25
abbrev n__law_bytes : List Str := ["state", "count", "pick", "start", "k"]
theorem sc__law_bytes : FnScope ["state", "count", "pick", "start", "k"] ["state"] (defScope s__law_bytes) := ⟨rfl, rfl, rfl, by decide +kernel, rfl, by decide +kernel, by decide +kernel⟩
theorem bd__law_bytes : Bnd "_law_bytes" s__law_bytes ["state"] := fun _ _ _ _ _ _ us hl => match us, hl with | [_], _ => rfl
abbrev s__law_behind : Stmt := top 26
abbrev n__law_behind : List Str := ["state", "data", "record", "further", "pick", "at", "size", "needless"]
theorem sc__law_behind : FnScope ["state", "data", "record", "further", "pick", "at", "size", "needless"] ["state"] (defScope s__law_behind) := ⟨rfl, rfl, rfl, by decide +kernel, rfl, by decide +kernel, by decide +kernel⟩
theorem bd__law_behind : Bnd "_law_behind" s__law_behind ["state"] := fun _ _ _ _ _ _ us hl => match us, hl with | [_], _ => rfl
abbrev s__read_size : Stmt := top 13
abbrev n__read_size : List Str := ["data", "start", "reader", "size"]
theorem sc__read_size : FnScope ["data", "start", "reader", "size"] ["data", "start"] (defScope s__read_size) := ⟨rfl, rfl, rfl, by decide +kernel, rfl, by decide +kernel, by decide +kernel⟩
theorem bd__read_size : Bnd "_read_size" s__read_size ["data", "start"] := fun _ _ _ _ _ _ us hl => match us, hl with | [_, _], _ => rfl
abbrev s_read_records : Stmt := top 14
abbrev n_read_records : List Str := ["data", "records", "start", "found", "begin", "size", "record", "end"]
theorem sc_read_records : FnScope ["data", "records", "start", "found", "begin", "size", "record", "end"] ["data"] (defScope s_read_records) := ⟨rfl, rfl, rfl, by decide +kernel, rfl, by decide +kernel, by decide +kernel⟩
theorem bd_read_records : Bnd "read_records" s_read_records ["data"] := fun _ _ _ _ _ _ us hl => match us, hl with | [_], _ => rfl
abbrev s_law : Stmt := top 27
abbrev n_law : List Str := ["script", "state", "records", "data", "sizes", "record", "passed", "whole", "k", "end", "count", "size"]
theorem sc_law : FnScope ["script", "state", "records", "data", "sizes", "record", "passed", "whole", "k", "end", "count", "size"] ["script"] (defScope s_law) := ⟨rfl, rfl, rfl, by decide +kernel, rfl, by decide +kernel, by decide +kernel⟩
theorem bd_law : Bnd "law" s_law ["script"] := fun _ _ _ _ _ _ us hl => match us, hl with | [_], _ => rfl
structure Tx (K : PySem.W.Frag) (mg : Str → Option Value) : Prop where
  b_bool : mg "bool" = none
  b_int : mg "int" = none
  b_isinstance : mg "isinstance" = none
  b_len : mg "len" = none
  b_list : mg "list" = none
  b_min : mg "min" = none
  b_range : mg "range" = none
  b_str : mg "str" = none
  b_tuple : mg "tuple" = none
  c_NUMBER_BYTES : ∃ t, mg "NUMBER_BYTES" = some (.int 60 t)
  c_CHECKSUM_LIMIT : ∃ t, mg "CHECKSUM_LIMIT" = some (.int 4294967296 t)
  cl_Reader : Cls K (He.ga K "Reader")
  na_Reader_data : NoAttr K (He.ga K "Reader") "data"
  na_Reader_at : NoAttr K (He.ga K "Reader") "at"
  x_DamagedPacket : ExcAt K mg "DamagedPacket" (He.ga K "DamagedPacket")
  xm_DamagedPacket : PySem.W.exmOne K (.ref (He.ga K "DamagedPacket")) (.ref (He.ga K "DamagedPacket")) = some true
  i_Reader : IniAt K mg "Reader" (He.ga K "Reader") "Reader.__init__" s_Reader___init__
  m_Reader_read_byte : MetAt K (He.ga K "Reader") "read_byte" "Reader.read_byte" s_Reader_read_byte
  m_Reader_read_number : MetAt K (He.ga K "Reader") "read_number" "Reader.read_number" s_Reader_read_number
  d_write_number : DefAt K mg "write_number" s_write_number
  d_checksum : DefAt K mg "checksum" s_checksum
  d_write_record : DefAt K mg "write_record" s_write_record
  d__read_size : DefAt K mg "_read_size" s__read_size
  d_read_records : DefAt K mg "read_records" s_read_records
  d__law_mix : DefAt K mg "_law_mix" s__law_mix
  d__law_draws : DefAt K mg "_law_draws" s__law_draws
  d__law_at : DefAt K mg "_law_at" s__law_at
  d__law_is_integer : DefAt K mg "_law_is_integer" s__law_is_integer
  d__law_same : DefAt K mg "_law_same" s__law_same
  d__law_next : DefAt K mg "_law_next" s__law_next
  d__law_number : DefAt K mg "_law_number" s__law_number
  d__law_checksum : DefAt K mg "_law_checksum" s__law_checksum
  d__law_record : DefAt K mg "_law_record" s__law_record
  d__law_bytes : DefAt K mg "_law_bytes" s__law_bytes
  d__law_behind : DefAt K mg "_law_behind" s__law_behind
  d_law : DefAt K mg "law" s_law
section
variable {P : Program} {w : World} {K : PySem.W.Frag} {mg : Str → Option Value} {base : Heap}
/-! draws: _law_mix, _law_draws, _law_at -/
def sp__law_mix : Sp := fun vs H Q _ => ∃ c k : Int, vs = [.int c, .int k] ∧ ∀ z, 0 ≤ z → z < 9973 → Q (.int z) H
theorem ok__law_mix (T : Tx K mg) : FnE P w K mg base CX0 "_law_mix" 1 ["cell", "k"] sp__law_mix := by
  refine fnE T.d__law_mix sc__law_mix bd__law_mix (fun vs H Q E h => ?_) (fun f cdv A outer s H vs Q E hr h => ?_)
  · obtain ⟨c, k, rfl, _⟩ := h
    rfl
  obtain ⟨c, k, rfl, q⟩ := h
  refine ⟨_, (pss_cons (ps_set (i := 2) sc__law_mix.nd rfl (Or.inl rfl) (pe_op op_mod (pe_callTy c_int (by rfl) T.b_int DL.bt_int (pa_cons (pe_op op_add (pe_op op_add (pe_op op_mul (pe_callTy c_int (by rfl) T.b_int DL.bt_int (pa_cons (pv 0) pa_nil)) pe_int) (pe_op op_mul (pv 1) pe_int)) pe_int) pa_nil)) pe_int))
  (pss_cons (ps_set (i := 2) sc__law_mix.nd rfl (Or.inl rfl) (pe_op op_mod (pe_callTy c_int (by rfl) T.b_int DL.bt_int (pa_cons (pe_op op_add (pe_op op_add (pe_op op_mul (pv 2) (pv 2)) (pe_op op_mul (pv 1) pe_int)) pe_int) pa_nil)) pe_int))
  (pss_one (ps_ret (pe_op op_mod (pe_op op_fdiv (pv 2) pe_int) pe_int))))), ?_⟩
  (tm_at "dl go")
  have h0 := Int.emod_nonneg (c * 48271 + k * 69621 + 12345) (show (2147483647 : Int) ≠ 0 by decide)
  have h1 := Int.emod_lt_of_pos (c * 48271 + k * 69621 + 12345) (show (0 : Int) < 2147483647 by decide)
  generalize (c * 48271 + k * 69621 + 12345) % 2147483647 = v at h0 h1 ⊢
  refine s_I (.inl ⟨by omega, by omega⟩) ?_
  (tm_at "dl go")
  exact q _ (Int.emod_nonneg _ (by decide)) (Int.emod_lt_of_pos _ (by decide))
def Zs (zs : List Int) : Prop := (∀ z ∈ zs, 0 ≤ z ∧ z < 9973) ∧ zs.length ≤ 4000
def sp__law_draws (K : PySem.W.Frag) : Sp := fun vs H Q _ => ∃ (a : Addr) (ns : List Int), vs = [.ref a] ∧ SqL K H a (ns.map V.int) ∧ ns.length ≤ 63 ∧
  ∀ v F' H' zs, Go emp H emp F' H' emp → Da F' v (.list (zs.map PyData.int)) → Zs zs → Q v H'
theorem seq_keep {H : Hp} {F' H' : Hp} {own : List Hp} {a : Addr} {xs : List V} (m : Mem emp H emp F' H' own) (h : SqL K H a xs) : SqL K H' a xs := by
  have s : Same H H' := fun b o e => m.keep b o e rfl
  exact s.seq h
theorem ok__law_draws (T : Tx K mg) : FnE P w K mg base CX0 "_law_draws" 3 ["script"] (sp__law_draws K) := by
  refine fnE T.d__law_draws sc__law_draws bd__law_draws (fun vs H Q E h => ?_) (fun f cdv A outer s H vs Q E hr h => ?_)
  · obtain ⟨a, ns, rfl, _⟩ := h
    rfl
  obtain ⟨a, ns, rfl, hS, hl, q⟩ := h
  have M := Mem.start0 (emp_same (A := H))
  refine ⟨_, (pss_cons (ps_set (i := 1) sc__law_draws.nd rfl (Or.inl rfl) (pe_lst pa_nil))
  (pss_cons (ps_for PassesOwn.never rfl (pi_range1 rfl T.b_range (pa_cons (pe_callB (c_min2 rfl) (by rfl) T.b_min DL.bt_min (pa_cons pe_int (pa_cons (pe_callB c_lenQ (by rfl) T.b_len DL.bt_len (pa_cons (pv 0) pa_nil)) pa_nil))) pa_nil)) (pg_name (i := 2) sc__law_draws.nd rfl (Or.inl rfl))
  (pss_cons (ps_set (i := 3) sc__law_draws.nd rfl (Or.inl rfl) (pe_callTy c_int (by rfl) T.b_int DL.bt_int (pa_cons (pe_ix ix_list (pv 0) (pv 2) (fun _ _ => rfl)) pa_nil)))
  (pss_one (ps_if (pt_cmpR op_lt (pv 3) (pe_op op_pow pe_int pe_int) (nomark _))
  (pss_one (ps_expr (pe_bm PySem.F.plainAttrs_list PySem.F.slot_list_append PySem.F.type_list_append c_append (pv 1) (pa_cons (pe_fn (ok__law_mix T) (hr.mono (by first | decide | omega)) rfl pass0 (pa_cons (pv 3) (pa_cons (pv 2) pa_nil))) pa_nil))))
  (pss_one (ps_for PassesOwn.never rfl (pi_range1 rfl T.b_range (pa_cons pe_int pa_nil)) (pg_name (i := 4) sc__law_draws.nd rfl (Or.inl rfl))
  (pss_one (ps_if (pt_cmpR op_gt (pv 3) pe_int (nomark _))
  (pss_cons (ps_expr (pe_bm PySem.F.plainAttrs_list PySem.F.slot_list_append PySem.F.type_list_append c_append (pv 1) (pa_cons (pe_op op_mod (pe_callTy c_int (by rfl) T.b_int DL.bt_int (pa_cons (pv 3) pa_nil)) pe_int) pa_nil)))
  (pss_one (ps_set (i := 3) sc__law_draws.nd rfl (Or.inl rfl) (pe_op op_fdiv (pv 3) pe_int))))
  pss_nil))))))))
  (pss_one (ps_ret (pv 1))))), ?_⟩
  (tm_at "dl go")
  refine m_lz (by simp only [List.length_cons, List.length_nil]; decide) ?_
  refine m_lst M fun d H1 M1 => ?_
  (tm_at "dl go")
  refine ⟨a, _, rfl, .inl (seq_keep M1 hS), ?_⟩
  (tm_at "dl go")
  have e63 : (if ((ns.map V.int).length : Int) < 63 then ((ns.map V.int).length : Int) else 63) = (ns.length : Int) := by
    rw [List.length_map]
    split <;> omega
  rw [e63]
  refine s_r1 (by omega) (by omega) ?_
  refine m_forR M1 (fun i σ F' own => ∃ (zs : List Int) (u v w : Option V), σ = [some (.ref a), some (.ref d), u, v, w] ∧ own = [cell d (.lst (zs.map V.int))] ∧ (∀ z ∈ zs, 0 ≤ z ∧ z < 9973) ∧ zs.length ≤ 60 * i)
    ⟨[], _, _, _, rfl, rfl, fun z hz => (nomatch hz), Nat.zero_le _⟩ ?_ ?_
  · rintro i σ F2 H2 own hi s2 M2 ⟨zs, u, v, w, rfl, rfl, hz, hzl⟩
    have hi' : i < ns.length := by simpa using hi
    have ei : atI (ns.map V.int) (0 + (i : Int)) = some (V.int ns[i]) := atI_map (atI_at (j := i) (by omega) (List.getElem?_eq_getElem hi'))
    refine s_name ?_
    refine s_seq (s_asg ?_)
    refine s_CB (s_cons (s_op (s_var rfl (s_var rfl ?_))))
    refine s_ixQ (seq_keep M2 hS) ei ?_
    (tm_at "dl go")
    refine ite2 (fun h => ?_) (fun h => ?_)
    · (tm_at "dl go")
      refine ⟨_, _, rfl, fun z z0 z1 => ?_⟩
      (tm_at "dl go")
      refine m_app0 M2 (Nat.lt_of_le_of_lt (show _ ≤ 4000 by rw [List.length_map]; omega) (by decide)) fun H3 M3 => ?_
      (tm_at "dl go")
      refine Nx.mk s2 M3 ⟨zs ++ [z], _, _, _, rfl, by rw [List.map_append]; rfl, fun y hy => ?_, by rw [List.length_append, List.length_singleton]; omega⟩
      rcases List.mem_append.mp hy with h | h
      · exact hz y h
      · rw [List.mem_singleton.mp h]
        exact ⟨z0, z1⟩
    · (tm_at "dl go")
      refine s_r1 (by decide) (by decide) ?_
      refine m_forR M2 (fun j σ F' own => ∃ (zs' : List Int) (c : Int) (w : Option V), σ = [some (.ref a), some (.ref d), some (.int (0 + (i : Int))), some (.int c), w] ∧ own = [cell d (.lst (zs'.map V.int))] ∧ (∀ z ∈ zs', 0 ≤ z ∧ z < 9973) ∧ zs'.length ≤ 60 * i + j)
        ⟨zs, _, _, rfl, rfl, hz, by omega⟩ ?_ ?_
      · rintro j σ F3 H3 own hj s3 M3 ⟨zs', c, w', rfl, rfl, hz', hzl'⟩
        have hj' : j < 60 := by simpa using hj
        (tm_at "dl go")
        refine ite2 (fun h => ?_) (fun h => ?_)
        · (tm_at "dl go")
          refine m_app0 M3 (Nat.lt_of_le_of_lt (show _ ≤ 4000 by rw [List.length_map]; omega) (by decide)) fun H4 M4 => ?_
          (tm_at "dl go")
          refine Nx.mk s3 M4 ⟨zs' ++ [c % 9973], _, _, rfl, by rw [List.map_append]; rfl, fun y hy => ?_, by rw [List.length_append, List.length_singleton]; omega⟩
          rcases List.mem_append.mp hy with h | h
          · exact hz' y h
          · rw [List.mem_singleton.mp h]
            exact ⟨Int.emod_nonneg _ (by decide), Int.emod_lt_of_pos _ (by decide)⟩
        · (tm_at "dl go")
          exact Nx.mk s3 M3 ⟨zs', _, _, rfl, rfl, hz', by omega⟩
      · rintro σ F3 H3 own s3 M3 ⟨zs', c, w', rfl, rfl, hz', hzl'⟩
        have e60 : (60 : Int).toNat = 60 := rfl
        exact Nx.mk (s2.trans s3) M3 ⟨zs', _, _, _, rfl, rfl, hz', by omega⟩
  · rintro σ F2 H2 own s2 M2 ⟨zs, u, v, w, rfl, rfl, hz, hzl⟩
    (tm_at "dl go")
    obtain ⟨F3, M3, s3, d3⟩ := M2.data (ds := zs.map PyData.int) DaA.ints
    exact q _ _ _ _ M3.fin0 d3 ⟨hz, by simp at hzl; omega⟩
def sp__law_at : Sp := fun vs H Q _ => ∃ (F : Hp) (x : V) (zs : List Int) (i : Int), vs = [x, .int i] ∧ Same F H ∧ Da F x (.list (zs.map PyData.int)) ∧ Zs zs ∧ 0 ≤ i ∧ ∀ z, 0 ≤ z → z < 9973 → Q (.int z) H
theorem ok__law_at (T : Tx K mg) : FnE P w K mg base CX0 "_law_at" 3 ["draws", "index"] sp__law_at := by
  refine fnE T.d__law_at sc__law_at bd__law_at (fun vs H Q E h => ?_) (fun f cdv A outer s H vs Q E hr h => ?_)
  · obtain ⟨F, x, zs, i, rfl, _⟩ := h
    rfl
  obtain ⟨F, x, zs, i, rfl, hF, hx, ⟨hz, hzl⟩, i0, q⟩ := h
  have M := Mem.start0 hF
  refine ⟨_, (pss_cons (ps_if (pt_cmpR op_lt (pv 1) (pe_callB c_lenQ (by rfl) T.b_len DL.bt_len (pa_cons (pv 0) pa_nil)) (nomark _))
  (pss_one (ps_ret (pe_ix ix_list (pv 0) (pv 1) (fun _ _ => rfl))))
  pss_nil)
  (pss_cons (ps_if (pt_cmpR op_eq (pe_callB c_lenQ (by rfl) T.b_len DL.bt_len (pa_cons (pv 0) pa_nil)) pe_int (nomark _))
  (pss_one (ps_ret (pe_fn (ok__law_mix T) (hr.mono (by first | decide | omega)) rfl pass0 (pa_cons (pv 1) (pa_cons pe_int pa_nil)))))
  pss_nil)
  (pss_one (ps_ret (pe_fn (ok__law_mix T) (hr.mono (by first | decide | omega)) rfl pass0 (pa_cons (pe_op op_add (pe_ix ix_list (pv 0) (pe_op op_mod (pe_callTy c_int (by rfl) T.b_int DL.bt_int (pa_cons (pv 1) pa_nil)) (pe_callB c_lenQ (by rfl) T.b_len DL.bt_len (pa_cons (pv 0) pa_nil))) (fun _ _ => rfl)) (pe_op op_mul (pv 1) pe_int)) (pa_cons (pv 1) pa_nil))))))), ?_⟩
  (tm_at "dl go")
  refine m_lenL M hx ?_
  rw [List.length_map]
  (tm_at "dl go")
  refine ite2 (fun h => ?_) (fun h => ?_)
  · obtain ⟨z, ez, _⟩ := atI_lt (xs := zs) i0 (of_decide_eq_true h)
    (tm_at "dl go")
    refine m_ixL M hx (atI_map ez) fun v hv => ?_
    obtain rfl := hv.of_int
    (tm_at "dl go")
    obtain ⟨z0, z1⟩ := hz z (atI_mem ez)
    exact q z z0 z1
  · (tm_at "dl go")
    refine m_lenL M hx ?_
    rw [List.length_map]
    (tm_at "dl go")
    refine ite2 (fun h2 => ?_) (fun h2 => ?_)
    · (tm_at "dl go")
      exact ⟨_, _, rfl, q⟩
    · have hp : 0 < (zs.length : Int) := by
        have : ¬ (zs.length : Int) = 0 := fun e => h2 (decide_eq_true e)
        omega
      (tm_at "dl go")
      refine m_lenL M hx ?_
      rw [List.length_map]
      refine s_I hp ?_
      obtain ⟨z, ez, _⟩ := atI_lt (xs := zs) (Int.emod_nonneg i (show (zs.length : Int) ≠ 0 by omega)) (Int.emod_lt_of_pos i hp)
      refine m_ixL M hx (atI_map ez) fun v hv => ?_
      obtain rfl := hv.of_int
      (tm_at "dl go")
      exact ⟨_, _, rfl, q⟩
section
variable {F0 H0 B F H R A C : Hp} {own : List Hp} {p : Addr} {n : Int} {Q : VK} {E : XK}
theorem at_call {x : V} {zs : List Int} {i : Int} (M : Mem F0 H0 B F H own) (hx : Da F x (.list (zs.map PyData.int))) (hz : Zs zs) (i0 : 0 ≤ i) (q : ∀ z, 0 ≤ z → z < 9973 → Q (.int z) H) : sp__law_at [x, .int i] H Q E := ⟨F, x, zs, i, rfl, M.fh, hx, hz, i0, q⟩
end

/-! a state: the draws and a place -/
def IsSt (F R : Hp) (p : Addr) : Prop := ∃ (d : Addr) (zs : List Int) (i : Int), R = cell p (.lst [.ref d, .int i]) ∧ Da F (.ref d) (.list (zs.map PyData.int)) ∧ Zs zs ∧ 0 ≤ i
theorem IsSt.mono {F F' R : Hp} {p : Addr} (s : Same F F') (h : IsSt F R p) : IsSt F' R p := by
  obtain ⟨d, zs, i, e, hs, r⟩ := h
  exact ⟨d, zs, i, e, hs.mono s, r⟩
def sp__law_next : Sp := fun vs H Q _ => ∃ (F R : Hp) (p : Addr) (n : Int), vs = [.ref p, .int n] ∧ Same F H ∧ Same R H ∧ Dj F R ∧ IsSt F R p ∧ 0 < n ∧
  ∀ z F' H' R', Go F H R F' H' R' → IsSt F' R' p → 0 ≤ z → z < n → Q (.int z) H'
theorem ok__law_next (T : Tx K mg) : FnE P w K mg base CX0 "_law_next" 5 ["state", "limit"] sp__law_next := by
  refine fnE T.d__law_next sc__law_next bd__law_next (fun vs H Q E h => ?_) (fun f cdv A outer s H vs Q E hr h => ?_)
  · obtain ⟨F, R, p, n, rfl, _⟩ := h
    rfl
  obtain ⟨F, R, p, n, rfl, hF, hR, hd, ⟨d, zs, i, eR, hs, hz, i0⟩, n0, k⟩ := h
  have M := Mem.startC eR hF hR hd
  refine ⟨_, (pss_cons (ps_augS (pv 0) pe_int get_list pe_int ip_add set_list)
  (pss_one (ps_ret (pe_op op_mod (pe_fn (ok__law_at T) (hr.mono (by first | decide | omega)) rfl pass0 (pa_cons (pe_ix ix_list (pv 0) pe_int (fun _ _ => rfl)) (pa_cons (pe_ix ix_list (pv 0) pe_int (fun _ _ => rfl)) pa_nil))) (pv 1))))), ?_⟩
  (tm_at "dl go")
  refine m_set0 M (by rfl) rfl fun H1 M1 => ?_
  (tm_at "dl go")
  refine at_call M1 hs hz (by omega) fun z z0 z1 => ?_
  (tm_at "dl go")
  refine s_I n0 ?_
  exact k _ _ _ _ M1.fin ⟨d, zs, i + 1, rfl, hs, hz, by omega⟩ (Int.emod_nonneg _ (by omega)) (Int.emod_lt_of_pos _ n0)
section
variable {F0 H0 B F H R A C S : Hp} {own : List Hp} {p : Addr} {n : Int} {Q : VK} {E : XK}
theorem next0 (M : Mem F0 H0 B F H (R :: own)) (hs : IsSt F R p) (n0 : 0 < n) (q : ∀ z F' H' R', Mem F0 H0 B F' H' (R' :: own) → Same F F' → IsSt F' R' p → 0 ≤ z → z < n → Q (.int z) H') : sp__law_next [.ref p, .int n] H Q E :=
  ⟨F, R, p, n, rfl, M.fh, M.oh0, M.fo0, hs, n0, fun z F' H' R' g h z0 z1 => q z F' H' R' (M.go g) g.ff h z0 z1⟩
theorem next1 (M : Mem F0 H0 B F H (A :: R :: own)) (hs : IsSt F R p) (n0 : 0 < n) (q : ∀ z F' H' R', Mem F0 H0 B F' H' (A :: R' :: own) → Same F F' → IsSt F' R' p → 0 ≤ z → z < n → Q (.int z) H') : sp__law_next [.ref p, .int n] H Q E :=
  ⟨F, R, p, n, rfl, M.fh, M.oh1, M.fo1, hs, n0, fun z F' H' R' g h z0 z1 => q z F' H' R' (M.go1 g) g.ff h z0 z1⟩
theorem next2 (M : Mem F0 H0 B F H (A :: C :: R :: own)) (hs : IsSt F R p) (n0 : 0 < n) (q : ∀ z F' H' R', Mem F0 H0 B F' H' (A :: C :: R' :: own) → Same F F' → IsSt F' R' p → 0 ≤ z → z < n → Q (.int z) H') : sp__law_next [.ref p, .int n] H Q E :=
  ⟨F, R, p, n, rfl, M.fh, M.oh2, M.fo2, hs, n0, fun z F' H' R' g h z0 z1 => q z F' H' R' (M.go2 g) g.ff h z0 z1⟩
end

/-! _law_same: of the same data, True -/
def sp__law_is_integer : Sp := fun vs H Q _ => ∃ i : Int, vs = [.int i] ∧ Q (.bl true) H
theorem ok__law_is_integer (T : Tx K mg) : FnE P w K mg base CX0 "_law_is_integer" 1 ["actual"] sp__law_is_integer := by
  refine fnE T.d__law_is_integer sc__law_is_integer bd__law_is_integer (fun vs H Q E h => ?_) (fun f cdv A outer s H vs Q E hr h => ?_)
  · obtain ⟨i, rfl, _⟩ := h
    rfl
  obtain ⟨i, rfl, k⟩ := h
  have M := Mem.start0 (emp_same (A := H))
  have hi : Da emp (.int i) (.int i) := .int i
  refine ⟨_, (pss_one (ps_ret (pe_and (pe_callB c_isi (by rfl) T.b_isinstance DL.bt_isinstance (pa_cons (pv 0) (pa_cons (pe_ty (by rfl) T.b_int DL.bt_int) pa_nil))) (pe_one (pe_not (pe_callB c_isi (by rfl) T.b_isinstance DL.bt_isinstance (pa_cons (pv 0) (pa_cons (pe_ty (by rfl) T.b_bool DL.bt_bool) pa_nil)))))))), ?_⟩
  (tm_at "dl go")
  exact k
def sp_same : Nat → Sp
  | 0 => fun _ _ _ _ => False
  | n + 1 => fun vs H Q _ => ∃ (F : Hp) (x y : V) (d : PyData), vs = [x, y] ∧ Same F H ∧ Da F x d ∧ Da F y d ∧ Fit n d ∧ ∀ H', Same H H' → Q (.bl true) H'
theorem ok__law_same (T : Tx K mg) : ∀ n : Nat, FnE P w K mg base CX0 "_law_same" (n + 1) ["actual", "expected"] (sp_same n)
  | 0 => FnE.never T.d__law_same bd__law_same 1
  | n + 1 => by
    have G__law_same := ok__law_same T n
    refine fnE T.d__law_same sc__law_same bd__law_same (fun vs H Q E h => ?_) (fun f cdv A outer s H vs Q E hr h => ?_)
    · obtain ⟨F, x, y, d, rfl, _⟩ := h
      rfl
    obtain ⟨F, x, y, d, rfl, hF, hx, hy, hd, k⟩ := h
    have M := Mem.start0 hF
    have kk : ∀ {F' H' : Hp}, Mem F H emp F' H' [] → Q (.bl true) H' := fun {F' H'} M' => k H' M'.fin0.same0
    refine ⟨_, (pss_cons (ps_if (pt_val (pe_callB c_isiT (by rfl) T.b_isinstance DL.bt_isinstance (pa_cons (pv 1) (pa_cons (pe_tup (pa_cons (pe_ty (by rfl) T.b_list DL.bt_list) (pa_cons (pe_ty (by rfl) T.b_tuple DL.bt_tuple) pa_nil))) pa_nil))))
  (pss_cons (ps_if (PW.pt (pw_or (pt_cmpR op_ne (pe_callB c_isi (by rfl) T.b_isinstance DL.bt_isinstance (pa_cons (pv 1) (pa_cons (pe_ty (by rfl) T.b_list DL.bt_list) pa_nil))) (pe_callB c_isi (by rfl) T.b_isinstance DL.bt_isinstance (pa_cons (pv 0) (pa_cons (pe_ty (by rfl) T.b_list DL.bt_list) pa_nil))) (nomark _)) (pw_or1 (pt_cmpR op_ne (pe_callB c_isi (by rfl) T.b_isinstance DL.bt_isinstance (pa_cons (pv 1) (pa_cons (pe_ty (by rfl) T.b_tuple DL.bt_tuple) pa_nil))) (pe_callB c_isi (by rfl) T.b_isinstance DL.bt_isinstance (pa_cons (pv 0) (pa_cons (pe_ty (by rfl) T.b_tuple DL.bt_tuple) pa_nil))) (nomark _)))))
  (pss_one (ps_ret pe_bl))
  pss_nil)
  (pss_cons (ps_if (pt_cmpR op_ne (pe_callB c_lenQ (by rfl) T.b_len DL.bt_len (pa_cons (pv 0) pa_nil)) (pe_callB c_lenQ (by rfl) T.b_len DL.bt_len (pa_cons (pv 1) pa_nil)) (nomark _))
  (pss_one (ps_ret pe_bl))
  pss_nil)
  (pss_cons (ps_for PassesOwn.never rfl (pi_range1 rfl T.b_range (pa_cons (pe_callB c_lenQ (by rfl) T.b_len DL.bt_len (pa_cons (pv 1) pa_nil)) pa_nil)) (pg_name (i := 2) sc__law_same.nd rfl (Or.inl rfl))
  (pss_one (ps_if (pt_not (pt_val (pe_fn G__law_same hr rfl pass0 (pa_cons (pe_ix ix_seq (pv 0) (pv 2) (fun _ _ => rfl)) (pa_cons (pe_ix ix_seq (pv 1) (pv 2) (fun _ _ => rfl)) pa_nil)))))
  (pss_one (ps_ret pe_bl))
  pss_nil)))
  (pss_one (ps_ret pe_bl)))))
  pss_nil)
  (pss_cons (ps_if (pt_cmpR op_isN1 (pv 1) pe_non (nomark _))
  (pss_one (ps_ret (pe_cmpR op_isN1 (pv 0) pe_non (nomark _))))
  pss_nil)
  (pss_cons (ps_if (pt_val (pe_callB c_isi (by rfl) T.b_isinstance DL.bt_isinstance (pa_cons (pv 1) (pa_cons (pe_ty (by rfl) T.b_bool DL.bt_bool) pa_nil))))
  (pss_one (ps_ret (pe_and (pe_callB c_isi (by rfl) T.b_isinstance DL.bt_isinstance (pa_cons (pv 0) (pa_cons (pe_ty (by rfl) T.b_bool DL.bt_bool) pa_nil))) (pe_one (pe_cmpR op_eq (pv 0) (pv 1) (nomark _))))))
  pss_nil)
  (pss_cons (ps_if (pt_val (pe_callB c_isi (by rfl) T.b_isinstance DL.bt_isinstance (pa_cons (pv 1) (pa_cons (pe_ty (by rfl) T.b_int DL.bt_int) pa_nil))))
  (pss_one (ps_ret (pe_and (pe_fn (ok__law_is_integer T) (hr.mono (by first | decide | omega)) rfl pass0 (pa_cons (pv 0) pa_nil)) (pe_one (pe_cmpR op_eq (pv 0) (pv 1) (nomark _))))))
  pss_nil)
  (pss_one (ps_ret (pe_and (pe_callB c_isi (by rfl) T.b_isinstance DL.bt_isinstance (pa_cons (pv 0) (pa_cons (pe_ty (by rfl) T.b_str DL.bt_str) pa_nil))) (pe_one (pe_cmpR op_eq (pv 0) (pv 1) (nomark _)))))))))), ?_⟩
    (tm_at "dl go")
    refine m_tupV M (by simp only [List.length_cons, List.length_nil]; decide) fun tt F1 H1 M1 s1 ht => ?_
    replace hx := hx.mono s1
    replace hy := hy.mono s1
    cases d with
    | dict kvs => cases n <;> exact hd.elim
    | none =>
      refine m_isiT M1 hy ht (r := false) (by dsimp only [tyD]; decide +kernel) ?_
      obtain rfl := hx.of_non
      obtain rfl := hy.of_non
      (tm_at "dl go")
      exact kk M1
    | bool b =>
      refine m_isiT M1 hy ht (r := false) (by dsimp only [tyD]; decide +kernel) ?_
      obtain rfl := hx.of_bl
      obtain rfl := hy.of_bl
      (tm_at "dl go")
      rw [decide_eq_true rfl]
      exact kk M1
    | int i =>
      refine m_isiT M1 hy ht (r := false) (by dsimp only [tyD]; decide +kernel) ?_
      obtain rfl := hx.of_int
      obtain rfl := hy.of_int
      (tm_at "dl go")
      refine ⟨i, rfl, ?_⟩
      (tm_at "dl go")
      rw [decide_eq_true rfl]
      exact kk M1
    | str z =>
      refine m_isiT M1 hy ht (r := false) (by dsimp only [tyD]; decide +kernel) ?_
      obtain rfl := hx.of_str
      obtain rfl := hy.of_str
      (tm_at "dl go")
      rw [decide_eq_true rfl]
      exact kk M1
    | list ds =>
      refine m_isiT M1 hy ht (r := true) (by dsimp only [tyD]; decide +kernel) ?_
      cases n with
      | zero => exact hd.elim
      | succ n =>
      obtain ⟨hz, hall⟩ : ds.length ≤ 1000000000 ∧ ∀ d ∈ ds, Fit n d := hd
      obtain ⟨yp, _, rfl, _, _⟩ := id hy.of_lst
      (tm_at "dl go")
      rw [decide_eq_true rfl]
      (tm_at "dl go")
      rw [decide_eq_true rfl]
      (tm_at "dl go")
      refine m_lenA M1 (.inl hx) ?_
      (tm_at "dl go")
      refine m_lenA M1 (.inl hy) ?_
      (tm_at "dl go")
      rw [decide_eq_true rfl]
      refine iteF ?_
      (tm_at "dl go")
      refine m_lenA M1 (.inl hy) ?_
      (tm_at "dl go")
      refine s_r1 (by omega) (by omega) ?_
      refine m_forR M1 (fun i σ F' own => ∃ z : Option V, σ = [some x, some (.ref yp), z] ∧ own = []) ⟨_, rfl, rfl⟩ ?_ ?_
      · rintro i σ F5 H5 own hi s5 M5 ⟨z, rfl, rfl⟩
        have hi' : i < ds.length := by simpa using hi
        have ei : atI ds (0 + (i : Int)) = some ds[i] := atI_at (j := i) (by omega) (List.getElem?_eq_getElem hi')
        (tm_at "dl go")
        refine m_ixA M5 (.inl (hx.mono s5)) ei fun v dv => ?_
        (tm_at "dl go")
        refine m_ixA M5 (.inl (hy.mono s5)) ei fun u du => ?_
        (tm_at "dl go")
        refine ⟨F5, v, u, ds[i], rfl, M5.fh, dv, du, hall _ (List.getElem_mem hi'), fun H6 s6 => ?_⟩
        (tm_at "dl go")
        exact Nx.mk s5 (M5.go0 (Go.same M5.fh s6)) ⟨_, rfl, rfl⟩
      · rintro σ F5 H5 own s5 M5 ⟨z, rfl, rfl⟩
        (tm_at "dl go")
        exact kk M5
    | tuple ds =>
      refine m_isiT M1 hy ht (r := true) (by dsimp only [tyD]; decide +kernel) ?_
      cases n with
      | zero => exact hd.elim
      | succ n =>
      obtain ⟨hz, hall⟩ : ds.length ≤ 1000000000 ∧ ∀ d ∈ ds, Fit n d := hd
      obtain ⟨yp, _, rfl, _, _⟩ := id hy.of_tup
      (tm_at "dl go")
      rw [decide_eq_true rfl]
      (tm_at "dl go")
      rw [decide_eq_true rfl]
      (tm_at "dl go")
      refine m_lenA M1 (.inr hx) ?_
      (tm_at "dl go")
      refine m_lenA M1 (.inr hy) ?_
      (tm_at "dl go")
      rw [decide_eq_true rfl]
      refine iteF ?_
      (tm_at "dl go")
      refine m_lenA M1 (.inr hy) ?_
      (tm_at "dl go")
      refine s_r1 (by omega) (by omega) ?_
      refine m_forR M1 (fun i σ F' own => ∃ z : Option V, σ = [some x, some (.ref yp), z] ∧ own = []) ⟨_, rfl, rfl⟩ ?_ ?_
      · rintro i σ F5 H5 own hi s5 M5 ⟨z, rfl, rfl⟩
        have hi' : i < ds.length := by simpa using hi
        have ei : atI ds (0 + (i : Int)) = some ds[i] := atI_at (j := i) (by omega) (List.getElem?_eq_getElem hi')
        (tm_at "dl go")
        refine m_ixA M5 (.inr (hx.mono s5)) ei fun v dv => ?_
        (tm_at "dl go")
        refine m_ixA M5 (.inr (hy.mono s5)) ei fun u du => ?_
        (tm_at "dl go")
        refine ⟨F5, v, u, ds[i], rfl, M5.fh, dv, du, hall _ (List.getElem_mem hi'), fun H6 s6 => ?_⟩
        (tm_at "dl go")
        exact Nx.mk s5 (M5.go0 (Go.same M5.fh s6)) ⟨_, rfl, rfl⟩
      · rintro σ F5 H5 own s5 M5 ⟨z, rfl, rfl⟩
        (tm_at "dl go")
        exact kk M5
section
variable {F0 H0 B F H : Hp} {own : List Hp} {Q : VK} {E : XK} {x y : V} {d : PyData}
theorem same_call (M : Mem F0 H0 B F H own) (hx : Da F x d) (hy : Da F y d) (hd : Fit 9 d) (q : ∀ H', Mem F0 H0 B F H' own → Q (.bl true) H') : sp_same 10 [x, y] H Q E :=
  ⟨F, x, y, d, rfl, M.fh, hx, hy, hd, fun H' s => q H' (M.go0 (Go.same M.fh s))⟩
end

end
end K11

namespace K11
open PySem PySem.Spec PyProof.Rows L2 DL
local macro_rules | `(tactic| tm_at "dl hp") => `(tactic| (first | assumption | exact Mem.at0 (by assumption) | exact Mem.at1 (by assumption) | exact Mem.at2 (by assumption) | exact Mem.at3 (by assumption)))
local macro_rules | `(tactic| tm_at "dl ch") => `(tactic| (repeat (first | exact L2.Same.refl _ | assumption | refine L2.Same.trans ?_ (by assumption))))
local macro_rules | `(tactic| tm_at "dl da") => `(tactic| (first | assumption | (refine Da.mono ?_ (by assumption); (repeat (first | exact L2.Same.refl _ | assumption | refine L2.Same.trans ?_ (by assumption))))))
local macro_rules | `(tactic| tm_at "dl st") => `(tactic| (first | ((with_reducible show tVar _ _ _ _); refine s_var (by rfl) ?_) | with_reducible refine s_seq ?_ | with_reducible refine s_asg ?_ | with_reducible refine s_op ?_ | with_reducible refine s_un ?_ | with_reducible refine s_c ?_ | with_reducible refine s_call ?_ | with_reducible refine s_cons ?_ | with_reducible refine s_nil ?_ | with_reducible refine s_CB ?_ | with_reducible refine s_test ?_ | with_reducible refine s_tB ?_ | with_reducible refine s_tq ?_ | with_reducible refine s_if ?_ | with_reducible refine s_drop ?_ | with_reducible refine s_ret ?_ | with_reducible refine s_retN ?_ | with_reducible refine s_next ?_ | with_reducible refine s_brk ?_ | with_reducible refine s_cont ?_ | with_reducible refine s_name ?_ | with_reducible refine s_I0 ?_ | with_reducible refine s_U ?_ | with_reducible refine s_eqI ?_ | with_reducible refine s_eqS ?_ | with_reducible refine s_eqB ?_ | with_reducible refine s_neI ?_ | with_reducible refine s_neS ?_ | with_reducible refine s_neB ?_ | with_reducible refine s_isN0 ?_ | with_reducible refine s_isNI ?_ | with_reducible refine s_isNS ?_ | with_reducible refine s_isNR ?_ | with_reducible refine s_isNB ?_ | with_reducible refine s_notN0 ?_ | with_reducible refine s_notNI ?_ | with_reducible refine s_notNS ?_ | with_reducible refine s_notNR ?_ | with_reducible refine iteNT ?_ | with_reducible refine iteNF ?_ | with_reducible refine s_not ?_ | with_reducible refine s_and ?_ | with_reducible refine s_or ?_ | with_reducible refine s_ifE ?_ | with_reducible refine s_andV ?_ | with_reducible refine s_orV ?_ | with_reducible refine s_notV ?_ | with_reducible refine s_tup ?_ | with_reducible refine s_lst ?_ | with_reducible refine s_sub ?_ | with_reducible refine s_gCons ?_ | with_reducible refine s_gNil ?_ | with_reducible refine s_ipI ?_ | with_reducible refine s_for ?_ | with_reducible refine s_lc ?_ | with_reducible refine s_yes ?_ | with_reducible refine s_iList ?_ | with_reducible refine s_iTup ?_ | with_reducible refine s_iRng1 ?_ | with_reducible refine s_iRng2 ?_ | with_reducible refine s_iZip ?_ | with_reducible refine s_iEnum ?_ | with_reducible refine s_iStr ?_ | with_reducible refine s_st ?_ | with_reducible refine iteT ?_ | with_reducible refine iteF ?_ | with_reducible refine s_BM ?_ | with_reducible refine s_tyS ?_ | with_reducible refine s_int ?_ | with_reducible refine s_intB ?_ | with_reducible refine s_min ?_ | with_reducible refine s_max ?_ | with_reducible refine s_sl ?_ | with_reducible refine s_noP ?_ | with_reducible refine s_meth ?_ | with_reducible refine s_fld ?_ | with_reducible refine s_sfld ?_ | with_reducible refine s_make ?_ | with_reducible refine s_part ?_ | with_reducible refine s_pt ?_ | with_reducible refine s_augS ?_ | with_reducible refine s_fldaug ?_ | with_reducible refine s_inadd ?_ | with_reducible refine s_try ?_ | with_reducible refine s_methS ?_ | with_reducible refine s_callS ?_ | with_reducible refine s_rz ?_ | ((with_reducible show tAug _ _ _ _ _ _); refine s_aug (by rfl) ?_) | ((with_reducible show rI _ _ _ _ _ _); refine s_I (by first | (show (0 : Int) < _; decide) | (exact ⟨by decide, by decide⟩) | (exact .inr ⟨by decide, by decide⟩) | (exact .inl ⟨by decide, by decide⟩) | (exact ⟨by decide, by decide, by decide⟩)) ?_) | ((with_reducible show rIsi _ _ _ _); first | refine m_isi (by assumption) (by assumption) (r := true) (by dsimp only [tyD]; decide +kernel) ?_ | refine m_isi (by assumption) (by assumption) (r := false) (by dsimp only [tyD]; decide +kernel) ?_) | ((with_reducible show tyV _ _ _ _ ∧ _); refine s_tyL (by (first | assumption | exact Mem.at0 (by assumption) | exact Mem.at1 (by assumption) | exact Mem.at2 (by assumption) | exact Mem.at3 (by assumption))) ?_) | ((with_reducible show rIxL _ _ _ _ _); refine s_ixL (by (first | assumption | exact Mem.at0 (by assumption) | exact Mem.at1 (by assumption) | exact Mem.at2 (by assumption) | exact Mem.at3 (by assumption))) (by rfl) ?_)))
local macro_rules | `(tactic| tm_at "dl go") => `(tactic| (repeat (first | ((with_reducible show tVar _ _ _ _); refine s_var (by rfl) ?_) | with_reducible refine s_seq ?_ | with_reducible refine s_asg ?_ | with_reducible refine s_op ?_ | with_reducible refine s_un ?_ | with_reducible refine s_c ?_ | with_reducible refine s_call ?_ | with_reducible refine s_cons ?_ | with_reducible refine s_nil ?_ | with_reducible refine s_CB ?_ | with_reducible refine s_test ?_ | with_reducible refine s_tB ?_ | with_reducible refine s_tq ?_ | with_reducible refine s_if ?_ | with_reducible refine s_drop ?_ | with_reducible refine s_ret ?_ | with_reducible refine s_retN ?_ | with_reducible refine s_next ?_ | with_reducible refine s_brk ?_ | with_reducible refine s_cont ?_ | with_reducible refine s_name ?_ | with_reducible refine s_I0 ?_ | with_reducible refine s_U ?_ | with_reducible refine s_eqI ?_ | with_reducible refine s_eqS ?_ | with_reducible refine s_eqB ?_ | with_reducible refine s_neI ?_ | with_reducible refine s_neS ?_ | with_reducible refine s_neB ?_ | with_reducible refine s_isN0 ?_ | with_reducible refine s_isNI ?_ | with_reducible refine s_isNS ?_ | with_reducible refine s_isNR ?_ | with_reducible refine s_isNB ?_ | with_reducible refine s_notN0 ?_ | with_reducible refine s_notNI ?_ | with_reducible refine s_notNS ?_ | with_reducible refine s_notNR ?_ | with_reducible refine iteNT ?_ | with_reducible refine iteNF ?_ | with_reducible refine s_not ?_ | with_reducible refine s_and ?_ | with_reducible refine s_or ?_ | with_reducible refine s_ifE ?_ | with_reducible refine s_andV ?_ | with_reducible refine s_orV ?_ | with_reducible refine s_notV ?_ | with_reducible refine s_tup ?_ | with_reducible refine s_lst ?_ | with_reducible refine s_sub ?_ | with_reducible refine s_gCons ?_ | with_reducible refine s_gNil ?_ | with_reducible refine s_ipI ?_ | with_reducible refine s_for ?_ | with_reducible refine s_lc ?_ | with_reducible refine s_yes ?_ | with_reducible refine s_iList ?_ | with_reducible refine s_iTup ?_ | with_reducible refine s_iRng1 ?_ | with_reducible refine s_iRng2 ?_ | with_reducible refine s_iZip ?_ | with_reducible refine s_iEnum ?_ | with_reducible refine s_iStr ?_ | with_reducible refine s_st ?_ | with_reducible refine iteT ?_ | with_reducible refine iteF ?_ | with_reducible refine s_BM ?_ | with_reducible refine s_tyS ?_ | with_reducible refine s_int ?_ | with_reducible refine s_intB ?_ | with_reducible refine s_min ?_ | with_reducible refine s_max ?_ | with_reducible refine s_sl ?_ | with_reducible refine s_noP ?_ | with_reducible refine s_meth ?_ | with_reducible refine s_fld ?_ | with_reducible refine s_sfld ?_ | with_reducible refine s_make ?_ | with_reducible refine s_part ?_ | with_reducible refine s_pt ?_ | with_reducible refine s_augS ?_ | with_reducible refine s_fldaug ?_ | with_reducible refine s_inadd ?_ | with_reducible refine s_try ?_ | with_reducible refine s_methS ?_ | with_reducible refine s_callS ?_ | with_reducible refine s_rz ?_ | ((with_reducible show tAug _ _ _ _ _ _); refine s_aug (by rfl) ?_) | ((with_reducible show rI _ _ _ _ _ _); refine s_I (by first | (show (0 : Int) < _; decide) | (exact ⟨by decide, by decide⟩) | (exact .inr ⟨by decide, by decide⟩) | (exact .inl ⟨by decide, by decide⟩) | (exact ⟨by decide, by decide, by decide⟩)) ?_) | ((with_reducible show rIsi _ _ _ _); first | refine m_isi (by assumption) (by assumption) (r := true) (by dsimp only [tyD]; decide +kernel) ?_ | refine m_isi (by assumption) (by assumption) (r := false) (by dsimp only [tyD]; decide +kernel) ?_) | ((with_reducible show tyV _ _ _ _ ∧ _); refine s_tyL (by (first | assumption | exact Mem.at0 (by assumption) | exact Mem.at1 (by assumption) | exact Mem.at2 (by assumption) | exact Mem.at3 (by assumption))) ?_) | ((with_reducible show rIxL _ _ _ _ _); refine s_ixL (by (first | assumption | exact Mem.at0 (by assumption) | exact Mem.at1 (by assumption) | exact Mem.at2 (by assumption) | exact Mem.at3 (by assumption))) (by rfl) ?_))))

/-! records: the plain part -/
def wnum (n : Nat) : List Int := if n < 128 then [(n : Int)] else ((n : Int) % 128 + 128) :: wnum (n / 128)
termination_by n
decreasing_by omega
def csum (l : List Int) : Int := l.foldl (fun t b => (31 * t + b + 1) % 4294967296) 7
def tail4 (t : Int) : List Int := [t / 16777216, t / 65536 % 256, t / 256 % 256, t % 256]
def wrec (l : List Int) : List Int := wnum l.length ++ l ++ tail4 (csum l)
theorem wnum_lt {n : Nat} (h : n < 128) : wnum n = [(n : Int)] := by rw [wnum, if_pos h]
theorem wnum_ge {n : Nat} (h : ¬ n < 128) : wnum n = ((n : Int) % 128 + 128) :: wnum (n / 128) := by rw [wnum, if_neg h]
theorem wnum_len (n : Nat) : (wnum n).length ≤ n + 1 := by
  induction n using Nat.strongRecOn with
  | _ n ih =>
    by_cases h : n < 128
    · rw [wnum_lt h]; simp
    · rw [wnum_ge h, List.length_cons]
      have := ih (n / 128) (by omega)
      omega
section
variable {P : Program} {w : World} {K : PySem.W.Frag} {mg : Str → Option Value} {base : Heap}
theorem DaA.intsA {F : Hp} {vs ws : List Int} : DaA F ((vs ++ ws).map V.int) ((vs ++ ws).map PyData.int) := DaA.ints
def sp_wn : Sp := fun vs H Q _ => ∃ (F : Hp) (n : Nat), vs = [.int (n : Int)] ∧ Same F H ∧ n ≤ 1000000 ∧ ∀ v F' H', Go F H emp F' H' emp → Da F' v (.list ((wnum n).map PyData.int)) → Q v H'
theorem ok_write_number (T : Tx K mg) : FnE P w K mg base CX0 "write_number" 1 ["number"] sp_wn := by
  refine fnE T.d_write_number sc_write_number bd_write_number (fun vs H Q E h => ?_) (fun f cdv A outer s H vs Q E hr h => ?_)
  · obtain ⟨F, n, rfl, _⟩ := h
    rfl
  obtain ⟨F, n, rfl, hF, hn, k⟩ := h
  have M := Mem.start0 hF
  refine ⟨_, (pss_cons (ps_set (i := 1) sc_write_number.nd rfl (Or.inl rfl) (pe_lst pa_nil))
  (pss_cons (ps_while PassesOwn.never (pt_cmpR op_ge (pv 0) pe_int (nomark _))
  (pss_cons (ps_expr (pe_bm PySem.F.plainAttrs_list PySem.F.slot_list_append PySem.F.type_list_append c_append (pv 1) (pa_cons (pe_op op_add (pe_op op_mod (pv 0) pe_int) pe_int) pa_nil)))
  (pss_one (ps_set (i := 0) sc_write_number.nd rfl (Or.inl rfl) (pe_op op_fdiv (pv 0) pe_int)))))
  (pss_one (ps_ret (pe_op op_cat (pv 1) (pe_lst (pa_cons (pv 0) pa_nil))))))), ?_⟩
  (tm_at "dl go")
  refine m_lz (by simp only [List.length_cons, List.length_nil]; decide) ?_
  refine m_lst M fun r H1 M1 => ?_
  (tm_at "dl go")
  refine m_while M1 (fun j σ F' own => ∃ (m : Nat) (acc : List Int), σ = [some (.int (m : Int)), some (.ref r)] ∧ own = [cell r (.lst (acc.map V.int))] ∧ acc ++ wnum m = wnum n ∧ acc.length + m ≤ n ∧ m = j) n ⟨n, [], rfl, rfl, rfl, by simp, rfl⟩ (fun j σ F2 H2 own s2 M2 h => ?_) (fun σ H Q Q' z h => ?_)
  · obtain ⟨m, acc, rfl, rfl, ha, hl, rfl⟩ := h
    (tm_at "dl go")
    refine ite2 (fun h => ?_) (fun h => ?_)
    · have h' : ¬ m < 128 := by have := of_decide_eq_true h; omega
      (tm_at "dl go")
      refine m_app0 M2 (Nat.lt_of_le_of_lt (show _ ≤ 1000000 by rw [List.length_map]; omega) (by decide)) fun H3 M3 => ?_
      (tm_at "dl go")
      refine ⟨m / 128, by omega, Nx.mk s2 M3 ⟨m / 128, acc ++ [(m : Int) % 128 + 128], rfl, by first | (rw [List.map_append]; rfl) | (rw [List.map_append, Int.add_comm 128]; rfl) | (rw [List.map_append, Int.add_comm _ 128]; rfl), ?_, by rw [List.length_append, List.length_singleton]; omega, rfl⟩⟩
      rw [← ha, wnum_ge h', List.append_assoc]
      rfl
    · have h' : m < 128 := by
        have := h
        simp at this
        omega
      (tm_at "dl go")
      obtain ⟨F3, M3, s3, d3⟩ := M2.data (ds := acc.map PyData.int) DaA.ints
      (tm_at "dl go")
      refine m_lz (by simp only [List.length_cons, List.length_nil]; decide) ?_
      refine m_lstF M3 (.cons (.int _) .nil) fun t F4 H4 M4 s4 d4 => ?_
      refine m_cat M4 (d3.mono s4) d4 (sz100 (by simp only [List.length_map, List.length_cons, List.length_nil]; omega)) fun q F5 H5 M5 s5 d5 => ?_
      refine k _ _ _ M5.fin0 ?_
      rw [← ha, wnum_lt h', List.map_append]
      exact d5
  · obtain ⟨v, e, i, j, e1, e2, b, e3, q⟩ := h
    exact ⟨v, e, i, j, e1, e2, b, e3, z _ _ q⟩

theorem ok__law_number (T : Tx K mg) : FnE P w K mg base CX0 "_law_number" 1 ["number"] sp_wn := by
  refine fnE T.d__law_number sc__law_number bd__law_number (fun vs H Q E h => ?_) (fun f cdv A outer s H vs Q E hr h => ?_)
  · obtain ⟨F, n, rfl, _⟩ := h
    rfl
  obtain ⟨F, n, rfl, hF, hn, k⟩ := h
  have M := Mem.start0 hF
  refine ⟨_, (pss_cons (ps_set (i := 1) sc__law_number.nd rfl (Or.inl rfl) (pe_lst pa_nil))
  (pss_cons (ps_while PassesOwn.never (pt_cmpR op_gt (pv 0) pe_int (nomark _))
  (pss_cons (ps_expr (pe_bm PySem.F.plainAttrs_list PySem.F.slot_list_append PySem.F.type_list_append c_append (pv 1) (pa_cons (pe_op op_add pe_int (pe_op op_mod (pv 0) pe_int)) pa_nil)))
  (pss_one (ps_set (i := 0) sc__law_number.nd rfl (Or.inl rfl) (pe_op op_fdiv (pv 0) pe_int)))))
  (pss_one (ps_ret (pe_op op_cat (pv 1) (pe_lst (pa_cons (pv 0) pa_nil))))))), ?_⟩
  (tm_at "dl go")
  refine m_lz (by simp only [List.length_cons, List.length_nil]; decide) ?_
  refine m_lst M fun r H1 M1 => ?_
  (tm_at "dl go")
  refine m_while M1 (fun j σ F' own => ∃ (m : Nat) (acc : List Int), σ = [some (.int (m : Int)), some (.ref r)] ∧ own = [cell r (.lst (acc.map V.int))] ∧ acc ++ wnum m = wnum n ∧ acc.length + m ≤ n ∧ m = j) n ⟨n, [], rfl, rfl, rfl, by simp, rfl⟩ (fun j σ F2 H2 own s2 M2 h => ?_) (fun σ H Q Q' z h => ?_)
  · obtain ⟨m, acc, rfl, rfl, ha, hl, rfl⟩ := h
    (tm_at "dl go")
    refine ite2 (fun h => ?_) (fun h => ?_)
    · have h' : ¬ m < 128 := by have := of_decide_eq_true h; omega
      (tm_at "dl go")
      refine m_app0 M2 (Nat.lt_of_le_of_lt (show _ ≤ 1000000 by rw [List.length_map]; omega) (by decide)) fun H3 M3 => ?_
      (tm_at "dl go")
      refine ⟨m / 128, by omega, Nx.mk s2 M3 ⟨m / 128, acc ++ [(m : Int) % 128 + 128], rfl, by first | (rw [List.map_append]; rfl) | (rw [List.map_append, Int.add_comm 128]; rfl) | (rw [List.map_append, Int.add_comm _ 128]; rfl), ?_, by rw [List.length_append, List.length_singleton]; omega, rfl⟩⟩
      rw [← ha, wnum_ge h', List.append_assoc]
      rfl
    · have h' : m < 128 := by
        have := h
        simp at this
        omega
      (tm_at "dl go")
      obtain ⟨F3, M3, s3, d3⟩ := M2.data (ds := acc.map PyData.int) DaA.ints
      (tm_at "dl go")
      refine m_lz (by simp only [List.length_cons, List.length_nil]; decide) ?_
      refine m_lstF M3 (.cons (.int _) .nil) fun t F4 H4 M4 s4 d4 => ?_
      refine m_cat M4 (d3.mono s4) d4 (sz100 (by simp only [List.length_map, List.length_cons, List.length_nil]; omega)) fun q F5 H5 M5 s5 d5 => ?_
      refine k _ _ _ M5.fin0 ?_
      rw [← ha, wnum_lt h', List.map_append]
      exact d5
  · obtain ⟨v, e, i, j, e1, e2, b, e3, q⟩ := h
    exact ⟨v, e, i, j, e1, e2, b, e3, z _ _ q⟩

def sp_cs : Sp := fun vs H Q _ => ∃ (F : Hp) (x : V) (l : List Int), vs = [x] ∧ Same F H ∧ Da F x (.list (l.map PyData.int)) ∧ ∀ H', Go F H emp F H' emp → Q (.int (csum l)) H'
theorem csum_snoc (l : List Int) (b : Int) : csum (l ++ [b]) = (31 * csum l + b + 1) % 4294967296 := by
  unfold csum
  rw [List.foldl_append]
  rfl
theorem take_snoc {α : Type} {l : List α} {i : Nat} {a : α} (h : l[i]? = some a) : l.take (i + 1) = l.take i ++ [a] := by
  rw [List.take_succ, h]
  rfl
theorem ok_checksum (T : Tx K mg) : FnE P w K mg base CX0 "checksum" 1 ["data"] sp_cs := by
  refine fnE T.d_checksum sc_checksum bd_checksum (fun vs H Q E h => ?_) (fun f cdv A outer s H vs Q E hr h => ?_)
  · obtain ⟨F, x, l, rfl, _⟩ := h
    rfl
  obtain ⟨F, x, l, rfl, hF, hx, k⟩ := h
  have M := Mem.start0 hF
  refine ⟨_, (pss_cons (ps_set (i := 1) sc_checksum.nd rfl (Or.inl rfl) pe_int)
  (pss_cons (ps_for PassesOwn.never rfl (pi_list (pv 0)) (pg_name (i := 2) sc_checksum.nd rfl (Or.inl rfl))
  (pss_one (ps_set (i := 1) sc_checksum.nd rfl (Or.inl rfl) (pe_op op_mod (pe_op op_add (pe_op op_add (pe_op op_mul pe_int (pv 1)) (pv 2)) pe_int) (pe_cI rfl T.c_CHECKSUM_LIMIT)))))
  (pss_one (ps_ret (pv 1))))), ?_⟩
  (tm_at "dl go")
  refine m_forL M hx (fun i σ F' own => ∃ z : Option V, σ = [some x, some (.int (csum (l.take i))), z] ∧ own = [] ∧ F' = F) ⟨_, rfl, rfl, rfl⟩ ?_ ?_
  · rintro i d v σ F2 H2 own ed s2 M2 dv ⟨z, rfl, rfl, rfl⟩
    rw [List.getElem?_map] at ed
    cases es : l[i]? with
    | none => rw [es] at ed; cases ed
    | some b =>
    rw [es] at ed
    obtain rfl := Option.some.inj ed
    obtain rfl := dv.of_int
    (tm_at "dl go")
    refine Nx.mk s2 M2 ⟨some (.int b), ?_, rfl, rfl⟩
    rw [take_snoc es, csum_snoc]
    rfl
  · rintro σ F2 H2 own s2 M2 ⟨z, rfl, rfl, rfl⟩
    (tm_at "dl go")
    rw [List.length_map, List.take_length]
    exact k _ M2.fin0

theorem ok__law_checksum (T : Tx K mg) : FnE P w K mg base CX0 "_law_checksum" 1 ["data"] sp_cs := by
  refine fnE T.d__law_checksum sc__law_checksum bd__law_checksum (fun vs H Q E h => ?_) (fun f cdv A outer s H vs Q E hr h => ?_)
  · obtain ⟨F, x, l, rfl, _⟩ := h
    rfl
  obtain ⟨F, x, l, rfl, hF, hx, k⟩ := h
  have M := Mem.start0 hF
  refine ⟨_, (pss_cons (ps_set (i := 1) sc__law_checksum.nd rfl (Or.inl rfl) pe_int)
  (pss_cons (ps_for PassesOwn.never rfl (pi_list (pv 0)) (pg_name (i := 2) sc__law_checksum.nd rfl (Or.inl rfl))
  (pss_one (ps_set (i := 1) sc__law_checksum.nd rfl (Or.inl rfl) (pe_op op_mod (pe_op op_add (pe_op op_add (pe_op op_mul pe_int (pv 1)) (pv 2)) pe_int) pe_int))))
  (pss_one (ps_ret (pv 1))))), ?_⟩
  (tm_at "dl go")
  refine m_forL M hx (fun i σ F' own => ∃ z : Option V, σ = [some x, some (.int (csum (l.take i))), z] ∧ own = [] ∧ F' = F) ⟨_, rfl, rfl, rfl⟩ ?_ ?_
  · rintro i d v σ F2 H2 own ed s2 M2 dv ⟨z, rfl, rfl, rfl⟩
    rw [List.getElem?_map] at ed
    cases es : l[i]? with
    | none => rw [es] at ed; cases ed
    | some b =>
    rw [es] at ed
    obtain rfl := Option.some.inj ed
    obtain rfl := dv.of_int
    (tm_at "dl go")
    refine Nx.mk s2 M2 ⟨some (.int b), ?_, rfl, rfl⟩
    rw [take_snoc es, csum_snoc]
    rfl
  · rintro σ F2 H2 own s2 M2 ⟨z, rfl, rfl, rfl⟩
    (tm_at "dl go")
    rw [List.length_map, List.take_length]
    exact k _ M2.fin0

def sp_wr : Sp := fun vs H Q _ => ∃ (F : Hp) (x : V) (l : List Int), vs = [x] ∧ Same F H ∧ Da F x (.list (l.map PyData.int)) ∧ l.length ≤ 1000000 ∧ ∀ v F' H', Go F H emp F' H' emp → Da F' v (.list ((wrec l).map PyData.int)) → Q v H'
theorem ok_write_record (T : Tx K mg) : FnE P w K mg base CX0 "write_record" 3 ["data"] sp_wr := by
  refine fnE T.d_write_record sc_write_record bd_write_record (fun vs H Q E h => ?_) (fun f cdv A outer s H vs Q E hr h => ?_)
  · obtain ⟨F, x, l, rfl, _⟩ := h
    rfl
  obtain ⟨F, x, l, rfl, hF, hx, hl, k⟩ := h
  have M := Mem.start0 hF
  refine ⟨_, (pss_cons (ps_set (i := 1) sc_write_record.nd rfl (Or.inl rfl) (pe_fn (ok_checksum T) (hr.mono (by first | decide | omega)) rfl pass0 (pa_cons (pv 0) pa_nil)))
  (pss_cons (ps_set (i := 2) sc_write_record.nd rfl (Or.inl rfl) (pe_lst (pa_cons (pe_op op_fdiv (pv 1) pe_int) (pa_cons (pe_op op_mod (pe_op op_fdiv (pv 1) pe_int) pe_int) (pa_cons (pe_op op_mod (pe_op op_fdiv (pv 1) pe_int) pe_int) (pa_cons (pe_op op_mod (pv 1) pe_int) pa_nil))))))
  (pss_one (ps_ret (pe_op op_cat (pe_op op_cat (pe_fn (ok_write_number T) (hr.mono (by first | decide | omega)) rfl pass0 (pa_cons (pe_callB c_lenQ (by rfl) T.b_len DL.bt_len (pa_cons (pv 0) pa_nil)) pa_nil)) (pe_callTy c_list (by rfl) T.b_list DL.bt_list (pa_cons (pv 0) pa_nil))) (pv 2)))))), ?_⟩
  (tm_at "dl go")
  refine ⟨F, x, l, rfl, hF, hx, fun H1 g1 => ?_⟩
  have M1 := M.go0 g1
  (tm_at "dl go")
  refine m_lz (by simp only [List.length_cons, List.length_nil]; decide) ?_
  refine m_lstF M1 (.cons (.int _) (.cons (.int _) (.cons (.int _) (.cons (.int _) .nil)))) fun t F2 H2 M2 s2 d2 => ?_
  (tm_at "dl go")
  refine m_lenL M2 (hx.mono s2) ?_
  rw [List.length_map]
  refine ⟨F2, l.length, rfl, M2.fh, hl, fun v F3 H3 g3 d3 => ?_⟩
  have M3 := M2.go0 g3
  (tm_at "dl go")
  refine m_listF M3 (hx.mono (s2.trans g3.ff)) fun p F4 H4 M4 s4 d4 => ?_
  have wl := wnum_len l.length
  refine m_cat M4 (d3.mono s4) d4 (sz100 (by simp only [List.length_map]; omega)) fun q F5 H5 M5 s5 d5 => ?_
  (tm_at "dl go")
  refine m_cat M5 d5 (d2.mono (g3.ff.trans (s4.trans s5))) (sz100 (by simp only [List.length_append, List.length_map, List.length_cons, List.length_nil]; omega)) fun r F6 H6 M6 s6 d6 => ?_
  refine k _ _ _ M6.fin0 ?_
  unfold wrec
  rw [List.map_append, List.map_append]
  exact d6
theorem ok__law_record (T : Tx K mg) : FnE P w K mg base CX0 "_law_record" 3 ["data"] sp_wr := by
  refine fnE T.d__law_record sc__law_record bd__law_record (fun vs H Q E h => ?_) (fun f cdv A outer s H vs Q E hr h => ?_)
  · obtain ⟨F, x, l, rfl, _⟩ := h
    rfl
  obtain ⟨F, x, l, rfl, hF, hx, hl, k⟩ := h
  have M := Mem.start0 hF
  refine ⟨_, (pss_cons (ps_set (i := 1) sc__law_record.nd rfl (Or.inl rfl) (pe_fn (ok__law_checksum T) (hr.mono (by first | decide | omega)) rfl pass0 (pa_cons (pv 0) pa_nil)))
  (pss_one (ps_ret (pe_op op_cat (pe_op op_cat (pe_fn (ok__law_number T) (hr.mono (by first | decide | omega)) rfl pass0 (pa_cons (pe_callB c_lenQ (by rfl) T.b_len DL.bt_len (pa_cons (pv 0) pa_nil)) pa_nil)) (pv 0)) (pe_lst (pa_cons (pe_op op_fdiv (pv 1) pe_int) (pa_cons (pe_op op_mod (pe_op op_fdiv (pv 1) pe_int) pe_int) (pa_cons (pe_op op_mod (pe_op op_fdiv (pv 1) pe_int) pe_int) (pa_cons (pe_op op_mod (pv 1) pe_int) pa_nil))))))))), ?_⟩
  (tm_at "dl go")
  refine ⟨F, x, l, rfl, hF, hx, fun H1 g1 => ?_⟩
  have M1 := M.go0 g1
  (tm_at "dl go")
  refine m_lenL M1 hx ?_
  rw [List.length_map]
  refine ⟨F, l.length, rfl, M1.fh, hl, fun v F3 H3 g3 d3 => ?_⟩
  have M3 := M1.go0 g3
  (tm_at "dl go")
  have wl := wnum_len l.length
  refine m_cat M3 d3 (hx.mono g3.ff) (sz100 (by simp only [List.length_map]; omega)) fun q F5 H5 M5 s5 d5 => ?_
  (tm_at "dl go")
  refine m_lz (by simp only [List.length_cons, List.length_nil]; decide) ?_
  refine m_lstF M5 (.cons (.int _) (.cons (.int _) (.cons (.int _) (.cons (.int _) .nil)))) fun t F2 H2 M2 s2 d2 => ?_
  refine m_cat M2 (d5.mono s2) d2 (sz100 (by simp only [List.length_append, List.length_map, List.length_cons, List.length_nil]; omega)) fun r F6 H6 M6 s6 d6 => ?_
  refine k _ _ _ M6.fin0 ?_
  unfold wrec
  rw [List.map_append, List.map_append]
  exact d6
end
end K11

namespace K11
open PySem PySem.Spec PyProof.Rows L2 DL
local macro_rules | `(tactic| tm_at "dl hp") => `(tactic| (first | assumption | exact Mem.at0 (by assumption) | exact Mem.at1 (by assumption) | exact Mem.at2 (by assumption) | exact Mem.at3 (by assumption)))
local macro_rules | `(tactic| tm_at "dl ch") => `(tactic| (repeat (first | exact L2.Same.refl _ | assumption | refine L2.Same.trans ?_ (by assumption))))
local macro_rules | `(tactic| tm_at "dl da") => `(tactic| (first | assumption | (refine Da.mono ?_ (by assumption); (repeat (first | exact L2.Same.refl _ | assumption | refine L2.Same.trans ?_ (by assumption))))))
local macro_rules | `(tactic| tm_at "dl st") => `(tactic| (first | ((with_reducible show tVar _ _ _ _); refine s_var (by rfl) ?_) | with_reducible refine s_seq ?_ | with_reducible refine s_asg ?_ | with_reducible refine s_op ?_ | with_reducible refine s_un ?_ | with_reducible refine s_c ?_ | with_reducible refine s_call ?_ | with_reducible refine s_cons ?_ | with_reducible refine s_nil ?_ | with_reducible refine s_CB ?_ | with_reducible refine s_test ?_ | with_reducible refine s_tB ?_ | with_reducible refine s_tq ?_ | with_reducible refine s_if ?_ | with_reducible refine s_drop ?_ | with_reducible refine s_ret ?_ | with_reducible refine s_retN ?_ | with_reducible refine s_next ?_ | with_reducible refine s_brk ?_ | with_reducible refine s_cont ?_ | with_reducible refine s_name ?_ | with_reducible refine s_I0 ?_ | with_reducible refine s_U ?_ | with_reducible refine s_eqI ?_ | with_reducible refine s_eqS ?_ | with_reducible refine s_eqB ?_ | with_reducible refine s_neI ?_ | with_reducible refine s_neS ?_ | with_reducible refine s_neB ?_ | with_reducible refine s_isN0 ?_ | with_reducible refine s_isNI ?_ | with_reducible refine s_isNS ?_ | with_reducible refine s_isNR ?_ | with_reducible refine s_isNB ?_ | with_reducible refine s_notN0 ?_ | with_reducible refine s_notNI ?_ | with_reducible refine s_notNS ?_ | with_reducible refine s_notNR ?_ | with_reducible refine iteNT ?_ | with_reducible refine iteNF ?_ | with_reducible refine s_not ?_ | with_reducible refine s_and ?_ | with_reducible refine s_or ?_ | with_reducible refine s_ifE ?_ | with_reducible refine s_andV ?_ | with_reducible refine s_orV ?_ | with_reducible refine s_notV ?_ | with_reducible refine s_tup ?_ | with_reducible refine s_lst ?_ | with_reducible refine s_sub ?_ | with_reducible refine s_gCons ?_ | with_reducible refine s_gNil ?_ | with_reducible refine s_ipI ?_ | with_reducible refine s_for ?_ | with_reducible refine s_lc ?_ | with_reducible refine s_yes ?_ | with_reducible refine s_iList ?_ | with_reducible refine s_iTup ?_ | with_reducible refine s_iRng1 ?_ | with_reducible refine s_iRng2 ?_ | with_reducible refine s_iZip ?_ | with_reducible refine s_iEnum ?_ | with_reducible refine s_iStr ?_ | with_reducible refine s_st ?_ | with_reducible refine iteT ?_ | with_reducible refine iteF ?_ | with_reducible refine s_BM ?_ | with_reducible refine s_tyS ?_ | with_reducible refine s_int ?_ | with_reducible refine s_intB ?_ | with_reducible refine s_min ?_ | with_reducible refine s_max ?_ | with_reducible refine s_sl ?_ | with_reducible refine s_noP ?_ | with_reducible refine s_meth ?_ | with_reducible refine s_fld ?_ | with_reducible refine s_sfld ?_ | with_reducible refine s_make ?_ | with_reducible refine s_part ?_ | with_reducible refine s_pt ?_ | with_reducible refine s_augS ?_ | with_reducible refine s_fldaug ?_ | with_reducible refine s_inadd ?_ | with_reducible refine s_try ?_ | with_reducible refine s_methS ?_ | with_reducible refine s_callS ?_ | with_reducible refine s_rz ?_ | ((with_reducible show tAug _ _ _ _ _ _); refine s_aug (by rfl) ?_) | ((with_reducible show rI _ _ _ _ _ _); refine s_I (by first | (show (0 : Int) < _; decide) | (exact ⟨by decide, by decide⟩) | (exact .inr ⟨by decide, by decide⟩) | (exact .inl ⟨by decide, by decide⟩) | (exact ⟨by decide, by decide, by decide⟩)) ?_) | ((with_reducible show rIsi _ _ _ _); first | refine m_isi (by assumption) (by assumption) (r := true) (by dsimp only [tyD]; decide +kernel) ?_ | refine m_isi (by assumption) (by assumption) (r := false) (by dsimp only [tyD]; decide +kernel) ?_) | ((with_reducible show tyV _ _ _ _ ∧ _); refine s_tyL (by (first | assumption | exact Mem.at0 (by assumption) | exact Mem.at1 (by assumption) | exact Mem.at2 (by assumption) | exact Mem.at3 (by assumption))) ?_) | ((with_reducible show rIxL _ _ _ _ _); refine s_ixL (by (first | assumption | exact Mem.at0 (by assumption) | exact Mem.at1 (by assumption) | exact Mem.at2 (by assumption) | exact Mem.at3 (by assumption))) (by rfl) ?_)))
local macro_rules | `(tactic| tm_at "dl go") => `(tactic| (repeat (first | ((with_reducible show tVar _ _ _ _); refine s_var (by rfl) ?_) | with_reducible refine s_seq ?_ | with_reducible refine s_asg ?_ | with_reducible refine s_op ?_ | with_reducible refine s_un ?_ | with_reducible refine s_c ?_ | with_reducible refine s_call ?_ | with_reducible refine s_cons ?_ | with_reducible refine s_nil ?_ | with_reducible refine s_CB ?_ | with_reducible refine s_test ?_ | with_reducible refine s_tB ?_ | with_reducible refine s_tq ?_ | with_reducible refine s_if ?_ | with_reducible refine s_drop ?_ | with_reducible refine s_ret ?_ | with_reducible refine s_retN ?_ | with_reducible refine s_next ?_ | with_reducible refine s_brk ?_ | with_reducible refine s_cont ?_ | with_reducible refine s_name ?_ | with_reducible refine s_I0 ?_ | with_reducible refine s_U ?_ | with_reducible refine s_eqI ?_ | with_reducible refine s_eqS ?_ | with_reducible refine s_eqB ?_ | with_reducible refine s_neI ?_ | with_reducible refine s_neS ?_ | with_reducible refine s_neB ?_ | with_reducible refine s_isN0 ?_ | with_reducible refine s_isNI ?_ | with_reducible refine s_isNS ?_ | with_reducible refine s_isNR ?_ | with_reducible refine s_isNB ?_ | with_reducible refine s_notN0 ?_ | with_reducible refine s_notNI ?_ | with_reducible refine s_notNS ?_ | with_reducible refine s_notNR ?_ | with_reducible refine iteNT ?_ | with_reducible refine iteNF ?_ | with_reducible refine s_not ?_ | with_reducible refine s_and ?_ | with_reducible refine s_or ?_ | with_reducible refine s_ifE ?_ | with_reducible refine s_andV ?_ | with_reducible refine s_orV ?_ | with_reducible refine s_notV ?_ | with_reducible refine s_tup ?_ | with_reducible refine s_lst ?_ | with_reducible refine s_sub ?_ | with_reducible refine s_gCons ?_ | with_reducible refine s_gNil ?_ | with_reducible refine s_ipI ?_ | with_reducible refine s_for ?_ | with_reducible refine s_lc ?_ | with_reducible refine s_yes ?_ | with_reducible refine s_iList ?_ | with_reducible refine s_iTup ?_ | with_reducible refine s_iRng1 ?_ | with_reducible refine s_iRng2 ?_ | with_reducible refine s_iZip ?_ | with_reducible refine s_iEnum ?_ | with_reducible refine s_iStr ?_ | with_reducible refine s_st ?_ | with_reducible refine iteT ?_ | with_reducible refine iteF ?_ | with_reducible refine s_BM ?_ | with_reducible refine s_tyS ?_ | with_reducible refine s_int ?_ | with_reducible refine s_intB ?_ | with_reducible refine s_min ?_ | with_reducible refine s_max ?_ | with_reducible refine s_sl ?_ | with_reducible refine s_noP ?_ | with_reducible refine s_meth ?_ | with_reducible refine s_fld ?_ | with_reducible refine s_sfld ?_ | with_reducible refine s_make ?_ | with_reducible refine s_part ?_ | with_reducible refine s_pt ?_ | with_reducible refine s_augS ?_ | with_reducible refine s_fldaug ?_ | with_reducible refine s_inadd ?_ | with_reducible refine s_try ?_ | with_reducible refine s_methS ?_ | with_reducible refine s_callS ?_ | with_reducible refine s_rz ?_ | ((with_reducible show tAug _ _ _ _ _ _); refine s_aug (by rfl) ?_) | ((with_reducible show rI _ _ _ _ _ _); refine s_I (by first | (show (0 : Int) < _; decide) | (exact ⟨by decide, by decide⟩) | (exact .inr ⟨by decide, by decide⟩) | (exact .inl ⟨by decide, by decide⟩) | (exact ⟨by decide, by decide, by decide⟩)) ?_) | ((with_reducible show rIsi _ _ _ _); first | refine m_isi (by assumption) (by assumption) (r := true) (by dsimp only [tyD]; decide +kernel) ?_ | refine m_isi (by assumption) (by assumption) (r := false) (by dsimp only [tyD]; decide +kernel) ?_) | ((with_reducible show tyV _ _ _ _ ∧ _); refine s_tyL (by (first | assumption | exact Mem.at0 (by assumption) | exact Mem.at1 (by assumption) | exact Mem.at2 (by assumption) | exact Mem.at3 (by assumption))) ?_) | ((with_reducible show rIxL _ _ _ _ _); refine s_ixL (by (first | assumption | exact Mem.at0 (by assumption) | exact Mem.at1 (by assumption) | exact Mem.at2 (by assumption) | exact Mem.at3 (by assumption))) (by rfl) ?_))))

/-! reading: the plain part -/
def rnum : Nat → Bool → Int → Int → Nat → List Int → Option (Int × Nat)
  | 0, _, _, _, _, _ => none
  | _ + 1, _, _, _, _, [] => none
  | k + 1, first, fac, tot, u, b :: t => if b < 128 then (if b = 0 ∧ first = false then none else some (tot + b % 128 * fac, u + 1)) else rnum k false (fac * 128) (tot + b % 128 * fac) (u + 1) t
def rnum0 (l : List Int) : Option (Int × Nat) := rnum 60 true 1 0 0 l
abbrev CR (K : PySem.W.Frag) : Addr := He.ga K "Reader"
abbrev CD (K : PySem.W.Frag) : Addr := He.ga K "DamagedPacket"
def IsR (K : PySem.W.Frag) (R : Hp) (a : Addr) (l : List Int) (n : Nat) : Prop := ∃ dx li, R a = some (.ins (CR K) dx [("data", .ref li), ("at", .int (n : Int))]) ∧ R dx = some (.own a) ∧ R li = some (.lst (l.map V.int))
theorem put_a (x y z : V) : putF "at" z [(("data" : Str), x), (("at" : Str), y)] = [(("data" : Str), x), (("at" : Str), z)] := by
  show (if ("data" : Str) = "at" then _ else (("data" : Str), x) :: (if ("at" : Str) = "at" then _ else _)) = _
  rw [if_neg (show ¬ ("data" : Str) = "at" by decide +kernel), if_pos rfl]
theorem get_d (x y : V) : List.lookup ("data" : Str) ([(("data" : Str), x), (("at" : Str), y)] : List (Str × V)) = some x := by
  rw [List.lookup_cons_self]
theorem get_a (x y : V) : List.lookup ("at" : Str) ([(("data" : Str), x), (("at" : Str), y)] : List (Str × V)) = some y := by
  rw [List.lookup_cons, show (("at" : Str) == "data") = false by decide +kernel]
  rw [List.lookup_cons_self]
theorem get_no {m : Str} (h1 : (m == ("data" : Str)) = false) (h2 : (m == ("at" : Str)) = false) (x y : V) : ([(("data" : Str), x), (("at" : Str), y)] : List (Str × V)).lookup m = Option.none := by
  rw [List.lookup_cons, h1]
  show List.lookup m [(("at" : Str), y)] = Option.none
  rw [List.lookup_cons, h2]
  rfl
theorem cutA_map {α β : Type} (f : α → β) (l : List α) (lo hi : Option Int) : cutA (l.map f) lo hi = (cutA l lo hi).map f := by
  unfold cutA
  rw [List.length_map, ← List.map_drop, ← List.map_take]
theorem cutA_ft {α : Type} (l : List α) (i j : Nat) : cutA l (some (i : Int)) (some (j : Int)) = (l.drop i).take (j - i) := by
  unfold cutA
  rw [sIx0, sIx0]
  by_cases h : i ≤ l.length
  · rw [Nat.min_eq_left h]
    by_cases h2 : j ≤ l.length
    · rw [Nat.min_eq_left h2]
    · rw [Nat.min_eq_right (by omega), List.take_of_length_le (by rw [List.length_drop]; omega), List.take_of_length_le (by rw [List.length_drop]; omega)]
  · rw [Nat.min_eq_right (show l.length ≤ i by omega), List.drop_eq_nil_of_le (Nat.le_refl _), List.drop_eq_nil_of_le (show l.length ≤ i by omega), List.take_nil, List.take_nil]
theorem cutA_back {α : Type} (l : List α) (k : Nat) (h : k ≤ l.length) (h0 : 0 < k) : cutA l (some (-(k : Int))) none = l.drop (l.length - k) := by
  unfold cutA
  rw [HT.sIx_none, show HT.sIx l.length 0 (some (-(k : Int))) = l.length - k from ?_]
  · rw [List.take_of_length_le (by rw [List.length_drop]; omega)]
  · show (if -(k : Int) < 0 then (-(k : Int) + (l.length : Int)).toNat else _) = _
    rw [if_pos (by omega)]
    omega
section
variable {P : Program} {w : World} {K : PySem.W.Frag} {mg : Str → Option Value} {base : Heap}
def sp_init : Sp := fun vs H Q _ => ∃ (F R : Hp) (a dx : Addr) (x : V) (l : List Int), vs = [.ref a, x] ∧ Same F H ∧ Same R H ∧ Dj F R ∧ R a = some (.ins (CR K) dx []) ∧ R dx = some (.own a) ∧ Da F x (.list (l.map PyData.int)) ∧ ∀ F' H' R', Go F H R F' H' R' → IsR K R' a l 0 → Q .non H'
theorem ok_Reader___init__ (T : Tx K mg) : FnI P w K mg base CX0 "Reader" (CR K) 1 ["self", "data"] (sp_init (K := K)) := by
  refine fnI T.i_Reader sc_Reader___init__ bd_Reader___init__ (fun vs H Q E h => ?_) (fun f cdv A outer s H vs Q E hr h => ?_)
  · obtain ⟨F, R, a, dx, x, l, rfl, _⟩ := h
    rfl
  obtain ⟨F, R, a, dx, x, l, rfl, hF, hR, hd, h1, h2, hx, k⟩ := h
  have M := Mem.start hF hR hd
  refine ⟨_, (pss_cons (ps_fld (pv 0) (pe_callTy c_list (by rfl) T.b_list DL.bt_list (pa_cons (pv 1) pa_nil)) rfl)
  (pss_one (ps_fld (pv 0) pe_int rfl))), ?_⟩
  (tm_at "dl go")
  refine m_listO M hx fun st vs H3 M3 ha => ?_
  obtain rfl := ha.ints_inv
  (tm_at "dl go")
  refine s_sf (M3.oh1 _ _ h1) T.cl_Reader T.na_Reader_data (by show 0 < 1000; decide) ?_
  have M4 := M3.swap.write (p := a) (o := .ins (CR K) dx (putF "data" (.ref st) [])) (ns h1)
  (tm_at "dl go")
  refine s_sf (M4.oh0 _ _ upd_same) T.cl_Reader T.na_Reader_at (by show 1 < 1000; decide) ?_
  have M5 := M4.write (p := a) (o := .ins (CR K) dx (putF "at" (.int 0) (putF "data" (.ref st) []))) (by rw [upd_same]; intro q; cases q)
  have nd : dx ≠ a := ne_of h2 h1 (by intro q; cases q)
  have M6 := M5.join
  refine k _ _ _ M6.fin ⟨dx, st, ?_, ?_, un_right M5.dj01 cell_same⟩
  · exact un_left (by rw [upd_same]; rfl)
  · exact un_left (by rw [upd_ne nd, upd_ne nd]; exact h2)
def sp_rb (K : PySem.W.Frag) : Sp := fun vs H Q E => ∃ (F R : Hp) (a : Addr) (l : List Int) (n : Nat), vs = [.ref a] ∧ Same F H ∧ Same R H ∧ Dj F R ∧ IsR K R a l n ∧
  (∀ b, l[n]? = some b → ∀ F' H' R', Go F H R F' H' R' → IsR K R' a l (n + 1) → Q (.int b) H') ∧ (l[n]? = none → E (.ref (CD K)) Option.none H)
theorem ok_Reader_read_byte (T : Tx K mg) : FnM P w K mg base (L2.CX P w) (CR K) "read_byte" 1 ["self"] (sp_rb K) := by
  refine fnMX T.m_Reader_read_byte sc_Reader_read_byte bd_Reader_read_byte (fun vs H Q E h => ?_) (fun f cdv A outer s H vs Q E hr h => ?_)
  · obtain ⟨F, R, a, l, n, rfl, _⟩ := h
    rfl
  obtain ⟨F, R, a, l, n, rfl, hF, hR, hd, ⟨dx, li, h1, h2, h3⟩, k1, k2⟩ := h
  have M := Mem.start hF hR hd
  refine ⟨_, (pss_cons (ps_if (pt_cmpR op_ge (pe_fld (pv 0) rfl) (pe_callB c_lenQ (by rfl) T.b_len DL.bt_len (pa_cons (pe_fld (pv 0) rfl) pa_nil)) (nomark _))
  (pss_one (ps_rz rfl (takes_of rfl rfl rfl rfl) T.x_DamagedPacket rfl))
  pss_nil)
  (pss_cons (ps_fldaug (pv 0) pe_int in_add)
  (pss_one (ps_ret (pe_ix ix_list (pe_fld (pv 0) rfl) (pe_op op_sub (pe_fld (pv 0) rfl) pe_int) (fun _ _ => rfl)))))), ?_⟩
  (tm_at "dl go")
  refine s_fd (hR _ _ h1) T.cl_Reader T.na_Reader_at (get_a _ _) ?_
  (tm_at "dl go")
  refine s_fd (hR _ _ h1) T.cl_Reader T.na_Reader_data (get_d _ _) ?_
  (tm_at "dl go")
  refine s_lenL (hR _ _ h3) ?_
  rw [List.length_map]
  (tm_at "dl go")
  refine ite2 (fun h => ?_) (fun h => ?_)
  · (tm_at "dl go")
    have h' := of_decide_eq_true h
    exact k2 (List.getElem?_eq_none (by omega))
  · have h' : n < l.length := by
      have := h
      simp at this
      omega
    (tm_at "dl go")
    refine s_fa (hR _ _ h1) T.cl_Reader T.na_Reader_at (get_a _ _) (by show 2 < 1000; decide) ?_
    rw [put_a]
    have M2 := M.write (p := a) (o := .ins (CR K) dx [("data", .ref li), ("at", .int ((n : Int) + 1))]) (ns h1)
    (tm_at "dl go")
    have nl : li ≠ a := ne_of h3 h1 (by intro q; cases q)
    have nd : dx ≠ a := ne_of h2 h1 (by intro q; cases q)
    refine s_fd (M2.oh0 _ _ upd_same) T.cl_Reader T.na_Reader_data (get_d _ _) ?_
    (tm_at "dl go")
    refine s_fd (M2.oh0 _ _ upd_same) T.cl_Reader T.na_Reader_at (get_a _ _) ?_
    (tm_at "dl go")
    refine s_ixL (v := .int l[n]) (M2.oh0 _ _ (by rw [upd_ne nl]; exact h3)) (atI_at (j := n) (by omega) (by rw [List.getElem?_map, List.getElem?_eq_getElem h']; rfl)) ?_
    refine k1 _ (List.getElem?_eq_getElem h') _ _ _ M2.fin ⟨dx, li, upd_same, by rw [upd_ne nd]; exact h2, by rw [upd_ne nl]; exact h3⟩
def sp_rn (K : PySem.W.Frag) : Sp := fun vs H Q E => ∃ (F R : Hp) (a : Addr) (l : List Int), vs = [.ref a] ∧ Same F H ∧ Same R H ∧ Dj F R ∧ IsR K R a l 0 ∧
  (∀ v u, rnum0 l = some (v, u) → ∀ F' H' R', Go F H R F' H' R' → IsR K R' a l u → Q (.int v) H') ∧ (rnum0 l = none → ∀ F' H' R', Go F H R F' H' R' → E (.ref (CD K)) Option.none H')
theorem ok_Reader_read_number (T : Tx K mg) : FnM P w K mg base (L2.CX P w) (CR K) "read_number" 2 ["self"] (sp_rn K) := by
  refine fnMX T.m_Reader_read_number sc_Reader_read_number bd_Reader_read_number (fun vs H Q E h => ?_) (fun f cdv A outer s H vs Q E hr h => ?_)
  · obtain ⟨F, R, a, l, rfl, _⟩ := h
    rfl
  obtain ⟨F, R, a, l, rfl, hF, hR, hd, hr0, k1, k2⟩ := h
  have M := Mem.start hF hR hd
  refine ⟨_, (pss_cons (ps_set (i := 1) sc_Reader_read_number.nd rfl (Or.inl rfl) pe_int)
  (pss_cons (ps_set (i := 2) sc_Reader_read_number.nd rfl (Or.inl rfl) pe_int)
  (pss_cons (ps_for (passes_of rfl) rfl (pi_range1 rfl T.b_range (pa_cons (pe_cI rfl T.c_NUMBER_BYTES) pa_nil)) (pg_name (i := 3) sc_Reader_read_number.nd rfl (Or.inl rfl))
  (pss_cons (ps_set (i := 4) sc_Reader_read_number.nd rfl (Or.inl rfl) (pe_m0 (ok_Reader_read_byte T) (pv 0) T.cl_Reader (hr.mono (by first | decide | omega)) (passes_call (takes_of rfl rfl rfl rfl) (fun _ _ _ _ h => h))))
  (pss_cons (ps_aug (i := 1) sc_Reader_read_number.nd rfl (Or.inl rfl) (pe_op op_mul (pe_op op_mod (pv 4) pe_int) (pv 2)) ip_add)
  (pss_cons (ps_if (pt_cmpR op_lt (pv 4) pe_int (nomark _))
  (pss_cons (ps_if (PW.pt (pw_and (pt_cmpR op_eq (pv 4) pe_int (nomark _)) (pw_and1 (pt_cmpR op_gt (pv 3) pe_int (nomark _)))))
  (pss_one (ps_rz rfl (takes_of rfl rfl rfl rfl) T.x_DamagedPacket rfl))
  pss_nil)
  (pss_one (ps_ret (pv 1))))
  pss_nil)
  (pss_one (ps_set (i := 2) sc_Reader_read_number.nd rfl (Or.inl rfl) (pe_op op_mul (pv 2) pe_int)))))))
  (pss_one (ps_rz rfl (takes_of rfl rfl rfl rfl) T.x_DamagedPacket rfl))))), ?_⟩
  (tm_at "dl go")
  refine s_r1 (by decide) (by decide) ?_
  refine m_forR M (fun i σ F' own => ∃ (tot fac : Int) (u v : Option V) (R' : Hp), σ = [some (.ref a), some (.int tot), some (.int fac), u, v] ∧ own = [R'] ∧ IsR K R' a l i ∧ rnum0 l = rnum (60 - i) (i == 0) fac tot i (l.drop i))
    ⟨0, 1, _, _, R, rfl, rfl, hr0, rfl⟩ ?_ ?_
  · rintro i σ F2 H2 own hi s2 M2 ⟨tot, fac, u, v, R2, rfl, rfl, hr2, e⟩
    have hi' : i < 60 := hi
    obtain ⟨dx, li, h1, h2, h3⟩ := id hr2
    (tm_at "dl go")
    refine s_mt (M2.oh0 _ _ h1) (get_no (by decide +kernel) (by decide +kernel) _ _) ?_
    (tm_at "dl go")
    obtain ⟨j, hj⟩ : ∃ j, 60 - i = j + 1 := ⟨59 - i, by omega⟩
    refine ⟨F2, R2, a, l, i, rfl, M2.fh, M2.oh0, M2.fo0, hr2, fun b eb F3 H3 R3 g3 hr3 => ?_, fun eb => ?_⟩
    · have M3 := M2.go g3
      obtain ⟨hil, eb'⟩ := List.getElem?_eq_some_iff.mp eb
      rw [List.drop_eq_getElem_cons hil, eb', hj, rnum] at e
      (tm_at "dl go")
      refine s_I (.inl ⟨by omega, by omega⟩) ?_
      (tm_at "dl go")
      refine ite2 (fun h => ?_) (fun h => ?_)
      · rw [if_pos (of_decide_eq_true h)] at e
        refine s_seq ?_
        refine s_if (s_cutT (fun b' H' => b' = decide (b = 0 ∧ (i == 0) = false) ∧ H' = H3) (fun Q k => ?_) ?_)
        · (tm_at "dl go")
          by_cases hb : b = 0
          · rw [decide_eq_true hb, if_pos rfl]
            (tm_at "dl go")
            refine k _ _ ⟨?_, rfl⟩
            by_cases hi0 : i = 0
            · subst hi0; simp
            · rw [decide_eq_true (show (0 : Int) < 0 + (i : Int) by omega)]
              exact (decide_eq_true (show b = 0 ∧ (i == 0) = false from ⟨hb, by simpa using hi0⟩)).symm
          · rw [decide_eq_false hb, if_neg (by decide)]
            exact k _ _ ⟨(decide_eq_false (show ¬ (b = 0 ∧ (i == 0) = false) from fun z => hb z.1)).symm, rfl⟩
        rintro b' H' ⟨rfl, rfl⟩
        refine ite2 (fun hz => ?_) (fun hz => ?_)
        · rw [if_pos (of_decide_eq_true hz)] at e
          (tm_at "dl go")
          exact k2 e _ _ _ M3.fin
        · rw [if_neg (fun z => hz (decide_eq_true z))] at e
          (tm_at "dl go")
          exact k1 _ _ e _ _ _ M3.fin hr3
      · rw [if_neg (fun z => h (decide_eq_true z))] at e
        (tm_at "dl go")
        refine Nx.mk (s2.trans g3.ff) M3 ⟨_, _, _, _, R3, rfl, rfl, hr3, ?_⟩
        rw [e, show 60 - (i + 1) = j by omega]
        rfl
    · rw [hj, List.drop_eq_nil_of_le (List.getElem?_eq_none_iff.mp eb)] at e
      exact k2 e _ _ _ M2.fin
  · rintro σ F2 H2 own s2 M2 ⟨tot, fac, u, v, R2, rfl, rfl, hr2, e⟩
    (tm_at "dl go")
    exact k2 e _ _ _ M2.fin
def sp_rs : Sp := fun vs H Q _ => ∃ (F : Hp) (x : V) (l : List Int) (s : Nat), vs = [x, .int (s : Int)] ∧ Same F H ∧ Da F x (.list (l.map PyData.int)) ∧
  (∀ v u, rnum0 ((l.drop s).take 60) = some (v, u) → ∀ q F' H', Go F H emp F' H' emp → Da F' (.ref q) (.tuple [.int ((s : Int) + (u : Int)), .int v]) → Q (.ref q) H') ∧ (rnum0 ((l.drop s).take 60) = none → ∀ F' H', Go F H emp F' H' emp → Q .non H')
theorem ok__read_size (T : Tx K mg) : FnE P w K mg base CX0 "_read_size" 3 ["data", "start"] sp_rs := by
  refine fnE T.d__read_size sc__read_size bd__read_size (fun vs H Q E h => ?_) (fun f cdv A outer s H vs Q E hr h => ?_)
  · obtain ⟨F, x, l, s, rfl, _⟩ := h
    rfl
  obtain ⟨F, x, l, s, rfl, hF, hx, k1, k2⟩ := h
  have M := Mem.start0 hF
  refine ⟨_, (pss_cons (ps_set (i := 2) sc__read_size.nd rfl (Or.inl rfl) (pe_i (ok_Reader___init__ T) (hr.mono (by first | decide | omega)) rfl pass0 (pa_cons (pe_slice sl_list (pv 0) (po_some (pv 1)) (po_some (pe_op op_add (pv 1) pe_int))) pa_nil)))
  (pss_cons (ps_tr rfl rfl rfl T.x_DamagedPacket takes0 (fun W pn xe tk po => (pss_one (ps_set (i := 3) sc__read_size.nd rfl (Or.inl rfl) (pe_mS0 (ok_Reader_read_number T) (pv 2) T.cl_Reader (hr.mono (by first | decide | omega)) (fun σ => passAt tk σ))))) (fun a oe cls d pn _ _ => (pss_one (ps_ret pe_non))))
  (pss_one (ps_ret (pe_tup (pa_cons (pe_op op_add (pv 1) (pe_fld (pv 2) rfl)) (pa_cons (pv 3) pa_nil))))))), ?_⟩
  (tm_at "dl go")
  refine m_slL M hx fun q F1 H1 M1 s1 d1 => ?_
  have ec : cutA (l.map PyData.int) (some (s : Int)) (some ((s : Int) + 60)) = ((l.drop s).take 60).map PyData.int := by
    rw [show (s : Int) + 60 = ((s + 60 : Nat) : Int) by omega, cutA_map, cutA_ft, Nat.add_sub_cancel_left]
  rw [ec] at d1
  (tm_at "dl go")
  refine m_mk M1 fun r S0 H3 M3 hS0 => ?_
  obtain ⟨dx, i1, i2⟩ := hS0
  refine ⟨F1, S0, r, dx, _, _, rfl, M3.fh, M3.oh0, M3.fo0, i1, i2, d1, fun F4 H4 S4 g4 hr4 => ⟨rfl, ?_⟩⟩
  have M4 := M3.go g4
  (tm_at "dl go")
  obtain ⟨dx', li, h1, h2, h3⟩ := id hr4
  refine s_mtS (M4.oh0 _ _ h1) (get_no (by decide +kernel) (by decide +kernel) _ _) ?_
  (tm_at "dl go")
  refine ⟨F4, S4, r, _, rfl, M4.fh, M4.oh0, M4.fo0, hr4, fun v u e F5 H5 S5 g5 hr5 => ?_, fun e F5 H5 S5 g5 => ?_⟩
  · have M5 := M4.go g5
    obtain ⟨dx', li, h1, h2, h3⟩ := id hr5
    (tm_at "dl go")
    refine s_fd (M5.oh0 _ _ h1) T.cl_Reader T.na_Reader_at (get_a _ _) ?_
    (tm_at "dl go")
    refine m_tup M5 (.cons (.int _) (.cons (.int _) .nil)) (Nat.le_of_lt (small1000 (by simp only [List.length_cons, List.length_nil]; decide))) fun t F6 H6 M6 s6 ht => ?_
    exact k1 _ _ e _ _ _ M6.fin0 ht
  · have M5 := M4.go g5
    refine s_caught T.xm_DamagedPacket fun a ha => ?_
    (tm_at "dl go")
    exact k2 e _ _ M5.fin0
end
end K11

namespace K11
open PySem PySem.Spec PyProof.Rows L2 DL
abbrev enc (l : List Int) : PyData := .list (l.map PyData.int)
def flat (rs : List (List Int)) : List Int := (rs.map wrec).flatten
def By (l : List Int) : Prop := ∀ b ∈ l, 0 ≤ b ∧ b < 256
def Bad (b : List Int) : Prop := ∀ v u, rnum0 (b.take 60) = some (v, u) → 0 ≤ v ∧ (b.length < u + v.toNat + 4 ∨ tail4 (csum ((b.drop u).take v.toNat)) ≠ (b.drop (u + v.toNat)).take 4)
/-! numbers -/
theorem wnum_form (n : Nat) : ∃ hs t, wnum n = hs ++ [t] ∧ (∀ h ∈ hs, 128 ≤ h ∧ h < 256) ∧ 0 ≤ t ∧ t < 128 := by
  induction n using Nat.strongRecOn with
  | _ n ih =>
    by_cases h : n < 128
    · exact ⟨[], (n : Int), by rw [wnum_lt h]; rfl, fun z hz => (nomatch hz), by omega, by omega⟩
    · obtain ⟨hs, t, e, a, b, c⟩ := ih (n / 128) (by omega)
      refine ⟨((n : Int) % 128 + 128) :: hs, t, by rw [wnum_ge h, e]; rfl, fun z hz => ?_, b, c⟩
      rcases List.mem_cons.mp hz with rfl | hz
      · omega
      · exact a z hz
theorem wnum_by (n : Nat) : By (wnum n) := by
  obtain ⟨hs, t, e, a, b, c⟩ := wnum_form n
  rw [e]
  intro z hz
  rcases List.mem_append.mp hz with h | h
  · have := a z h; omega
  · rw [List.mem_singleton.mp h]; omega
theorem wnum_pos (n : Nat) : 0 < (wnum n).length := by
  obtain ⟨hs, t, e, _⟩ := wnum_form n
  rw [e, List.length_append, List.length_singleton]
  omega
theorem wnum_le3 {n : Nat} (h : n ≤ 1000000) : (wnum n).length ≤ 3 := by
  by_cases h1 : n < 128
  · rw [wnum_lt h1]; simp
  · rw [wnum_ge h1, List.length_cons]
    by_cases h2 : n / 128 < 128
    · rw [wnum_lt h2]; simp
    · rw [wnum_ge h2, List.length_cons, wnum_lt (by omega)]; simp
theorem rnum_wnum (n : Nat) : ∀ (k : Nat) (first : Bool) (fac tot : Int) (u : Nat) (rest : List Int), (wnum n).length ≤ k → (first = true ∨ 0 < n) → rnum k first fac tot u (wnum n ++ rest) = some (tot + n * fac, u + (wnum n).length) := by
  induction n using Nat.strongRecOn with
  | _ n ih =>
    intro k first fac tot u rest hk hf
    by_cases h : n < 128
    · rw [wnum_lt h] at hk ⊢
      obtain ⟨j, rfl⟩ : ∃ j, k = j + 1 := ⟨k - 1, by simp at hk; omega⟩
      show (if (n : Int) < 128 then (if (n : Int) = 0 ∧ first = false then none else some (tot + (n : Int) % 128 * fac, u + 1)) else _) = _
      rw [if_pos (by omega), if_neg (by rintro ⟨a, b⟩; rcases hf with hf | hf; · rw [hf] at b; cases b
                                        omega)]
      rw [show (n : Int) % 128 = n by omega]
      rfl
    · rw [wnum_ge h] at hk ⊢
      obtain ⟨j, rfl⟩ : ∃ j, k = j + 1 := ⟨k - 1, by simp at hk; omega⟩
      show (if (n : Int) % 128 + 128 < 128 then _ else rnum j false (fac * 128) (tot + ((n : Int) % 128 + 128) % 128 * fac) (u + 1) (wnum (n / 128) ++ rest)) = _
      rw [if_neg (by omega), ih (n / 128) (by omega) j false (fac * 128) _ (u + 1) rest (by rw [List.length_cons] at hk; omega) (.inr (by omega))]
      have e1 : ((n : Int) % 128 + 128) % 128 = (n : Int) % 128 := by omega
      have e2 : (n : Int) = (n : Int) % 128 + ((n / 128 : Nat) : Int) * 128 := by omega
      rw [e1, List.length_cons]
      congr 2
      · conv => rhs; rw [e2]
        rw [Int.add_mul, Int.mul_assoc, Int.mul_comm 128 fac, Int.add_assoc]
      · omega
theorem rnum_all : ∀ (hs : List Int) (k : Nat) (first : Bool) (fac tot : Int) (u : Nat), (∀ h ∈ hs, 128 ≤ h) → rnum k first fac tot u hs = none
  | hs, 0, _, _, _, _, _ => by cases hs <;> rfl
  | [], k + 1, _, _, _, _, _ => rfl
  | b :: t, k + 1, first, fac, tot, u, h => by
    have hb := h b List.mem_cons_self
    show (if b < 128 then _ else rnum k false (fac * 128) (tot + b % 128 * fac) (u + 1) t) = none
    rw [if_neg (by omega)]
    exact rnum_all t k _ _ _ _ fun z hz => h z (List.mem_cons_of_mem _ hz)
theorem rnum_zero : ∀ (hs : List Int) (k : Nat) (first : Bool) (fac tot : Int) (u : Nat) (rest : List Int), (∀ h ∈ hs, 128 ≤ h) → (first = false ∨ hs ≠ []) → rnum k first fac tot u (hs ++ 0 :: rest) = none
  | hs, 0, _, _, _, _, rest, _, _ => by cases hs <;> rfl
  | [], k + 1, first, fac, tot, u, rest, _, hf => by
    have hf' : first = false := by
      rcases hf with h | h
      · exact h
      · exact absurd rfl h
    show (if (0 : Int) < 128 then (if (0 : Int) = 0 ∧ first = false then none else _) else _) = none
    rw [if_pos (by decide), if_pos ⟨rfl, hf'⟩]
  | b :: t, k + 1, first, fac, tot, u, rest, h, _ => by
    have hb := h b List.mem_cons_self
    show (if b < 128 then _ else rnum k false (fac * 128) (tot + b % 128 * fac) (u + 1) (t ++ 0 :: rest)) = none
    rw [if_neg (by omega)]
    exact rnum_zero t k _ _ _ _ rest (fun z hz => h z (List.mem_cons_of_mem _ hz)) (.inl rfl)
theorem take_app {α : Type} (a b : List α) (n : Nat) (h : a.length ≤ n) : (a ++ b).take n = a ++ b.take (n - a.length) := by
  rw [List.take_append, List.take_of_length_le h]
/-- a number that stands whole -/
theorem rnum0_ok {n : Nat} (h : n ≤ 1000000) (rest : List Int) : rnum0 ((wnum n ++ rest).take 60) = some ((n : Int), (wnum n).length) := by
  have h3 := wnum_le3 h
  unfold rnum0
  rw [take_app _ _ _ (by omega), rnum_wnum n 60 true 1 0 0 _ (by omega) (.inl rfl)]
  congr 2
  · omega
  · omega
/-! sums -/
theorem csum_range (l : List Int) : 0 ≤ csum l ∧ csum l < 4294967296 := by
  rcases List.eq_nil_or_concat l with rfl | ⟨i, b, rfl⟩
  · exact ⟨by decide, by decide⟩
  · rw [List.concat_eq_append, csum_snoc]
    omega
theorem step_inj : ∀ (c : List Int) (s t : Int), 0 ≤ s → s < 4294967296 → 0 ≤ t → t < 4294967296 → s ≠ t → c.foldl (fun t b => (31 * t + b + 1) % 4294967296) s ≠ c.foldl (fun t b => (31 * t + b + 1) % 4294967296) t
  | [], s, t, _, _, _, _, h => h
  | b :: c, s, t, h1, h2, h3, h4, h => by
    rw [List.foldl_cons, List.foldl_cons]
    refine step_inj c _ _ (by omega) (by omega) (by omega) (by omega) ?_
    intro e
    omega
theorem csum_other {l : List Int} {j : Nat} {x y : Int} (hj : l[j]? = some x) (hx : 0 ≤ x ∧ x < 256) (hy : 0 ≤ y ∧ y < 256) (h : x ≠ y) : csum (l.set j y) ≠ csum l := by
  obtain ⟨hl, e⟩ := List.getElem?_eq_some_iff.mp hj
  rw [List.set_eq_take_append_cons_drop, if_pos hl]
  conv => rhs; rw [← List.take_append_drop j l, List.drop_eq_getElem_cons hl, e]
  unfold csum
  rw [List.foldl_append, List.foldl_append, List.foldl_cons, List.foldl_cons]
  have := csum_range (l.take j)
  unfold csum at this
  refine step_inj _ _ _ (by omega) (by omega) (by omega) (by omega) ?_
  generalize List.foldl _ 7 _ = s at this ⊢
  intro e
  omega
theorem tail4_inj {s t : Int} (h1 : 0 ≤ s) (h2 : 0 ≤ t) (h : tail4 s = tail4 t) : s = t := by
  unfold tail4 at h
  injection h with a h
  injection h with b h
  injection h with c h
  injection h with d h
  omega
theorem tail4_by {s : Int} (h1 : 0 ≤ s) (h2 : s < 4294967296) : By (tail4 s) := by
  intro z hz
  simp only [tail4, List.mem_cons, List.not_mem_nil, or_false] at hz
  rcases hz with rfl | rfl | rfl | rfl <;> omega
theorem wrec_by {r : List Int} (h : By r) : By (wrec r) := by
  intro z hz
  rcases List.mem_append.mp hz with h' | h'
  · rcases List.mem_append.mp h' with h'' | h''
    · exact wnum_by _ z h''
    · exact h z h''
  · exact tail4_by (csum_range r).1 (csum_range r).2 z h'
theorem wrec_len (r : List Int) : (wrec r).length = (wnum r.length).length + r.length + 4 := by
  unfold wrec
  rw [List.length_append, List.length_append]
  rfl
/-! what stands behind the records -/
theorem bad_none {b : List Int} (h : rnum0 (b.take 60) = none) : Bad b := fun v u e => by rw [h] at e; cases e
theorem bad_nil : Bad [] := bad_none rfl
/-- a number, data, four bytes that are not the sum's -/
theorem bad_sum {r t b : List Int} (hr : r.length ≤ 1000000) (ht : t.length = 4) (h : t ≠ tail4 (csum r)) : Bad (wnum r.length ++ r ++ t ++ b) := by
  intro v u e
  rw [List.append_assoc, List.append_assoc, rnum0_ok hr] at e
  cases e
  refine ⟨by omega, .inr ?_⟩
  have e1 : (wnum r.length ++ r ++ t ++ b).drop (wnum r.length).length = r ++ (t ++ b) := by
    rw [List.append_assoc, List.append_assoc, List.drop_left]
  rw [e1, ← List.drop_drop, e1, Int.toNat_natCast, List.take_left, List.drop_left, List.take_append_of_le_length (by omega), List.take_of_length_le (by omega)]
  exact fun z => h z.symm
theorem bad_cut {r : List Int} (hr : r.length ≤ 1000000) {m : Nat} (hm : m < (wrec r).length) : Bad ((wrec r).take m) := by
  have h3 := wnum_le3 hr
  by_cases h : m < (wnum r.length).length
  · refine bad_none ?_
    unfold wrec
    obtain ⟨hs, t, e, a, _⟩ := wnum_form r.length
    rw [List.take_take, List.append_assoc, List.take_append_of_le_length (by omega), e, List.take_append_of_le_length (by rw [e, List.length_append, List.length_singleton] at h; omega)]
    exact rnum_all _ _ _ _ _ _ fun z hz => (a z (List.mem_of_mem_take hz)).1
  · rw [wrec_len] at hm
    intro v u e
    have e2 : (wrec r).take m = wnum r.length ++ (r ++ tail4 (csum r)).take (m - (wnum r.length).length) := by
      unfold wrec
      rw [List.append_assoc, take_app _ _ _ (by omega)]
    rw [e2, rnum0_ok hr] at e
    cases e
    refine ⟨by omega, .inl ?_⟩
    rw [List.length_take, wrec_len]
    omega
theorem bad_long {r b : List Int} {j : Nat} (hr : r.length ≤ 1000000) (hj : j ≤ 4) : ∀ {hs : List Int} {t : Int}, wnum r.length = hs ++ [t] → Bad (hs ++ ([t + 128] ++ List.replicate j 128 ++ [0]) ++ b) := by
  intro hs t e
  have h3 := wnum_le3 hr
  obtain ⟨hs', t', e', a, t0, t1⟩ := wnum_form r.length
  obtain ⟨rfl, q⟩ := List.append_inj' (e.symm.trans e') rfl
  obtain rfl : t = t' := by injection q
  rw [e, List.length_append, List.length_singleton] at h3
  refine bad_none ?_
  have e1 : hs ++ ([t + 128] ++ List.replicate j 128 ++ [0]) ++ b = (hs ++ ([t + 128] ++ List.replicate j 128)) ++ 0 :: b := by simp
  have hl : (hs ++ ([t + 128] ++ List.replicate j 128)).length ≤ 59 := by simp; omega
  rw [e1, take_app _ _ _ (by omega)]
  obtain ⟨m, hm⟩ : ∃ m, 60 - (hs ++ ([t + 128] ++ List.replicate j 128)).length = m + 1 := ⟨59 - (hs ++ ([t + 128] ++ List.replicate j 128)).length, by omega⟩
  rw [hm, List.take_succ_cons]
  refine rnum_zero _ _ _ _ _ _ _ (fun z hz => ?_) (.inr (by simp))
  rcases List.mem_append.mp hz with h | h
  · exact (a z h).1
  · rcases List.mem_append.mp h with h | h
    · rw [List.mem_singleton.mp h]; omega
    · rw [(List.mem_replicate.mp h).2]; decide
/-- a byte of the record is another one -/
theorem bad_byte {r b : List Int} (hr : r.length ≤ 1000000) (hb : By r) {i : Nat} {x y : Int} (hi : (wnum r.length).length ≤ i) (hx : (wrec r)[i]? = some x) (hy : 0 ≤ y ∧ y < 256) (h : x ≠ y) : Bad ((wrec r).set i y ++ b) := by
  have hx' := wrec_by hb x (List.mem_of_getElem? hx)
  obtain ⟨hl, e⟩ := List.getElem?_eq_some_iff.mp hx
  rw [wrec_len] at hl
  have e0 : wrec r = wnum r.length ++ (r ++ tail4 (csum r)) := by unfold wrec; rw [List.append_assoc]
  rw [e0, List.getElem?_append_right hi] at hx
  rw [e0, List.set_append_right _ _ hi]
  by_cases h2 : i - (wnum r.length).length < r.length
  · rw [List.getElem?_append_left h2] at hx
    rw [List.set_append_left _ _ h2]
    have := bad_sum (r := r.set (i - (wnum r.length).length) y) (t := tail4 (csum r)) (b := b) (by rw [List.length_set]; exact hr) rfl
      (fun z => csum_other hx hx' hy h (tail4_inj (csum_range _).1 (csum_range _).1 z).symm)
    rw [List.length_set] at this
    rw [← List.append_assoc]
    exact this
  · rw [List.getElem?_append_right (by omega)] at hx
    rw [List.set_append_right _ _ (by omega), ← List.append_assoc]
    refine bad_sum hr (by rw [List.length_set]; rfl) fun z => ?_
    rw [← z, List.getElem?_set_self (by have : (tail4 (csum r)).length = 4 := rfl; omega)] at hx
    injection hx with q
    exact h q.symm
/-! records ahead -/
theorem flat_take {rs : List (List Int)} {i : Nat} {r : List Int} (h : rs[i]? = some r) : flat (rs.take (i + 1)) = flat (rs.take i) ++ wrec r := by
  rw [take_snoc h]
  unfold flat
  rw [List.map_append, List.flatten_append]
  simp
theorem flat_split (rs : List (List Int)) (i : Nat) : flat rs = flat (rs.take i) ++ flat (rs.drop i) := by
  conv => lhs; rw [← List.take_append_drop i rs]
  unfold flat
  rw [List.map_append, List.flatten_append]
theorem flat_cons (r : List Int) (rs : List (List Int)) : flat (r :: rs) = wrec r ++ flat rs := rfl
theorem flat_at {rs : List (List Int)} {i : Nat} {r : List Int} (h : rs[i]? = some r) (b : List Int) : (flat rs ++ b).drop (flat (rs.take i)).length = wnum r.length ++ (r ++ (tail4 (csum r) ++ (flat (rs.drop (i + 1)) ++ b))) := by
  obtain ⟨hl, e⟩ := List.getElem?_eq_some_iff.mp h
  rw [flat_split rs i, List.append_assoc, List.drop_left, List.drop_eq_getElem_cons hl, e, flat_cons]
  unfold wrec
  simp only [List.append_assoc]
theorem flat_end {rs : List (List Int)} (b : List Int) : (flat rs ++ b).drop (flat rs).length = b := List.drop_left
/-- a cut of the records: whole ones, then a bad rest -/
theorem flat_cut : ∀ (rs : List (List Int)) (m : Nat), (∀ r ∈ rs, r.length ≤ 1000000) → m ≤ (flat rs).length → ∃ i b, i ≤ rs.length ∧ (flat rs).take m = flat (rs.take i) ++ b ∧ Bad b ∧ ∀ j, j ≤ rs.length → ((flat (rs.take j)).length ≤ m ↔ j ≤ i)
  | [], m, _, hm => by
    have h0 : m = 0 := by simpa [flat] using hm
    subst h0
    exact ⟨0, [], Nat.le_refl _, rfl, bad_nil, fun j hj => by simp [flat]; simpa using hj⟩
  | r :: rs, m, hr, hm => by
    have hr0 := hr r List.mem_cons_self
    by_cases h : m < (wrec r).length
    · refine ⟨0, (wrec r).take m, Nat.zero_le _, ?_, bad_cut hr0 h, fun j hj => ?_⟩
      · rw [flat_cons, List.take_append_of_le_length (by omega)]
        rfl
      · cases j with
        | zero => simp [flat]
        | succ j =>
          rw [List.take_succ_cons, flat_cons, List.length_append]
          constructor
          · intro z; omega
          · intro z; omega
    · rw [flat_cons, List.length_append] at hm
      obtain ⟨i, b, hi, e, hb, hj⟩ := flat_cut rs (m - (wrec r).length) (fun z hz => hr z (List.mem_cons_of_mem _ hz)) (by omega)
      refine ⟨i + 1, b, by rw [List.length_cons]; omega, ?_, hb, fun j hj' => ?_⟩
      · rw [flat_cons, take_app _ _ _ (by omega), e, List.take_succ_cons, flat_cons, List.append_assoc]
      · cases j with
        | zero => simp [flat]
        | succ j =>
          rw [List.take_succ_cons, flat_cons, List.length_append]
          have := hj j (by rw [List.length_cons] at hj'; omega)
          constructor
          · intro z; have := this.mp (by omega); omega
          · intro z; have := this.mpr (by omega); omega
theorem eqv_ints : ∀ {a b : List Int}, PyData.eqvAll (a.map PyData.int) (b.map PyData.int) = decide (a = b)
  | [], [] => rfl
  | [], _ :: _ => rfl
  | _ :: _, [] => rfl
  | x :: a, y :: b => by
    rw [List.map_cons, List.map_cons, PyData.eqvAll, eqv_ints (a := a) (b := b), PyData.eqv]
    by_cases h : x = y
    · by_cases h2 : a = b
      · rw [h, h2]; simp
      · rw [decide_eq_false h2, decide_eq_false (show ¬ x :: a = y :: b from fun z => h2 (by injection z))]; simp
    · rw [decide_eq_false (show ¬ x :: a = y :: b from fun z => h (by injection z)), show (x == y) = false by simpa using h]; rfl
theorem eqv_enc {a b : List Int} : PyData.eqv (.list (a.map PyData.int)) (.list (b.map PyData.int)) = decide (a = b) := by
  rw [PyData.eqv]
  exact eqv_ints
end K11

namespace K11
open PySem PySem.Spec PyProof.Rows L2 DL
local macro_rules | `(tactic| tm_at "dl hp") => `(tactic| (first | assumption | exact Mem.at0 (by assumption) | exact Mem.at1 (by assumption) | exact Mem.at2 (by assumption) | exact Mem.at3 (by assumption)))
local macro_rules | `(tactic| tm_at "dl ch") => `(tactic| (repeat (first | exact L2.Same.refl _ | assumption | refine L2.Same.trans ?_ (by assumption))))
local macro_rules | `(tactic| tm_at "dl da") => `(tactic| (first | assumption | (refine Da.mono ?_ (by assumption); (repeat (first | exact L2.Same.refl _ | assumption | refine L2.Same.trans ?_ (by assumption))))))
local macro_rules | `(tactic| tm_at "dl st") => `(tactic| (first | ((with_reducible show tVar _ _ _ _); refine s_var (by rfl) ?_) | with_reducible refine s_seq ?_ | with_reducible refine s_asg ?_ | with_reducible refine s_op ?_ | with_reducible refine s_un ?_ | with_reducible refine s_c ?_ | with_reducible refine s_call ?_ | with_reducible refine s_cons ?_ | with_reducible refine s_nil ?_ | with_reducible refine s_CB ?_ | with_reducible refine s_test ?_ | with_reducible refine s_tB ?_ | with_reducible refine s_tq ?_ | with_reducible refine s_if ?_ | with_reducible refine s_drop ?_ | with_reducible refine s_ret ?_ | with_reducible refine s_retN ?_ | with_reducible refine s_next ?_ | with_reducible refine s_brk ?_ | with_reducible refine s_cont ?_ | with_reducible refine s_name ?_ | with_reducible refine s_I0 ?_ | with_reducible refine s_U ?_ | with_reducible refine s_eqI ?_ | with_reducible refine s_eqS ?_ | with_reducible refine s_eqB ?_ | with_reducible refine s_neI ?_ | with_reducible refine s_neS ?_ | with_reducible refine s_neB ?_ | with_reducible refine s_isN0 ?_ | with_reducible refine s_isNI ?_ | with_reducible refine s_isNS ?_ | with_reducible refine s_isNR ?_ | with_reducible refine s_isNB ?_ | with_reducible refine s_notN0 ?_ | with_reducible refine s_notNI ?_ | with_reducible refine s_notNS ?_ | with_reducible refine s_notNR ?_ | with_reducible refine iteNT ?_ | with_reducible refine iteNF ?_ | with_reducible refine s_not ?_ | with_reducible refine s_and ?_ | with_reducible refine s_or ?_ | with_reducible refine s_ifE ?_ | with_reducible refine s_andV ?_ | with_reducible refine s_orV ?_ | with_reducible refine s_notV ?_ | with_reducible refine s_tup ?_ | with_reducible refine s_lst ?_ | with_reducible refine s_sub ?_ | with_reducible refine s_gCons ?_ | with_reducible refine s_gNil ?_ | with_reducible refine s_ipI ?_ | with_reducible refine s_for ?_ | with_reducible refine s_lc ?_ | with_reducible refine s_yes ?_ | with_reducible refine s_iList ?_ | with_reducible refine s_iTup ?_ | with_reducible refine s_iRng1 ?_ | with_reducible refine s_iRng2 ?_ | with_reducible refine s_iZip ?_ | with_reducible refine s_iEnum ?_ | with_reducible refine s_iStr ?_ | with_reducible refine s_st ?_ | with_reducible refine iteT ?_ | with_reducible refine iteF ?_ | with_reducible refine s_BM ?_ | with_reducible refine s_tyS ?_ | with_reducible refine s_int ?_ | with_reducible refine s_intB ?_ | with_reducible refine s_min ?_ | with_reducible refine s_max ?_ | with_reducible refine s_sl ?_ | with_reducible refine s_noP ?_ | with_reducible refine s_meth ?_ | with_reducible refine s_fld ?_ | with_reducible refine s_sfld ?_ | with_reducible refine s_make ?_ | with_reducible refine s_part ?_ | with_reducible refine s_pt ?_ | with_reducible refine s_augS ?_ | with_reducible refine s_fldaug ?_ | with_reducible refine s_inadd ?_ | with_reducible refine s_try ?_ | with_reducible refine s_methS ?_ | with_reducible refine s_callS ?_ | with_reducible refine s_rz ?_ | ((with_reducible show tAug _ _ _ _ _ _); refine s_aug (by rfl) ?_) | ((with_reducible show rI _ _ _ _ _ _); refine s_I (by first | (show (0 : Int) < _; decide) | (exact ⟨by decide, by decide⟩) | (exact .inr ⟨by decide, by decide⟩) | (exact .inl ⟨by decide, by decide⟩) | (exact ⟨by decide, by decide, by decide⟩)) ?_) | ((with_reducible show rIsi _ _ _ _); first | refine m_isi (by assumption) (by assumption) (r := true) (by dsimp only [tyD]; decide +kernel) ?_ | refine m_isi (by assumption) (by assumption) (r := false) (by dsimp only [tyD]; decide +kernel) ?_) | ((with_reducible show tyV _ _ _ _ ∧ _); refine s_tyL (by (first | assumption | exact Mem.at0 (by assumption) | exact Mem.at1 (by assumption) | exact Mem.at2 (by assumption) | exact Mem.at3 (by assumption))) ?_) | ((with_reducible show rIxL _ _ _ _ _); refine s_ixL (by (first | assumption | exact Mem.at0 (by assumption) | exact Mem.at1 (by assumption) | exact Mem.at2 (by assumption) | exact Mem.at3 (by assumption))) (by rfl) ?_)))
local macro_rules | `(tactic| tm_at "dl go") => `(tactic| (repeat (first | ((with_reducible show tVar _ _ _ _); refine s_var (by rfl) ?_) | with_reducible refine s_seq ?_ | with_reducible refine s_asg ?_ | with_reducible refine s_op ?_ | with_reducible refine s_un ?_ | with_reducible refine s_c ?_ | with_reducible refine s_call ?_ | with_reducible refine s_cons ?_ | with_reducible refine s_nil ?_ | with_reducible refine s_CB ?_ | with_reducible refine s_test ?_ | with_reducible refine s_tB ?_ | with_reducible refine s_tq ?_ | with_reducible refine s_if ?_ | with_reducible refine s_drop ?_ | with_reducible refine s_ret ?_ | with_reducible refine s_retN ?_ | with_reducible refine s_next ?_ | with_reducible refine s_brk ?_ | with_reducible refine s_cont ?_ | with_reducible refine s_name ?_ | with_reducible refine s_I0 ?_ | with_reducible refine s_U ?_ | with_reducible refine s_eqI ?_ | with_reducible refine s_eqS ?_ | with_reducible refine s_eqB ?_ | with_reducible refine s_neI ?_ | with_reducible refine s_neS ?_ | with_reducible refine s_neB ?_ | with_reducible refine s_isN0 ?_ | with_reducible refine s_isNI ?_ | with_reducible refine s_isNS ?_ | with_reducible refine s_isNR ?_ | with_reducible refine s_isNB ?_ | with_reducible refine s_notN0 ?_ | with_reducible refine s_notNI ?_ | with_reducible refine s_notNS ?_ | with_reducible refine s_notNR ?_ | with_reducible refine iteNT ?_ | with_reducible refine iteNF ?_ | with_reducible refine s_not ?_ | with_reducible refine s_and ?_ | with_reducible refine s_or ?_ | with_reducible refine s_ifE ?_ | with_reducible refine s_andV ?_ | with_reducible refine s_orV ?_ | with_reducible refine s_notV ?_ | with_reducible refine s_tup ?_ | with_reducible refine s_lst ?_ | with_reducible refine s_sub ?_ | with_reducible refine s_gCons ?_ | with_reducible refine s_gNil ?_ | with_reducible refine s_ipI ?_ | with_reducible refine s_for ?_ | with_reducible refine s_lc ?_ | with_reducible refine s_yes ?_ | with_reducible refine s_iList ?_ | with_reducible refine s_iTup ?_ | with_reducible refine s_iRng1 ?_ | with_reducible refine s_iRng2 ?_ | with_reducible refine s_iZip ?_ | with_reducible refine s_iEnum ?_ | with_reducible refine s_iStr ?_ | with_reducible refine s_st ?_ | with_reducible refine iteT ?_ | with_reducible refine iteF ?_ | with_reducible refine s_BM ?_ | with_reducible refine s_tyS ?_ | with_reducible refine s_int ?_ | with_reducible refine s_intB ?_ | with_reducible refine s_min ?_ | with_reducible refine s_max ?_ | with_reducible refine s_sl ?_ | with_reducible refine s_noP ?_ | with_reducible refine s_meth ?_ | with_reducible refine s_fld ?_ | with_reducible refine s_sfld ?_ | with_reducible refine s_make ?_ | with_reducible refine s_part ?_ | with_reducible refine s_pt ?_ | with_reducible refine s_augS ?_ | with_reducible refine s_fldaug ?_ | with_reducible refine s_inadd ?_ | with_reducible refine s_try ?_ | with_reducible refine s_methS ?_ | with_reducible refine s_callS ?_ | with_reducible refine s_rz ?_ | ((with_reducible show tAug _ _ _ _ _ _); refine s_aug (by rfl) ?_) | ((with_reducible show rI _ _ _ _ _ _); refine s_I (by first | (show (0 : Int) < _; decide) | (exact ⟨by decide, by decide⟩) | (exact .inr ⟨by decide, by decide⟩) | (exact .inl ⟨by decide, by decide⟩) | (exact ⟨by decide, by decide, by decide⟩)) ?_) | ((with_reducible show rIsi _ _ _ _); first | refine m_isi (by assumption) (by assumption) (r := true) (by dsimp only [tyD]; decide +kernel) ?_ | refine m_isi (by assumption) (by assumption) (r := false) (by dsimp only [tyD]; decide +kernel) ?_) | ((with_reducible show tyV _ _ _ _ ∧ _); refine s_tyL (by (first | assumption | exact Mem.at0 (by assumption) | exact Mem.at1 (by assumption) | exact Mem.at2 (by assumption) | exact Mem.at3 (by assumption))) ?_) | ((with_reducible show rIxL _ _ _ _ _); refine s_ixL (by (first | assumption | exact Mem.at0 (by assumption) | exact Mem.at1 (by assumption) | exact Mem.at2 (by assumption) | exact Mem.at3 (by assumption))) (by rfl) ?_))))

section
variable {P : Program} {w : World} {K : PySem.W.Frag} {mg : Str → Option Value} {base : Heap}
theorem cutA_ftZ {l : List Int} {i j : Int} (h0 : 0 ≤ i) (h1 : 0 ≤ j) : cutA (l.map PyData.int) (some i) (some j) = ((l.drop i.toNat).take (j.toNat - i.toNat)).map PyData.int := by
  obtain ⟨a, rfl⟩ := Int.eq_ofNat_of_zero_le h0
  obtain ⟨b, rfl⟩ := Int.eq_ofNat_of_zero_le h1
  rw [cutA_map, cutA_ft, Int.toNat_natCast, Int.toNat_natCast]
def sp_rr : Sp := fun vs H Q _ => ∃ (F : Hp) (x : V) (rs : List (List Int)) (b : List Int), vs = [x] ∧ Same F H ∧ Da F x (.list ((flat rs ++ b).map PyData.int)) ∧ Bad b ∧ (∀ r ∈ rs, r.length ≤ 10000) ∧ rs.length ≤ 1000 ∧ (flat rs ++ b).length ≤ 1000000 ∧
  ∀ q F' H', Go F H emp F' H' emp → Da F' (.ref q) (.tuple [.list (rs.map enc), .int ((flat rs).length : Int)]) → Q (.ref q) H'
theorem ok_read_records (T : Tx K mg) : FnE P w K mg base CX0 "read_records" 4 ["data"] sp_rr := by
  refine fnE T.d_read_records sc_read_records bd_read_records (fun vs H Q E h => ?_) (fun f cdv A outer s H vs Q E hr h => ?_)
  · obtain ⟨F, x, rs, b, rfl, _⟩ := h
    rfl
  obtain ⟨F, x, rs, b, rfl, hF, hx, hb, hrl, hrn, hz, k⟩ := h
  have M := Mem.start0 hF
  have fin : ∀ {F' H' : Hp} {acc : List V} {r : Addr}, Mem F H emp F' H' [cell r (.lst acc)] → DaA F' acc (rs.map enc) → [V.ref r, V.int ((flat rs).length : Int)].length ≤ sizeLine ∧ AlO H' (.tup [.ref r, .int ((flat rs).length : Int)]) Q := fun m a => by
    obtain ⟨F2, M2, s2, d2⟩ := m.data a
    exact m_tup M2 (.cons d2 (.cons (.int _) .nil)) (Nat.le_of_lt (small1000 (by simp only [List.length_cons, List.length_nil]; decide))) fun t F6 H6 M6 s6 ht => k _ _ _ M6.fin0 ht
  refine ⟨_, (pss_cons (ps_set (i := 1) sc_read_records.nd rfl (Or.inl rfl) (pe_lst pa_nil))
  (pss_cons (ps_set (i := 2) sc_read_records.nd rfl (Or.inl rfl) pe_int)
  (pss_cons (ps_set (i := 3) sc_read_records.nd rfl (Or.inl rfl) (pe_fn (ok__read_size T) (hr.mono (by first | decide | omega)) rfl pass0 (pa_cons (pv 0) (pa_cons (pv 2) pa_nil))))
  (pss_cons (ps_while PassesOwn.never (pt_cmpR op_notN1 (pv 3) pe_non (nomark _))
  (pss_cons (ps_asg (pv 3) (pg_tup rfl (pgs_cons (pg_name (i := 4) sc_read_records.nd rfl (Or.inl rfl)) (pgs_cons (pg_name (i := 5) sc_read_records.nd rfl (Or.inl rfl)) pgs_nil))))
  (pss_cons (ps_set (i := 6) sc_read_records.nd rfl (Or.inl rfl) (pe_slice sl_list (pv 0) (po_some (pv 4)) (po_some (pe_op op_add (pv 4) (pv 5)))))
  (pss_cons (ps_set (i := 7) sc_read_records.nd rfl (Or.inl rfl) (pe_op op_add (pe_op op_add (pv 4) (pv 5)) pe_int))
  (pss_cons (ps_if (PW.pt (pw_or (pt_cmpR op_gt (pv 7) (pe_callB c_lenQ (by rfl) T.b_len DL.bt_len (pa_cons (pv 0) pa_nil)) (nomark _)) (pw_or1 (pt_cmpR (op_neD hr.units) (pe_slice sl_list (pe_fn (ok_write_record T) (hr.mono (by first | decide | omega)) rfl pass0 (pa_cons (pv 6) pa_nil)) (po_some (pe_un un_neg pe_int)) po_none) (pe_slice sl_list (pv 0) (po_some (pe_op op_sub (pv 7) pe_int)) (po_some (pv 7))) (nomark _)))))
  (pss_one ps_break)
  pss_nil)
  (pss_cons (ps_expr (pe_bm PySem.F.plainAttrs_list PySem.F.slot_list_append PySem.F.type_list_append c_append (pv 1) (pa_cons (pv 6) pa_nil)))
  (pss_cons (ps_set (i := 2) sc_read_records.nd rfl (Or.inl rfl) (pv 7))
  (pss_one (ps_set (i := 3) sc_read_records.nd rfl (Or.inl rfl) (pe_fn (ok__read_size T) (hr.mono (by first | decide | omega)) rfl pass0 (pa_cons (pv 0) (pa_cons (pv 2) pa_nil))))))))))))
  (pss_one (ps_ret (pe_tup (pa_cons (pv 1) (pa_cons (pv 2) pa_nil))))))))), ?_⟩
  (tm_at "dl go")
  refine m_lz (Nat.zero_le _) ?_
  refine m_lst M fun rp H1 M1 => ?_
  (tm_at "dl go")
  have fd : ∀ (s : Nat) {F1 H1 : Hp} {own : List Hp} {Q : VK} {E : XK}, Mem F H emp F1 H1 own → Da F1 x (.list ((flat rs ++ b).map PyData.int)) →
      (∀ v F' H', Mem F H emp F' H' own → Same F1 F' → ((rnum0 (((flat rs ++ b).drop s).take 60) = none ∧ v = .non) ∨ ∃ n u, rnum0 (((flat rs ++ b).drop s).take 60) = some (n, u) ∧ (∃ q, v = .ref q) ∧ Da F' v (.tuple [.int ((s : Int) + (u : Int)), .int n])) → Q v H') → sp_rs [x, .int (s : Int)] H1 Q E :=
    fun s {F1 H1 own Q E} m d q => ⟨F1, x, _, s, rfl, m.fh, d, fun v u e p F' H' g dv => q _ _ _ (m.go0 g) g.ff (.inr ⟨v, u, e, ⟨p, rfl⟩, dv⟩), fun e F' H' g => q _ _ _ (m.go0 g) g.ff (.inl ⟨e, rfl⟩)⟩
  refine fd 0 M1 hx fun v F2 H2 M2 s2 hv => ?_
  (tm_at "dl go")
  refine m_while M2 (fun j σ F' own => ∃ (i : Nat) (v : V) (acc : List V) (u1 u2 u3 u4 : Option V), σ = [some x, some (.ref rp), some (.int ((flat (rs.take i)).length : Int)), some v, u1, u2, u3, u4] ∧ own = [cell rp (.lst acc)] ∧ i ≤ rs.length ∧ j = rs.length - i ∧ DaA F' acc ((rs.take i).map enc) ∧
      ((rnum0 (((flat rs ++ b).drop (flat (rs.take i)).length).take 60) = none ∧ v = .non) ∨ ∃ n u, rnum0 (((flat rs ++ b).drop (flat (rs.take i)).length).take 60) = some (n, u) ∧ (∃ q, v = .ref q) ∧ Da F' v (.tuple [.int (((flat (rs.take i)).length : Int) + (u : Int)), .int n])))
    rs.length ⟨0, v, [], _, _, _, _, rfl, rfl, Nat.zero_le _, rfl, .nil, hv⟩ (fun j σ F3 H3 own s3 M3 h => ?_) (fun σ H Q Q' z h => ?_)
  · obtain ⟨i, v, acc, u1, u2, u3, u4, rfl, rfl, hi, hj, ha, hv⟩ := h
    have hx3 := hx.mono (s2.trans s3)
    by_cases hil : i < rs.length
    · -- a record
      have er := List.getElem?_eq_getElem hil
      generalize rs[i] = r at er
      have hr0 := hrl r (List.mem_of_getElem? er)
      have h3 := wnum_le3 (n := r.length) (by omega)
      have el := flat_at er b
      rw [el, rnum0_ok (by omega)] at hv
      rcases hv with ⟨e, _⟩ | ⟨n, u, e, ⟨q, rfl⟩, dv⟩
      · cases e
      cases e
      have hlen : (flat (rs.take i)).length + ((wnum r.length).length + r.length + 4) ≤ (flat rs ++ b).length := by
        have e := congrArg List.length el
        simp only [List.length_append, List.length_drop, show (tail4 (csum r)).length = 4 from rfl] at e ⊢
        omega
      generalize hs : (flat (rs.take i)).length = s at *
      (tm_at "dl go")
      refine m_tupG2 M3 dv fun a c ha' hc => ?_
      obtain rfl := ha'.of_int
      obtain rfl := hc.of_int
      (tm_at "dl go")
      refine m_slL M3 hx3 fun p F4 H4 M4 s4 d4 => ?_
      rw [cutA_ftZ (by omega) (by omega), show (((s : Int) + ((wnum r.length).length : Int) + (r.length : Int)).toNat - ((s : Int) + ((wnum r.length).length : Int)).toNat) = r.length by omega, show ((s : Int) + ((wnum r.length).length : Int)).toNat = s + (wnum r.length).length by omega, ← List.drop_drop, el, List.drop_left, List.take_left] at d4
      have hx4 := hx3.mono s4
      refine s_name ?_
      refine s_seq ?_
      iterate 9 (tm_at "dl st")
      refine s_seq (s_if (s_cutT (fun b' H' => b' = false ∧ ∃ F', Mem F H emp F' H' [cell rp (.lst acc)] ∧ Same F4 F') (fun Q k => ?_) ?_))
      · (tm_at "dl go")
        refine m_lenL M4 hx4 ?_
        rw [List.length_map]
        refine s_I0 ?_
        rw [decide_eq_false (by omega)]
        (tm_at "dl go")
        refine ⟨F4, _, r, rfl, M4.fh, d4, by omega, fun v F5 H5 g5 d5 => ?_⟩
        have M5 := M4.go0 g5
        (tm_at "dl go")
        refine m_slL M5 d5 fun p F6 H6 M6 s6 d6 => ?_
        have e4 : cutA ((wrec r).map PyData.int) (some (-4)) none = (tail4 (csum r)).map PyData.int := by
          rw [cutA_map, show (-4 : Int) = -((4 : Nat) : Int) by rfl, cutA_back _ 4 (by rw [wrec_len]; omega) (by decide)]
          congr 1
          rw [wrec_len, Nat.add_sub_cancel]
          unfold wrec
          rw [← List.length_append, List.drop_left]
        rw [e4] at d6
        (tm_at "dl go")
        refine m_slL M6 (hx4.mono (g5.ff.trans s6)) fun p F7 H7 M7 s7 d7 => ?_
        rw [cutA_ftZ (by omega) (by omega), show (((s : Int) + ((wnum r.length).length : Int) + (r.length : Int) + 4).toNat - ((s : Int) + ((wnum r.length).length : Int) + (r.length : Int) + 4 - 4).toNat) = 4 by omega, show ((s : Int) + ((wnum r.length).length : Int) + (r.length : Int) + 4 - 4).toNat = s + ((wnum r.length).length + r.length) by omega, ← List.drop_drop, el, ← List.append_assoc, ← List.length_append, List.drop_left] at d7
        refine m_neD M7 (d6.mono s7) d7 shaped_ints shaped_ints ?_
        rw [eqv_enc, decide_eq_true (show tail4 (csum r) = (tail4 (csum r) ++ (flat (rs.drop (i + 1)) ++ b)).take 4 from rfl)]
        (tm_at "dl go")
        exact k _ _ ⟨rfl, _, M7, g5.ff.trans (s6.trans s7)⟩
      rintro b' H' ⟨rfl, F5, M5, s5⟩
      (tm_at "dl go")
      have hal := ha.length
      rw [List.length_map, List.length_take] at hal
      refine m_app0 M5 (Nat.lt_of_le_of_lt (show _ ≤ 1000 by omega) (by decide)) fun H6 M6 => ?_
      (tm_at "dl go")
      have es : ((s : Int) + ((wnum r.length).length : Int) + (r.length : Int) + 4) = (((flat (rs.take (i + 1))).length : Nat) : Int) := by
        rw [flat_take er, List.length_append, wrec_len, hs]
        omega
      rw [es]
      refine fd _ M6 (hx4.mono s5) fun v F7 H7 M7 s7 hv => ?_
      (tm_at "dl go")
      refine ⟨rs.length - (i + 1), by omega, Nx.mk (s3.trans (s4.trans (s5.trans s7))) M7 ⟨i + 1, v, _, _, _, _, _, rfl, rfl, hil, rfl, ?_, hv⟩⟩
      rw [take_snoc er, List.map_append]
      exact (ha.mono (s4.trans (s5.trans s7))).snoc (d4.mono (s5.trans s7))
    · -- the rest
      obtain rfl : i = rs.length := by omega
      rw [List.take_length] at ha hv ⊢
      rw [flat_end] at hv
      rcases hv with ⟨e, rfl⟩ | ⟨n, u, e, ⟨q, rfl⟩, dv⟩
      · (tm_at "dl go")
        exact fin M3 ha
      · obtain ⟨n0, hbad⟩ := hb n u e
        obtain ⟨n, rfl⟩ := Int.eq_ofNat_of_zero_le n0
        rw [Int.toNat_natCast] at hbad
        have hlen : (flat rs ++ b).length = (flat rs).length + b.length := List.length_append
        have el : (flat rs ++ b).drop (flat rs).length = b := flat_end b
        generalize hs : (flat rs).length = s at *
        (tm_at "dl go")
        refine m_tupG2 M3 dv fun a c ha' hc => ?_
        obtain rfl := ha'.of_int
        obtain rfl := hc.of_int
        (tm_at "dl go")
        refine m_slL M3 hx3 fun p F4 H4 M4 s4 d4 => ?_
        rw [cutA_ftZ (by omega) (by omega), show (((s : Int) + (u : Int) + (n : Int)).toNat - ((s : Int) + (u : Int)).toNat) = n by omega, show ((s : Int) + (u : Int)).toNat = s + u by omega, ← List.drop_drop, el] at d4
        have hx4 := hx3.mono s4
        refine s_name ?_
        refine s_seq ?_
        iterate 9 (tm_at "dl st")
        refine s_seq (s_if (s_cutT (fun b' H' => b' = true ∧ ∃ F', Mem F H emp F' H' [cell rp (.lst acc)] ∧ Same F4 F') (fun Q k => ?_) ?_))
        · (tm_at "dl go")
          refine m_lenL M4 hx4 ?_
          rw [List.length_map]
          refine s_I0 ?_
          by_cases hlt : b.length < u + n + 4
          · rw [decide_eq_true (by omega)]
            (tm_at "dl go")
            exact k _ _ ⟨rfl, _, M4, .refl _⟩
          have hne := hbad.resolve_left hlt
          rw [decide_eq_false (by omega)]
          (tm_at "dl go")
          refine ⟨F4, _, _, rfl, M4.fh, d4, by rw [List.length_take, List.length_drop]; omega, fun v F5 H5 g5 d5 => ?_⟩
          have M5 := M4.go0 g5
          (tm_at "dl go")
          refine m_slL M5 d5 fun p F6 H6 M6 s6 d6 => ?_
          generalize (b.drop u).take n = r at *
          have e4 : cutA ((wrec r).map PyData.int) (some (-4)) none = (tail4 (csum r)).map PyData.int := by
            rw [cutA_map, show (-4 : Int) = -((4 : Nat) : Int) by rfl, cutA_back _ 4 (by rw [wrec_len]; omega) (by decide)]
            congr 1
            rw [wrec_len, Nat.add_sub_cancel]
            unfold wrec
            rw [← List.length_append, List.drop_left]
          rw [e4] at d6
          (tm_at "dl go")
          refine m_slL M6 (hx4.mono (g5.ff.trans s6)) fun p F7 H7 M7 s7 d7 => ?_
          rw [cutA_ftZ (by omega) (by omega), show (((s : Int) + (u : Int) + (n : Int) + 4).toNat - ((s : Int) + (u : Int) + (n : Int) + 4 - 4).toNat) = 4 by omega, show ((s : Int) + (u : Int) + (n : Int) + 4 - 4).toNat = s + (u + n) by omega, ← List.drop_drop, el] at d7
          refine m_neD M7 (d6.mono s7) d7 shaped_ints shaped_ints ?_
          rw [eqv_enc, decide_eq_false hne]
          (tm_at "dl go")
          exact k _ _ ⟨rfl, _, M7, g5.ff.trans (s6.trans s7)⟩
        rintro b' H' ⟨rfl, F5, M5, s5⟩
        (tm_at "dl go")
        exact fin M5 (ha.mono (s4.trans s5))
  · obtain ⟨v, e, e2, b, e3, q⟩ := h
    exact ⟨v, e, e2, b, e3, z _ _ q⟩
end
end K11

namespace K11
open PySem PySem.Spec PyProof.Rows L2 DL
local macro_rules | `(tactic| tm_at "dl hp") => `(tactic| (first | assumption | exact Mem.at0 (by assumption) | exact Mem.at1 (by assumption) | exact Mem.at2 (by assumption) | exact Mem.at3 (by assumption)))
local macro_rules | `(tactic| tm_at "dl ch") => `(tactic| (repeat (first | exact L2.Same.refl _ | assumption | refine L2.Same.trans ?_ (by assumption))))
local macro_rules | `(tactic| tm_at "dl da") => `(tactic| (first | assumption | (refine Da.mono ?_ (by assumption); (repeat (first | exact L2.Same.refl _ | assumption | refine L2.Same.trans ?_ (by assumption))))))
local macro_rules | `(tactic| tm_at "dl st") => `(tactic| (first | ((with_reducible show tVar _ _ _ _); refine s_var (by rfl) ?_) | with_reducible refine s_seq ?_ | with_reducible refine s_asg ?_ | with_reducible refine s_op ?_ | with_reducible refine s_un ?_ | with_reducible refine s_c ?_ | with_reducible refine s_call ?_ | with_reducible refine s_cons ?_ | with_reducible refine s_nil ?_ | with_reducible refine s_CB ?_ | with_reducible refine s_test ?_ | with_reducible refine s_tB ?_ | with_reducible refine s_tq ?_ | with_reducible refine s_if ?_ | with_reducible refine s_drop ?_ | with_reducible refine s_ret ?_ | with_reducible refine s_retN ?_ | with_reducible refine s_next ?_ | with_reducible refine s_brk ?_ | with_reducible refine s_cont ?_ | with_reducible refine s_name ?_ | with_reducible refine s_I0 ?_ | with_reducible refine s_U ?_ | with_reducible refine s_eqI ?_ | with_reducible refine s_eqS ?_ | with_reducible refine s_eqB ?_ | with_reducible refine s_neI ?_ | with_reducible refine s_neS ?_ | with_reducible refine s_neB ?_ | with_reducible refine s_isN0 ?_ | with_reducible refine s_isNI ?_ | with_reducible refine s_isNS ?_ | with_reducible refine s_isNR ?_ | with_reducible refine s_isNB ?_ | with_reducible refine s_notN0 ?_ | with_reducible refine s_notNI ?_ | with_reducible refine s_notNS ?_ | with_reducible refine s_notNR ?_ | with_reducible refine iteNT ?_ | with_reducible refine iteNF ?_ | with_reducible refine s_not ?_ | with_reducible refine s_and ?_ | with_reducible refine s_or ?_ | with_reducible refine s_ifE ?_ | with_reducible refine s_andV ?_ | with_reducible refine s_orV ?_ | with_reducible refine s_notV ?_ | with_reducible refine s_tup ?_ | with_reducible refine s_lst ?_ | with_reducible refine s_sub ?_ | with_reducible refine s_gCons ?_ | with_reducible refine s_gNil ?_ | with_reducible refine s_ipI ?_ | with_reducible refine s_for ?_ | with_reducible refine s_lc ?_ | with_reducible refine s_yes ?_ | with_reducible refine s_iList ?_ | with_reducible refine s_iTup ?_ | with_reducible refine s_iRng1 ?_ | with_reducible refine s_iRng2 ?_ | with_reducible refine s_iZip ?_ | with_reducible refine s_iEnum ?_ | with_reducible refine s_iStr ?_ | with_reducible refine s_st ?_ | with_reducible refine iteT ?_ | with_reducible refine iteF ?_ | with_reducible refine s_BM ?_ | with_reducible refine s_tyS ?_ | with_reducible refine s_int ?_ | with_reducible refine s_intB ?_ | with_reducible refine s_min ?_ | with_reducible refine s_max ?_ | with_reducible refine s_sl ?_ | with_reducible refine s_noP ?_ | with_reducible refine s_meth ?_ | with_reducible refine s_fld ?_ | with_reducible refine s_sfld ?_ | with_reducible refine s_make ?_ | with_reducible refine s_part ?_ | with_reducible refine s_pt ?_ | with_reducible refine s_augS ?_ | with_reducible refine s_fldaug ?_ | with_reducible refine s_inadd ?_ | with_reducible refine s_try ?_ | with_reducible refine s_methS ?_ | with_reducible refine s_callS ?_ | with_reducible refine s_rz ?_ | ((with_reducible show tAug _ _ _ _ _ _); refine s_aug (by rfl) ?_) | ((with_reducible show rI _ _ _ _ _ _); refine s_I (by first | (show (0 : Int) < _; decide) | (exact ⟨by decide, by decide⟩) | (exact .inr ⟨by decide, by decide⟩) | (exact .inl ⟨by decide, by decide⟩) | (exact ⟨by decide, by decide, by decide⟩)) ?_) | ((with_reducible show rIsi _ _ _ _); first | refine m_isi (by assumption) (by assumption) (r := true) (by dsimp only [tyD]; decide +kernel) ?_ | refine m_isi (by assumption) (by assumption) (r := false) (by dsimp only [tyD]; decide +kernel) ?_) | ((with_reducible show tyV _ _ _ _ ∧ _); refine s_tyL (by (first | assumption | exact Mem.at0 (by assumption) | exact Mem.at1 (by assumption) | exact Mem.at2 (by assumption) | exact Mem.at3 (by assumption))) ?_) | ((with_reducible show rIxL _ _ _ _ _); refine s_ixL (by (first | assumption | exact Mem.at0 (by assumption) | exact Mem.at1 (by assumption) | exact Mem.at2 (by assumption) | exact Mem.at3 (by assumption))) (by rfl) ?_)))
local macro_rules | `(tactic| tm_at "dl go") => `(tactic| (repeat (first | ((with_reducible show tVar _ _ _ _); refine s_var (by rfl) ?_) | with_reducible refine s_seq ?_ | with_reducible refine s_asg ?_ | with_reducible refine s_op ?_ | with_reducible refine s_un ?_ | with_reducible refine s_c ?_ | with_reducible refine s_call ?_ | with_reducible refine s_cons ?_ | with_reducible refine s_nil ?_ | with_reducible refine s_CB ?_ | with_reducible refine s_test ?_ | with_reducible refine s_tB ?_ | with_reducible refine s_tq ?_ | with_reducible refine s_if ?_ | with_reducible refine s_drop ?_ | with_reducible refine s_ret ?_ | with_reducible refine s_retN ?_ | with_reducible refine s_next ?_ | with_reducible refine s_brk ?_ | with_reducible refine s_cont ?_ | with_reducible refine s_name ?_ | with_reducible refine s_I0 ?_ | with_reducible refine s_U ?_ | with_reducible refine s_eqI ?_ | with_reducible refine s_eqS ?_ | with_reducible refine s_eqB ?_ | with_reducible refine s_neI ?_ | with_reducible refine s_neS ?_ | with_reducible refine s_neB ?_ | with_reducible refine s_isN0 ?_ | with_reducible refine s_isNI ?_ | with_reducible refine s_isNS ?_ | with_reducible refine s_isNR ?_ | with_reducible refine s_isNB ?_ | with_reducible refine s_notN0 ?_ | with_reducible refine s_notNI ?_ | with_reducible refine s_notNS ?_ | with_reducible refine s_notNR ?_ | with_reducible refine iteNT ?_ | with_reducible refine iteNF ?_ | with_reducible refine s_not ?_ | with_reducible refine s_and ?_ | with_reducible refine s_or ?_ | with_reducible refine s_ifE ?_ | with_reducible refine s_andV ?_ | with_reducible refine s_orV ?_ | with_reducible refine s_notV ?_ | with_reducible refine s_tup ?_ | with_reducible refine s_lst ?_ | with_reducible refine s_sub ?_ | with_reducible refine s_gCons ?_ | with_reducible refine s_gNil ?_ | with_reducible refine s_ipI ?_ | with_reducible refine s_for ?_ | with_reducible refine s_lc ?_ | with_reducible refine s_yes ?_ | with_reducible refine s_iList ?_ | with_reducible refine s_iTup ?_ | with_reducible refine s_iRng1 ?_ | with_reducible refine s_iRng2 ?_ | with_reducible refine s_iZip ?_ | with_reducible refine s_iEnum ?_ | with_reducible refine s_iStr ?_ | with_reducible refine s_st ?_ | with_reducible refine iteT ?_ | with_reducible refine iteF ?_ | with_reducible refine s_BM ?_ | with_reducible refine s_tyS ?_ | with_reducible refine s_int ?_ | with_reducible refine s_intB ?_ | with_reducible refine s_min ?_ | with_reducible refine s_max ?_ | with_reducible refine s_sl ?_ | with_reducible refine s_noP ?_ | with_reducible refine s_meth ?_ | with_reducible refine s_fld ?_ | with_reducible refine s_sfld ?_ | with_reducible refine s_make ?_ | with_reducible refine s_part ?_ | with_reducible refine s_pt ?_ | with_reducible refine s_augS ?_ | with_reducible refine s_fldaug ?_ | with_reducible refine s_inadd ?_ | with_reducible refine s_try ?_ | with_reducible refine s_methS ?_ | with_reducible refine s_callS ?_ | with_reducible refine s_rz ?_ | ((with_reducible show tAug _ _ _ _ _ _); refine s_aug (by rfl) ?_) | ((with_reducible show rI _ _ _ _ _ _); refine s_I (by first | (show (0 : Int) < _; decide) | (exact ⟨by decide, by decide⟩) | (exact .inr ⟨by decide, by decide⟩) | (exact .inl ⟨by decide, by decide⟩) | (exact ⟨by decide, by decide, by decide⟩)) ?_) | ((with_reducible show rIsi _ _ _ _); first | refine m_isi (by assumption) (by assumption) (r := true) (by dsimp only [tyD]; decide +kernel) ?_ | refine m_isi (by assumption) (by assumption) (r := false) (by dsimp only [tyD]; decide +kernel) ?_) | ((with_reducible show tyV _ _ _ _ ∧ _); refine s_tyL (by (first | assumption | exact Mem.at0 (by assumption) | exact Mem.at1 (by assumption) | exact Mem.at2 (by assumption) | exact Mem.at3 (by assumption))) ?_) | ((with_reducible show rIxL _ _ _ _ _); refine s_ixL (by (first | assumption | exact Mem.at0 (by assumption) | exact Mem.at1 (by assumption) | exact Mem.at2 (by assumption) | exact Mem.at3 (by assumption))) (by rfl) ?_))))

section
variable {P : Program} {w : World} {K : PySem.W.Frag} {mg : Str → Option Value} {base : Heap}
def sp__law_bytes : Sp := fun vs H Q _ => ∃ (F R : Hp) (p : Addr), vs = [.ref p] ∧ Same F H ∧ Same R H ∧ Dj F R ∧ IsSt F R p ∧
  ∀ v F' H' R' l, Go F H R F' H' R' → IsSt F' R' p → Da F' v (enc l) → By l → l.length ≤ 2001 → Q v H'
theorem ok__law_bytes (T : Tx K mg) : FnE P w K mg base CX0 "_law_bytes" 7 ["state"] sp__law_bytes := by
  refine fnE T.d__law_bytes sc__law_bytes bd__law_bytes (fun vs H Q E h => ?_) (fun f cdv A outer s H vs Q E hr h => ?_)
  · obtain ⟨F, R, p, rfl, _⟩ := h
    rfl
  obtain ⟨F, R, p, rfl, hF, hR, hd, hs, k⟩ := h
  have M := Mem.start hF hR hd
  refine ⟨_, (pss_cons (ps_set (i := 1) sc__law_bytes.nd rfl (Or.inl rfl) (pe_fn (ok__law_next T) (hr.mono (by first | decide | omega)) rfl pass0 (pa_cons (pv 0) (pa_cons pe_int pa_nil))))
  (pss_cons (ps_set (i := 2) sc__law_bytes.nd rfl (Or.inl rfl) (pe_fn (ok__law_next T) (hr.mono (by first | decide | omega)) rfl pass0 (pa_cons (pv 0) (pa_cons pe_int pa_nil))))
  (pss_cons (ps_if (pt_cmpR op_lt (pv 2) pe_int (nomark _))
  (pss_one (ps_set (i := 1) sc__law_bytes.nd rfl (Or.inl rfl) (pe_op op_add pe_int (pe_fn (ok__law_next T) (hr.mono (by first | decide | omega)) rfl pass0 (pa_cons (pv 0) (pa_cons pe_int pa_nil))))))
  (pss_one (ps_if (pt_cmpR op_lt (pv 2) pe_int (nomark _))
  (pss_one (ps_set (i := 1) sc__law_bytes.nd rfl (Or.inl rfl) (pe_op op_add pe_int (pe_fn (ok__law_next T) (hr.mono (by first | decide | omega)) rfl pass0 (pa_cons (pv 0) (pa_cons pe_int pa_nil))))))
  (pss_one (ps_if (pt_cmpR op_eq (pv 2) pe_int (nomark _))
  (pss_one (ps_set (i := 1) sc__law_bytes.nd rfl (Or.inl rfl) (pe_op op_add pe_int (pe_fn (ok__law_next T) (hr.mono (by first | decide | omega)) rfl pass0 (pa_cons (pv 0) (pa_cons pe_int pa_nil))))))
  pss_nil)))))
  (pss_cons (ps_set (i := 3) sc__law_bytes.nd rfl (Or.inr rfl) (pe_fn (ok__law_next T) (hr.mono (by first | decide | omega)) rfl pass0 (pa_cons (pv 0) (pa_cons pe_int pa_nil))))
  (pss_one (ps_ret (pe_lc (own := [("k", 4)]) (g := gName 4) rfl sc__law_bytes.nd (pi_range1 rfl T.b_range (pa_cons (pv 1) pa_nil)) (blkOk_by (own := [("k", 4)]) (N := n__law_bytes) (sc := defScope s__law_bytes) (by decide +kernel)) (fun _ _ _ _ _ => (pg_name (i := 4) sc__law_bytes.nd rfl (Or.inl rfl))) (fun _ _ _ _ _ => pts_nil) (fun _ _ _ _ _ => (pe_op op_mod (pe_op op_add (pv 3) (pe_op op_mul (pe_op op_mul pe_int (pv 4)) (pv 4))) pe_int))))))))), ?_⟩
  refine s_seq (s_join (fun σ' H' => ∃ (c : Int) (F' R' : Hp), σ' = [some (.ref p), some (.int c), none, none, none] ∧ Mem F H R F' H' [R'] ∧ Same F F' ∧ IsSt F' R' p ∧ 0 ≤ c ∧ c ≤ 2000) (fun N hN => ?_) ?_)
  · (tm_at "dl go")
    refine next0 M hs (by decide) fun c F1 H1 R1 M1 s1 hs1 c0 c1 => ?_
    (tm_at "dl go")
    exact hN _ _ ⟨c, F1, R1, rfl, M1, s1, hs1, by omega, by omega⟩
  rintro σ' H' ⟨c, F1, R1, rfl, M1, s1, hs1, c0, c1⟩
  (tm_at "dl go")
  refine next0 M1 hs1 (by decide) fun pick F2 H2 R2 M2 s2 hs2 p0 p1 => ?_
  refine s_name ?_
  refine s_seq (s_join (fun σ' H' => ∃ (c : Int) (F' R' : Hp), σ' = [some (.ref p), some (.int c), some (.int pick), none, none] ∧ Mem F H R F' H' [R'] ∧ IsSt F' R' p ∧ 0 ≤ c ∧ c ≤ 2000) (fun N hN => ?_) ?_)
  · (tm_at "dl go")
    refine ite2 (fun h1 => ?_) (fun h1 => ?_)
    · (tm_at "dl go")
      refine next0 M2 hs2 (by decide) fun z F3 H3 R3 M3 s3 hs3 z0 z1 => ?_
      (tm_at "dl go")
      exact hN _ _ ⟨_, F3, R3, rfl, M3, hs3, by omega, by omega⟩
    · (tm_at "dl go")
      refine ite2 (fun h2 => ?_) (fun h2 => ?_)
      · (tm_at "dl go")
        refine next0 M2 hs2 (by decide) fun z F3 H3 R3 M3 s3 hs3 z0 z1 => ?_
        (tm_at "dl go")
        exact hN _ _ ⟨_, F3, R3, rfl, M3, hs3, by omega, by omega⟩
      · (tm_at "dl go")
        refine ite2 (fun h3 => ?_) (fun h3 => ?_)
        · (tm_at "dl go")
          refine next0 M2 hs2 (by decide) fun z F3 H3 R3 M3 s3 hs3 z0 z1 => ?_
          (tm_at "dl go")
          exact hN _ _ ⟨_, F3, R3, rfl, M3, hs3, by omega, by omega⟩
        · (tm_at "dl go")
          exact hN _ _ ⟨_, F2, R2, rfl, M2, hs2, by omega, by omega⟩
  rintro σ' H' ⟨c, F3, R3, rfl, M3, hs3, c0, c1⟩
  (tm_at "dl go")
  refine next0 M3 hs3 (by decide) fun st F4 H4 R4 M4 s4 hs4 t0 t1 => ?_
  (tm_at "dl go")
  refine s_r1 (by omega) (by omega) ?_
  refine m_lcR M4 (fun i acc F' own => ∃ l : List Int, own = [R4] ∧ acc = l.map V.int ∧ By l ∧ l.length = i) ⟨[], rfl, rfl, fun z hz => (nomatch hz), rfl⟩ ?_ ?_
  · rintro i acc D F5 H5 own hi s5 M5 ⟨l, rfl, rfl, hl, hb⟩
    (tm_at "dl go")
    refine ⟨rfl, ?_⟩
    (tm_at "dl go")
    refine s_I (.inr ⟨by omega, by omega⟩) ?_
    (tm_at "dl go")
    refine LcE.mk s5 M5 (Nat.lt_of_le_of_lt (show _ ≤ 10000 by rw [List.length_map]; omega) (by decide)) ⟨l ++ [(st + 41 * (0 + (i : Int)) * (0 + (i : Int))) % 256], rfl, by rw [List.map_append]; rfl, fun z hz => ?_, by rw [List.length_append, hb]; rfl⟩
    rcases List.mem_append.mp hz with h | h
    · exact hl z h
    · rw [List.mem_singleton.mp h]; omega
  · rintro D acc F5 H5 own s5 M5 ⟨l, rfl, rfl, hl, hb⟩
    obtain ⟨F6, M6, s6, d6⟩ := M5.data (ds := l.map PyData.int) DaA.ints
    exact k _ _ _ _ l M6.fin (hs4.mono (s5.trans s6)) d6 hl (by omega)
section
variable {F0 H0 B F H R A C S : Hp} {own : List Hp} {p : Addr} {n : Int} {Q : VK} {E : XK}
theorem bytes0 (M : Mem F0 H0 B F H (R :: own)) (hs : IsSt F R p) (q : ∀ v F' H' R' l, Mem F0 H0 B F' H' (R' :: own) → Same F F' → IsSt F' R' p → Da F' v (enc l) → By l → l.length ≤ 2001 → Q v H') : sp__law_bytes [.ref p] H Q E :=
  ⟨F, R, p, rfl, M.fh, M.oh0, M.fo0, hs, fun v F' H' R' l g h d z0 z1 => q v F' H' R' l (M.go g) g.ff h d z0 z1⟩
theorem bytes1 (M : Mem F0 H0 B F H (A :: R :: own)) (hs : IsSt F R p) (q : ∀ v F' H' R' l, Mem F0 H0 B F' H' (A :: R' :: own) → Same F F' → IsSt F' R' p → Da F' v (enc l) → By l → l.length ≤ 2001 → Q v H') : sp__law_bytes [.ref p] H Q E :=
  ⟨F, R, p, rfl, M.fh, M.oh1, M.fo1, hs, fun v F' H' R' l g h d z0 z1 => q v F' H' R' l (M.go1 g) g.ff h d z0 z1⟩
theorem wr_call {x : V} {l : List Int} (M : Mem F0 H0 B F H own) (hx : Da F x (enc l)) (hl : l.length ≤ 1000000) (q : ∀ v F' H', Mem F0 H0 B F' H' own → Same F F' → Da F' v (enc (wrec l)) → Q v H') : sp_wr [x] H Q E :=
  ⟨F, x, l, rfl, M.fh, hx, hl, fun v F' H' g d => q v F' H' (M.go0 g) g.ff d⟩
theorem cs_call {x : V} {l : List Int} (M : Mem F0 H0 B F H own) (hx : Da F x (enc l)) (q : ∀ H', Mem F0 H0 B F H' own → Q (.int (csum l)) H') : sp_cs [x] H Q E :=
  ⟨F, x, l, rfl, M.fh, hx, fun H' g => q H' (M.go0 g)⟩
theorem wn_call {n : Nat} (M : Mem F0 H0 B F H own) (hl : n ≤ 1000000) (q : ∀ v F' H', Mem F0 H0 B F' H' own → Same F F' → Da F' v (enc (wnum n)) → Q v H') : sp_wn [.int (n : Int)] H Q E :=
  ⟨F, n, rfl, M.fh, hl, fun v F' H' g d => q v F' H' (M.go0 g) g.ff d⟩
theorem cat_enc {x y : V} {a b : List Int} (m : Mem F0 H0 B F H own) (h : Da F x (enc a)) (h' : Da F y (enc b)) (hz : a.length + b.length ≤ 10000000) (q : ∀ p F' H', Mem F0 H0 B F' H' own → Same F F' → Da F' (.ref p) (enc (a ++ b)) → Q (.ref p) H') : rCat x y H Q :=
  m_cat m h h' (sz100 (by rw [List.length_map, List.length_map]; exact hz)) fun p F' H' m s d => q p F' H' m s (by unfold enc; rw [List.map_append]; exact d)
end
def sp__law_behind : Sp := fun vs H Q _ => ∃ (F R : Hp) (p : Addr), vs = [.ref p] ∧ Same F H ∧ Same R H ∧ Dj F R ∧ IsSt F R p ∧
  ∀ v F' H' R' b, Go F H R F' H' R' → IsSt F' R' p → Da F' v (enc b) → Bad b → b.length ≤ 5000 → Q v H'
theorem set_cat {l b : List Int} {i : Nat} {y : Int} (h : i < l.length) : l.take i ++ [y] ++ l.drop (i + 1) ++ b = l.set i y ++ b := by
  rw [List.set_eq_take_append_cons_drop, if_pos h]
  simp
theorem ok__law_behind (T : Tx K mg) : FnE P w K mg base CX0 "_law_behind" 9 ["state"] sp__law_behind := by
  refine fnE T.d__law_behind sc__law_behind bd__law_behind (fun vs H Q E h => ?_) (fun f cdv A outer s H vs Q E hr h => ?_)
  · obtain ⟨F, R, p, rfl, _⟩ := h
    rfl
  obtain ⟨F, R, p, rfl, hF, hR, hd, hs, k⟩ := h
  have M := Mem.start hF hR hd
  refine ⟨_, (pss_cons (ps_set (i := 1) sc__law_behind.nd rfl (Or.inl rfl) (pe_fn (ok__law_bytes T) (hr.mono (by first | decide | omega)) rfl pass0 (pa_cons (pv 0) pa_nil)))
  (pss_cons (ps_set (i := 2) sc__law_behind.nd rfl (Or.inl rfl) (pe_fn (ok__law_record T) (hr.mono (by first | decide | omega)) rfl pass0 (pa_cons (pv 1) pa_nil)))
  (pss_cons (ps_set (i := 3) sc__law_behind.nd rfl (Or.inl rfl) (pe_ix ix_list (pe_lst (pa_cons (pe_lst pa_nil) (pa_cons (pe_op op_cat (pe_fn (ok__law_record T) (hr.mono (by first | decide | omega)) rfl pass0 (pa_cons (pe_lst (pa_cons pe_int (pa_cons pe_int (pa_cons pe_int pa_nil)))) pa_nil)) (pe_fn (ok__law_record T) (hr.mono (by first | decide | omega)) rfl pass0 (pa_cons (pe_lst pa_nil) pa_nil))) pa_nil))) (pe_fn (ok__law_next T) (hr.mono (by first | decide | omega)) rfl pass0 (pa_cons (pv 0) (pa_cons pe_int pa_nil))) (fun _ _ => rfl)))
  (pss_cons (ps_set (i := 4) sc__law_behind.nd rfl (Or.inl rfl) (pe_fn (ok__law_next T) (hr.mono (by first | decide | omega)) rfl pass0 (pa_cons (pv 0) (pa_cons pe_int pa_nil))))
  (pss_cons (ps_if (pt_cmpR op_eq (pv 4) pe_int (nomark _))
  (pss_one (ps_ret (pe_lst pa_nil)))
  pss_nil)
  (pss_cons (ps_if (pt_cmpR op_eq (pv 4) pe_int (nomark _))
  (pss_one (ps_ret (pe_slice sl_list (pv 2) po_none (po_some (pe_fn (ok__law_next T) (hr.mono (by first | decide | omega)) rfl pass0 (pa_cons (pv 0) (pa_cons (pe_callB c_lenQ (by rfl) T.b_len DL.bt_len (pa_cons (pv 2) pa_nil)) pa_nil)))))))
  pss_nil)
  (pss_cons (ps_if (pt_cmpR op_eq (pv 4) pe_int (nomark _))
  (pss_cons (ps_set (i := 5) sc__law_behind.nd rfl (Or.inl rfl) (pe_op op_sub (pe_op op_sub (pe_callB c_lenQ (by rfl) T.b_len DL.bt_len (pa_cons (pv 2) pa_nil)) pe_int) (pe_fn (ok__law_next T) (hr.mono (by first | decide | omega)) rfl pass0 (pa_cons (pv 0) (pa_cons pe_int pa_nil)))))
  (pss_one (ps_ret (pe_op op_cat (pe_op op_cat (pe_op op_cat (pe_slice sl_list (pv 2) po_none (po_some (pv 5))) (pe_lst (pa_cons (pe_op op_mod (pe_op op_add (pe_op op_add (pe_ix ix_list (pv 2) (pv 5) (fun _ _ => rfl)) pe_int) (pe_fn (ok__law_next T) (hr.mono (by first | decide | omega)) rfl pass0 (pa_cons (pv 0) (pa_cons pe_int pa_nil)))) pe_int) pa_nil))) (pe_slice sl_list (pv 2) (po_some (pe_op op_add (pv 5) pe_int)) po_none)) (pv 3)))))
  pss_nil)
  (pss_cons (ps_if (PW.pt (pw_and (pt_cmpR op_eq (pv 4) pe_int (nomark _)) (pw_and1 (pt_cmpR op_gt (pe_callB c_lenQ (by rfl) T.b_len DL.bt_len (pa_cons (pv 1) pa_nil)) pe_int (nomark _)))))
  (pss_cons (ps_set (i := 5) sc__law_behind.nd rfl (Or.inl rfl) (pe_op op_sub (pe_op op_sub (pe_callB c_lenQ (by rfl) T.b_len DL.bt_len (pa_cons (pv 2) pa_nil)) pe_int) (pe_fn (ok__law_next T) (hr.mono (by first | decide | omega)) rfl pass0 (pa_cons (pv 0) (pa_cons (pe_callB c_lenQ (by rfl) T.b_len DL.bt_len (pa_cons (pv 1) pa_nil)) pa_nil)))))
  (pss_one (ps_ret (pe_op op_cat (pe_op op_cat (pe_op op_cat (pe_slice sl_list (pv 2) po_none (po_some (pv 5))) (pe_lst (pa_cons (pe_op op_mod (pe_op op_add (pe_op op_add (pe_ix ix_list (pv 2) (pv 5) (fun _ _ => rfl)) pe_int) (pe_fn (ok__law_next T) (hr.mono (by first | decide | omega)) rfl pass0 (pa_cons (pv 0) (pa_cons pe_int pa_nil)))) pe_int) pa_nil))) (pe_slice sl_list (pv 2) (po_some (pe_op op_add (pv 5) pe_int)) po_none)) (pv 3)))))
  pss_nil)
  (pss_cons (ps_set (i := 6) sc__law_behind.nd rfl (Or.inl rfl) (pe_fn (ok__law_number T) (hr.mono (by first | decide | omega)) rfl pass0 (pa_cons (pe_callB c_lenQ (by rfl) T.b_len DL.bt_len (pa_cons (pv 1) pa_nil)) pa_nil)))
  (pss_cons (ps_set (i := 7) sc__law_behind.nd rfl (Or.inl rfl) (pe_op op_cat (pe_op op_cat (pe_lst (pa_cons (pe_op op_add (pe_ix ix_list (pv 6) (pe_op op_sub (pe_callB c_lenQ (by rfl) T.b_len DL.bt_len (pa_cons (pv 6) pa_nil)) pe_int) (fun _ _ => rfl)) pe_int) pa_nil)) (pe_op op_rep (pe_lst (pa_cons pe_int pa_nil)) (pe_fn (ok__law_next T) (hr.mono (by first | decide | omega)) rfl pass0 (pa_cons (pv 0) (pa_cons pe_int pa_nil))))) (pe_lst (pa_cons pe_int pa_nil))))
  (pss_one (ps_ret (pe_op op_cat (pe_op op_cat (pe_op op_cat (pe_slice sl_list (pv 6) po_none (po_some (pe_op op_sub (pe_callB c_lenQ (by rfl) T.b_len DL.bt_len (pa_cons (pv 6) pa_nil)) pe_int))) (pv 7)) (pe_slice sl_list (pv 2) (po_some (pe_callB c_lenQ (by rfl) T.b_len DL.bt_len (pa_cons (pv 6) pa_nil))) po_none)) (pv 3)))))))))))))), ?_⟩
  (tm_at "dl go")
  refine bytes0 M hs fun x F1 H1 R1 l M1 s1 hs1 dx hby hl => ?_
  have h3 := wnum_le3 (n := l.length) (by omega)
  have hw := wrec_len l
  (tm_at "dl go")
  refine wr_call M1 dx (by omega) fun y F2 H2 M2 s2 d2 => ?_
  (tm_at "dl go")
  refine m_lz (Nat.zero_le _) ?_
  refine m_lstF M2 .nil fun e0 F3 H3 M3 s3 d3 => ?_
  (tm_at "dl go")
  refine m_lz (by simp only [List.length_cons, List.length_nil]; decide) ?_
  refine m_lstF M3 (DaA.ints (ns := [1, 2, 3])) fun e1 F4 H4 M4 s4 d4 => ?_
  (tm_at "dl go")
  refine wr_call (l := [1, 2, 3]) M4 d4 (by decide) fun e2 F5 H5 M5 s5 d5 => ?_
  (tm_at "dl go")
  refine m_lz (Nat.zero_le _) ?_
  refine m_lstF M5 .nil fun e3 F6 H6 M6 s6 d6 => ?_
  (tm_at "dl go")
  refine wr_call (l := []) M6 d6 (by decide) fun e4 F7 H7 M7 s7 d7 => ?_
  have l1 : (wrec [1, 2, 3]).length = 8 := by rw [wrec_len, show ([1, 2, 3] : List Int).length = 3 from rfl, wnum_lt (by decide)]; rfl
  have l2 : (wrec []).length = 5 := by rw [wrec_len, show ([] : List Int).length = 0 from rfl, wnum_lt (by decide)]; rfl
  refine cat_enc M7 (d5.mono (s6.trans s7)) d7 (by omega) fun e5 F8 H8 M8 s8 d8 => ?_
  (tm_at "dl go")
  refine m_lz (by simp only [List.length_cons, List.length_nil]; decide) ?_
  refine m_lstF M8 (.cons (d3.mono (s4.trans (s5.trans (s6.trans (s7.trans s8))))) (.cons d8 .nil)) fun e6 F9 H9 M9 s9 d9 => ?_
  (tm_at "dl go")
  have s19 := s2.trans (s3.trans (s4.trans (s5.trans (s6.trans (s7.trans (s8.trans s9))))))
  have s29 := s3.trans (s4.trans (s5.trans (s6.trans (s7.trans (s8.trans s9)))))
  refine next0 M9 (hs1.mono s19) (by decide) fun z F10 H10 R10 M10 s10 hs10 z0 z1 => ?_
  have hfu : ∃ fu : List Int, atI [PyData.list [], enc (wrec [1, 2, 3] ++ wrec [])] z = some (enc fu) ∧ fu.length ≤ 13 := by
    have : z = 0 ∨ z = 1 := by omega
    rcases this with rfl | rfl
    · exact ⟨[], rfl, by simp⟩
    · exact ⟨wrec [1, 2, 3] ++ wrec [], rfl, by rw [List.length_append]; omega⟩
  obtain ⟨fu, efu, lfu⟩ := hfu
  refine m_ixL M10 (d9.mono s10) efu fun fv dfu => ?_
  (tm_at "dl go")
  replace d2 := d2.mono (s29.trans s10)
  replace dx := dx.mono (s19.trans s10)
  refine next0 M10 hs10 (by decide) fun pick F11 H11 R11 M11 s11 hs11 p0 p1 => ?_
  replace d2 := d2.mono s11
  replace dx := dx.mono s11
  replace dfu := dfu.mono s11
  (tm_at "dl go")
  refine ite2 (fun h0 => ?_) (fun h0 => ?_)
  · (tm_at "dl go")
    refine m_lz (Nat.zero_le _) ?_
    refine m_lstF M11 .nil fun e0 F12 H12 M12 s12 d12 => ?_
    exact k _ _ _ _ [] M12.fin (hs11.mono s12) d12 bad_nil (Nat.zero_le _)
  (tm_at "dl go")
  refine ite2 (fun h1 => ?_) (fun h1 => ?_)
  · (tm_at "dl go")
    refine m_lenL M11 d2 ?_
    rw [List.length_map]
    (tm_at "dl go")
    refine next0 M11 hs11 (by omega) fun m F12 H12 R12 M12 s12 hs12 m0 m1 => ?_
    obtain ⟨m, rfl⟩ := Int.eq_ofNat_of_zero_le m0
    (tm_at "dl go")
    refine m_slL M12 (d2.mono s12) fun q F13 H13 M13 s13 d13 => ?_
    rw [cutA_to, ← List.map_take] at d13
    exact k _ _ _ _ ((wrec l).take m) M13.fin (hs12.mono s13) d13 (bad_cut (by omega) (by omega)) (by rw [List.length_take]; omega)
  (tm_at "dl go")
  have kk : ∀ {F' H' R' : Hp} {v : V} {i : Nat} {x z : Int}, (wnum l.length).length ≤ i → (wrec l)[i]? = some x → 0 ≤ z → z < 255 → Mem F H R F' H' [R'] → IsSt F' R' p → Da F' v (enc ((wrec l).take i ++ [(x + 1 + z) % 256] ++ (wrec l).drop (i + 1) ++ fu)) → Q v H' := by
    intro F' H' R' v i x z h1 h2 h3 h4 m hs d
    obtain ⟨hil, _⟩ := List.getElem?_eq_some_iff.mp h2
    have hx' := wrec_by hby x (List.mem_of_getElem? h2)
    rw [set_cat hil] at d
    exact k _ _ _ _ _ m.fin hs d (bad_byte (by omega) hby h1 h2 (by omega) (by omega)) (by rw [List.length_append, List.length_set]; omega)
  refine ite2 (fun h2 => ?_) (fun h2 => ?_)
  · (tm_at "dl go")
    refine m_lenL M11 d2 ?_
    rw [List.length_map]
    (tm_at "dl go")
    refine next0 M11 hs11 (by decide) fun m F12 H12 R12 M12 s12 hs12 m0 m1 => ?_
    obtain ⟨i, hi⟩ : ∃ i : Nat, ((wrec l).length : Int) - 1 - m = (i : Int) := Int.eq_ofNat_of_zero_le (by omega)
    refine s_I0 ?_
    rw [hi]
    have hx := List.getElem?_eq_getElem (show i < (wrec l).length by omega)
    generalize (wrec l)[i]'_ = x at hx
    (tm_at "dl go")
    refine m_slL M12 (d2.mono s12) fun q1 F13 H13 M13 s13 d13 => ?_
    rw [cutA_to, ← List.map_take] at d13
    (tm_at "dl go")
    refine m_ixL M13 (d2.mono (s12.trans s13)) (atI_map (atI_at (j := i) rfl hx)) fun v hv => ?_
    obtain rfl := hv.of_int
    (tm_at "dl go")
    refine next0 M13 (hs12.mono s13) (by decide) fun z F14 H14 R14 M14 s14 hs14 z0 z1 => ?_
    (tm_at "dl go")
    refine m_lz (by simp only [List.length_cons, List.length_nil]; decide) ?_
    refine m_lstF M14 (DaA.ints (ns := [(x + 1 + z) % 256])) fun q2 F15 H15 M15 s15 d15 => ?_
    refine cat_enc (b := [(x + 1 + z) % 256]) M15 (d13.mono (s14.trans s15)) d15 (by rw [List.length_take, List.length_singleton]; omega) fun q3 F16 H16 M16 s16 d16 => ?_
    (tm_at "dl go")
    refine m_slL M16 (d2.mono (s12.trans (s13.trans (s14.trans (s15.trans s16))))) fun q4 F17 H17 M17 s17 d17 => ?_
    rw [show (i : Int) + 1 = ((i + 1 : Nat) : Int) by omega, cutA_from, ← List.map_drop] at d17
    refine cat_enc M17 (d16.mono s17) d17 (by simp only [List.length_append, List.length_take, List.length_drop, List.length_singleton]; omega) fun q5 F18 H18 M18 s18 d18 => ?_
    (tm_at "dl go")
    refine cat_enc M18 d18 (dfu.mono (s12.trans (s13.trans (s14.trans (s15.trans (s16.trans (s17.trans s18))))))) (by simp only [List.length_append, List.length_take, List.length_drop, List.length_singleton]; omega) fun q6 F19 H19 M19 s19' d19 => ?_
    exact kk (by omega) hx z0 z1 M19 (hs14.mono (s15.trans (s16.trans (s17.trans (s18.trans s19'))))) d19

  refine s_next ?_
  refine s_seq ?_
  refine s_if (s_cutT (fun b' H' => b' = decide (pick = 3 ∧ 0 < l.length) ∧ H' = H11) (fun Q k => ?_) ?_)
  · (tm_at "dl go")
    by_cases hp : pick = 3
    · rw [decide_eq_true hp, if_pos rfl]
      (tm_at "dl go")
      refine m_lenL M11 dx ?_
      rw [List.length_map]
      (tm_at "dl go")
      refine k _ _ ⟨?_, rfl⟩
      by_cases hz : 0 < l.length
      · rw [decide_eq_true (show (0 : Int) < (l.length : Int) by omega), decide_eq_true (show pick = 3 ∧ 0 < l.length from ⟨hp, hz⟩)]
      · rw [decide_eq_false (show ¬ (0 : Int) < (l.length : Int) by omega), decide_eq_false (show ¬ (pick = 3 ∧ 0 < l.length) from fun z => hz z.2)]
    · rw [decide_eq_false hp, if_neg (by decide)]
      exact k _ _ ⟨(decide_eq_false (show ¬ (pick = 3 ∧ 0 < l.length) from fun z => hp z.1)).symm, rfl⟩
  rintro b' H' ⟨rfl, rfl⟩
  refine ite2 (fun h3' => ?_) (fun h3' => ?_)
  · have hl0 := (of_decide_eq_true h3').2
    (tm_at "dl go")
    refine m_lenL M11 d2 ?_
    rw [List.length_map]
    (tm_at "dl go")
    refine m_lenL M11 dx ?_
    rw [List.length_map]
    (tm_at "dl go")
    refine next0 M11 hs11 (by omega) fun m F12 H12 R12 M12 s12 hs12 m0 m1 => ?_
    obtain ⟨i, hi⟩ : ∃ i : Nat, ((wrec l).length : Int) - 5 - m = (i : Int) := Int.eq_ofNat_of_zero_le (by omega)
    refine s_I0 ?_
    rw [hi]
    have hx := List.getElem?_eq_getElem (show i < (wrec l).length by omega)
    generalize (wrec l)[i]'_ = x at hx
    (tm_at "dl go")
    refine m_slL M12 (d2.mono s12) fun q1 F13 H13 M13 s13 d13 => ?_
    rw [cutA_to, ← List.map_take] at d13
    (tm_at "dl go")
    refine m_ixL M13 (d2.mono (s12.trans s13)) (atI_map (atI_at (j := i) rfl hx)) fun v hv => ?_
    obtain rfl := hv.of_int
    (tm_at "dl go")
    refine next0 M13 (hs12.mono s13) (by decide) fun z F14 H14 R14 M14 s14 hs14 z0 z1 => ?_
    (tm_at "dl go")
    refine m_lz (by simp only [List.length_cons, List.length_nil]; decide) ?_
    refine m_lstF M14 (DaA.ints (ns := [(x + 1 + z) % 256])) fun q2 F15 H15 M15 s15 d15 => ?_
    refine cat_enc (b := [(x + 1 + z) % 256]) M15 (d13.mono (s14.trans s15)) d15 (by rw [List.length_take, List.length_singleton]; omega) fun q3 F16 H16 M16 s16 d16 => ?_
    (tm_at "dl go")
    refine m_slL M16 (d2.mono (s12.trans (s13.trans (s14.trans (s15.trans s16))))) fun q4 F17 H17 M17 s17 d17 => ?_
    rw [show (i : Int) + 1 = ((i + 1 : Nat) : Int) by omega, cutA_from, ← List.map_drop] at d17
    refine cat_enc M17 (d16.mono s17) d17 (by simp only [List.length_append, List.length_take, List.length_drop, List.length_singleton]; omega) fun q5 F18 H18 M18 s18 d18 => ?_
    (tm_at "dl go")
    refine cat_enc M18 d18 (dfu.mono (s12.trans (s13.trans (s14.trans (s15.trans (s16.trans (s17.trans s18))))))) (by simp only [List.length_append, List.length_take, List.length_drop, List.length_singleton]; omega) fun q6 F19 H19 M19 s19' d19 => ?_
    exact kk (by omega) hx z0 z1 M19 (hs14.mono (s15.trans (s16.trans (s17.trans (s18.trans s19'))))) d19

  (tm_at "dl go")
  refine m_lenL M11 dx ?_
  rw [List.length_map]
  (tm_at "dl go")
  refine wn_call M11 (by omega) fun sv F12 H12 M12 s12 d12 => ?_
  obtain ⟨hsz, t, ewn, _, t0, t1⟩ := wnum_form l.length
  have hln : (wnum l.length).length = hsz.length + 1 := by rw [ewn, List.length_append]; rfl
  (tm_at "dl go")
  refine m_lenL M12 d12 ?_
  rw [List.length_map]
  (tm_at "dl go")
  refine m_ixL M12 d12 (atI_map (x := t) (atI_at (j := hsz.length) (by omega) (by rw [ewn]; simp))) fun v hv => ?_
  obtain rfl := hv.of_int
  (tm_at "dl go")
  refine m_lz (by simp only [List.length_cons, List.length_nil]; decide) ?_
  refine m_lstF M12 (DaA.ints (ns := [t + 128])) fun q1 F13 H13 M13 s13 d13 => ?_
  (tm_at "dl go")
  refine m_lz (by simp only [List.length_cons, List.length_nil]; decide) ?_
  refine m_lstF M13 (DaA.ints (ns := [128])) fun q2 F14 H14 M14 s14 d14 => ?_
  (tm_at "dl go")
  refine next0 M14 (hs11.mono (s12.trans (s13.trans s14))) (by decide) fun j F15 H15 R15 M15 s15 hs15 j0 j1 => ?_
  obtain ⟨j, rfl⟩ := Int.eq_ofNat_of_zero_le j0
  refine m_rep M15 (d14.mono s15) (by omega) (by omega) (sz100 (by simp; omega)) fun q3 F16 H16 M16 s16 d16 => ?_
  replace d16 : Da F16 (.ref q3) (enc (List.replicate j 128)) := by
    rw [Int.toNat_natCast] at d16
    have e : (List.replicate j ([128].map PyData.int)).flatten = (List.replicate j (128 : Int)).map PyData.int := by
      rw [List.map_replicate, List.map_singleton, List.flatten_replicate_singleton]
    rw [e] at d16
    exact d16
  refine cat_enc M16 (d13.mono (s14.trans (s15.trans s16))) d16 (by simp; omega) fun q4 F17 H17 M17 s17 d17 => ?_
  (tm_at "dl go")
  refine m_lz (by simp only [List.length_cons, List.length_nil]; decide) ?_
  refine m_lstF M17 (DaA.ints (ns := [0])) fun q5 F18 H18 M18 s18 d18 => ?_
  refine cat_enc (b := [0]) M18 (d17.mono s18) d18 (by simp; omega) fun q6 F19 H19 M19 s19' d19 => ?_
  have t12 := s13.trans (s14.trans (s15.trans (s16.trans (s17.trans (s18.trans s19')))))
  (tm_at "dl go")
  refine m_lenL M19 (d12.mono t12) ?_
  rw [List.length_map]
  (tm_at "dl go")
  refine m_slL M19 (d12.mono t12) fun q7 F20 H20 M20 s20 d20 => ?_
  rw [show (((wnum l.length).length : Nat) : Int) - 1 = ((hsz.length : Nat) : Int) by omega, cutA_to, ← List.map_take, ewn, List.take_left] at d20
  (tm_at "dl go")
  refine cat_enc M20 d20 (d19.mono s20) (by simp; omega) fun q8 F21 H21 M21 s21 d21 => ?_
  (tm_at "dl go")
  refine m_lenL M21 (d12.mono (t12.trans (s20.trans s21))) ?_
  rw [List.length_map]
  (tm_at "dl go")
  have t11 := s12.trans (t12.trans (s20.trans s21))
  refine m_slL M21 (d2.mono t11) fun q9 F22 H22 M22 s22 d22 => ?_
  rw [cutA_from, ← List.map_drop] at d22
  refine cat_enc M22 (d21.mono s22) d22 (by simp; omega) fun q10 F23 H23 M23 s23 d23 => ?_
  (tm_at "dl go")
  refine cat_enc M23 d23 (dfu.mono (t11.trans (s22.trans s23))) (by simp; omega) fun q11 F24 H24 M24 s24 d24 => ?_
  rw [List.append_assoc] at d24
  exact k _ _ _ _ _ M24.fin (hs15.mono (s16.trans (s17.trans (s18.trans (s19'.trans (s20.trans (s21.trans (s22.trans (s23.trans s24))))))))) d24 (bad_long (by omega) (by omega) ewn) (by simp; omega)
end
end K11

namespace K11
open PySem PySem.Spec PyProof.Rows L2 DL
local macro_rules | `(tactic| tm_at "dl hp") => `(tactic| (first | assumption | exact Mem.at0 (by assumption) | exact Mem.at1 (by assumption) | exact Mem.at2 (by assumption) | exact Mem.at3 (by assumption)))
local macro_rules | `(tactic| tm_at "dl ch") => `(tactic| (repeat (first | exact L2.Same.refl _ | assumption | refine L2.Same.trans ?_ (by assumption))))
local macro_rules | `(tactic| tm_at "dl da") => `(tactic| (first | assumption | (refine Da.mono ?_ (by assumption); (repeat (first | exact L2.Same.refl _ | assumption | refine L2.Same.trans ?_ (by assumption))))))
local macro_rules | `(tactic| tm_at "dl st") => `(tactic| (first | ((with_reducible show tVar _ _ _ _); refine s_var (by rfl) ?_) | with_reducible refine s_seq ?_ | with_reducible refine s_asg ?_ | with_reducible refine s_op ?_ | with_reducible refine s_un ?_ | with_reducible refine s_c ?_ | with_reducible refine s_call ?_ | with_reducible refine s_cons ?_ | with_reducible refine s_nil ?_ | with_reducible refine s_CB ?_ | with_reducible refine s_test ?_ | with_reducible refine s_tB ?_ | with_reducible refine s_tq ?_ | with_reducible refine s_if ?_ | with_reducible refine s_drop ?_ | with_reducible refine s_ret ?_ | with_reducible refine s_retN ?_ | with_reducible refine s_next ?_ | with_reducible refine s_brk ?_ | with_reducible refine s_cont ?_ | with_reducible refine s_name ?_ | with_reducible refine s_I0 ?_ | with_reducible refine s_U ?_ | with_reducible refine s_eqI ?_ | with_reducible refine s_eqS ?_ | with_reducible refine s_eqB ?_ | with_reducible refine s_neI ?_ | with_reducible refine s_neS ?_ | with_reducible refine s_neB ?_ | with_reducible refine s_isN0 ?_ | with_reducible refine s_isNI ?_ | with_reducible refine s_isNS ?_ | with_reducible refine s_isNR ?_ | with_reducible refine s_isNB ?_ | with_reducible refine s_notN0 ?_ | with_reducible refine s_notNI ?_ | with_reducible refine s_notNS ?_ | with_reducible refine s_notNR ?_ | with_reducible refine iteNT ?_ | with_reducible refine iteNF ?_ | with_reducible refine s_not ?_ | with_reducible refine s_and ?_ | with_reducible refine s_or ?_ | with_reducible refine s_ifE ?_ | with_reducible refine s_andV ?_ | with_reducible refine s_orV ?_ | with_reducible refine s_notV ?_ | with_reducible refine s_tup ?_ | with_reducible refine s_lst ?_ | with_reducible refine s_sub ?_ | with_reducible refine s_gCons ?_ | with_reducible refine s_gNil ?_ | with_reducible refine s_ipI ?_ | with_reducible refine s_for ?_ | with_reducible refine s_lc ?_ | with_reducible refine s_yes ?_ | with_reducible refine s_iList ?_ | with_reducible refine s_iTup ?_ | with_reducible refine s_iRng1 ?_ | with_reducible refine s_iRng2 ?_ | with_reducible refine s_iZip ?_ | with_reducible refine s_iEnum ?_ | with_reducible refine s_iStr ?_ | with_reducible refine s_st ?_ | with_reducible refine iteT ?_ | with_reducible refine iteF ?_ | with_reducible refine s_BM ?_ | with_reducible refine s_tyS ?_ | with_reducible refine s_int ?_ | with_reducible refine s_intB ?_ | with_reducible refine s_min ?_ | with_reducible refine s_max ?_ | with_reducible refine s_sl ?_ | with_reducible refine s_noP ?_ | with_reducible refine s_meth ?_ | with_reducible refine s_fld ?_ | with_reducible refine s_sfld ?_ | with_reducible refine s_make ?_ | with_reducible refine s_part ?_ | with_reducible refine s_pt ?_ | with_reducible refine s_augS ?_ | with_reducible refine s_fldaug ?_ | with_reducible refine s_inadd ?_ | with_reducible refine s_try ?_ | with_reducible refine s_methS ?_ | with_reducible refine s_callS ?_ | with_reducible refine s_rz ?_ | ((with_reducible show tAug _ _ _ _ _ _); refine s_aug (by rfl) ?_) | ((with_reducible show rI _ _ _ _ _ _); refine s_I (by first | (show (0 : Int) < _; decide) | (exact ⟨by decide, by decide⟩) | (exact .inr ⟨by decide, by decide⟩) | (exact .inl ⟨by decide, by decide⟩) | (exact ⟨by decide, by decide, by decide⟩)) ?_) | ((with_reducible show rIsi _ _ _ _); first | refine m_isi (by assumption) (by assumption) (r := true) (by dsimp only [tyD]; decide +kernel) ?_ | refine m_isi (by assumption) (by assumption) (r := false) (by dsimp only [tyD]; decide +kernel) ?_) | ((with_reducible show tyV _ _ _ _ ∧ _); refine s_tyL (by (first | assumption | exact Mem.at0 (by assumption) | exact Mem.at1 (by assumption) | exact Mem.at2 (by assumption) | exact Mem.at3 (by assumption))) ?_) | ((with_reducible show rIxL _ _ _ _ _); refine s_ixL (by (first | assumption | exact Mem.at0 (by assumption) | exact Mem.at1 (by assumption) | exact Mem.at2 (by assumption) | exact Mem.at3 (by assumption))) (by rfl) ?_)))
local macro_rules | `(tactic| tm_at "dl go") => `(tactic| (repeat (first | ((with_reducible show tVar _ _ _ _); refine s_var (by rfl) ?_) | with_reducible refine s_seq ?_ | with_reducible refine s_asg ?_ | with_reducible refine s_op ?_ | with_reducible refine s_un ?_ | with_reducible refine s_c ?_ | with_reducible refine s_call ?_ | with_reducible refine s_cons ?_ | with_reducible refine s_nil ?_ | with_reducible refine s_CB ?_ | with_reducible refine s_test ?_ | with_reducible refine s_tB ?_ | with_reducible refine s_tq ?_ | with_reducible refine s_if ?_ | with_reducible refine s_drop ?_ | with_reducible refine s_ret ?_ | with_reducible refine s_retN ?_ | with_reducible refine s_next ?_ | with_reducible refine s_brk ?_ | with_reducible refine s_cont ?_ | with_reducible refine s_name ?_ | with_reducible refine s_I0 ?_ | with_reducible refine s_U ?_ | with_reducible refine s_eqI ?_ | with_reducible refine s_eqS ?_ | with_reducible refine s_eqB ?_ | with_reducible refine s_neI ?_ | with_reducible refine s_neS ?_ | with_reducible refine s_neB ?_ | with_reducible refine s_isN0 ?_ | with_reducible refine s_isNI ?_ | with_reducible refine s_isNS ?_ | with_reducible refine s_isNR ?_ | with_reducible refine s_isNB ?_ | with_reducible refine s_notN0 ?_ | with_reducible refine s_notNI ?_ | with_reducible refine s_notNS ?_ | with_reducible refine s_notNR ?_ | with_reducible refine iteNT ?_ | with_reducible refine iteNF ?_ | with_reducible refine s_not ?_ | with_reducible refine s_and ?_ | with_reducible refine s_or ?_ | with_reducible refine s_ifE ?_ | with_reducible refine s_andV ?_ | with_reducible refine s_orV ?_ | with_reducible refine s_notV ?_ | with_reducible refine s_tup ?_ | with_reducible refine s_lst ?_ | with_reducible refine s_sub ?_ | with_reducible refine s_gCons ?_ | with_reducible refine s_gNil ?_ | with_reducible refine s_ipI ?_ | with_reducible refine s_for ?_ | with_reducible refine s_lc ?_ | with_reducible refine s_yes ?_ | with_reducible refine s_iList ?_ | with_reducible refine s_iTup ?_ | with_reducible refine s_iRng1 ?_ | with_reducible refine s_iRng2 ?_ | with_reducible refine s_iZip ?_ | with_reducible refine s_iEnum ?_ | with_reducible refine s_iStr ?_ | with_reducible refine s_st ?_ | with_reducible refine iteT ?_ | with_reducible refine iteF ?_ | with_reducible refine s_BM ?_ | with_reducible refine s_tyS ?_ | with_reducible refine s_int ?_ | with_reducible refine s_intB ?_ | with_reducible refine s_min ?_ | with_reducible refine s_max ?_ | with_reducible refine s_sl ?_ | with_reducible refine s_noP ?_ | with_reducible refine s_meth ?_ | with_reducible refine s_fld ?_ | with_reducible refine s_sfld ?_ | with_reducible refine s_make ?_ | with_reducible refine s_part ?_ | with_reducible refine s_pt ?_ | with_reducible refine s_augS ?_ | with_reducible refine s_fldaug ?_ | with_reducible refine s_inadd ?_ | with_reducible refine s_try ?_ | with_reducible refine s_methS ?_ | with_reducible refine s_callS ?_ | with_reducible refine s_rz ?_ | ((with_reducible show tAug _ _ _ _ _ _); refine s_aug (by rfl) ?_) | ((with_reducible show rI _ _ _ _ _ _); refine s_I (by first | (show (0 : Int) < _; decide) | (exact ⟨by decide, by decide⟩) | (exact .inr ⟨by decide, by decide⟩) | (exact .inl ⟨by decide, by decide⟩) | (exact ⟨by decide, by decide, by decide⟩)) ?_) | ((with_reducible show rIsi _ _ _ _); first | refine m_isi (by assumption) (by assumption) (r := true) (by dsimp only [tyD]; decide +kernel) ?_ | refine m_isi (by assumption) (by assumption) (r := false) (by dsimp only [tyD]; decide +kernel) ?_) | ((with_reducible show tyV _ _ _ _ ∧ _); refine s_tyL (by (first | assumption | exact Mem.at0 (by assumption) | exact Mem.at1 (by assumption) | exact Mem.at2 (by assumption) | exact Mem.at3 (by assumption))) ?_) | ((with_reducible show rIxL _ _ _ _ _); refine s_ixL (by (first | assumption | exact Mem.at0 (by assumption) | exact Mem.at1 (by assumption) | exact Mem.at2 (by assumption) | exact Mem.at3 (by assumption))) (by rfl) ?_))))

section
variable {P : Program} {w : World} {K : PySem.W.Frag} {mg : Str → Option Value} {base : Heap}
theorem fit_ints {n : Nat} {l : List Int} (h : l.length ≤ 1000000000) : Fit (n + 1) (enc l) :=
  ⟨by rw [List.length_map]; exact h, fun d hd => (by obtain ⟨i, _, rfl⟩ := List.mem_map.mp hd; cases n <;> trivial)⟩
theorem fit_recs {n : Nat} {rs : List (List Int)} (h : rs.length ≤ 1000) (hl : ∀ r ∈ rs, r.length ≤ 10000) : Fit (n + 2) (.list (rs.map enc)) :=
  ⟨by rw [List.length_map]; omega, fun d hd => (by obtain ⟨i, hi, rfl⟩ := List.mem_map.mp hd; have := hl i hi; exact fit_ints (by omega))⟩
theorem fit_pair {n : Nat} {a b : PyData} (h : Fit n a) (h' : Fit n b) : Fit (n + 1) (.tuple [a, b]) :=
  ⟨by simp, fun d hd => by
    rcases List.mem_cons.mp hd with rfl | hd
    · exact h
    · rw [List.mem_singleton.mp hd]; exact h'⟩
section
variable {F0 H0 B F H R A C S : Hp} {own : List Hp} {p : Addr} {n : Int} {Q : VK} {E : XK}
theorem behind0 (M : Mem F0 H0 B F H (R :: own)) (hs : IsSt F R p) (q : ∀ v F' H' R' b, Mem F0 H0 B F' H' (R' :: own) → Same F F' → IsSt F' R' p → Da F' v (enc b) → Bad b → b.length ≤ 5000 → Q v H') : sp__law_behind [.ref p] H Q E :=
  ⟨F, R, p, rfl, M.fh, M.oh0, M.fo0, hs, fun v F' H' R' l g h d z0 z1 => q v F' H' R' l (M.go g) g.ff h d z0 z1⟩
theorem rr_call {x : V} {rs : List (List Int)} {b : List Int} (M : Mem F0 H0 B F H own) (hx : Da F x (enc (flat rs ++ b))) (hb : Bad b) (hl : ∀ r ∈ rs, r.length ≤ 10000) (hn : rs.length ≤ 1000) (hz : (flat rs ++ b).length ≤ 1000000) (q : ∀ v F' H', Mem F0 H0 B F' H' own → Same F F' → Da F' (.ref v) (.tuple [.list (rs.map enc), .int ((flat rs).length : Int)]) → Q (.ref v) H') : sp_rr [x] H Q E :=
  ⟨F, x, rs, b, rfl, M.fh, hx, hb, hl, hn, hz, fun v F' H' g d => q v F' H' (M.go0 g) g.ff d⟩
end
theorem flat_len : ∀ {rs : List (List Int)}, (∀ r ∈ rs, r.length ≤ 10000) → (flat rs).length ≤ rs.length * 10010
  | [], _ => Nat.zero_le _
  | r :: rs, h => by
    have h1 := flat_len (fun z hz => h z (List.mem_cons_of_mem _ hz)) (rs := rs)
    have h2 := h r List.mem_cons_self
    have h3 := wnum_le3 (n := r.length) (by omega)
    rw [flat_cons, List.length_append, wrec_len, List.length_cons]
    omega
def szs (rs : List (List Int)) (n : Nat) : List Int := (List.range n).map fun j => ((flat (rs.take j)).length : Int)
theorem szs_at {rs : List (List Int)} {n j : Nat} (h : j < n) : (szs rs n)[j]? = some ((flat (rs.take j)).length : Int) := by
  unfold szs
  rw [List.getElem?_map, List.getElem?_range h]
  rfl
def spLaw (K : PySem.W.Frag) : Sp := fun vs H Q _ => ∃ (a : Addr) (ns : List Int), vs = [.ref a] ∧ SqL K H a (ns.map V.int) ∧ ns.length ≤ 63 ∧ ∀ H', Q (.bl true) H'
theorem law_at {lf : Addr} {ld : FuncData} (T : Tx K mg) (F : FunD K "law" "law" (defArgs s_law) (defBody s_law) (defScope s_law) [] [] lf ld) : FnOk P w K mg base CX0 31 lf ld ["script"] (spLaw K) := by
  refine fnO F sc_law (fun vs H Q E h => ?_) (fun f cdv A outer s H vs Q E hr h => ?_)
  · obtain ⟨a, ns, rfl, _⟩ := h
    rfl
  obtain ⟨a, ns, rfl, hS, hl, k⟩ := h
  have M := Mem.start0 (emp_same (A := H))
  refine ⟨_, (pss_cons (ps_set (i := 1) sc_law.nd rfl (Or.inr rfl) (pe_lst (pa_cons (pe_fn (ok__law_draws T) (hr.mono (by first | decide | omega)) rfl pass0 (pa_cons (pv 0) pa_nil)) (pa_cons pe_int pa_nil))))
  (pss_cons (ps_setLc (i := 2) (own := [("k", 8)]) (g := gName 8) (by rfl) sc_law.nd rfl rfl (sw_true rfl rfl rfl (by decide +kernel)) (pi_range1 rfl T.b_range (pa_cons (pe_fn (ok__law_next T) (hr.mono (by first | decide | omega)) rfl pass0 (pa_cons (pv 1) (pa_cons pe_int pa_nil))) pa_nil)) (blkOk_by (own := [("k", 8)]) (N := n_law) (sc := defScope s_law) (by decide +kernel)) (fun _ _ _ _ _ => (pg_name (i := 8) sc_law.nd rfl (Or.inl rfl))) (fun _ _ _ _ _ => pts_nil) (fun _ _ _ _ _ => (pe_fn (ok__law_bytes T) (hr.mono (by first | decide | omega)) rfl pass0 (pa_cons (pv 1) pa_nil))))
  (pss_cons (ps_set (i := 3) sc_law.nd rfl (Or.inl rfl) (pe_lst pa_nil))
  (pss_cons (ps_set (i := 4) sc_law.nd rfl (Or.inl rfl) (pe_lst (pa_cons pe_int pa_nil)))
  (pss_cons (ps_for PassesOwn.never rfl (pi_list (pv 2)) (pg_name (i := 5) sc_law.nd rfl (Or.inl rfl))
  (pss_cons (ps_set (i := 6) sc_law.nd rfl (Or.inl rfl) (pe_callTy c_list (by rfl) T.b_list DL.bt_list (pa_cons (pv 5) pa_nil)))
  (pss_cons (ps_if (PW.pt (pw_or (pt_not (pt_val (pe_fn (ok__law_same T 10) (hr.mono (by first | decide | omega)) rfl pass0 (pa_cons (pe_fn (ok_checksum T) (hr.mono (by first | decide | omega)) rfl pass0 (pa_cons (pv 6) pa_nil)) (pa_cons (pe_fn (ok__law_checksum T) (hr.mono (by first | decide | omega)) rfl pass0 (pa_cons (pv 5) pa_nil)) pa_nil))))) (pw_or1 (pt_not (pt_val (pe_fn (ok__law_same T 10) (hr.mono (by first | decide | omega)) rfl pass0 (pa_cons (pe_fn (ok_write_record T) (hr.mono (by first | decide | omega)) rfl pass0 (pa_cons (pv 6) pa_nil)) (pa_cons (pe_fn (ok__law_record T) (hr.mono (by first | decide | omega)) rfl pass0 (pa_cons (pv 5) pa_nil)) pa_nil))))))))
  (pss_one (ps_ret pe_bl))
  pss_nil)
  (pss_cons (ps_if (pt_cmpR (op_neD hr.units) (pv 6) (pv 5) (nomark _))
  (pss_one (ps_ret pe_bl))
  pss_nil)
  (pss_cons (ps_set (i := 3) sc_law.nd rfl (Or.inl rfl) (pe_op op_cat (pv 3) (pe_fn (ok__law_record T) (hr.mono (by first | decide | omega)) rfl pass0 (pa_cons (pv 5) pa_nil))))
  (pss_one (ps_expr (pe_bm PySem.F.plainAttrs_list PySem.F.slot_list_append PySem.F.type_list_append c_append (pv 4) (pa_cons (pe_callB c_lenQ (by rfl) T.b_len DL.bt_len (pa_cons (pv 3) pa_nil)) pa_nil)))))))))
  (pss_cons (ps_set (i := 7) sc_law.nd rfl (Or.inl rfl) (pe_op op_cat (pv 3) (pe_fn (ok__law_behind T) (hr.mono (by first | decide | omega)) rfl pass0 (pa_cons (pv 1) pa_nil))))
  (pss_cons (ps_set (i := 6) sc_law.nd rfl (Or.inl rfl) (pe_callTy c_list (by rfl) T.b_list DL.bt_list (pa_cons (pv 7) pa_nil)))
  (pss_cons (ps_if (PW.pt (pw_or (pt_not (pt_val (pe_fn (ok__law_same T 10) (hr.mono (by first | decide | omega)) rfl pass0 (pa_cons (pe_fn (ok_read_records T) (hr.mono (by first | decide | omega)) rfl pass0 (pa_cons (pv 6) pa_nil)) (pa_cons (pe_tup (pa_cons (pv 2) (pa_cons (pe_callB c_lenQ (by rfl) T.b_len DL.bt_len (pa_cons (pv 3) pa_nil)) pa_nil))) pa_nil))))) (pw_or1 (pt_cmpR (op_neD hr.units) (pv 6) (pv 7) (nomark _)))))
  (pss_one (ps_ret pe_bl))
  pss_nil)
  (pss_cons (ps_for PassesOwn.never rfl (pi_range1 rfl T.b_range (pa_cons pe_int pa_nil)) (pg_name (i := 8) sc_law.nd rfl (Or.inl rfl))
  (pss_cons (ps_set (i := 9) sc_law.nd rfl (Or.inr rfl) (pe_fn (ok__law_next T) (hr.mono (by first | decide | omega)) rfl pass0 (pa_cons (pv 1) (pa_cons (pe_op op_add (pe_callB c_lenQ (by rfl) T.b_len DL.bt_len (pa_cons (pv 3) pa_nil)) pe_int) pa_nil))))
  (pss_cons (ps_set (i := 10) sc_law.nd rfl (Or.inl rfl) (pe_op op_sub (pe_callB c_lenQ (by rfl) T.b_len DL.bt_len (pa_cons (pe_lc (own := [("size", 11)]) (g := gName 11) rfl sc_law.nd (pi_list (pv 4)) (blkOk_by (own := [("size", 11)]) (N := n_law) (sc := defScope s_law) (by decide +kernel)) (fun _ _ _ _ _ => (pg_name (i := 11) sc_law.nd rfl (Or.inl rfl))) (fun _ _ _ _ _ => (pts_one (pt_cmpR op_le (pv 11) (pv 9) (nomark _)))) (fun _ _ _ _ _ => (pv 11))) pa_nil)) pe_int))
  (pss_cons (ps_set (i := 6) sc_law.nd rfl (Or.inl rfl) (pe_slice sl_list (pv 3) po_none (po_some (pv 9))))
  (pss_one (ps_if (PW.pt (pw_or (pt_not (pt_val (pe_fn (ok__law_same T 10) (hr.mono (by first | decide | omega)) rfl pass0 (pa_cons (pe_fn (ok_read_records T) (hr.mono (by first | decide | omega)) rfl pass0 (pa_cons (pv 6) pa_nil)) (pa_cons (pe_tup (pa_cons (pe_slice sl_list (pv 2) po_none (po_some (pv 10))) (pa_cons (pe_ix ix_list (pv 4) (pv 10) (fun _ _ => rfl)) pa_nil))) pa_nil))))) (pw_or1 (pt_cmpR (op_neD hr.units) (pv 6) (pe_slice sl_list (pv 3) po_none (po_some (pv 9))) (nomark _)))))
  (pss_one (ps_ret pe_bl))
  pss_nil))))))
  (pss_one (ps_ret (pe_and (pe_fn (ok__law_same T 10) (hr.mono (by first | decide | omega)) rfl pass0 (pa_cons (pe_fn (ok_read_records T) (hr.mono (by first | decide | omega)) rfl pass0 (pa_cons (pe_lst pa_nil) pa_nil)) (pa_cons (pe_tup (pa_cons (pe_lst pa_nil) (pa_cons pe_int pa_nil))) pa_nil))) (pe_one (pe_fn (ok__law_same T 10) (hr.mono (by first | decide | omega)) rfl pass0 (pa_cons (pe_fn (ok_write_record T) (hr.mono (by first | decide | omega)) rfl pass0 (pa_cons (pe_lst pa_nil) pa_nil)) (pa_cons (pe_lst (pa_cons pe_int (pa_cons pe_int (pa_cons pe_int (pa_cons pe_int (pa_cons pe_int pa_nil)))))) pa_nil)))))))))))))))), ?_⟩
  (tm_at "dl go")
  refine ⟨a, ns, rfl, hS, hl, fun dv F1 H1 zs g1 d1 hz => ?_⟩
  have M1 := M.go0 g1
  obtain ⟨d, _, rfl, _, _⟩ := id d1.of_lst
  (tm_at "dl go")
  refine m_lz (by simp only [List.length_cons, List.length_nil]; decide) ?_
  refine m_lst M1 fun p H2 M2 => ?_
  have hs2 : IsSt F1 (cell p (.lst [.ref d, .int 20])) p := ⟨d, zs, 20, rfl, d1, hz, by decide⟩
  (tm_at "dl go")
  refine next0 M2 hs2 (by decide) fun n F3 H3 R3 M3 s3 hs3 n0 n1 => ?_
  (tm_at "dl go")
  refine s_r1 (by omega) (by omega) ?_
  refine m_lcR M3 (fun i acc F' own => ∃ (rs : List (List Int)) (R' : Hp), own = [R'] ∧ IsSt F' R' p ∧ DaA F' acc (rs.map enc) ∧ rs.length = i ∧ (∀ r ∈ rs, r.length ≤ 2001) ∧ ∀ r ∈ rs, By r) ⟨[], R3, rfl, hs3, .nil, rfl, fun r hr => (nomatch hr), fun r hr => (nomatch hr)⟩ ?_ ?_
  · rintro i acc D F4 H4 own hi s4 M4 ⟨rs, R4, rfl, hs4, ha, hn, hlen, hby⟩
    (tm_at "dl go")
    refine ⟨rfl, ?_⟩
    (tm_at "dl go")
    refine bytes1 M4 hs4 fun v F5 H5 R5 l M5 s5 hs5 dl bl ll => ?_
    have al := ha.length
    rw [List.length_map] at al
    refine LcE.mk (s4.trans s5) M5 (Nat.lt_of_le_of_lt (show _ ≤ 10000 by omega) (by decide)) ⟨rs ++ [l], R5, rfl, hs5, ?_, by rw [List.length_append, hn]; rfl, fun r hr => ?_, fun r hr => ?_⟩
    · rw [List.map_append]
      exact (ha.mono s5).snoc dl
    · rcases List.mem_append.mp hr with h | h
      · exact hlen r h
      · rw [List.mem_singleton.mp h]; exact ll
    · rcases List.mem_append.mp hr with h | h
      · exact hby r h
      · rw [List.mem_singleton.mp h]; exact bl
  rintro D acc F4 H4 own s4 M4 ⟨rs, R4, rfl, hs4, ha, hn, hlen, hby⟩
  have hn10 : rs.length ≤ 10 := by omega
  have hl1 : ∀ r ∈ rs, r.length ≤ 10000 := fun r hr => Nat.le_trans (hlen r hr) (by decide)
  have fl := flat_len hl1
  obtain ⟨F5, M5, s5, drs⟩ := M4.data ha
  replace hs4 := hs4.mono s5
  (tm_at "dl go")
  refine m_lz (Nat.zero_le _) ?_
  refine m_lstF M5 .nil fun e0 F6 H6 M6 s6 d6 => ?_
  (tm_at "dl go")
  refine m_lz (by simp only [List.length_cons, List.length_nil]; decide) ?_
  refine m_lst M6 fun sz H7 M7 => ?_
  (tm_at "dl go")
  refine m_forL M7 (drs.mono s6) (fun i σ F' own => ∃ (x : V) (u v w y z t t' : Option V), σ = [some (.ref a), some (.ref p), some (.ref D), some x, some (.ref sz), u, v, w, y, z, t, t'] ∧ own = [cell sz (.lst ((szs rs (i + 1)).map V.int)), R4] ∧ Da F' x (enc (flat (rs.take i))))
    ⟨.ref e0, none, none, none, none, none, none, none, rfl, rfl, d6⟩ ?_ ?_
  · rintro i dd v σ F8 H8 own ed s8 M8 dv ⟨x, u1, u2, u3, u4, u5, u6, u7, rfl, rfl, dx⟩
    rw [List.getElem?_map] at ed
    cases es : rs[i]? with
    | none => rw [es] at ed; cases ed
    | some r =>
    rw [es] at ed
    obtain rfl := Option.some.inj ed
    have hr0 := hlen r (List.mem_of_getElem? es)
    have hil := (List.getElem?_eq_some_iff.mp es).1
    (tm_at "dl go")
    refine m_listF M8 dv fun q F9 H9 M9 s9 d9 => ?_
    (tm_at "dl go")
    refine cs_call M9 d9 fun H10 M10 => ?_
    (tm_at "dl go")
    refine cs_call M10 (dv.mono s9) fun H11 M11 => ?_
    (tm_at "dl go")
    refine same_call M11 (.int _) (.int _) (by trivial) fun H12 M12 => ?_
    (tm_at "dl go")
    refine wr_call M12 d9 (by omega) fun v1 F13 H13 M13 s13 d13 => ?_
    (tm_at "dl go")
    refine wr_call M13 (dv.mono (s9.trans s13)) (by omega) fun v2 F14 H14 M14 s14 d14 => ?_
    (tm_at "dl go")
    have h3 := wnum_le3 (n := r.length) (by omega)
    have hw := wrec_len r
    refine same_call M14 (d13.mono s14) d14 (fit_ints (by omega)) fun H15 M15 => ?_
    (tm_at "dl go")
    have s89 := s9.trans (s13.trans s14)
    refine m_neD M15 (d9.mono (s13.trans s14)) (dv.mono s89) shaped_ints shaped_ints ?_
    rw [eqv_enc, decide_eq_true rfl]
    (tm_at "dl go")
    refine wr_call M15 (dv.mono s89) (by omega) fun v3 F16 H16 M16 s16 d16 => ?_
    have ft := flat_take es
    have fsz : (flat (rs.take i)).length ≤ 200000 := by
      have := flat_len (rs := rs.take i) (fun r hr => hl1 r (List.mem_of_mem_take hr))
      rw [List.length_take] at this
      omega
    refine cat_enc M16 (dx.mono (s89.trans s16)) d16 (by omega) fun q2 F17 H17 M17 s17 d17 => ?_
    rw [← ft] at d17
    (tm_at "dl go")
    refine m_lenL M17 d17 ?_
    rw [List.length_map]
    (tm_at "dl go")
    refine m_app0 M17 (Nat.lt_of_le_of_lt (show _ ≤ 10000 by simp [szs]; omega) (by decide)) fun H18 M18 => ?_
    (tm_at "dl go")
    refine Nx.mk (s8.trans (s89.trans (s16.trans s17))) M18 ⟨_, _, _, _, _, _, _, _, rfl, ?_, d17⟩
    unfold szs
    rw [List.range_succ (n := i + 1), List.map_append, List.map_append]
    rfl
  rintro σ F8 H8 own s8 M8 ⟨x, u1, u2, u3, u4, u5, u6, u7, rfl, rfl, dx⟩
  rw [List.length_map, List.take_length] at dx
  rw [List.length_map] at M8
  obtain ⟨F9, M9, s9, dsz⟩ := M8.data (ds := (szs rs (rs.length + 1)).map PyData.int) DaA.ints
  replace dx := dx.mono s9
  replace drs := drs.mono (s6.trans (s8.trans s9))
  replace hs4 := hs4.mono (s6.trans (s8.trans s9))
  (tm_at "dl go")
  refine behind0 M9 hs4 fun bv F10 H10 R10 b M10 s10 hs10 db hb hbl => ?_
  refine cat_enc M10 (dx.mono s10) db (by omega) fun wq F11 H11 M11 s11 d11 => ?_
  (tm_at "dl go")
  refine m_listF M11 d11 fun pq F12 H12 M12 s12 d12 => ?_
  (tm_at "dl go")
  refine rr_call M12 d12 hb hl1 (by omega) (by rw [List.length_append]; omega) fun q1 F13 H13 M13 s13 d13 => ?_
  (tm_at "dl go")
  refine m_lenL M13 (dx.mono (s10.trans (s11.trans (s12.trans s13)))) ?_
  rw [List.length_map]
  (tm_at "dl go")
  refine m_tup M13 (.cons (drs.mono (s10.trans (s11.trans (s12.trans s13)))) (.cons (.int _) .nil)) (Nat.le_of_lt (small1000 (by simp only [List.length_cons, List.length_nil]; decide))) fun t1 F14 H14 M14 s14 d14 => ?_
  (tm_at "dl go")
  refine same_call M14 (d13.mono s14) d14 (fit_pair (fit_recs (by omega) hl1) (by trivial)) fun H15 M15 => ?_
  (tm_at "dl go")
  refine m_neD M15 (d12.mono (s13.trans s14)) (d11.mono (s12.trans (s13.trans s14))) shaped_ints shaped_ints ?_
  rw [eqv_enc, decide_eq_true rfl]
  (tm_at "dl go")
  have t9 := s10.trans (s11.trans (s12.trans (s13.trans s14)))
  replace dx := dx.mono t9
  replace drs := drs.mono t9
  replace dsz := dsz.mono t9
  replace hs10 := hs10.mono (s11.trans (s12.trans (s13.trans s14)))
  refine s_r1 (by decide) (by decide) ?_
  refine m_forR M15 (fun i σ F' own => ∃ (R' : Hp) (u y z t u5 u6 u7 : Option V), σ = [some (.ref a), some (.ref p), some (.ref D), some x, some (.ref sz), u, y, z, t, u5, u6, u7] ∧ own = [R'] ∧ IsSt F' R' p)
    ⟨R10, _, _, _, _, _, _, _, rfl, rfl, hs10⟩ ?_ ?_
  · rintro i σ F16 H16 own hi s16 M16 ⟨R16, u1, u2, u3, u4, u5, u6, u7, rfl, rfl, hs16⟩
    replace dx := dx.mono s16
    replace drs := drs.mono s16
    replace dsz := dsz.mono s16
    (tm_at "dl go")
    refine m_lenL M16 dx ?_
    rw [List.length_map]
    (tm_at "dl go")
    refine next0 M16 hs16 (by omega) fun m F17 H17 R17 M17 s17 hs17 m0 m1 => ?_
    obtain ⟨m, rfl⟩ := Int.eq_ofNat_of_zero_le m0
    obtain ⟨i0, b', hi0, ecut, hb', hj⟩ := flat_cut rs m (fun r hr => Nat.le_trans (hl1 r hr) (by decide)) (by omega)
    replace dx := dx.mono s17
    replace drs := drs.mono s17
    replace dsz := dsz.mono s17
    (tm_at "dl go")
    refine m_lcL M17 dsz (fun j acc F' own => own = [R17] ∧ acc.length = min j (i0 + 1)) ⟨rfl, by simp⟩ ?_ ?_
    · rintro j dd v acc D2 F18 H18 own ed s18 M18 dv ⟨rfl, hal⟩
      have hjl : j < rs.length + 1 := by
        have := (List.getElem?_eq_some_iff.mp ed).1
        simpa [szs] using this
      rw [List.getElem?_map, szs_at hjl] at ed
      obtain rfl := Option.some.inj ed
      obtain rfl := dv.of_int
      have hjj := hj j (by omega)
      (tm_at "dl go")
      refine ⟨rfl, ?_⟩
      (tm_at "dl go")
      by_cases hc : j ≤ i0
      · rw [decide_eq_true (show ((flat (rs.take j)).length : Int) ≤ (m : Int) by have := hjj.mpr hc; omega)]
        (tm_at "dl go")
        exact LcE.mk s18 M18 (Nat.lt_of_le_of_lt (show _ ≤ 10000 by omega) (by decide)) ⟨rfl, by rw [List.length_append, hal, List.length_singleton]; omega⟩
      · rw [decide_eq_false (show ¬ ((flat (rs.take j)).length : Int) ≤ (m : Int) by intro z; exact hc (hjj.mp (by omega)))]
        (tm_at "dl go")
        exact NxC.mk s18 M18 ⟨rfl, by omega⟩
    rintro D2 acc F18 H18 own s18 M18 ⟨rfl, hal⟩
    rw [List.length_map, show (szs rs (rs.length + 1)).length = rs.length + 1 by simp [szs]] at hal
    have hal' : acc.length = i0 + 1 := by omega
    (tm_at "dl go")
    refine s_lenL M18.at0 ?_
    rw [hal']
    (tm_at "dl go")
    have M19 := M18.drop
    replace dx := dx.mono s18
    replace drs := drs.mono s18
    replace dsz := dsz.mono s18
    refine m_slL M19 dx fun q1 F20 H20 M20 s20 d20 => ?_
    rw [cutA_to, ← List.map_take, ecut] at d20
    (tm_at "dl go")
    have hli : ∀ r ∈ rs.take i0, r.length ≤ 10000 := fun r hr => hl1 r (List.mem_of_mem_take hr)
    have hcl := congrArg List.length ecut
    rw [List.length_take] at hcl
    refine rr_call M20 d20 hb' hli (by rw [List.length_take]; omega) (by omega) fun q2 F21 H21 M21 s21 d21 => ?_
    (tm_at "dl go")
    refine m_slL M21 (drs.mono (s20.trans s21)) fun q3 F22 H22 M22 s22 d22 => ?_
    rw [show (((i0 + 1 : Nat) : Int) - 1) = (i0 : Int) by omega, cutA_to, ← List.map_take] at d22
    (tm_at "dl go")
    refine m_ixL M22 (dsz.mono (s20.trans (s21.trans s22))) (atI_map (x := ((flat (rs.take i0)).length : Int)) (atI_at (j := i0) (by omega) (szs_at (by omega)))) fun v hv => ?_
    obtain rfl := hv.of_int
    (tm_at "dl go")
    refine m_tup M22 (.cons d22 (.cons (.int _) .nil)) (Nat.le_of_lt (small1000 (by simp only [List.length_cons, List.length_nil]; decide))) fun t1 F23 H23 M23 s23 d23 => ?_
    (tm_at "dl go")
    refine same_call M23 (d21.mono (s22.trans s23)) d23 (fit_pair (fit_recs (by rw [List.length_take]; omega) hli) (by trivial)) fun H24 M24 => ?_
    (tm_at "dl go")
    refine m_slL M24 (dx.mono (s20.trans (s21.trans (s22.trans s23)))) fun q4 F25 H25 M25 s25 d25 => ?_
    rw [cutA_to, ← List.map_take, ecut] at d25
    refine m_neD M25 (d20.mono (s21.trans (s22.trans (s23.trans s25)))) d25 shaped_ints shaped_ints ?_
    rw [eqv_enc, decide_eq_true rfl]
    (tm_at "dl go")
    have sl := s18.trans (s20.trans (s21.trans (s22.trans (s23.trans s25))))
    exact Nx.mk (s16.trans (s17.trans sl)) M25 ⟨R17, _, _, _, _, _, _, _, rfl, rfl, hs17.mono sl⟩
  · rintro σ F16 H16 own s16 M16 ⟨R16, u1, u2, u3, u4, u5, u6, u7, rfl, rfl, hs16⟩
    (tm_at "dl go")
    refine m_lz (Nat.zero_le _) ?_
    refine m_lstF M16 .nil fun q1 F17 H17 M17 s17 d17 => ?_
    (tm_at "dl go")
    refine rr_call (rs := []) (b := []) M17 d17 bad_nil (fun r hr => (nomatch hr)) (Nat.zero_le _) (Nat.zero_le _) fun q2 F18 H18 M18 s18 d18 => ?_
    (tm_at "dl go")
    refine m_lz (Nat.zero_le _) ?_
    refine m_lstF M18 .nil fun q3 F19 H19 M19 s19 d19 => ?_
    (tm_at "dl go")
    refine m_tup M19 (.cons d19 (.cons (.int 0) .nil)) (Nat.le_of_lt (small1000 (by simp only [List.length_cons, List.length_nil]; decide))) fun t1 F20 H20 M20 s20 d20 => ?_
    (tm_at "dl go")
    refine same_call M20 (d18.mono (s19.trans s20)) d20 (fit_pair (fit_recs (rs := []) (Nat.zero_le _) (fun r hr => (nomatch hr))) (by trivial)) fun H21 M21 => ?_
    (tm_at "dl go")
    refine m_lz (Nat.zero_le _) ?_
    refine m_lstF M21 .nil fun q4 F22 H22 M22 s22 d22 => ?_
    (tm_at "dl go")
    refine wr_call (l := []) M22 d22 (by decide) fun q5 F23 H23 M23 s23 d23 => ?_
    (tm_at "dl go")
    refine m_lz (by simp only [List.length_cons, List.length_nil]; decide) ?_
    refine m_lstF M23 (DaA.ints (ns := [0, 0, 0, 0, 7])) fun q6 F24 H24 M24 s24 d24 => ?_
    (tm_at "dl go")
    have e0 : wrec [] = [0, 0, 0, 0, 7] := by
      unfold wrec
      rw [show ([] : List Int).length = 0 from rfl, wnum_lt (by decide)]
      rfl
    rw [e0] at d23
    refine same_call M24 (d23.mono s24) d24 (fit_ints (l := [0, 0, 0, 0, 7]) (by decide)) fun H25 M25 => ?_
    exact k _
end
end K11

namespace K11
open PySem PySem.Spec PyProof.Rows L2 DL
/-! the top -/
def fn : List He.DefD := [⟨("Reader", some "__init__"), "__init__", "Reader.__init__", defArgs s_Reader___init__, defBody s_Reader___init__, defScope s_Reader___init__, [], []⟩, ⟨("Reader", some "read_byte"), "read_byte", "Reader.read_byte", defArgs s_Reader_read_byte, defBody s_Reader_read_byte, defScope s_Reader_read_byte, [], []⟩, ⟨("Reader", some "read_number"), "read_number", "Reader.read_number", defArgs s_Reader_read_number, defBody s_Reader_read_number, defScope s_Reader_read_number, [], []⟩, ⟨("write_number", none), "write_number", "write_number", defArgs s_write_number, defBody s_write_number, defScope s_write_number, [], []⟩, ⟨("checksum", none), "checksum", "checksum", defArgs s_checksum, defBody s_checksum, defScope s_checksum, [], []⟩, ⟨("write_record", none), "write_record", "write_record", defArgs s_write_record, defBody s_write_record, defScope s_write_record, [], []⟩, ⟨("_read_size", none), "_read_size", "_read_size", defArgs s__read_size, defBody s__read_size, defScope s__read_size, [], []⟩, ⟨("read_records", none), "read_records", "read_records", defArgs s_read_records, defBody s_read_records, defScope s_read_records, [], []⟩, ⟨("_law_mix", none), "_law_mix", "_law_mix", defArgs s__law_mix, defBody s__law_mix, defScope s__law_mix, [], []⟩, ⟨("_law_draws", none), "_law_draws", "_law_draws", defArgs s__law_draws, defBody s__law_draws, defScope s__law_draws, [], []⟩, ⟨("_law_at", none), "_law_at", "_law_at", defArgs s__law_at, defBody s__law_at, defScope s__law_at, [], []⟩, ⟨("_law_is_integer", none), "_law_is_integer", "_law_is_integer", defArgs s__law_is_integer, defBody s__law_is_integer, defScope s__law_is_integer, [], []⟩, ⟨("_law_same", none), "_law_same", "_law_same", defArgs s__law_same, defBody s__law_same, defScope s__law_same, [], []⟩, ⟨("_law_next", none), "_law_next", "_law_next", defArgs s__law_next, defBody s__law_next, defScope s__law_next, [], []⟩, ⟨("_law_number", none), "_law_number", "_law_number", defArgs s__law_number, defBody s__law_number, defScope s__law_number, [], []⟩, ⟨("_law_checksum", none), "_law_checksum", "_law_checksum", defArgs s__law_checksum, defBody s__law_checksum, defScope s__law_checksum, [], []⟩, ⟨("_law_record", none), "_law_record", "_law_record", defArgs s__law_record, defBody s__law_record, defScope s__law_record, [], []⟩, ⟨("_law_bytes", none), "_law_bytes", "_law_bytes", defArgs s__law_bytes, defBody s__law_bytes, defScope s__law_bytes, [], []⟩, ⟨("_law_behind", none), "_law_behind", "_law_behind", defArgs s__law_behind, defBody s__law_behind, defScope s__law_behind, [], []⟩, ⟨("law", none), "law", "law", defArgs s_law, defBody s_law, defScope s_law, [], []⟩]
def fa0 : List He.Fa := [.free "bool", .free "int", .free "isinstance", .free "len", .free "list", .free "min", .free "range", .free "str", .free "tuple", .int "NUMBER_BYTES" 60, .int "CHECKSUM_LIMIT" 4294967296, .cls "Reader", .noat "Reader" "data", .noat "Reader" "at", .exc "DamagedPacket", .glo "DamagedPacket", .exm "DamagedPacket" "DamagedPacket" true, .glo "Reader", .mkr "Reader", .meth "Reader" "read_byte", .meth "Reader" "read_number", .glo "write_number", .glo "checksum", .glo "write_record", .glo "_read_size", .glo "read_records", .glo "_law_mix", .glo "_law_draws", .glo "_law_at", .glo "_law_is_integer"]
def fa1 : List He.Fa := [.glo "_law_same", .glo "_law_next", .glo "_law_number", .glo "_law_checksum", .glo "_law_record", .glo "_law_bytes", .glo "_law_behind", .glo "law"]
def fa : List He.Fa := fa0 ++ fa1
abbrev RR : PySem.W.OpenRow := PySem.W.OpenLaw.row PySem.Challenge.rw_gridwhole_k11_records
abbrev hk : PySem.W.Hook := He.hookD 5 fa fn
def ob (s : PySem.W.SharedT) : He.AlD := He.obsDG 5 fa fn (HandSHeadRun.getT s)
theorem ob_eq (s : PySem.W.SharedT) : ob s = hk.obs s.abs := He.obsDG_eq (HandSHeadRun.getT_eq s)
def nms : List Str := ["_wall", "GridwholeError", "DamagedPacket", "NUMBER_BYTES", "Reader", "write_number", "CHECKSUM_LIMIT", "checksum", "write_record", "_read_size", "read_records", "_law_mix", "_law_draws", "_law_at", "_law_is_integer", "_law_same", "_law_next", "_law_number", "_law_checksum", "_law_record", "_law_bytes", "_law_behind"]
theorem run (w : World) : HandSHeadRun.RunEq RR (PySem.W.view RR.prog [27]) hk ob 6000 nms w := by
  intro os
  kernel_rfl
theorem facts {K : PySem.W.Frag} {h : Heap} {mg : Str → Option Value} (X : K.In h) (G : h.Ns mainGlobals mg) (c : He.SaysD fa fn K) : Tx K mg where
  b_bool := He.free_ok X G (c.fact 0 (f := .free "bool") rfl)
  b_int := He.free_ok X G (c.fact 1 (f := .free "int") rfl)
  b_isinstance := He.free_ok X G (c.fact 2 (f := .free "isinstance") rfl)
  b_len := He.free_ok X G (c.fact 3 (f := .free "len") rfl)
  b_list := He.free_ok X G (c.fact 4 (f := .free "list") rfl)
  b_min := He.free_ok X G (c.fact 5 (f := .free "min") rfl)
  b_range := He.free_ok X G (c.fact 6 (f := .free "range") rfl)
  b_str := He.free_ok X G (c.fact 7 (f := .free "str") rfl)
  b_tuple := He.free_ok X G (c.fact 8 (f := .free "tuple") rfl)
  c_NUMBER_BYTES := He.int_ok X G (c.fact 9 (f := .int "NUMBER_BYTES" 60) rfl)
  c_CHECKSUM_LIMIT := He.int_ok X G (c.fact 10 (f := .int "CHECKSUM_LIMIT" 4294967296) rfl)
  cl_Reader := He.cls_ok (c.fact 11 (f := .cls "Reader") rfl)
  na_Reader_data := He.noat_ok (c.fact 12 (f := .noat "Reader" "data") rfl)
  na_Reader_at := He.noat_ok (c.fact 13 (f := .noat "Reader" "at") rfl)
  x_DamagedPacket := (let q := He.exc_ok (c.fact 14 (f := .exc "DamagedPacket") rfl); ⟨He.glo_ok X G (c.fact 15 (f := .glo "DamagedPacket") rfl), q.1, q.2.1, q.2.2.1, q.2.2.2⟩)
  xm_DamagedPacket := He.exm_ok (c.fact 16 (f := .exm "DamagedPacket" "DamagedPacket" true) rfl)
  i_Reader := (let ⟨fd, F⟩ := c.def_ 0 (d := ⟨("Reader", some "__init__"), "__init__", "Reader.__init__", defArgs s_Reader___init__, defBody s_Reader___init__, defScope s_Reader___init__, [], []⟩) rfl; ⟨_, fd, He.glo_ok X G (c.fact 17 (f := .glo "Reader") rfl), He.mkr_ok (c.fact 18 (f := .mkr "Reader") rfl), F⟩)
  m_Reader_read_byte := (let ⟨fd, F⟩ := c.def_ 1 (d := ⟨("Reader", some "read_byte"), "read_byte", "Reader.read_byte", defArgs s_Reader_read_byte, defBody s_Reader_read_byte, defScope s_Reader_read_byte, [], []⟩) rfl; ⟨_, fd, He.meth_ok (c.fact 19 (f := .meth "Reader" "read_byte") rfl), F⟩)
  m_Reader_read_number := (let ⟨fd, F⟩ := c.def_ 2 (d := ⟨("Reader", some "read_number"), "read_number", "Reader.read_number", defArgs s_Reader_read_number, defBody s_Reader_read_number, defScope s_Reader_read_number, [], []⟩) rfl; ⟨_, fd, He.meth_ok (c.fact 20 (f := .meth "Reader" "read_number") rfl), F⟩)
  d_write_number := (let ⟨fd, F⟩ := c.def_ 3 (d := ⟨("write_number", none), "write_number", "write_number", defArgs s_write_number, defBody s_write_number, defScope s_write_number, [], []⟩) rfl; ⟨_, fd, He.glo_ok X G (c.fact 21 (f := .glo "write_number") rfl), F⟩)
  d_checksum := (let ⟨fd, F⟩ := c.def_ 4 (d := ⟨("checksum", none), "checksum", "checksum", defArgs s_checksum, defBody s_checksum, defScope s_checksum, [], []⟩) rfl; ⟨_, fd, He.glo_ok X G (c.fact 22 (f := .glo "checksum") rfl), F⟩)
  d_write_record := (let ⟨fd, F⟩ := c.def_ 5 (d := ⟨("write_record", none), "write_record", "write_record", defArgs s_write_record, defBody s_write_record, defScope s_write_record, [], []⟩) rfl; ⟨_, fd, He.glo_ok X G (c.fact 23 (f := .glo "write_record") rfl), F⟩)
  d__read_size := (let ⟨fd, F⟩ := c.def_ 6 (d := ⟨("_read_size", none), "_read_size", "_read_size", defArgs s__read_size, defBody s__read_size, defScope s__read_size, [], []⟩) rfl; ⟨_, fd, He.glo_ok X G (c.fact 24 (f := .glo "_read_size") rfl), F⟩)
  d_read_records := (let ⟨fd, F⟩ := c.def_ 7 (d := ⟨("read_records", none), "read_records", "read_records", defArgs s_read_records, defBody s_read_records, defScope s_read_records, [], []⟩) rfl; ⟨_, fd, He.glo_ok X G (c.fact 25 (f := .glo "read_records") rfl), F⟩)
  d__law_mix := (let ⟨fd, F⟩ := c.def_ 8 (d := ⟨("_law_mix", none), "_law_mix", "_law_mix", defArgs s__law_mix, defBody s__law_mix, defScope s__law_mix, [], []⟩) rfl; ⟨_, fd, He.glo_ok X G (c.fact 26 (f := .glo "_law_mix") rfl), F⟩)
  d__law_draws := (let ⟨fd, F⟩ := c.def_ 9 (d := ⟨("_law_draws", none), "_law_draws", "_law_draws", defArgs s__law_draws, defBody s__law_draws, defScope s__law_draws, [], []⟩) rfl; ⟨_, fd, He.glo_ok X G (c.fact 27 (f := .glo "_law_draws") rfl), F⟩)
  d__law_at := (let ⟨fd, F⟩ := c.def_ 10 (d := ⟨("_law_at", none), "_law_at", "_law_at", defArgs s__law_at, defBody s__law_at, defScope s__law_at, [], []⟩) rfl; ⟨_, fd, He.glo_ok X G (c.fact 28 (f := .glo "_law_at") rfl), F⟩)
  d__law_is_integer := (let ⟨fd, F⟩ := c.def_ 11 (d := ⟨("_law_is_integer", none), "_law_is_integer", "_law_is_integer", defArgs s__law_is_integer, defBody s__law_is_integer, defScope s__law_is_integer, [], []⟩) rfl; ⟨_, fd, He.glo_ok X G (c.fact 29 (f := .glo "_law_is_integer") rfl), F⟩)
  d__law_same := (let ⟨fd, F⟩ := c.def_ 12 (d := ⟨("_law_same", none), "_law_same", "_law_same", defArgs s__law_same, defBody s__law_same, defScope s__law_same, [], []⟩) rfl; ⟨_, fd, He.glo_ok X G (c.fact 30 (f := .glo "_law_same") rfl), F⟩)
  d__law_next := (let ⟨fd, F⟩ := c.def_ 13 (d := ⟨("_law_next", none), "_law_next", "_law_next", defArgs s__law_next, defBody s__law_next, defScope s__law_next, [], []⟩) rfl; ⟨_, fd, He.glo_ok X G (c.fact 31 (f := .glo "_law_next") rfl), F⟩)
  d__law_number := (let ⟨fd, F⟩ := c.def_ 14 (d := ⟨("_law_number", none), "_law_number", "_law_number", defArgs s__law_number, defBody s__law_number, defScope s__law_number, [], []⟩) rfl; ⟨_, fd, He.glo_ok X G (c.fact 32 (f := .glo "_law_number") rfl), F⟩)
  d__law_checksum := (let ⟨fd, F⟩ := c.def_ 15 (d := ⟨("_law_checksum", none), "_law_checksum", "_law_checksum", defArgs s__law_checksum, defBody s__law_checksum, defScope s__law_checksum, [], []⟩) rfl; ⟨_, fd, He.glo_ok X G (c.fact 33 (f := .glo "_law_checksum") rfl), F⟩)
  d__law_record := (let ⟨fd, F⟩ := c.def_ 16 (d := ⟨("_law_record", none), "_law_record", "_law_record", defArgs s__law_record, defBody s__law_record, defScope s__law_record, [], []⟩) rfl; ⟨_, fd, He.glo_ok X G (c.fact 34 (f := .glo "_law_record") rfl), F⟩)
  d__law_bytes := (let ⟨fd, F⟩ := c.def_ 17 (d := ⟨("_law_bytes", none), "_law_bytes", "_law_bytes", defArgs s__law_bytes, defBody s__law_bytes, defScope s__law_bytes, [], []⟩) rfl; ⟨_, fd, He.glo_ok X G (c.fact 35 (f := .glo "_law_bytes") rfl), F⟩)
  d__law_behind := (let ⟨fd, F⟩ := c.def_ 18 (d := ⟨("_law_behind", none), "_law_behind", "_law_behind", defArgs s__law_behind, defBody s__law_behind, defScope s__law_behind, [], []⟩) rfl; ⟨_, fd, He.glo_ok X G (c.fact 36 (f := .glo "_law_behind") rfl), F⟩)
  d_law := (let ⟨fd, F⟩ := c.def_ 19 (d := ⟨("law", none), "law", "law", defArgs s_law, defBody s_law, defScope s_law, [], []⟩) rfl; ⟨_, fd, He.glo_ok X G (c.fact 37 (f := .glo "law") rfl), F⟩)
theorem lawF {P : Program} {w : World} {K : PySem.W.Frag} {h : Heap} {mg : Str → Option Value} {f : Addr} (X : K.In h) (G : h.Ns mainGlobals mg) (hfa : mg ("law" : Str) = some (.ref f)) (c : He.SaysD fa fn K) :
    ∃ fd : FuncData, (∀ (s : Shared) (v : Value), BindsTo s fd ⟨[v], []⟩ [("script", v)]) ∧ ∀ base : Heap, K.In base → base.Ns mainGlobals mg → FnOk P w K mg base CX0 31 f fd ["script"] (spLaw K) := by
  have T := facts X G c
  obtain ⟨f', fd, hm, F⟩ := T.d_law
  have e := hfa.symm.trans hm
  cases e
  have b := FunD.bindsA (ps := ["script"]) F bd_law
  exact ⟨fd, fun s v => b s [v] rfl, fun base _ _ => law_at T F⟩
end K11
open PySem PySem.W PySem.Calls PyProof.Rows
theorem PySem.Challenge.cw_gridwhole_k11_records_holds : PySem.Challenge.rw_gridwhole_k11_records.Holds := by
  w_on; o_law
  refine HandSHeadRun.head_any (r := OpenLaw.row PySem.Challenge.rw_gridwhole_k11_records) (q := view (OpenLaw.row PySem.Challenge.rw_gridwhole_k11_records).prog [27]) (H := K11.hk) (ob := K11.ob) (M := 6000) (loose := K11.nms) (d := HandSHeadRun.topDef (OpenLaw.row PySem.Challenge.rw_gridwhole_k11_records).prog 27) (kwd := []) K11.ob_eq
    (by kernel_rfl) (fun s => by kernel_rfl) K11.run (by kernel_rfl) (by kernel_rfl) (by kernel_rfl) (by rfl) (by first | assumption | decide +kernel) (by decide +kernel) ⟨rfl, rfl, rfl, rfl, rfl, by decide +kernel⟩ ?hw ?hc
  case hw => w_witness2
  case hc =>
    refine L2.walk_ofE (l := PySem.Challenge.rw_gridwhole_k11_records) (n := 63) (k := 31) (x := "script") (CX := L2.CX0) rfl (by decide) (by kernel_rfl) ⟨rfl, by decide, by decide⟩ ?F (fun _ _ _ _ z => z)
    intro w mg fa h Y G hmg0
    obtain ⟨K, KX, c⟩ := Y
    have hmg : mg ("law" : PySem.Str) = some (.ref fa) := by
      have e : (HandSHeadRun.topDef (OpenLaw.row PySem.Challenge.rw_gridwhole_k11_records).prog 27).name = ("law" : PySem.Str) := by kernel_rfl
      rw [← e]
      exact hmg0
    obtain ⟨fd, hb, hF⟩ := K11.lawF (P := (PySem.Challenge.rw_gridwhole_k11_records).prog) (w := w) KX G hmg c
    exact ⟨K, fd, K11.spLaw K, KX, hb, fun H a ns hl _ hS => ⟨a, ns, rfl, hS, hl, fun _ => rfl⟩, hF⟩
#print axioms PySem.Challenge.cw_gridwhole_k11_records_holds
