import PyProof.Rows.All
import Wide.All
import OpenK.AllK
import Wide.FinOn
import HandS.ForMost
import HandS.Walk
import HandS.Style
import HandS.TupAny
import HandS.Conv
import HandS.Deep
import HandS.Wide
import HandS.TupMul
import HandS.Flow
import KE.LtData
import HandS.IsInst
import KE.GoesEnum
import KE.GoesZip
import KE.GoesMore
import HandS.RevRange
import HandS.NoneIn
import HandS.More
import KE.DataMinMax
import KE.KTupSum
import PyProof.MaxThree
import KE.SortData
import KE.KIndexOf
import HandS.SortKw
import KE.SortKeyHeap
import KE.KSortKey
import HandS.SetFor
import HandS.TupSets
import HandS.Ends
import PySem.Challenge.RW_gasheld_k46_whole_tests_mains
set_option Elab.async false
set_option linter.all false
set_option maxRecDepth 100000
set_option maxHeartbeats 4000000
/-! Pl1: data that stand for values, ownership, the state relation, readings of pure functions -/
namespace Pl
open PySem PySem.Spec PyProof.Rows L2

abbrev D := PyData
def keyD : Key → D
  | .inl i => .int i
  | .inr x => .str x

mutual
/-- v stands for d; L: the addresses of the lists and dicts in it -/
inductive Rp (K : PySem.W.Frag) (H : Hp) : V → D → List Addr → Prop
  | non : Rp K H .non .none []
  | bl (b : Bool) : Rp K H (.bl b) (.bool b) []
  | int (i : Int) : Rp K H (.int i) (.int i) []
  | str (x : Str) : Rp K H (.str x) (.str x) []
  | lst {a : Addr} {vs : List V} {ds : List D} {L : List Addr} : H a = some (.lst vs) → RpA K H vs ds L → Rp K H (.ref a) (.list ds) (a :: L)
  | tup {a : Addr} {vs : List V} {ds : List D} {L : List Addr} : SqT K H a vs → RpA K H vs ds L → Rp K H (.ref a) (.tuple ds) L
  | dk {a : Addr} {kvs : List (Key × V)} {ds : List (D × D)} {L : List Addr} : H a = some (.dK kvs) → ds.map (·.1) = kvs.map (fun p => keyD p.1) → RpA K H (kvs.map (·.2)) (ds.map (·.2)) L → Rp K H (.ref a) (.dict ds) (a :: L)
  | dt {a : Addr} {kvs : List (List Key × V)} {ds : List (D × D)} {L : List Addr} : H a = some (.dT kvs) → ds.map (·.1) = kvs.map (fun p => .tuple (p.1.map keyD)) → RpA K H (kvs.map (·.2)) (ds.map (·.2)) L → Rp K H (.ref a) (.dict ds) (a :: L)
inductive RpA (K : PySem.W.Frag) (H : Hp) : List V → List D → List Addr → Prop
  | nil : RpA K H [] [] []
  | cons {v : V} {vs : List V} {d : D} {ds : List D} {L M : List Addr} : Rp K H v d L → RpA K H vs ds M → RpA K H (v :: vs) (d :: ds) (L ++ M)
end

section
variable {K : PySem.W.Frag} {H H' : Hp}
theorem RpA.length : ∀ {vs : List V} {ds : List D} {L : List Addr}, RpA K H vs ds L → vs.length = ds.length
  | [], _, _, h => by cases h; rfl
  | _ :: vs, _, _, h => by
    cases h with
    | cons h1 h2 => simp [RpA.length h2]
theorem RpA.append : ∀ {vs ws : List V} {ds es : List D} {L M : List Addr}, RpA K H vs ds L → RpA K H ws es M → RpA K H (vs ++ ws) (ds ++ es) (L ++ M)
  | [], _, _, _, _, _, h, h' => by cases h; exact h'
  | _ :: vs, _, _, _, _, _, h, h' => by
    cases h with
    | cons h1 h2 =>
      have := RpA.cons h1 (RpA.append h2 h')
      simpa [List.append_assoc] using this
theorem RpA.get : ∀ {vs : List V} {ds : List D} {L : List Addr} {i : Nat} {d : D}, RpA K H vs ds L → ds[i]? = some d → ∃ v M, vs[i]? = some v ∧ Rp K H v d M ∧ ∀ b ∈ M, b ∈ L
  | [], _, _, _, _, h, e => by cases h; simp at e
  | _ :: vs, _, _, 0, _, h, e => by
    cases h with
    | @cons v _ d' ds' L1 M1 h1 h2 =>
      simp at e; subst e
      exact ⟨_, _, rfl, h1, fun b hb => List.mem_append_left _ hb⟩
  | _ :: vs, _, _, i + 1, _, h, e => by
    cases h with
    | @cons v _ d' ds' L1 M1 h1 h2 =>
      obtain ⟨w, M, e1, r, hm⟩ := RpA.get (i := i) h2 (by simpa using e)
      exact ⟨w, M, by simpa using e1, r, fun b hb => List.mem_append_right _ (hm b hb)⟩
/-- the same for a place of the values -/
theorem RpA.getV : ∀ {vs : List V} {ds : List D} {L : List Addr} {i : Nat} {v : V}, RpA K H vs ds L → vs[i]? = some v → ∃ d M, ds[i]? = some d ∧ Rp K H v d M ∧ ∀ b ∈ M, b ∈ L
  | _, _, L, i, v, h, e => by
    have hl := h.length
    obtain ⟨hi, _⟩ := List.getElem?_eq_some_iff.mp e
    have hi' : i < _ := hl ▸ hi
    obtain ⟨w, M, e1, r, hm⟩ := h.get (List.getElem?_eq_getElem hi')
    rw [e] at e1; cases e1
    exact ⟨_, M, List.getElem?_eq_getElem hi', r, hm⟩
theorem RpA.take : ∀ {vs : List V} {ds : List D} {L : List Addr} (n : Nat), RpA K H vs ds L → ∃ M, RpA K H (vs.take n) (ds.take n) M ∧ ∀ b ∈ M, b ∈ L
  | _, _, _, 0, _ => ⟨[], by simpa using RpA.nil, by simp⟩
  | [], _, _, _ + 1, h => by cases h; exact ⟨[], .nil, by simp⟩
  | _ :: _, _, _, n + 1, h => by
    cases h with
    | cons h1 h2 =>
      obtain ⟨M, r, hm⟩ := RpA.take n h2
      refine ⟨_, .cons h1 r, fun b hb => ?_⟩
      rcases List.mem_append.mp hb with q | q
      · exact List.mem_append_left _ q
      · exact List.mem_append_right _ (hm b q)
theorem RpA.drop : ∀ {vs : List V} {ds : List D} {L : List Addr} (n : Nat), RpA K H vs ds L → ∃ M, RpA K H (vs.drop n) (ds.drop n) M ∧ ∀ b ∈ M, b ∈ L
  | _, _, L, 0, h => ⟨L, h, fun _ z => z⟩
  | [], _, _, _ + 1, h => by cases h; exact ⟨[], .nil, by simp⟩
  | _ :: _, _, _, n + 1, h => by
    cases h with
    | cons h1 h2 =>
      obtain ⟨M, r, hm⟩ := RpA.drop n h2
      exact ⟨M, r, fun b hb => List.mem_append_right _ (hm b hb)⟩
theorem RpA.set : ∀ {vs : List V} {ds : List D} {L M : List Addr} {v : V} {d : D} (i : Nat), RpA K H vs ds L → Rp K H v d M → ∃ N, RpA K H (vs.set i v) (ds.set i d) N ∧ ∀ b ∈ N, b ∈ L ∨ b ∈ M
  | [], _, _, _, _, _, _, h, _ => by cases h; exact ⟨[], .nil, by simp⟩
  | _ :: _, _, _, _, _, _, 0, h, r => by
    cases h with
    | cons h1 h2 =>
      refine ⟨_, .cons r h2, fun b hb => ?_⟩
      rcases List.mem_append.mp hb with q | q
      · exact .inr q
      · exact .inl (List.mem_append_right _ q)
  | _ :: _, _, _, _, _, _, i + 1, h, r => by
    cases h with
    | cons h1 h2 =>
      obtain ⟨N, q, hn⟩ := RpA.set i h2 r
      refine ⟨_, .cons h1 q, fun b hb => ?_⟩
      rcases List.mem_append.mp hb with z | z
      · exact .inl (List.mem_append_left _ z)
      · rcases hn b z with y | y
        · exact .inl (List.mem_append_right _ y)
        · exact .inr y
theorem RpA.sub {vs : List V} {ds : List D} {L : List Addr} (h : RpA K H vs ds L) (ix : List Nat) : ∀ ds', ds' = ix.filterMap (fun i => ds[i]?) → ∃ M, RpA K H (ix.filterMap fun i => vs[i]?) ds' M ∧ ∀ b ∈ M, b ∈ L := by
  induction ix with
  | nil => intro ds' e; subst e; exact ⟨[], .nil, by simp⟩
  | cons i r ih =>
    intro ds' e; subst e
    obtain ⟨M, q, hm⟩ := ih _ rfl
    have hl := h.length
    by_cases hi : i < ds.length
    · obtain ⟨v, N, e1, rv, hn⟩ := h.get (List.getElem?_eq_getElem hi)
      refine ⟨N ++ M, ?_, fun b hb => (List.mem_append.mp hb).elim (hn b) (hm b)⟩
      have := RpA.cons rv q
      simpa [List.filterMap_cons, e1, List.getElem?_eq_getElem hi] using this
    · have e1 : ds[i]? = none := List.getElem?_eq_none (by omega)
      have e2 : vs[i]? = none := List.getElem?_eq_none (by omega)
      exact ⟨M, by simpa [List.filterMap_cons, e1, e2] using q, hm⟩

mutual
/-- what the heap keeps -/
theorem Rp.keep (t : ∀ b xs, SqT K H b xs → SqT K H' b xs) : ∀ (d : D) {v : V} {L : List Addr}, Rp K H v d L → (∀ b ∈ L, ∀ o, H b = some o → H' b = some o) → Rp K H' v d L
  | .none, _, _, h, _ => by cases h; exact .non
  | .bool b, _, _, h, _ => by cases h; exact .bl _
  | .int b, _, _, h, _ => by cases h; exact .int _
  | .str b, _, _, h, _ => by cases h; exact .str _
  | .list ds, _, _, h, l => by
    cases h with
    | lst h1 h2 => exact .lst (l _ List.mem_cons_self _ h1) (RpA.keep t ds h2 fun b hb => l b (List.mem_cons_of_mem _ hb))
  | .tuple ds, _, _, h, l => by
    cases h with
    | tup h1 h2 => exact .tup (t _ _ h1) (RpA.keep t ds h2 l)
  | .dict ds, _, _, h, l => by
    cases h with
    | dk h1 h2 h3 => exact .dk (l _ List.mem_cons_self _ h1) h2 (RpP.keep t ds h3 fun b hb => l b (List.mem_cons_of_mem _ hb))
    | dt h1 h2 h3 => exact .dt (l _ List.mem_cons_self _ h1) h2 (RpP.keep t ds h3 fun b hb => l b (List.mem_cons_of_mem _ hb))
theorem RpA.keep (t : ∀ b xs, SqT K H b xs → SqT K H' b xs) : ∀ (ds : List D) {vs : List V} {L : List Addr}, RpA K H vs ds L → (∀ b ∈ L, ∀ o, H b = some o → H' b = some o) → RpA K H' vs ds L
  | [], _, _, h, _ => by cases h; exact .nil
  | d :: ds, _, _, h, l => by
    cases h with
    | cons h1 h2 => exact .cons (Rp.keep t d h1 fun b hb => l b (List.mem_append_left _ hb)) (RpA.keep t ds h2 fun b hb => l b (List.mem_append_right _ hb))
theorem RpP.keep (t : ∀ b xs, SqT K H b xs → SqT K H' b xs) : ∀ (ds : List (D × D)) {vs : List V} {L : List Addr}, RpA K H vs (ds.map (·.2)) L → (∀ b ∈ L, ∀ o, H b = some o → H' b = some o) → RpA K H' vs (ds.map (·.2)) L
  | [], _, _, h, _ => by cases h; exact .nil
  | (k, d) :: ds, _, _, h, l => by
    cases h with
    | cons h1 h2 => exact .cons (Rp.keep t d h1 fun b hb => l b (List.mem_append_left _ hb)) (RpP.keep t ds h2 fun b hb => l b (List.mem_append_right _ hb))
end
theorem Same.sqt (e : Same H H') : ∀ b xs, SqT K H b xs → SqT K H' b xs := fun b xs h => by
  rcases h with (h | ⟨o, h⟩) | h
  · exact .inl (.inl (e _ _ h))
  · exact .inl (.inr ⟨o, e _ _ h⟩)
  · exact .inr h
theorem Rp.mono {v : V} {d : D} {L : List Addr} (h : Rp K H v d L) (e : Same H H') : Rp K H' v d L := Rp.keep (Same.sqt e) d h fun b _ o q => e b o q
theorem RpA.mono {vs : List V} {ds : List D} {L : List Addr} (h : RpA K H vs ds L) (e : Same H H') : RpA K H' vs ds L := RpA.keep (Same.sqt e) ds h fun b _ o q => e b o q
/-- a list, as the rules read it -/
theorem Rp.list {v : V} {ds : List D} {L : List Addr} (h : Rp K H v (.list ds) L) : ∃ a vs M, v = .ref a ∧ H a = some (.lst vs) ∧ RpA K H vs ds M ∧ ∀ b ∈ M, b ∈ L := by
  cases h with
  | lst h1 h2 => exact ⟨_, _, _, rfl, h1, h2, fun b hb => List.mem_cons_of_mem _ hb⟩
theorem Rp.tuple {v : V} {ds : List D} {L : List Addr} (h : Rp K H v (.tuple ds) L) : ∃ a vs, v = .ref a ∧ SqT K H a vs ∧ RpA K H vs ds L := by
  cases h with
  | tup h1 h2 => exact ⟨_, _, rfl, h1, h2⟩
theorem Rp.addr {v : V} {d : D} {L : List Addr} (h : Rp K H v d L) : ∀ b ∈ L, H b ≠ none := by
  have key : ∀ {a : Addr} {u : HO}, H a = some u → H a ≠ none := fun {a u} r => by
    rw [r]; exact fun z => nomatch z
  exact Rp.rec (motive_1 := fun _ _ L _ => ∀ b ∈ L, H b ≠ none) (motive_2 := fun _ _ L _ => ∀ b ∈ L, H b ≠ none)
    (by simp) (by simp) (by simp) (by simp)
    (fun h1 _ ih b hb => (List.mem_cons.mp hb).elim (fun e => e ▸ key h1) (ih b)) (fun _ _ ih => ih)
    (fun h1 _ _ ih b hb => (List.mem_cons.mp hb).elim (fun e => e ▸ key h1) (ih b)) (fun h1 _ _ ih b hb => (List.mem_cons.mp hb).elim (fun e => e ▸ key h1) (ih b))
    (by simp) (fun _ _ i1 i2 b hb => (List.mem_append.mp hb).elim (i1 b) (i2 b)) h
end

/-! ### no dict within: HandS's Dp -/
mutual
def noDict : D → Bool
  | .dict _ => false
  | .list ds => noDictA ds
  | .tuple ds => noDictA ds
  | _ => true
def noDictA : List D → Bool
  | [] => true
  | d :: ds => noDict d && noDictA ds
end
mutual
theorem Rp.dp {K : PySem.W.Frag} {H : Hp} : ∀ (d : D) {v : V} {L : List Addr}, Rp K H v d L → noDict d = true → Dp K H v d
  | .none, _, _, h, _ => by cases h; exact .non
  | .bool _, _, _, h, _ => by cases h; exact .bl _
  | .int _, _, _, h, _ => by cases h; exact .int _
  | .str _, _, _, h, _ => by cases h; exact .str _
  | .list ds, _, _, h, n => by
    rw [noDict] at n
    cases h with
    | lst h1 h2 => exact .lst (.inl (.inl h1)) (RpA.dp ds h2 n)
  | .tuple ds, _, _, h, n => by
    rw [noDict] at n
    cases h with
    | tup h1 h2 => exact .tup h1 (RpA.dp ds h2 n)
  | .dict _, _, _, _, n => by simp [noDict] at n
theorem RpA.dp {K : PySem.W.Frag} {H : Hp} : ∀ (ds : List D) {vs : List V} {L : List Addr}, RpA K H vs ds L → noDictA ds = true → DpAll K H vs ds
  | [], _, _, h, _ => by cases h; exact .nil
  | d :: ds, _, _, h, n => by
    rw [noDictA, Bool.and_eq_true] at n
    cases h with
    | cons h1 h2 => exact .cons (Rp.dp d h1 n.1) (RpA.dp ds h2 n.2)
end
/-! no list and no dict within -/
mutual
def lf : D → Bool
  | .dict _ => false
  | .list _ => false
  | .tuple ds => lfA ds
  | _ => true
def lfA : List D → Bool
  | [] => true
  | d :: ds => lf d && lfA ds
end
mutual
theorem Rp.lfree {K : PySem.W.Frag} {H : Hp} : ∀ (d : D) {v : V} {L : List Addr}, Rp K H v d L → lf d = true → L = []
  | .none, _, _, h, _ => by cases h; rfl
  | .bool _, _, _, h, _ => by cases h; rfl
  | .int _, _, _, h, _ => by cases h; rfl
  | .str _, _, _, h, _ => by cases h; rfl
  | .list ds, _, _, h, n => by simp [lf] at n
  | .tuple ds, _, _, h, n => by
    rw [lf] at n
    cases h with
    | tup h1 h2 => exact RpA.lfree ds h2 n
  | .dict _, _, _, _, n => by simp [lf] at n
theorem RpA.lfree {K : PySem.W.Frag} {H : Hp} : ∀ (ds : List D) {vs : List V} {L : List Addr}, RpA K H vs ds L → lfA ds = true → L = []
  | [], _, _, h, _ => by cases h; rfl
  | d :: ds, _, _, h, n => by
    rw [lfA, Bool.and_eq_true] at n
    cases h with
    | cons h1 h2 => rw [Rp.lfree d h1 n.1, RpA.lfree ds h2 n.2]; rfl
end

/-! ### ownership -/
/-- fz: frozen; ow: the value's own list (or dict), nobody else's; bw: read off such a one; sc: the script, read alone -/
inductive Fl | fz | ow | bw | sc
abbrev RV := D × Fl
abbrev Slot := Option RV
abbrev En := List Slot
abbrev GE := En → Option RV
abbrev GB := En → Option Bool

/-- the object at a is d's own; what it holds lies within G -/
def Obj1 (K : PySem.W.Frag) (G : Addr → Prop) (H : Hp) (a : Addr) : D → Prop
  | .list ds => ∃ vs L, H a = some (.lst vs) ∧ RpA K H vs ds L ∧ ∀ b ∈ L, G b
  | .dict ds => (∃ kvs L, H a = some (.dK kvs) ∧ ds.map (·.1) = kvs.map (fun p => keyD p.1) ∧ RpA K H (kvs.map (·.2)) (ds.map (·.2)) L ∧ ∀ b ∈ L, G b) ∨
      ∃ kvs L, H a = some (.dT kvs) ∧ ds.map (·.1) = kvs.map (fun p => .tuple (p.1.map keyD)) ∧ RpA K H (kvs.map (·.2)) (ds.map (·.2)) L ∧ ∀ b ∈ L, G b
  | _ => False
/-- the script: a list of ints that is only read -/
def ScOk (K : PySem.W.Frag) (H : Hp) (v : V) (d : D) : Prop := ∃ (a : Addr) (ns : List Int), v = .ref a ∧ d = .list (ns.map .int) ∧ ((∃ o, H a = some (.frz o (.lst (ns.map V.int)))) ∨ SqL K (fun _ => none) a (ns.map V.int))
theorem ScOk.get {K : PySem.W.Frag} {H : Hp} {v : V} {d : D} (h : ScOk K H v d) : ∃ (a : Addr) (ns : List Int), v = .ref a ∧ d = .list (ns.map .int) ∧ SqL K H a (ns.map V.int) := by
  obtain ⟨a, ns, h1, h2, ⟨o, h3⟩ | h3⟩ := h
  · exact ⟨a, ns, h1, h2, .inl (.inr ⟨o, h3⟩)⟩
  · have e : Same (fun _ => none) H := fun b o z => nomatch z
    exact ⟨a, ns, h1, h2, e.seq h3⟩
/-- what is known of a value that came while the heap went from H to H' -/
def Res (K : PySem.W.Frag) (F : Addr → Prop) (H H' : Hp) (v : V) : RV → Prop
  | (d, .fz) => ∃ L, Rp K H' v d L ∧ ∀ b ∈ L, F b ∨ H b = none
  | (d, .ow) => ∃ a, v = .ref a ∧ H a = none ∧ Obj1 K (fun b => (F b ∨ H b = none) ∧ b ≠ a) H' a d
  | (d, .bw) => ∃ a, v = .ref a ∧ Obj1 K (fun b => F b ∨ H b = none) H' a d
  | (d, .sc) => ScOk K H' v d
/-- a slot's value -/
def SlOk (K : PySem.W.Frag) (F : Addr → Prop) (H : Hp) (v : V) : RV → Prop
  | (d, .fz) => ∃ L, Rp K H v d L ∧ ∀ b ∈ L, F b
  | (d, .ow) => ∃ a, v = .ref a ∧ ¬ F a ∧ Obj1 K F H a d
  | (d, .bw) => ∃ a, v = .ref a ∧ Obj1 K F H a d
  | (d, .sc) => ScOk K H v d
/-- the slots and the heap stand for env; F: what stays as it is -/
structure Ok (K : PySem.W.Frag) (F : Addr → Prop) (σ : L2.St) (H : Hp) (env : En) : Prop where
  len : env.length = σ.length
  dom : ∀ a, F a → H a ≠ none
  slot : ∀ (i : Nat) (r : RV), env[i]? = some (some r) → ∃ v, σ[i]? = some (some v) ∧ SlOk K F H v r
  sep : ∀ (i j : Nat) (d d' : D) (a : Addr), i ≠ j → env[i]? = some (some (d, .ow)) → env[j]? = some (some (d', .ow)) → σ[i]? = some (some (.ref a)) → σ[j]? = some (some (.ref a)) → False
/-- every list and tuple is short enough -/
def Sz (K : PySem.W.Frag) (H : Hp) : Prop := (∀ a xs, SqL K H a xs → xs.length ≤ sizeLine) ∧ (∀ a xs, SqT K H a xs → xs.length ≤ sizeLine) ∧ (∀ a kvs, H a = some (.dK kvs) → kvs.length ≤ sizeLine) ∧ ∀ a kvs, H a = some (.dT kvs) → kvs.length ≤ sizeLine
theorem szs_of {X : Cx} {pins : List (Addr × Obj)} {σ : L2.St} {H : Hp} {s : Shared} (I : Inv X pins σ H s) : Sz X.K H :=
  ⟨fun _ _ h => by obtain ⟨_, _, _, z⟩ := I.list h; exact z, fun _ _ h => by obtain ⟨_, _, _, z⟩ := I.tuple h; exact z,
   fun a kvs h => by obtain ⟨z, _⟩ := (I.hok a _ h : ObjOk _ _ H s.heap a (.dK kvs)); exact z, fun a kvs h => by obtain ⟨z, _⟩ := (I.hok a _ h : ObjOk _ _ H s.heap a (.dT kvs)); exact z⟩

section
variable {K : PySem.W.Frag} {F F' : Addr → Prop} {H H1 H' : Hp} {σ : L2.St} {env : En} {v : V} {a : Addr} {d : D} {r : RV}
theorem Obj1.imp {G G' : Addr → Prop} (h : Obj1 K G H a d) (hg : ∀ b, G b → G' b) : Obj1 K G' H a d := by
  cases d with
  | list ds => obtain ⟨vs, L, h1, h2, h3⟩ := h; exact ⟨vs, L, h1, h2, fun b hb => hg b (h3 b hb)⟩
  | dict ds =>
    rcases h with ⟨vs, L, h1, h2, h3, h4⟩ | ⟨vs, L, h1, h2, h3, h4⟩
    · exact .inl ⟨vs, L, h1, h2, h3, fun b hb => hg b (h4 b hb)⟩
    · exact .inr ⟨vs, L, h1, h2, h3, fun b hb => hg b (h4 b hb)⟩
  | _ => exact h
theorem Obj1.isn {G : Addr → Prop} (h : Obj1 K G H a d) : H a ≠ none := by
  cases d with
  | list ds => obtain ⟨vs, L, h1, h2, h3⟩ := h; rw [h1]; exact fun z => nomatch z
  | dict ds => rcases h with ⟨vs, L, h1, _⟩ | ⟨vs, L, h1, _⟩ <;> rw [h1] <;> exact fun z => nomatch z
  | _ => exact h.elim
theorem Obj1.keep {G : Addr → Prop} (h : Obj1 K G H a d) (t : ∀ b xs, SqT K H b xs → SqT K H' b xs) (ha : ∀ o, H a = some o → H' a = some o) (l : ∀ b, G b → ∀ o, H b = some o → H' b = some o) : Obj1 K G H' a d := by
  cases d with
  | list ds => obtain ⟨vs, L, h1, h2, h3⟩ := h; exact ⟨vs, L, ha _ h1, h2.keep t _ (fun b hb => l b (h3 b hb)), h3⟩
  | dict ds =>
    rcases h with ⟨vs, L, h1, h2, h3, h4⟩ | ⟨vs, L, h1, h2, h3, h4⟩
    · exact .inl ⟨vs, L, ha _ h1, h2, h3.keep t _ (fun b hb => l b (h4 b hb)), h4⟩
    · exact .inr ⟨vs, L, ha _ h1, h2, h3.keep t _ (fun b hb => l b (h4 b hb)), h4⟩
  | _ => exact h
theorem Obj1.mono {G : Addr → Prop} (h : Obj1 K G H a d) (e : Same H H') : Obj1 K G H' a d := h.keep (Same.sqt e) (fun o q => e _ o q) fun b _ o q => e b o q
/-- as a value that stands for d -/
theorem Obj1.rp {G : Addr → Prop} (h : Obj1 K G H a d) : ∃ L, Rp K H (.ref a) d L ∧ ∀ b ∈ L, G b ∨ b = a := by
  cases d with
  | list ds => obtain ⟨vs, L, h1, h2, h3⟩ := h; exact ⟨_, .lst h1 h2, fun b hb => (List.mem_cons.mp hb).elim .inr fun q => .inl (h3 b q)⟩
  | dict ds =>
    rcases h with ⟨vs, L, h1, h2, h3, h4⟩ | ⟨vs, L, h1, h2, h3, h4⟩
    · exact ⟨_, .dk h1 h2 h3, fun b hb => (List.mem_cons.mp hb).elim .inr fun q => .inl (h4 b q)⟩
    · exact ⟨_, .dt h1 h2 h3, fun b hb => (List.mem_cons.mp hb).elim .inr fun q => .inl (h4 b q)⟩
  | _ => exact h.elim
theorem ScOk.mono (h : ScOk K H v d) (e : Same H H') : ScOk K H' v d := by
  obtain ⟨a, ns, h1, h2, h3⟩ := h
  exact ⟨a, ns, h1, h2, h3.imp (fun ⟨o, q⟩ => ⟨o, e _ _ q⟩) id⟩
theorem rpa_ints : ∀ ns : List Int, RpA K H (ns.map V.int) (ns.map PyData.int) []
  | [] => .nil
  | n :: ns => .cons (.int n) (rpa_ints ns)
theorem SlOk.mono (h : SlOk K F H v r) (e : Same H H') : SlOk K F H' v r := by
  obtain ⟨d, fl⟩ := r
  cases fl with
  | fz => obtain ⟨L, h1, h2⟩ := h; exact ⟨L, h1.mono e, h2⟩
  | ow => obtain ⟨a, h1, h2, h3⟩ := h; exact ⟨a, h1, h2, h3.mono e⟩
  | bw => obtain ⟨a, h1, h3⟩ := h; exact ⟨a, h1, h3.mono e⟩
  | sc => exact ScOk.mono h e
theorem Same.dom (e : Same H H') (h : H a ≠ none) : H' a ≠ none := by
  cases q : H a with
  | none => exact absurd q h
  | some o => rw [e a o q]; exact fun z => nomatch z
theorem Ok.mono (h : Ok K F σ H env) (e : Same H H') : Ok K F σ H' env :=
  ⟨h.len, fun a q => Same.dom e (h.dom a q), fun i r q => let ⟨v, e1, s⟩ := h.slot i r q; ⟨v, e1, s.mono e⟩, h.sep⟩
/-- later -/
theorem Res.mono (h : Res K F H H1 v r) (e : Same H1 H') : Res K F H H' v r := by
  obtain ⟨d, fl⟩ := r
  cases fl with
  | fz => obtain ⟨L, h1, h2⟩ := h; exact ⟨L, h1.mono e, h2⟩
  | ow => obtain ⟨a, h1, h2, h3⟩ := h; exact ⟨a, h1, h2, h3.mono e⟩
  | bw => obtain ⟨a, h1, h3⟩ := h; exact ⟨a, h1, h3.mono e⟩
  | sc => exact ScOk.mono h e
/-- from an earlier heap on -/
theorem Res.back (h : Res K F H1 H' v r) (e : Same H H1) : Res K F H H' v r := by
  have g : ∀ b, F b ∨ H1 b = none → F b ∨ H b = none := fun b q => q.imp id e.free
  obtain ⟨d, fl⟩ := r
  cases fl with
  | fz => obtain ⟨L, h1, h2⟩ := h; exact ⟨L, h1, fun b hb => g b (h2 b hb)⟩
  | ow => obtain ⟨a, h1, h2, h3⟩ := h; exact ⟨a, h1, e.free h2, h3.imp fun b q => ⟨g b q.1, q.2⟩⟩
  | bw => obtain ⟨a, h1, h3⟩ := h; exact ⟨a, h1, h3.imp g⟩
  | sc => exact h
theorem Res.imp (h : Res K F H H' v r) (g : ∀ b, F b → F' b ∨ H b = none) : Res K F' H H' v r := by
  have g' : ∀ b, F b ∨ H b = none → F' b ∨ H b = none := fun b q => q.elim (g b) .inr
  obtain ⟨d, fl⟩ := r
  cases fl with
  | fz => obtain ⟨L, h1, h2⟩ := h; exact ⟨L, h1, fun b hb => g' b (h2 b hb)⟩
  | ow => obtain ⟨a, h1, h2, h3⟩ := h; exact ⟨a, h1, h2, h3.imp fun b q => ⟨g' b q.1, q.2⟩⟩
  | bw => obtain ⟨a, h1, h3⟩ := h; exact ⟨a, h1, h3.imp g'⟩
  | sc => exact h
/-- what it stands for, whatever its flag -/
theorem Res.rp {fl : Fl} (h : Res K F H H' v (d, fl)) (hs : fl ≠ .sc) : ∃ L, Rp K H' v d L := by
  cases fl with
  | fz => obtain ⟨L, h1, h2⟩ := h; exact ⟨L, h1⟩
  | ow => obtain ⟨a, h1, h2, h3⟩ := h; subst h1; obtain ⟨L, q, _⟩ := h3.rp; exact ⟨L, q⟩
  | bw => obtain ⟨a, h1, h3⟩ := h; subst h1; obtain ⟨L, q, _⟩ := h3.rp; exact ⟨L, q⟩
  | sc => exact absurd rfl hs
/-- not borrowed: frozen from here -/
theorem Res.frz {fl : Fl} (h : Res K F H H' v (d, fl)) (hf : fl ≠ .bw) (hs : fl ≠ .sc) : Res K F H H' v (d, .fz) := by
  cases fl with
  | fz => exact h
  | ow =>
    obtain ⟨a, h1, h2, h3⟩ := h
    subst h1
    obtain ⟨L, q, hl⟩ := h3.rp
    exact ⟨L, q, fun b hb => (hl b hb).elim (fun z => z.1) fun z => by subst z; exact .inr h2⟩
  | bw => exact absurd rfl hf
  | sc => exact absurd rfl hs
/-- a list, whatever its flag: what it holds is frozen -/
theorem Res.list {fl : Fl} {ds : List D} (h : Res K F H H' v (.list ds, fl)) : ∃ a vs L, v = .ref a ∧ SqL K H' a vs ∧ RpA K H' vs ds L ∧ ∀ b ∈ L, F b ∨ H b = none := by
  cases fl with
  | fz =>
    obtain ⟨L, h1, h2⟩ := h
    obtain ⟨a, vs, M, e, s, q, hm⟩ := h1.list
    exact ⟨a, vs, M, e, .inl (.inl s), q, fun b hb => h2 b (hm b hb)⟩
  | ow => obtain ⟨a, h1, h2, vs, L, e, q, hl⟩ := h; exact ⟨a, vs, L, h1, .inl (.inl e), q, fun b hb => (hl b hb).1⟩
  | bw => obtain ⟨a, h1, vs, L, e, q, hl⟩ := h; exact ⟨a, vs, L, h1, .inl (.inl e), q, hl⟩
  | sc =>
    obtain ⟨a, ns, h1, h2, h3⟩ := ScOk.get h
    cases h2
    exact ⟨a, _, [], h1, h3, rpa_ints ns, by simp⟩
/-- a tracked one -/
theorem Res.listT {fl : Fl} {ds : List D} (h : Res K F H H' v (.list ds, fl)) (hs : fl ≠ .sc) : ∃ a vs L, v = .ref a ∧ H' a = Option.some (.lst vs) ∧ RpA K H' vs ds L ∧ ∀ b ∈ L, F b ∨ H b = Option.none := by
  cases fl with
  | fz =>
    obtain ⟨L, h1, h2⟩ := h
    obtain ⟨a, vs, M, e, s, q, hm⟩ := h1.list
    exact ⟨a, vs, M, e, s, q, fun b hb => h2 b (hm b hb)⟩
  | ow => obtain ⟨a, h1, h2, vs, L, e, q, hl⟩ := h; exact ⟨a, vs, L, h1, e, q, fun b hb => (hl b hb).1⟩
  | bw => obtain ⟨a, h1, vs, L, e, q, hl⟩ := h; exact ⟨a, vs, L, h1, e, q, hl⟩
  | sc => exact absurd rfl hs
theorem Res.tuple {fl : Fl} {ds : List D} (h : Res K F H H' v (.tuple ds, fl)) : ∃ a vs L, v = .ref a ∧ SqT K H' a vs ∧ RpA K H' vs ds L ∧ ∀ b ∈ L, F b ∨ H b = none := by
  cases fl with
  | fz =>
    obtain ⟨L, h1, h2⟩ := h
    obtain ⟨a, vs, e, s, q⟩ := h1.tuple
    exact ⟨a, vs, L, e, s, q, h2⟩
  | ow => obtain ⟨a, h1, h2, h3⟩ := h; exact h3.elim
  | bw => obtain ⟨a, h1, h3⟩ := h; exact h3.elim
  | sc => obtain ⟨a, ns, h1, h2, h3⟩ := h; cases h2
theorem Res.scal {fl : Fl} (h : Res K F H H' v (d, fl)) (hd : ∀ ns : List Int, d ≠ .list (ns.map .int)) : ∃ L, Rp K H' v d L := by
  refine h.rp ?_
  rintro rfl
  obtain ⟨a, ns, h1, h2, h3⟩ := h
  exact hd ns h2
theorem Res.int {fl : Fl} {i : Int} (h : Res K F H H' v (.int i, fl)) : v = .int i := by obtain ⟨L, q⟩ := h.scal (fun _ z => nomatch z); cases q; rfl
theorem Res.bool {fl : Fl} {i : Bool} (h : Res K F H H' v (.bool i, fl)) : v = .bl i := by obtain ⟨L, q⟩ := h.scal (fun _ z => nomatch z); cases q; rfl
theorem Res.str {fl : Fl} {i : Str} (h : Res K F H H' v (.str i, fl)) : v = .str i := by obtain ⟨L, q⟩ := h.scal (fun _ z => nomatch z); cases q; rfl
theorem Res.non1 {fl : Fl} (h : Res K F H H' v (.none, fl)) : v = .non := by obtain ⟨L, q⟩ := h.scal (fun _ z => nomatch z); cases q; rfl
theorem Res.ofInt {i : Int} : Res K F H H' (.int i) (.int i, .fz) := ⟨[], .int i, by simp⟩
theorem Res.ofBool {i : Bool} : Res K F H H' (.bl i) (.bool i, .fz) := ⟨[], .bl i, by simp⟩
theorem Res.ofStr {i : Str} : Res K F H H' (.str i) (.str i, .fz) := ⟨[], .str i, by simp⟩
theorem Res.ofNone : Res K F H H' .non (.none, .fz) := ⟨[], .non, by simp⟩
/-- a new list -/
theorem Res.newList {p : Addr} {vs : List V} {ds : List D} {L : List Addr} (n : H1 p = none) (e : Same H H1) (r : RpA K H1 vs ds L) (hl : ∀ b ∈ L, F b ∨ H b = none) : Res K F H (upd H1 p (.lst vs)) (.ref p) (.list ds, .ow) := by
  have s : Same H1 (upd H1 p (.lst vs)) := fun b o q => by rw [upd_ne (ne_of_none q n)]; exact q
  refine ⟨p, rfl, e.free n, vs, L, upd_same, r.mono s, fun b hb => ⟨hl b hb, ?_⟩⟩
  rintro rfl
  have hb2 : ∀ {vs : List V} {ds : List D} {L : List Addr}, RpA K H1 vs ds L → ∀ b ∈ L, H1 b ≠ none := by
    intro vs
    induction vs with
    | nil => intro ds L r b hb; cases r; simp at hb
    | cons v vs ih =>
      intro ds L r b hb
      cases r with
      | cons r1 r2 => exact (List.mem_append.mp hb).elim (r1.addr b) (ih r2 b)
  exact hb2 r b hb n
theorem Res.newTup {p : Addr} {vs : List V} {ds : List D} {L : List Addr} (n : H1 p = none) (r : RpA K H1 vs ds L) (hl : ∀ b ∈ L, F b ∨ H b = none) : Res K F H (upd H1 p (.tup vs)) (.ref p) (.tuple ds, .fz) := by
  have s : Same H1 (upd H1 p (.tup vs)) := fun b o q => by rw [upd_ne (ne_of_none q n)]; exact q
  exact ⟨L, .tup (.inl (.inl upd_same)) (r.mono s), hl⟩
theorem same_new {p : Addr} {o : HO} (n : H p = Option.none) : Same H (upd H p o) := fun b u q => by rw [upd_ne (ne_of_none q n)]; exact q
end

/-! ### readings -/
/-- the reading of an expression that evaluates as g says -/
def TE' (K : PySem.W.Frag) (g : GE) : TE := fun σ H Q => ∃ F env r, Ok K F σ H env ∧ g env = some r ∧ ∀ v H', Same H H' → Sz K H' → Res K F H H' v r → Q v H'
def TB' (K : PySem.W.Frag) (g : GB) : TT := fun σ H Q => ∃ F env r, Ok K F σ H env ∧ g env = some r ∧ ∀ H', Same H H' → Sz K H' → Q r H'
/-- e evaluates as g says -/
def VE (X : Cx) (e : Expr) (g : GE) : Prop := PE X e (TE' X.K g)
def VB (X : Cx) (e : Expr) (g : GB) : Prop := PT X e (TB' X.K g)
def VW (X : Cx) (e : Expr) (g : GB) : Prop := PW X e (TB' X.K g)
section
variable {X : Cx} {e : Expr}
theorem PE.to {t t' : TE} (h : PE X e t) (i : ∀ σ H Q, t' σ H Q → t σ H (fun v H' => Sz X.K H' → Q v H')) : PE X e t' :=
  ⟨fun pins s σ H Q I w => thn (h.run pins s σ H _ I (i σ H Q w)) fun u s' ⟨v, H', I', r, q⟩ => ⟨v, H', I', r, q (szs_of I')⟩⟩
theorem PT.to {t t' : TT} (h : PT X e t) (i : ∀ σ H Q, t' σ H Q → t σ H (fun v H' => Sz X.K H' → Q v H')) : PT X e t' :=
  ⟨fun pins s σ H Q I w => thn (h.run pins s σ H _ I (i σ H Q w)) fun u s' ⟨H', I', q⟩ => ⟨H', I', q (szs_of I')⟩⟩
theorem PW.to {t t' : TT} (h : PW X e t) (i : ∀ σ H Q, t' σ H Q → t σ H (fun v H' => Sz X.K H' → Q v H')) : PW X e t' :=
  ⟨fun wh pins s σ H Q I w => thn (h.run wh pins s σ H _ I (i σ H Q w)) fun u s' ⟨H', I', q⟩ => ⟨H', I', q (szs_of I')⟩⟩
end
end Pl

set_option Elab.async false
set_option linter.all false
set_option maxRecDepth 100000
set_option maxHeartbeats 4000000
/-! Pl2: expressions -/
namespace Pl
open PySem PySem.Spec PyProof.Rows L2

/-! data that == and < may meet -/
mutual
def okD : Nat → D → Bool
  | _, .none => true
  | _, .bool _ => true
  | _, .int _ => true
  | _, .str x => PyData.strOk x
  | 0, .list _ => false
  | 0, .tuple _ => false
  | n + 1, .list ds => okA n ds
  | n + 1, .tuple ds => okA n ds
  | _, .dict _ => false
def okA : Nat → List D → Bool
  | _, [] => true
  | n, d :: ds => okD n d && okA n ds
end
mutual
theorem okD_of : ∀ (n : Nat) (d : D), okD n d = true → noDict d = true ∧ d.canLay0 = true ∧ d.depth ≤ n
  | _, .none, _ => ⟨by simp [noDict], by simp [PyData.canLay0], by simp [PyData.depth]⟩
  | _, .bool _, _ => ⟨by simp [noDict], by simp [PyData.canLay0], by simp [PyData.depth]⟩
  | _, .int _, _ => ⟨by simp [noDict], by simp [PyData.canLay0], by simp [PyData.depth]⟩
  | _, .str x, h => ⟨by simp [noDict], by simpa [PyData.canLay0, okD] using h, by simp [PyData.depth]⟩
  | 0, .list _, h => by simp [okD] at h
  | 0, .tuple _, h => by simp [okD] at h
  | n + 1, .list ds, h => by
    obtain ⟨h1, h2, h3⟩ := okA_of n ds (by simpa [okD] using h)
    exact ⟨by simpa [noDict] using h1, by simpa [PyData.canLay0] using h2, by simp [PyData.depth]; omega⟩
  | n + 1, .tuple ds, h => by
    obtain ⟨h1, h2, h3⟩ := okA_of n ds (by simpa [okD] using h)
    exact ⟨by simpa [noDict] using h1, by simpa [PyData.canLay0] using h2, by simp [PyData.depth]; omega⟩
  | n, .dict _, h => by simp [okD] at h
theorem okA_of : ∀ (n : Nat) (ds : List D), okA n ds = true → noDictA ds = true ∧ PyData.canLayAll0 ds = true ∧ PyData.depthAll ds ≤ n
  | _, [], _ => ⟨by simp [noDictA], by simp [PyData.canLayAll0], by simp [PyData.depthAll]⟩
  | n, d :: ds, h => by
    rw [okA, Bool.and_eq_true] at h
    obtain ⟨h1, h2, h3⟩ := okD_of n d h.1
    obtain ⟨k1, k2, k3⟩ := okA_of n ds h.2
    exact ⟨by simp [noDictA, h1, k1], by simp [PyData.canLayAll0, h2, k2], by simp [PyData.depthAll]; omega⟩
end
theorem okA_all (n : Nat) : ∀ ds : List D, okA n ds = ds.all (okD n)
  | [] => rfl
  | d :: ds => by rw [okA, okA_all n ds]; rfl
theorem okD_shaped {n : Nat} {d : D} (h : okD n d = true) (hn : n ≤ 60) : SeqAt.shaped d = true := by
  obtain ⟨_, h2, h3⟩ := okD_of n d h
  unfold SeqAt.shaped
  rw [h2, decide_eq_true (by omega : d.depth ≤ 64)]
  rfl

/-! ### operators by values -/
section
variable {X : Cx}
/-- f on values does what g says of data -/
def OpF (X : Cx) (f : Value → Value → Sem Value) (g : RV → RV → Option RV) : Prop :=
  ∃ r : R2, OpR X f r ∧ ∀ (F : Addr → Prop) (H0 H : Hp) (x y : V) (a b c : RV) (Q : VK), Res X.K F H0 H x a → Res X.K F H0 H y b → Sz X.K H → Same H0 H → g a b = some c →
    (∀ v H', Same H H' → Res X.K F H0 H' v c → Q v H') → r x y H Q
theorem OpF.or {f : Value → Value → Sem Value} {g g' : RV → RV → Option RV} (h : OpF X f g) (h' : OpF X f g') : OpF X f (fun a b => (g a b).or (g' a b)) := by
  obtain ⟨r, h1, h2⟩ := h
  obtain ⟨r', k1, k2⟩ := h'
  refine ⟨_, h1.or k1, fun F H0 H x y a b c Q ra rb sz sm e q => ?_⟩
  cases e1 : g a b with
  | some c' =>
    have : c' = c := by
      have e : (g a b).or (g' a b) = some c := e
      rw [e1] at e; exact Option.some.inj e
    subst this
    exact .inl (h2 F H0 H x y a b c' Q ra rb sz sm e1 q)
  | none =>
    have e : (g a b).or (g' a b) = some c := e
    rw [e1] at e
    exact .inr (k2 F H0 H x y a b c Q ra rb sz sm e q)
theorem OpF.congr {f : Value → Value → Sem Value} {g g' : RV → RV → Option RV} (h : OpF X f g) (e : ∀ a b, g' a b = g a b) : OpF X f g' := by
  have : g' = g := by funext a b; exact e a b
  rw [this]; exact h

def intsG (C : Int → Int → Bool) (k : Int → Int → D) : RV → RV → Option RV
  | (.int i, _), (.int j, _) => if C i j then some (k i j, .fz) else none
  | _, _ => none
theorem opF_ints {f : Value → Value → Sem Value} {C : Int → Int → Prop} {B : Int → Int → Bool} {k : Int → Int → V} {kd : Int → Int → D} (h : OpR X f (rI C k)) (hb : ∀ i j, B i j = true → C i j)
    (hk : ∀ K F H H' i j, Res K F H H' (k i j) (kd i j, .fz)) : OpF X f (intsG B kd) := by
  refine ⟨_, h, fun F H0 H x y a b c Q ra rb sz sm e q => ?_⟩
  obtain ⟨d1, f1⟩ := a
  obtain ⟨d2, f2⟩ := b
  cases d1 <;> try (cases (show (none : Option RV) = some c from e))
  cases d2 <;> try (cases (show (none : Option RV) = some c from e))
  rename_i i j
  have e' : (if B i j then some (kd i j, Fl.fz) else none) = some c := e
  split at e'
  · rename_i hc
    cases e'
    exact ⟨i, j, ra.int, rb.int, hb i j hc, q _ H (Same.refl H) (hk _ _ _ _ i j)⟩
  · cases e'
theorem opF_ints0 {f : Value → Value → Sem Value} {k : Int → Int → V} {kd : Int → Int → D} (h : OpR X f (rI0 k)) (hk : ∀ K F H H' i j, Res K F H H' (k i j) (kd i j, .fz)) : OpF X f (intsG (fun _ _ => true) kd) :=
  opF_ints (C := fun _ _ => True) (fun pins s σ H x y v u Q I rx ry ⟨i, j, e1, e2, _, q⟩ => h pins s σ H x y v u Q I rx ry ⟨i, j, e1, e2, q⟩) (fun _ _ _ => trivial) hk
theorem resI {K F H H'} {f : Int → Int → Int} (i j : Int) : Res K F H H' (V.int (f i j)) (.int (f i j), .fz) := Res.ofInt

/-! addition -/
def tupsG : RV → RV → Option RV
  | (.tuple a, _), (.tuple b, _) => if a.length + b.length ≤ 16777216 then some (.tuple (a ++ b), .fz) else none
  | _, _ => none
theorem opF_tups : OpF X (binaryOp .Add) tupsG := by
  refine ⟨_, op_catA, fun F H0 H x y a b c Q ra rb sz sm e q => ?_⟩
  obtain ⟨d1, f1⟩ := a
  obtain ⟨d2, f2⟩ := b
  cases d1 <;> try (cases (show (none : Option RV) = some c from e))
  cases d2 <;> try (cases (show (none : Option RV) = some c from e))
  rename_i xs ys
  have e' : (if xs.length + ys.length ≤ 16777216 then some (PyData.tuple (xs ++ ys), Fl.fz) else none) = some c := e
  split at e'
  · rename_i hc
    cases e'
    obtain ⟨p1, vs, L, rfl, s1, r1, l1⟩ := ra.tuple
    obtain ⟨p2, ws, M, rfl, s2, r2, l2⟩ := rb.tuple
    have hl := r1.length
    have hl2 := r2.length
    have fin : ∀ p, H p = none → Q (.ref p) (upd H p (.tup (vs ++ ws))) := fun p n =>
      q _ _ (same_new n) (Res.newTup n (r1.append r2) fun b hb => (List.mem_append.mp hb).elim (l1 b) (l2 b))
    refine ⟨p1, p2, vs, ws, rfl, rfl, s1, s2, by rw [sizeLine_eq]; omega, ?_⟩
    refine ⟨fun z => ?_, fun _ z => ?_, fun _ _ => fin⟩
    · subst z
      cases r1
      exact q _ H (Same.refl H) ⟨M, .tup s2 (by simpa using r2), l2⟩
    · subst z
      cases r2
      exact q _ H (Same.refl H) ⟨L, .tup s1 (by simpa using r1), l1⟩
  · cases e'
def isSc : Fl → Bool
  | .sc => true
  | _ => false
theorem not_sc {f : Fl} (h : isSc f = false) : f ≠ .sc := by rintro rfl; cases h
def listsG : RV → RV → Option RV
  | (.list a, f), (.list b, f') => if isSc f = false ∧ isSc f' = false ∧ a.length + b.length ≤ 16777216 then some (.list (a ++ b), .ow) else none
  | _, _ => none
theorem opF_lists : OpF X (binaryOp .Add) listsG := by
  refine ⟨_, op_cat, fun F H0 H x y a b c Q ra rb sz sm e q => ?_⟩
  obtain ⟨d1, f1⟩ := a
  obtain ⟨d2, f2⟩ := b
  cases d1 <;> try (cases (show (none : Option RV) = some c from e))
  cases d2 <;> try (cases (show (none : Option RV) = some c from e))
  rename_i xs ys
  have e' : (if isSc f1 = false ∧ isSc f2 = false ∧ xs.length + ys.length ≤ 16777216 then some (PyData.list (xs ++ ys), Fl.ow) else none) = some c := e
  split at e'
  · rename_i hc
    cases e'
    obtain ⟨p1, vs, L, rfl, s1, r1, l1⟩ := ra.listT (not_sc hc.1)
    obtain ⟨p2, ws, M, rfl, s2, r2, l2⟩ := rb.listT (not_sc hc.2.1)
    have hl := r1.length
    have hl2 := r2.length
    refine ⟨p1, p2, vs, ws, rfl, rfl, s1, s2, by rw [sizeLine_eq]; omega, fun p n => q _ _ (same_new n) ?_⟩
    exact Res.newList n sm (r1.append r2) fun b hb => (List.mem_append.mp hb).elim (l1 b) (l2 b)
  · cases e'
def strsG : RV → RV → Option RV
  | (.str a, _), (.str b, _) => if a.length + b.length ≤ 16777216 then some (.str (a ++ b), .fz) else none
  | _, _ => none
theorem opF_strs : OpF X (binaryOp .Add) strsG := by
  refine ⟨_, op_add_str, fun F H0 H x y a b c Q ra rb sz sm e q => ?_⟩
  obtain ⟨d1, f1⟩ := a
  obtain ⟨d2, f2⟩ := b
  cases d1 <;> try (cases (show (none : Option RV) = some c from e))
  cases d2 <;> try (cases (show (none : Option RV) = some c from e))
  rename_i xs ys
  have e' : (if xs.length + ys.length ≤ 16777216 then some (PyData.str (xs ++ ys), Fl.fz) else none) = some c := e
  split at e'
  · rename_i hc
    cases e'
    exact ⟨xs, ys, ra.str, rb.str, by rw [sizeLine_eq]; omega, q _ H (Same.refl H) Res.ofStr⟩
  · cases e'
/-- x + y -/
def addG : RV → RV → Option RV
  | (.int i, _), (.int j, _) => some (.int (i + j), .fz)
  | (.tuple a, _), (.tuple b, _) => if a.length + b.length ≤ 16777216 then some (.tuple (a ++ b), .fz) else none
  | (.str a, _), (.str b, _) => if a.length + b.length ≤ 16777216 then some (.str (a ++ b), .fz) else none
  | (.list a, f), (.list b, f') => if isSc f = false ∧ isSc f' = false ∧ a.length + b.length ≤ 16777216 then some (.list (a ++ b), .ow) else none
  | _, _ => none
theorem opF_add : OpF X (binaryOp .Add) addG := by
  refine ((((opF_ints0 op_add fun _ _ _ _ => resI (f := fun i j => i + j)).or opF_tups).or opF_strs).or opF_lists).congr fun a b => ?_
  obtain ⟨d1, f1⟩ := a
  obtain ⟨d2, f2⟩ := b
  cases d1 <;> cases d2 <;> simp [addG, intsG, tupsG, strsG, listsG]
/-- x - y -/
def subG : RV → RV → Option RV
  | (.int i, _), (.int j, _) => some (.int (i - j), .fz)
  | _, _ => none
theorem opF_sub : OpF X (binaryOp .Sub) subG := by
  refine (opF_ints0 op_sub fun _ _ _ _ => resI (f := fun i j => i - j)).congr fun a b => ?_
  obtain ⟨d1, f1⟩ := a
  obtain ⟨d2, f2⟩ := b
  cases d1 <;> cases d2 <;> simp [subG, intsG]
/-! products -/
def mulC (i j : Int) : Bool := (decide (-(2 ^ 64) < i) && decide (i < 2 ^ 64)) || (decide (-(2 ^ 64) < j) && decide (j < 2 ^ 64)) || decide (i.natAbs.log2 + j.natAbs.log2 < 1000000)
def repG : RV → RV → Option RV
  | (.list a, f), (.int k, _) => if isSc f = false ∧ -(2 ^ 62) ≤ k ∧ a.length * k.toNat ≤ 16777216 ∧ k < 2 ^ 62 then some (.list (List.replicate k.toNat a).flatten, .ow) else none
  | _, _ => none
theorem RpA.rep {K : PySem.W.Frag} {H : Hp} {vs : List V} {ds : List D} {L : List Addr} (h : RpA K H vs ds L) : ∀ k : Nat, ∃ M, RpA K H (List.replicate k vs).flatten (List.replicate k ds).flatten M ∧ ∀ b ∈ M, b ∈ L
  | 0 => ⟨[], by simpa using RpA.nil, by simp⟩
  | k + 1 => by
    obtain ⟨M, r, hm⟩ := RpA.rep h k
    exact ⟨L ++ M, by simpa [List.replicate_succ] using h.append r, fun b hb => (List.mem_append.mp hb).elim id (hm b)⟩
theorem opF_rep : OpF X (binaryOp .Mult) repG := by
  refine ⟨_, op_rep, fun F H0 H x y a b c Q ra rb sz sm e q => ?_⟩
  obtain ⟨d1, f1⟩ := a
  obtain ⟨d2, f2⟩ := b
  cases d1 <;> try (cases (show (none : Option RV) = some c from e))
  cases d2 <;> try (cases (show (none : Option RV) = some c from e))
  rename_i xs k
  have e' : (if isSc f1 = false ∧ -(2 ^ 62) ≤ k ∧ xs.length * k.toNat ≤ 16777216 ∧ k < 2 ^ 62 then some (PyData.list (List.replicate k.toNat xs).flatten, Fl.ow) else none) = some c := e
  split at e'
  · rename_i hc
    cases e'
    obtain ⟨p1, vs, L, rfl, s1, r1, l1⟩ := ra.listT (not_sc hc.1)
    have hl := r1.length
    obtain ⟨M, r2, hm⟩ := r1.rep k.toNat
    refine ⟨p1, k, vs, rfl, rb.int, s1, by omega, by omega, by rw [sizeLine_eq, hl]; omega, fun p n => q _ _ (same_new n) ?_⟩
    exact Res.newList n sm r2 fun b hb => l1 b (hm b hb)
  · cases e'
def repTG : RV → RV → Option RV
  | (.tuple a, _), (.int k, _) => if a ≠ [] ∧ 2 ≤ k ∧ a.length ≤ 1000 ∧ k ≤ 1000 then some (.tuple (List.replicate k.toNat a).flatten, .fz) else none
  | _, _ => none
theorem opF_repT : OpF X (binaryOp .Mult) repTG := by
  refine ⟨_, op_repT, fun F H0 H x y a b c Q ra rb sz sm e q => ?_⟩
  obtain ⟨d1, f1⟩ := a
  obtain ⟨d2, f2⟩ := b
  cases d1 <;> try (cases (show (none : Option RV) = some c from e))
  cases d2 <;> try (cases (show (none : Option RV) = some c from e))
  rename_i xs k
  have e' : (if xs ≠ [] ∧ 2 ≤ k ∧ xs.length ≤ 1000 ∧ k ≤ 1000 then some (PyData.tuple (List.replicate k.toNat xs).flatten, Fl.fz) else none) = some c := e
  split at e'
  · rename_i hc
    cases e'
    obtain ⟨p1, vs, L, rfl, s1, r1, l1⟩ := ra.tuple
    have hl := r1.length
    obtain ⟨M, r2, hm⟩ := r1.rep k.toNat
    refine ⟨p1, k, vs, rfl, rb.int, s1, fun z => ?_, hc.2.1, hc.2.2.2, by rw [hl]; exact hc.2.2.1, fun p n => q _ _ (same_new n) ?_⟩
    · subst z; cases r1; exact hc.1 rfl
    · exact Res.newTup n r2 fun b hb => l1 b (hm b hb)
  · cases e'
/-- x * y -/
def mulG : RV → RV → Option RV
  | (.int i, _), (.int j, _) => if mulC i j then some (.int (i * j), .fz) else none
  | (.list a, f), (.int k, _) => if isSc f = false ∧ -(2 ^ 62) ≤ k ∧ a.length * k.toNat ≤ 16777216 ∧ k < 2 ^ 62 then some (.list (List.replicate k.toNat a).flatten, .ow) else none
  | (.tuple a, _), (.int k, _) => if a ≠ [] ∧ 2 ≤ k ∧ a.length ≤ 1000 ∧ k ≤ 1000 then some (.tuple (List.replicate k.toNat a).flatten, .fz) else none
  | _, _ => none
theorem op_mulA : OpR X (binaryOp .Mult) (rI (fun i j => CMul i j ∨ CMulW i j) fun i j => .int (i * j)) := opI fun _ _ _ _ _ _ _ hc q => mul_int q (hc.elim CMul.ok CMulW.ok)
theorem opF_mul : OpF X (binaryOp .Mult) mulG := by
  refine (((opF_ints (B := mulC) op_mulA (fun i j h => ?_) fun _ _ _ _ => resI (f := fun i j => i * j)).or opF_rep).or opF_repT).congr fun a b => ?_
  · unfold mulC at h
    simp only [Bool.or_eq_true, Bool.and_eq_true, decide_eq_true_eq] at h
    rcases h with (h | h) | h
    · exact .inl (.inl h)
    · exact .inl (.inr h)
    · exact .inr h
  · obtain ⟨d1, f1⟩ := a
    obtain ⟨d2, f2⟩ := b
    cases d1 <;> cases d2 <;> simp [mulG, intsG, repG, repTG]
/-! floors and rests -/
def divC (_ j : Int) : Bool := (decide (j ≠ 0) && decide (j.natAbs < 1073741824)) || (decide (0 < j) && decide (j.natAbs.log2 < 9000))
def divG : RV → RV → Option RV
  | (.int i, _), (.int j, _) => if divC i j then some (.int (i.fdiv j), .fz) else none
  | _, _ => none
theorem op_fdivA : OpR X (binaryOp .FloorDiv) (rI (fun i j => CDivN i j ∨ CDivW i j) fun i j => .int (i.fdiv j)) := opI fun _ _ _ _ _ _ _ hc q => by
  rcases hc with hc | hc
  · exact floordiv_int hc.1 q (.inl (PyProof.noPylong_small hc.2))
  · exact floordiv_int (by have := hc.1; omega) q (.inl (PyProof.noPylong_of_log2 hc.2))
theorem opF_div : OpF X (binaryOp .FloorDiv) divG := by
  refine (opF_ints (B := divC) op_fdivA (fun i j h => ?_) fun _ _ _ _ => resI (f := fun i j => i.fdiv j)).congr fun a b => ?_
  · unfold divC at h
    simp only [Bool.or_eq_true, Bool.and_eq_true, decide_eq_true_eq] at h
    exact h.imp id id
  · obtain ⟨d1, f1⟩ := a
    obtain ⟨d2, f2⟩ := b
    cases d1 <;> cases d2 <;> simp [divG, intsG]
def modG : RV → RV → Option RV
  | (.int i, _), (.int j, _) => if j ≠ 0 then some (.int (i.fmod j), .fz) else none
  | _, _ => none
theorem opF_mod : OpF X (binaryOp .Mod) modG := by
  refine (opF_ints (B := fun _ j => decide (j ≠ 0)) op_modN (fun i j h => of_decide_eq_true h) fun _ _ _ _ => resI (f := fun i j => i.fmod j)).congr fun a b => ?_
  obtain ⟨d1, f1⟩ := a
  obtain ⟨d2, f2⟩ := b
  cases d1 <;> cases d2 <;> simp [modG, intsG]
def powC (i j : Int) : Bool := decide (0 ≤ j) && decide (j ≤ 1000000) && decide (i.natAbs < 2 ^ 64)
def powG : RV → RV → Option RV
  | (.int i, _), (.int j, _) => if powC i j then some (.int (i ^ j.toNat), .fz) else none
  | _, _ => none
theorem opF_pow : OpF X (binaryOp .Pow) powG := by
  refine (opF_ints (B := powC) op_pow (fun i j h => ?_) fun _ _ _ _ => resI (f := fun i j => i ^ j.toNat)).congr fun a b => ?_
  · unfold powC at h
    simp only [Bool.and_eq_true, decide_eq_true_eq] at h
    exact ⟨h.1.1, h.1.2, h.2⟩
  · obtain ⟨d1, f1⟩ := a
    obtain ⟨d2, f2⟩ := b
    cases d1 <;> cases d2 <;> simp [powG, intsG]
def shlG : RV → RV → Option RV
  | (.int i, _), (.int j, _) => if powC i j then some (.int (i * 2 ^ j.toNat), .fz) else none
  | _, _ => none
theorem opF_shl : OpF X (binaryOp .LShift) shlG := by
  refine (opF_ints (B := powC) op_shl (fun i j h => ?_) fun _ _ _ _ => resI (f := fun i j => i * 2 ^ j.toNat)).congr fun a b => ?_
  · unfold powC at h
    simp only [Bool.and_eq_true, decide_eq_true_eq] at h
    exact ⟨h.1.1, h.1.2, h.2⟩
  · obtain ⟨d1, f1⟩ := a
    obtain ⟨d2, f2⟩ := b
    cases d1 <;> cases d2 <;> simp [shlG, intsG]

/-! ### comparisons -/
theorem dp_of {K F H0 H v d fl n} (r : Res K F H0 H v (d, fl)) (h : okD n d = true) : Dp K H v d := by
  by_cases hs : fl = .sc
  · subst hs
    obtain ⟨a, ns, rfl, rfl, q⟩ := ScOk.get r
    exact .lst q ((rpa_ints (H := H) (K := K) ns).dp (ds := ns.map PyData.int) (by
      have := okD_of n _ h
      simpa [noDict] using this.1))
  · obtain ⟨L, q⟩ := r.rp hs
    exact q.dp d (okD_of n d h).1
/-- x == y -/
def eqG : RV → RV → Option RV
  | (d, _), (e, _) => if okD 9 d && okD 9 e then some (.bool (PyData.eqv d e), .fz) else none
def neG : RV → RV → Option RV
  | (d, _), (e, _) => if okD 9 d && okD 9 e then some (.bool (!PyData.eqv d e), .fz) else none
theorem opF_eq (hu : X.A.units + 64 < cLine) : OpF X (compareOp .Eq) eqG := by
  refine ⟨rEqD X.K, fun pins s σ H x y v u Q I rx ry h => ?_, fun F H0 H x y a b c Q ra rb sz sm e q => ?_⟩
  · obtain ⟨d, e, hd, he, sd, se, q⟩ := h
    obtain ⟨as, r1⟩ := Dp.reads I d x v hd rx
    obtain ⟨bs, r2⟩ := Dp.reads I e y u he ry
    exact eq_dataH r1 r2 sd se hu ⟨.bl _, H, I, rfl, q⟩
  · obtain ⟨d, f1⟩ := a
    obtain ⟨e1, f2⟩ := b
    have e' : (if okD 9 d && okD 9 e1 then some (PyData.bool (PyData.eqv d e1), Fl.fz) else none) = some c := e
    split at e'
    · rename_i hc
      rw [Bool.and_eq_true] at hc
      cases e'
      exact ⟨d, e1, dp_of ra hc.1, dp_of rb hc.2, okD_shaped hc.1 (by decide), okD_shaped hc.2 (by decide), q _ H (Same.refl H) Res.ofBool⟩
    · cases e'
theorem opF_ne (hu : X.A.units + 64 < cLine) : OpF X (compareOp .NotEq) neG := by
  refine ⟨rNeD X.K, fun pins s σ H x y v u Q I rx ry h => ?_, fun F H0 H x y a b c Q ra rb sz sm e q => ?_⟩
  · obtain ⟨d, e, hd, he, sd, se, q⟩ := h
    obtain ⟨as, r1⟩ := Dp.reads I d x v hd rx
    obtain ⟨bs, r2⟩ := Dp.reads I e y u he ry
    exact ne_dataH r1 r2 sd se hu ⟨.bl _, H, I, rfl, q⟩
  · obtain ⟨d, f1⟩ := a
    obtain ⟨e1, f2⟩ := b
    have e' : (if okD 9 d && okD 9 e1 then some (PyData.bool (!PyData.eqv d e1), Fl.fz) else none) = some c := e
    split at e'
    · rename_i hc
      rw [Bool.and_eq_true] at hc
      cases e'
      exact ⟨d, e1, dp_of ra hc.1, dp_of rb hc.2, okD_shaped hc.1 (by decide), okD_shaped hc.2 (by decide), q _ H (Same.refl H) Res.ofBool⟩
    · cases e'
def isNone : D → Bool
  | .none => true
  | _ => false
/-- x < y -/
def ltG : RV → RV → Option RV
  | (d, _), (e, _) => if okD 9 d && okD 9 e && PySem.W.alike d e && !isNone d then some (.bool (PySem.W.dataLt d e), .fz) else none
def rLtD (K : PySem.W.Frag) : R2 := fun x y H Q => ∃ d e, Dp K H x d ∧ Dp K H y e ∧ d.depth ≤ 60 ∧ PySem.W.alike d e = true ∧ d ≠ .none ∧ Q (.bl (PySem.W.dataLt d e)) H
theorem opF_lt (hu : X.A.units + 64 < cLine) : OpF X (compareOp .Lt) ltG := by
  refine ⟨rLtD X.K, fun pins s σ H x y v u Q I rx ry h => ?_, fun F H0 H x y a b c Q ra rb sz sm e q => ?_⟩
  · obtain ⟨d, e, hd, he, sd, al, nn, q⟩ := h
    obtain ⟨as, r1⟩ := Dp.reads I d x v hd rx
    obtain ⟨bs, r2⟩ := Dp.reads I e y u he ry
    have hm : min d.depth e.depth ≤ d.depth := Nat.min_le_left _ _
    exact PySem.W.rcLt_alike d e X.A s v u as bs r1 r2 al nn (by omega) X.prog X.w X.xe _ ⟨.bl _, H, I, rfl, q⟩
  · obtain ⟨d, f1⟩ := a
    obtain ⟨e1, f2⟩ := b
    have e' : (if okD 9 d && okD 9 e1 && PySem.W.alike d e1 && !isNone d then some (PyData.bool (PySem.W.dataLt d e1), Fl.fz) else none) = some c := e
    split at e'
    · rename_i hc
      simp only [Bool.and_eq_true] at hc
      cases e'
      refine ⟨d, e1, dp_of ra hc.1.1.1, dp_of rb hc.1.1.2, by have := (okD_of 9 d hc.1.1.1).2.2; omega, hc.1.2, ?_, q _ H (Same.refl H) Res.ofBool⟩
      rintro rfl
      exact absurd hc.2 (by simp [isNone])
    · cases e'
def cmpG (p : Int → Int → Bool) : RV → RV → Option RV
  | (.int i, _), (.int j, _) => some (.bool (p i j), .fz)
  | _, _ => none
theorem cmpG_eq (p : Int → Int → Bool) (a b : RV) : cmpG p a b = intsG (fun _ _ => true) (fun i j => .bool (p i j)) a b := by
  obtain ⟨d1, f1⟩ := a
  obtain ⟨d2, f2⟩ := b
  cases d1 <;> cases d2 <;> simp [cmpG, intsG]
theorem opF_le : OpF X (compareOp .LtE) (cmpG fun i j => decide (i ≤ j)) := (opF_ints0 op_le fun _ _ _ _ _ _ => Res.ofBool).congr (cmpG_eq _)
theorem opF_gt : OpF X (compareOp .Gt) (cmpG fun i j => decide (j < i)) := (opF_ints0 op_gt fun _ _ _ _ _ _ => Res.ofBool).congr (cmpG_eq _)
theorem opF_ge : OpF X (compareOp .GtE) (cmpG fun i j => decide (j ≤ i)) := (opF_ints0 op_ge fun _ _ _ _ _ _ => Res.ofBool).congr (cmpG_eq _)
/-- < of ints, without more ado -/
theorem opF_ltI : OpF X (compareOp .Lt) (cmpG fun i j => decide (i < j)) := (opF_ints0 op_lt fun _ _ _ _ _ _ => Res.ofBool).congr (cmpG_eq _)
/-! in -/
def inG (neg : Bool) : RV → RV → Option RV
  | (d, _), (.list ds, _) => if okD 9 d && okA 9 ds then some (.bool (neg != ds.any fun z => PyData.eqv z d), .fz) else none
  | (d, _), (.tuple ds, _) => if okD 9 d && okA 9 ds then some (.bool (neg != ds.any fun z => PyData.eqv z d), .fz) else none
  | _, _ => none
def rInD2 (K : PySem.W.Frag) (neg : Bool) : R2 := fun x y H Q => ∃ d ds, Dp K H x d ∧ (Dp K H y (.list ds) ∨ Dp K H y (.tuple ds)) ∧ d.canLay0 = true ∧ PyData.canLayAll0 ds = true ∧ d.depth ≤ 60 ∧ Q (.bl (neg != ds.any fun z => PyData.eqv z d)) H
theorem op_inD2 (hu : X.A.units + 64 < cLine) : OpR X (compareOp .In) (rInD2 X.K false) := by
  intro pins s σ H x y v u Q I rx ry h
  obtain ⟨d, ds, hd, he, sd, se, hz, q⟩ := h
  obtain ⟨as, r1⟩ := Dp.reads I d x v hd rx
  have hm : min (PyData.depthAll ds) d.depth ≤ d.depth := Nat.min_le_right _ _
  have q' : Q (.bl (ds.any fun z => PyData.eqv z d)) H := by simpa using q
  rcases he with he | he
  · obtain ⟨bs, r2⟩ := Dp.reads I (.list ds) y u he ry
    exact SeqAt.in_list_reads r2 r1 se sd (by omega) ⟨.bl _, H, I, rfl, q'⟩
  · obtain ⟨bs, r2⟩ := Dp.reads I (.tuple ds) y u he ry
    exact SeqAt.in_tuple_reads r2 r1 se sd (by omega) ⟨.bl _, H, I, rfl, q'⟩
theorem op_notInD2 (hu : X.A.units + 64 < cLine) : OpR X (compareOp .NotIn) (rInD2 X.K true) := by
  intro pins s σ H x y v u Q I rx ry h
  obtain ⟨d, ds, hd, he, sd, se, hz, q⟩ := h
  obtain ⟨as, r1⟩ := Dp.reads I d x v hd rx
  have hm : min (PyData.depthAll ds) d.depth ≤ d.depth := Nat.min_le_right _ _
  have q' : Q (.bl (!ds.any fun z => PyData.eqv z d)) H := by
    have e : ∀ b : Bool, (true != b) = !b := by decide
    rw [e] at q
    exact q
  rcases he with he | he
  · obtain ⟨bs, r2⟩ := Dp.reads I (.list ds) y u he ry
    exact SeqAt.notIn_list_reads r2 r1 se sd (by omega) ⟨.bl _, H, I, rfl, q'⟩
  · obtain ⟨bs, r2⟩ := Dp.reads I (.tuple ds) y u he ry
    exact SeqAt.notIn_tuple_reads r2 r1 se sd (by omega) ⟨.bl _, H, I, rfl, q'⟩
theorem inG_reads {K : PySem.W.Frag} {F : Addr → Prop} {H0 H : Hp} {x y : V} {a b c : RV} {Q : VK} {neg : Bool} (ra : Res K F H0 H x a) (rb : Res K F H0 H y b) (e : inG neg a b = some c) (q : ∀ v H', Same H H' → Res K F H0 H' v c → Q v H') : rInD2 K neg x y H Q := by
  obtain ⟨d, f1⟩ := a
  obtain ⟨e1, f2⟩ := b
  have key : ∀ ds : List D, (e1 = .list ds ∨ e1 = .tuple ds) → (if okD 9 d && okA 9 ds then some (PyData.bool (neg != ds.any fun z => PyData.eqv z d), Fl.fz) else none) = some c → rInD2 K neg x y H Q := by
    intro ds hds e'
    split at e'
    · rename_i hc
      rw [Bool.and_eq_true] at hc
      cases e'
      obtain ⟨_, h2, h3⟩ := okD_of 9 d hc.1
      obtain ⟨_, k2, _⟩ := okA_of 9 ds hc.2
      refine ⟨d, ds, dp_of ra hc.1, ?_, h2, k2, by omega, q _ H (Same.refl H) Res.ofBool⟩
      rcases hds with rfl | rfl
      · exact .inl (dp_of (n := 10) rb (by simpa [okD] using hc.2))
      · exact .inr (dp_of (n := 10) rb (by simpa [okD] using hc.2))
    · cases e'
  cases e1 with
  | list ds => exact key ds (.inl rfl) e
  | tuple ds => exact key ds (.inr rfl) e
  | _ => cases (show (none : Option RV) = some c from e)
theorem opF_in (hu : X.A.units + 64 < cLine) : OpF X (compareOp .In) (inG false) := ⟨_, op_inD2 hu, fun F H0 H x y a b c Q ra rb sz sm e q => inG_reads ra rb e q⟩
theorem opF_notIn (hu : X.A.units + 64 < cLine) : OpF X (compareOp .NotIn) (inG true) := ⟨_, op_notInD2 hu, fun F H0 H x y a b c Q ra rb sz sm e q => inG_reads ra rb e q⟩
/-! is None, is True -/
def isG (neg : Bool) : RV → RV → Option RV
  | (d, _), (.none, _) => some (.bool (neg != isNone d), .fz)
  | (.bool a, _), (.bool b, _) => some (.bool (neg != decide (a = b)), .fz)
  | _, _ => none
theorem isNone_V {K F H0 H v d fl} (r : Res K F H0 H v (d, fl)) : isNone d = decide (v = .non) := by
  cases d with
  | none => rw [r.non1]; rfl
  | bool b => rw [r.bool]; rfl
  | int b => rw [r.int]; rfl
  | str b => rw [r.str]; rfl
  | list ds => obtain ⟨a, vs, L, rfl, _⟩ := r.list; rfl
  | tuple ds => obtain ⟨a, vs, L, rfl, _⟩ := r.tuple; rfl
  | dict ds =>
    obtain ⟨L, q⟩ := r.scal (fun _ z => nomatch z)
    cases q <;> rfl
theorem opF_is : OpF X (compareOp .Is) (isG false) := by
  refine ⟨_, op_isN.or op_isBl, fun F H0 H x y a b c Q ra rb sz sm e q => ?_⟩
  obtain ⟨d, f1⟩ := a
  obtain ⟨e1, f2⟩ := b
  cases e1 <;> try (cases d <;> cases (show (none : Option RV) = some c from e))
  · have e' : some (PyData.bool (false != isNone d), Fl.fz) = some c := by cases d <;> exact e
    cases e'
    refine .inl ⟨rb.non1, ?_⟩
    rw [← isNone_V ra]
    simpa using q _ H (Same.refl H) Res.ofBool
  · cases d <;> try (cases (show (none : Option RV) = some c from e))
    cases e
    rename_i b a
    refine .inr ⟨a, b, ra.bool, rb.bool, ?_⟩
    simpa using q _ H (Same.refl H) Res.ofBool
theorem opF_isNot : OpF X (compareOp .IsNot) (isG true) := by
  refine ⟨_, op_notN.or op_notBl, fun F H0 H x y a b c Q ra rb sz sm e q => ?_⟩
  have hx : ∀ b : Bool, (true != b) = !b := by decide
  obtain ⟨d, f1⟩ := a
  obtain ⟨e1, f2⟩ := b
  cases e1 <;> try (cases d <;> cases (show (none : Option RV) = some c from e))
  · have e' : some (PyData.bool (true != isNone d), Fl.fz) = some c := by cases d <;> exact e
    cases e'
    refine .inl ⟨rb.non1, ?_⟩
    rw [← isNone_V ra, ← hx]
    exact q _ H (Same.refl H) Res.ofBool
  · cases d <;> try (cases (show (none : Option RV) = some c from e))
    cases e
    rename_i b a
    refine .inr ⟨a, b, ra.bool, rb.bool, ?_⟩
    rw [← hx]
    exact q _ H (Same.refl H) Res.ofBool
end
end Pl

set_option Elab.async false
set_option linter.all false
set_option maxRecDepth 100000
set_option maxHeartbeats 4000000
/-! Pl3: rules for expressions -/
namespace Pl
open PySem PySem.Spec PyProof.Rows L2

section
variable {X : Cx} {a b c e : Expr} {ga gb gc : GE} {pos : Pos}

/-! names and constants -/
/-- the i-th name -/
def eVar (i : Nat) : GE := fun env => match env[i]? with
  | some (some (d, .ow)) => some (d, .bw)
  | some (some r) => some r
  | _ => none
theorem ve_var (i : Nat) {x : Str} (hN : X.N[i]? = some x := by rfl) (hv : Vis X.env.scope x := by first | exact Or.inl rfl | exact Or.inr (Or.inl rfl) | exact Or.inr (Or.inr rfl)) (hd : (x == ("__debug__" : Str)) = false := by decide)
    (hcd : (x == ("__classdict__" : Str)) = false := by decide) : VE X (.Name x pos) (eVar i) := by
  refine PE.to (pe_var hN hv hd hcd) fun σ H Q ⟨F, env, r, ok, e, q⟩ => ?_
  unfold eVar at e
  cases e1 : env[i]? with
  | none => rw [e1] at e; cases e
  | some o =>
    rw [e1] at e
    cases o with
    | none => cases e
    | some r0 =>
      obtain ⟨v, hv, sl⟩ := ok.slot i r0 e1
      obtain ⟨d, fl⟩ := r0
      refine ⟨v, hv, fun sz => q v H (Same.refl H) sz ?_⟩
      cases fl with
      | fz => cases e; obtain ⟨L, h1, h2⟩ := sl; exact ⟨L, h1, fun b hb => .inl (h2 b hb)⟩
      | ow => cases e; obtain ⟨p, h1, h2, h3⟩ := sl; exact ⟨p, h1, h3.imp fun b hb => .inl hb⟩
      | bw => cases e; obtain ⟨p, h1, h3⟩ := sl; exact ⟨p, h1, h3.imp fun b hb => .inl hb⟩
      | sc => cases e; exact sl
def eC (d : D) : GE := fun _ => some (d, .fz)
theorem ve_int {i : Int} {j} : VE X (.Constant (.int i) j pos) (eC (.int i)) := PE.to pe_int fun σ H Q ⟨F, env, r, ok, e, q⟩ => fun sz => by cases e; exact q _ H (Same.refl H) sz Res.ofInt
theorem ve_bool {i : Bool} {j} : VE X (.Constant (.bool i) j pos) (eC (.bool i)) := PE.to pe_bl fun σ H Q ⟨F, env, r, ok, e, q⟩ => fun sz => by cases e; exact q _ H (Same.refl H) sz Res.ofBool
theorem ve_none {j} : VE X (.Constant .none j pos) (eC .none) := PE.to pe_non fun σ H Q ⟨F, env, r, ok, e, q⟩ => fun sz => by cases e; exact q _ H (Same.refl H) sz Res.ofNone
theorem ve_str {x : Str} {j} : VE X (.Constant (.str x) j pos) (eC (.str x)) := PE.to pe_str fun σ H Q ⟨F, env, r, ok, e, q⟩ => fun sz => by cases e; exact q _ H (Same.refl H) sz Res.ofStr
/-- a module's int -/
theorem ve_globI {x : Str} {i : Int} {t : Tok} (hg : Gl X x) (hm : X.mg x = some (.int i t)) (hd : (x == ("__debug__" : Str)) = false := by decide) : VE X (.Name x pos) (eC (.int i)) :=
  PE.to (pe_glob (v := .int i) hg hm ⟨t, rfl⟩ hd) fun σ H Q ⟨F, env, r, ok, e, q⟩ => fun sz => by cases e; exact q _ H (Same.refl H) sz Res.ofInt

/-! operators -/
def e2 (g : RV → RV → Option RV) (ga gb : GE) : GE := fun env => (ga env).bind fun x => (gb env).bind fun y => g x y
theorem bind2 {α β : Type} {x : Option α} {f : α → Option β} {c : β} (h : x.bind f = some c) : ∃ y, x = some y ∧ f y = some c := by
  cases x with
  | none => cases h
  | some y => exact ⟨y, rfl, h⟩
/-- what a rule asks of two values -/
def R2F (K : PySem.W.Frag) (r : R2) (g : RV → RV → Option RV) : Prop := ∀ (F : Addr → Prop) (H0 H : Hp) (x y : V) (a b c : RV) (Q : VK), Res K F H0 H x a → Res K F H0 H y b → Sz K H → Same H0 H → g a b = some c → (∀ v H', Same H H' → Res K F H0 H' v c → Q v H') → r x y H Q
theorem tOp_reads {K : PySem.W.Frag} {g : RV → RV → Option RV} {r : R2} {σ : L2.St} {H : Hp} {Q : VK} {F : Addr → Prop} {env : En} {c : RV} (h : R2F K r g) (ok : Ok K F σ H env) (e : e2 g ga gb env = some c)
    (q : ∀ v H', Same H H' → Res K F H H' v c → Q v H') : tOp r (TE' K ga) (TE' K gb) σ H Q := by
  obtain ⟨x, e1, e⟩ := bind2 e
  obtain ⟨y, e3, e⟩ := bind2 e
  refine ⟨F, env, x, ok, e1, fun v1 H1 s1 _ r1 => ⟨F, env, y, ok.mono s1, e3, fun v2 H2 s2 sz2 r2 => ?_⟩⟩
  exact h F H H2 v1 v2 x y c _ (r1.mono s2) (r2.back s1) sz2 (s1.trans s2) e fun v H' s r => q v H' ((s1.trans s2).trans s) r
theorem ve_op {op : Operator} {g : RV → RV → Option RV} (ho : OpF X (binaryOp op) g) (ha : VE X a ga) (hb : VE X b gb) : VE X (.BinOp a op b pos) (e2 g ga gb) := by
  obtain ⟨r, h1, h2⟩ := ho
  exact PE.to (pe_op h1 ha hb) fun σ H Q ⟨F, env, c, ok, e, q⟩ => tOp_reads h2 ok e fun v H' s r sz => q v H' s sz r
theorem ve_cmp {op : CmpOp} {g : RV → RV → Option RV} (ho : OpF X (compareOp op) g) (ha : VE X a ga) (hb : VE X b gb) (hm : behindInMarks op b = false := by first | exact nomark _ | rfl) : VE X (.Compare a [op] [b] pos) (e2 g ga gb) := by
  obtain ⟨r, h1, h2⟩ := ho
  exact PE.to (pe_cmpR h1 ha hb hm) fun σ H Q ⟨F, env, c, ok, e, q⟩ => tOp_reads h2 ok e fun v H' s r sz => q v H' s sz r
/-- a truth value -/
def asB : RV → Option Bool
  | (.bool b, _) => some b
  | _ => none
theorem asB_of {r : RV} {k : Bool} (h : asB r = some k) : ∃ f, r = (.bool k, f) := by
  obtain ⟨d, f⟩ := r
  cases d <;> try (cases (show (none : Option Bool) = some k from h))
  cases h
  exact ⟨f, rfl⟩
def eB (g : GE) : GB := fun env => (g env).bind asB
theorem vb_cmp {op : CmpOp} {g : RV → RV → Option RV} (ho : OpF X (compareOp op) g) (ha : VE X a ga) (hb : VE X b gb) (hm : behindInMarks op b = false := by first | exact nomark _ | rfl) : VB X (.Compare a [op] [b] pos) (eB (e2 g ga gb)) := by
  obtain ⟨r, h1, h2⟩ := ho
  refine PT.to (pt_cmpR h1 ha hb hm) fun σ H Q ⟨F, env, k, ok, e, q⟩ => ?_
  obtain ⟨c, e1, e3⟩ := bind2 e
  obtain ⟨f, rfl⟩ := asB_of e3
  exact tOp_reads h2 ok e1 fun v H' s r => ⟨k, r.bool, fun sz => q H' s sz⟩
/-! a op b op' c -/
def e3 (g g' : RV → RV → Option RV) (ga gb gc : GE) : GE := fun env => (ga env).bind fun x => (gb env).bind fun y => (g x y).bind fun k => (asB k).bind fun t => if t then (gc env).bind fun z => g' y z else some (.bool false, .fz)
theorem tChain_reads {K : PySem.W.Frag} {g g' : RV → RV → Option RV} {r r' : R2} {σ : L2.St} {H : Hp} {Q : VK} {F : Addr → Prop} {env : En} {k : RV} (h : R2F K r g) (h' : R2F K r' g') (ok : Ok K F σ H env) (e : e3 g g' ga gb gc env = some k)
    (q : ∀ v H', Same H H' → Res K F H H' v k → Q v H') : tChain r r' (TE' K ga) (TE' K gb) (TE' K gc) σ H Q := by
  obtain ⟨x, e1, e⟩ := bind2 e
  obtain ⟨y, e2, e⟩ := bind2 e
  obtain ⟨m, e3, e⟩ := bind2 e
  obtain ⟨t, e4, ee⟩ := bind2 e
  obtain ⟨f, rfl⟩ := asB_of e4
  clear e
  refine ⟨F, env, x, ok, e1, fun v1 H1 s1 _ r1 => ⟨F, env, y, ok.mono s1, e2, fun v2 H2 s2 sz2 r2 => ?_⟩⟩
  have s12 := s1.trans s2
  refine h F H H2 v1 v2 x y _ _ (r1.mono s2) (r2.back s1) sz2 s12 e3 fun v H3 s3 rk => ⟨t, rk.bool, ?_⟩
  have s13 := s12.trans s3
  cases t with
  | true =>
    rw [if_pos rfl] at ee ⊢
    obtain ⟨z, e5, e⟩ := bind2 ee
    refine ⟨F, env, z, ok.mono s13, e5, fun v4 H4 s4 sz4 r4 => ?_⟩
    exact h' F H H4 v2 v4 y z k _ ((r2.back s1).mono (s3.trans s4)) (r4.back s13) sz4 (s13.trans s4) e fun v H' s r => q v H' ((s13.trans s4).trans s) r
  | false =>
    rw [if_neg Bool.false_ne_true] at ee ⊢
    cases ee
    exact q _ H3 s13 Res.ofBool
theorem ve_chain {op op' : CmpOp} {g g' : RV → RV → Option RV} (ho : OpF X (compareOp op) g) (ho' : OpF X (compareOp op') g') (ha : VE X a ga) (hb : VE X b gb) (hc : VE X c gc) (hm : lastMarks [op, op'] [b, c] = false := by rfl) : VE X (.Compare a [op, op'] [b, c] pos) (e3 g g' ga gb gc) := by
  obtain ⟨r, h1, h2⟩ := ho
  obtain ⟨r', k1, k2⟩ := ho'
  exact PE.to (pe_chain h1 k1 ha hb hc hm) fun σ H Q ⟨F, env, c, ok, e, q⟩ => tChain_reads h2 k2 ok e fun v H' s r sz => q v H' s sz r
theorem vb_chain {op op' : CmpOp} {g g' : RV → RV → Option RV} (ho : OpF X (compareOp op) g) (ho' : OpF X (compareOp op') g') (ha : VE X a ga) (hb : VE X b gb) (hc : VE X c gc) (hm : lastMarks [op, op'] [b, c] = false := by rfl) : VB X (.Compare a [op, op'] [b, c] pos) (eB (e3 g g' ga gb gc)) := by
  obtain ⟨r, h1, h2⟩ := ho
  obtain ⟨r', k1, k2⟩ := ho'
  refine PT.to (pt_chain h1 k1 ha hb hc hm) fun σ H Q ⟨F, env, k, ok, e, q⟩ => ?_
  obtain ⟨c, e1, e3⟩ := bind2 e
  obtain ⟨f, rfl⟩ := asB_of e3
  exact tChain_reads h2 k2 ok e1 fun v H' s r => ⟨k, r.bool, fun sz => q H' s sz⟩

/-! ### truth, and, or, not -/
def truD : RV → Option Bool
  | (.none, _) => some false
  | (.bool b, _) => some b
  | (.int i, _) => some (i != 0)
  | (.str x, _) => if x.length ≤ 16777216 then some ((x.length : Int) != 0) else none
  | (.list ds, _) => some (!ds.isEmpty)
  | (.tuple ds, _) => some (!ds.isEmpty)
  | (.dict _, _) => none
theorem tru_res {K : PySem.W.Frag} {F : Addr → Prop} {H0 H : Hp} {v : V} {r : RV} {k : Bool} (h : Res K F H0 H v r) (e : truD r = some k) : TruV K v H k := by
  obtain ⟨d, f⟩ := r
  cases d with
  | none => rw [h.non1]; cases e; rfl
  | bool b => rw [h.bool]; cases e; rfl
  | int b => rw [h.int]; cases e; rfl
  | str x =>
    rw [h.str]
    have e' : (if x.length ≤ 16777216 then some ((x.length : Int) != 0) else none) = some k := e
    split at e'
    · rename_i hc
      cases e'
      exact ⟨by rw [sizeLine_eq]; exact hc, rfl⟩
    · cases e'
  | list ds =>
    obtain ⟨p, vs, L, rfl, s, q, _⟩ := h.list
    cases e
    have hl := q.length
    refine .inl ⟨vs, s, ?_⟩
    cases vs <;> cases ds <;> simp_all
  | tuple ds =>
    obtain ⟨p, vs, L, rfl, s, q, _⟩ := h.tuple
    cases e
    have hl := q.length
    refine .inr (.inl ⟨vs, s, ?_⟩)
    cases vs <;> cases ds <;> simp_all
  | dict ds => cases e
def eT (g : GE) : GB := fun env => (g env).bind truD
/-- an expression as a test, by its truth -/
theorem vb_tru (h : VE X a ga) (he : ∀ whole, isTrue a X.env whole = (do let v ← whole; standAt a.pos; holding [v] (truthy v)) := by intro _; rfl) : VB X a (eT ga) := by
  refine PT.to (pt_truth h he) fun σ H Q ⟨F, env, k, ok, e, q⟩ => ?_
  obtain ⟨c, e1, e3⟩ := bind2 e
  exact ⟨F, env, c, ok, e1, fun v H' s sz r => ⟨k, tru_res r e3, fun _ => q H' s sz⟩⟩
variable {ba bb bc : GB} {rest : List Expr}
def bAnd (ba bb : GB) : GB := fun env => (ba env).bind fun k => if k = true then bb env else some false
def bOr (ba bb : GB) : GB := fun env => (ba env).bind fun k => if k = true then some true else bb env
def bNot (ba : GB) : GB := fun env => (ba env).map fun k => !k
theorem vw_one {op : BoolOp} (ha : VB X a ba) : VW X (.BoolOp op [a] pos) ba := by
  cases op with
  | And => exact pw_and1 ha
  | Or => exact pw_or1 ha
theorem vw_and (ha : VB X a ba) (hb : VW X (.BoolOp .And (b :: rest) pos) bb) : VW X (.BoolOp .And (a :: b :: rest) pos) (bAnd ba bb) := by
  refine PW.to (pw_and ha hb) fun σ H Q ⟨F, env, k, ok, e, q⟩ => ?_
  obtain ⟨c, e1, ee⟩ := bind2 e
  refine ⟨F, env, c, ok, e1, fun H1 s1 z1 => ?_⟩
  cases c with
  | true => exact ⟨F, env, k, ok.mono s1, ee, fun H2 s2 z2 z3 => q H2 (s1.trans s2) z3⟩
  | false => cases ee; exact fun z => q H1 s1 z
theorem vw_or (ha : VB X a ba) (hb : VW X (.BoolOp .Or (b :: rest) pos) bb) : VW X (.BoolOp .Or (a :: b :: rest) pos) (bOr ba bb) := by
  refine PW.to (pw_or ha hb) fun σ H Q ⟨F, env, k, ok, e, q⟩ => ?_
  obtain ⟨c, e1, ee⟩ := bind2 e
  refine ⟨F, env, c, ok, e1, fun H1 s1 z1 => ?_⟩
  cases c with
  | true => cases ee; exact fun z => q H1 s1 z
  | false => exact ⟨F, env, k, ok.mono s1, ee, fun H2 s2 z2 z3 => q H2 (s1.trans s2) z3⟩
theorem vb_w (h : VW X a ba) : VB X a ba := PW.pt h
theorem vb_not (ha : VB X a ba) : VB X (.UnaryOp .Not a pos) (bNot ba) := by
  refine PT.to (pt_not ha) fun σ H Q ⟨F, env, k, ok, e, q⟩ => ?_
  unfold bNot at e
  cases e1 : ba env with
  | none => rw [e1] at e; cases e
  | some c => rw [e1] at e; cases e; exact ⟨F, env, c, ok, e1, fun H1 s1 z1 _ => q H1 s1 z1⟩
/-! as values -/
def eAnd (ga gb : GE) : GE := fun env => (ga env).bind fun r => (truD r).bind fun k => if k = true then gb env else some r
def eOr (ga gb : GE) : GE := fun env => (ga env).bind fun r => (truD r).bind fun k => if k = true then some r else gb env
def eNot (ga : GE) : GE := fun env => (ga env).bind fun r => (truD r).map fun k => (.bool (!k), .fz)
theorem ve_one {op : BoolOp} (ha : VE X a ga) : VE X (.BoolOp op [a] pos) ga := pe_one ha
theorem ve_and (ha : VE X a ga) (hb : VE X (.BoolOp .And (b :: rest) pos) gb) : VE X (.BoolOp .And (a :: b :: rest) pos) (eAnd ga gb) := by
  refine PE.to (pe_andT ha hb) fun σ H Q ⟨F, env, r, ok, e, q⟩ => ?_
  obtain ⟨c, e1, e2⟩ := bind2 e
  obtain ⟨k, e3, ee⟩ := bind2 e2
  refine ⟨F, env, c, ok, e1, fun v H1 s1 z1 r1 => ⟨k, tru_res r1 e3, ?_⟩⟩
  cases k with
  | true => exact ⟨F, env, r, ok.mono s1, ee, fun v H2 s2 z2 r2 z3 => q v H2 (s1.trans s2) z3 (r2.back s1)⟩
  | false => cases ee; exact fun z => q v H1 s1 z r1
theorem ve_or (ha : VE X a ga) (hb : VE X (.BoolOp .Or (b :: rest) pos) gb) : VE X (.BoolOp .Or (a :: b :: rest) pos) (eOr ga gb) := by
  refine PE.to (pe_orT ha hb) fun σ H Q ⟨F, env, r, ok, e, q⟩ => ?_
  obtain ⟨c, e1, e2⟩ := bind2 e
  obtain ⟨k, e3, ee⟩ := bind2 e2
  refine ⟨F, env, c, ok, e1, fun v H1 s1 z1 r1 => ⟨k, tru_res r1 e3, ?_⟩⟩
  cases k with
  | true => cases ee; exact fun z => q v H1 s1 z r1
  | false => exact ⟨F, env, r, ok.mono s1, ee, fun v H2 s2 z2 r2 z3 => q v H2 (s1.trans s2) z3 (r2.back s1)⟩
theorem ve_not (ha : VE X a ga) : VE X (.UnaryOp .Not a pos) (eNot ga) := by
  refine PE.to (pe_notT ha) fun σ H Q ⟨F, env, r, ok, e, q⟩ => ?_
  obtain ⟨c, e1, e2⟩ := bind2 e
  refine ⟨F, env, c, ok, e1, fun v H1 s1 z1 r1 => ?_⟩
  cases e3 : truD c with
  | none => rw [e3] at e2; cases e2
  | some k => rw [e3] at e2; cases e2; exact ⟨k, tru_res r1 e3, fun z => q _ H1 s1 z Res.ofBool⟩
def negG : RV → Option RV
  | (.int i, _) => some (.int (-i), .fz)
  | _ => none
def eNeg (ga : GE) : GE := fun env => (ga env).bind negG
theorem ve_neg (ha : VE X a ga) : VE X (.UnaryOp .USub a pos) (eNeg ga) := by
  refine PE.to (pe_un un_neg ha) fun σ H Q ⟨F, env, r, ok, e, q⟩ => ?_
  obtain ⟨c, e1, e2⟩ := bind2 e
  obtain ⟨d, f⟩ := c
  cases d <;> try (cases (show (none : Option RV) = some r from e2))
  cases e2
  exact ⟨F, env, _, ok, e1, fun v H1 s1 z1 r1 => ⟨_, r1.int, fun z => q _ H1 s1 z Res.ofInt⟩⟩
/-- a if c else b -/
def eIf (bc : GB) (ga gb : GE) : GE := fun env => (bc env).bind fun k => if k = true then ga env else gb env
theorem ve_if (hc : VB X c bc) (ha : VE X a ga) (hb : VE X b gb) : VE X (.IfExp c a b pos) (eIf bc ga gb) := by
  refine PE.to (pe_ifExp hc ha hb) fun σ H Q ⟨F, env, r, ok, e, q⟩ => ?_
  obtain ⟨k, e1, ee⟩ := bind2 e
  refine ⟨F, env, k, ok, e1, fun H1 s1 z1 => ?_⟩
  cases k with
  | true => exact ⟨F, env, r, ok.mono s1, ee, fun v H2 s2 z2 r2 z3 => q v H2 (s1.trans s2) z3 (r2.back s1)⟩
  | false => exact ⟨F, env, r, ok.mono s1, ee, fun v H2 s2 z2 r2 z3 => q v H2 (s1.trans s2) z3 (r2.back s1)⟩

/-! ### several expressions -/
abbrev GA := En → Option (List RV)
inductive ResL (K : PySem.W.Frag) (F : Addr → Prop) : Hp → Hp → List V → List RV → Prop
  | nil {H H' : Hp} : Same H H' → ResL K F H H' [] []
  | cons {H H1 H' : Hp} {v : V} {vs : List V} {r : RV} {rs : List RV} : Same H H1 → Res K F H H1 v r → ResL K F H1 H' vs rs → ResL K F H H' (v :: vs) (r :: rs)
theorem ResL.same {K F} : ∀ {H H' : Hp} {vs : List V} {rs : List RV}, ResL K F H H' vs rs → Same H H'
  | _, _, _, _, .nil s => s
  | _, _, _, _, .cons s _ t => s.trans (ResL.same t)
theorem ResL.length {K F} : ∀ {H H' : Hp} {vs : List V} {rs : List RV}, ResL K F H H' vs rs → vs.length = rs.length
  | _, _, _, _, .nil s => rfl
  | _, _, _, _, .cons s _ t => by simp [ResL.length t]
/-- each at the end -/
theorem ResL.get {K F} : ∀ {H H' : Hp} {vs : List V} {rs : List RV} {i : Nat} {r : RV}, ResL K F H H' vs rs → rs[i]? = some r → ∃ v, vs[i]? = some v ∧ Res K F H H' v r
  | _, _, _, _, _, _, .nil s, e => by simp at e
  | _, _, _, _, 0, _, .cons s r t, e => by
    simp at e; subst e
    exact ⟨_, rfl, r.mono t.same⟩
  | _, _, _, _, i + 1, _, .cons s r t, e => by
    obtain ⟨v, e1, q⟩ := ResL.get (i := i) t (by simpa using e)
    exact ⟨v, by simpa using e1, q.back s⟩
/-- neither borrowed nor the script -/
def plainFl : Fl → Bool
  | .fz => true
  | .ow => true
  | _ => false
theorem plain_ne {f : Fl} (h : plainFl f = true) : f ≠ .bw ∧ f ≠ .sc := by cases f <;> first | (cases h; done) | exact ⟨(fun z => nomatch z), (fun z => nomatch z)⟩
def plainAll (rs : List RV) : Bool := rs.all fun r => plainFl r.2
theorem ResL.rpa {K F} : ∀ {H H' : Hp} {vs : List V} {rs : List RV}, ResL K F H H' vs rs → plainAll rs = true → ∃ L, RpA K H' vs (rs.map (·.1)) L ∧ ∀ b ∈ L, F b ∨ H b = none
  | _, _, _, _, .nil s, _ => ⟨[], .nil, by simp⟩
  | _, _, _, _, .cons (r := r) s q t, p => by
    unfold plainAll at p
    rw [List.all_cons, Bool.and_eq_true] at p
    obtain ⟨L, ra, hl⟩ := ResL.rpa t p.2
    obtain ⟨d, f⟩ := r
    obtain ⟨n1, n2⟩ := plain_ne p.1
    obtain ⟨M, rm, hm⟩ := (q.frz n1 n2).mono t.same
    refine ⟨M ++ L, .cons rm ra, fun b hb => ?_⟩
    rcases List.mem_append.mp hb with z | z
    · exact hm b z
    · exact (hl b z).imp id s.free
def TA' (K : PySem.W.Frag) (g : GA) : TA := fun σ H Q => ∃ F env rs, Ok K F σ H env ∧ g env = some rs ∧ ∀ vs H', ResL K F H H' vs rs → Q vs H'
def VA (X : Cx) (es : List Expr) (g : GA) : Prop := PA X es (TA' X.K g)
theorem PA.to {es : List Expr} {t t' : TA} (h : PA X es t) (i : ∀ σ H Q, t' σ H Q → t σ H Q) : PA X es t' := ⟨fun pos pins s σ H Q I w => h.run pos pins s σ H Q I (i σ H Q w)⟩
def aNil : GA := fun _ => some []
def aCons (g : GE) (t : GA) : GA := fun env => (g env).bind fun r => (t env).bind fun rs => some (r :: rs)
theorem va_nil : VA X [] aNil := PA.to pa_nil fun σ H Q ⟨F, env, rs, ok, e, q⟩ => by cases e; exact q [] H (.nil (Same.refl H))
theorem va_cons {es : List Expr} {t : GA} (ha : VE X a ga) (hr : VA X es t) (hs : starEach (a :: es) X.env = (false, eval a X.env) :: starEach es X.env := by rfl) : VA X (a :: es) (aCons ga t) := by
  refine PA.to (pa_cons ha hr hs) fun σ H Q ⟨F, env, rs, ok, e, q⟩ => ?_
  obtain ⟨r, e1, e2⟩ := bind2 e
  obtain ⟨rs', e3, e4⟩ := bind2 e2
  cases e4
  exact ⟨F, env, r, ok, e1, fun v H1 s1 z1 r1 => ⟨F, env, rs', ok.mono s1, e3, fun vs H2 q2 => q _ H2 (.cons s1 r1 q2)⟩⟩
/-! displays -/
def tupG (rs : List RV) : Option RV := if plainAll rs = true ∧ rs.length ≤ 16777216 then some (.tuple (rs.map (·.1)), .fz) else none
def lstG (rs : List RV) : Option RV := if plainAll rs = true ∧ rs.length ≤ 16777216 then some (.list (rs.map (·.1)), .ow) else none
def eA (g : List RV → Option RV) (t : GA) : GE := fun env => (t env).bind g
theorem ve_tup {es : List Expr} {t : GA} {x1} (h : VA X es t) : VE X (.Tuple es x1 pos) (eA tupG t) := by
  refine PE.to (pe_tup h) fun σ H Q ⟨F, env, r, ok, e, q⟩ => ?_
  obtain ⟨rs, e1, e2⟩ := bind2 e
  unfold tupG at e2
  split at e2
  · rename_i hc
    cases e2
    refine ⟨F, env, rs, ok, e1, fun vs H1 q1 => ⟨by rw [q1.length, sizeLine_eq]; exact hc.2, fun p n sz => ?_⟩⟩
    obtain ⟨L, ra, hl⟩ := q1.rpa hc.1
    exact q _ _ (q1.same.trans (same_new n)) sz (Res.newTup n ra hl)
  · cases e2
theorem ve_lst {es : List Expr} {t : GA} (h : VA X es t) : VE X (.List es pos) (eA lstG t) := by
  refine PE.to (pe_lst h) fun σ H Q ⟨F, env, r, ok, e, q⟩ => ?_
  obtain ⟨rs, e1, e2⟩ := bind2 e
  unfold lstG at e2
  split at e2
  · rename_i hc
    cases e2
    refine ⟨F, env, rs, ok, e1, fun vs H1 q1 => ⟨by rw [q1.length, sizeLine_eq]; exact hc.2, fun p n sz => ?_⟩⟩
    obtain ⟨L, ra, hl⟩ := q1.rpa hc.1
    exact q _ _ (q1.same.trans (same_new n)) sz (Res.newList n q1.same ra hl)
  · cases e2

/-! ### items and slices -/
def ixG : RV → RV → Option RV
  | (.list ds, _), (.int i, _) => (atI ds i).map fun d => (d, .fz)
  | (.tuple ds, _), (.int i, _) => (atI ds i).map fun d => (d, .fz)
  | (.str x, _), (.int i, _) => if x.length ≤ 16777216 then (atI x.cps.toList i).map fun c => (.str ⟨#[c]⟩, .fz) else none
  | _, _ => none
theorem RpA.atI {K : PySem.W.Frag} {H : Hp} {vs : List V} {ds : List D} {L : List Addr} {i : Int} {d : D} (h : RpA K H vs ds L) (e : L2.atI ds i = some d) : ∃ v M, L2.atI vs i = some v ∧ Rp K H v d M ∧ ∀ b ∈ M, b ∈ L := by
  unfold L2.atI at e ⊢
  rw [h.length]
  obtain ⟨j, e1, e2⟩ := bind2 e
  obtain ⟨v, M, e3, r, hm⟩ := h.get e2
  exact ⟨v, M, by rw [e1]; exact e3, r, hm⟩
theorem r2_ix {K : PySem.W.Frag} : R2F K (rIx K) ixG := by
  intro F H0 H x y a b c Q ra rb sz sm e q
  obtain ⟨d1, f1⟩ := a
  obtain ⟨d2, f2⟩ := b
  cases d1 <;> try (cases d2 <;> (cases (show (none : Option RV) = some c from e)))
  · cases d2 <;> try (cases (show (none : Option RV) = some c from e))
    rename_i z i
    have e' : (if z.length ≤ 16777216 then (atI z.cps.toList i).map fun c => ((PyData.str ⟨#[c]⟩, Fl.fz) : RV) else none) = some c := e
    split at e'
    · rename_i hc
      cases e1 : atI z.cps.toList i with
      | none => rw [e1] at e'; cases e'
      | some ch =>
        rw [e1] at e'
        cases e'
        exact .inr (.inr ⟨z, i, ch, ra.str, rb.int, by rw [sizeLine_eq]; exact hc, e1, q _ H (Same.refl H) Res.ofStr⟩)
    · cases e'
  · cases d2 <;> try (cases (show (none : Option RV) = some c from e))
    rename_i ds i
    have e' : (atI ds i).map (fun d => ((d, Fl.fz) : RV)) = some c := e
    cases e1 : atI ds i with
    | none => rw [e1] at e'; cases e'
    | some d =>
      rw [e1] at e'
      cases e'
      obtain ⟨p, vs, L, rfl, s, r, hl⟩ := ra.list
      obtain ⟨v, M, e3, rv, hm⟩ := r.atI e1
      exact .inl ⟨p, vs, i, v, rfl, rb.int, s, e3, q v H (Same.refl H) ⟨M, rv, fun b hb => hl b (hm b hb)⟩⟩
  · cases d2 <;> try (cases (show (none : Option RV) = some c from e))
    rename_i ds i
    have e' : (atI ds i).map (fun d => ((d, Fl.fz) : RV)) = some c := e
    cases e1 : atI ds i with
    | none => rw [e1] at e'; cases e'
    | some d =>
      rw [e1] at e'
      cases e'
      obtain ⟨p, vs, L, rfl, s, r, hl⟩ := ra.tuple
      obtain ⟨v, M, e3, rv, hm⟩ := r.atI e1
      exact .inr (.inl ⟨p, vs, i, v, rfl, rb.int, s, e3, q v H (Same.refl H) ⟨M, rv, fun b hb => hl b (hm b hb)⟩⟩)
theorem ve_ix (ha : VE X a ga) (hb : VE X b gb) (hs : PlainIx b := by intro _ _; rfl) : VE X (.Subscript a b pos) (e2 ixG ga gb) :=
  PE.to (pe_ix ix_seq ha hb hs) fun σ H Q ⟨F, env, c, ok, e, q⟩ => tOp_reads r2_ix ok e fun v H' s r sz => q v H' s sz r
/-! slices -/
def cutL {α : Type} (xs : List α) (lo hi : Option Int) : List α := (xs.drop (HT.sIx xs.length 0 lo)).take (HT.sIx xs.length xs.length hi - HT.sIx xs.length 0 lo)
theorem RpA.cut {K : PySem.W.Frag} {H : Hp} {vs : List V} {ds : List D} {L : List Addr} (h : RpA K H vs ds L) (lo hi : Option Int) : ∃ M, RpA K H (cutV vs lo hi) (cutL ds lo hi) M ∧ ∀ b ∈ M, b ∈ L := by
  unfold cutV cutL
  rw [h.length]
  obtain ⟨M, r, hm⟩ := h.drop (HT.sIx ds.length 0 lo)
  obtain ⟨N, r2, hn⟩ := r.take (HT.sIx ds.length ds.length hi - HT.sIx ds.length 0 lo)
  exact ⟨N, r2, fun b hb => hm b (hn b hb)⟩
abbrev GO := En → Option (Option Int)
def oNone : GO := fun _ => some none
def asI : RV → Option Int
  | (.int i, _) => some i
  | _ => none
theorem asI_of {r : RV} {k : Int} (h : asI r = some k) : ∃ f, r = (.int k, f) := by
  obtain ⟨d, f⟩ := r
  cases d <;> try (cases (show (none : Option Int) = some k from h))
  cases h
  exact ⟨f, rfl⟩
def oSome (g : GE) : GO := fun env => (g env).bind fun r => (asI r).map some
def TO' (K : PySem.W.Frag) (g : GO) : TO := fun σ H Q => ∃ F env o, Ok K F σ H env ∧ g env = some o ∧ ∀ H', Same H H' → Q o H'
def VO (X : Cx) (e : Option Expr) (g : GO) : Prop := PO X e (TO' X.K g)
theorem vo_none : VO X none oNone := by
  refine ⟨fun pins s σ H Q I h => ?_⟩
  obtain ⟨F, env, o, ok, e, q⟩ := h
  cases e
  exact po_none.run pins s σ H Q I (q H (Same.refl H))
theorem vo_some (h : VE X a ga) : VO X (some a) (oSome ga) := by
  refine ⟨fun pins s σ H Q I w => ?_⟩
  obtain ⟨F, env, o, ok, e, q⟩ := w
  obtain ⟨r, e1, e2⟩ := bind2 e
  cases e3 : asI r with
  | none => rw [e3] at e2; cases e2
  | some i =>
    rw [e3] at e2
    cases e2
    obtain ⟨f, rfl⟩ := asI_of e3
    exact (po_some h).run pins s σ H Q I ⟨F, env, _, ok, e1, fun v H' s z r => ⟨i, r.int, q H' s⟩⟩
def slG : RV → Option Int → Option Int → Option RV
  | (.list ds, _), lo, hi => some (.list (cutL ds lo hi), .ow)
  | (.tuple ds, _), lo, hi => some (.tuple (cutL ds lo hi), .fz)
  | _, _, _ => none
def eSl (ga : GE) (gl gh : GO) : GE := fun env => (ga env).bind fun x => (gl env).bind fun lo => (gh env).bind fun hi => slG x lo hi
theorem ve_slice {lo hi : Option Expr} {gl gh : GO} {p2 : Pos} (ha : VE X a ga) (hl : VO X lo gl) (hh : VO X hi gh) : VE X (.Subscript a (.Slice lo hi none p2) pos) (eSl ga gl gh) := by
  refine PE.to (pe_slice (sl_list.or sl_tupA) ha hl hh) fun σ H Q ⟨F, env, c, ok, e, q⟩ => ?_
  obtain ⟨x, e1, ea⟩ := bind2 e
  obtain ⟨l, e2, eb⟩ := bind2 ea
  obtain ⟨h, e3, ec⟩ := bind2 eb
  clear e ea eb
  refine ⟨F, env, x, ok, e1, fun v H1 s1 z1 r1 => ⟨F, env, l, ok.mono s1, e2, fun H2 s2 => ⟨F, env, h, (ok.mono s1).mono s2, e3, fun H3 s3 => ?_⟩⟩⟩
  have s := (s1.trans s2).trans s3
  have r3 := r1.mono (s2.trans s3)
  obtain ⟨d, f⟩ := x
  cases d <;> try (cases (show (none : Option RV) = some c from ec))
  · rename_i ds
    cases ec
    obtain ⟨p, vs, L, rfl, sq, r, hl⟩ := r3.list
    obtain ⟨M, rm, hm⟩ := r.cut l h
    exact .inl ⟨p, vs, rfl, sq, fun p n sz => q _ _ (s.trans (same_new n)) sz (Res.newList n s rm fun b hb => hl b (hm b hb))⟩
  · rename_i ds
    cases ec
    obtain ⟨p, vs, L, rfl, sq, r, hl⟩ := r3.tuple
    obtain ⟨M, rm, hm⟩ := r.cut l h
    have hlen := r.length
    refine .inr ⟨p, vs, rfl, sq, fun w sz => q _ H3 s sz ?_, fun _ p n sz => q _ _ (s.trans (same_new n)) sz (Res.newTup n rm fun b hb => hl b (hm b hb))⟩
    have ec : cutL ds l h = ds := by
      unfold cutL
      rw [← hlen, w.1, w.2, hlen]
      simp
    rw [ec]
    exact ⟨L, .tup sq r, hl⟩
end
end Pl

set_option Elab.async false
set_option linter.all false
set_option maxRecDepth 100000
set_option maxHeartbeats 4000000
/-! Pl4: enumerate and zip over lists and tuples in any mix -/
namespace Pl
open PySem PySem.Spec PyProof.Rows L2

/-- a list (false), a tuple (true) -/
def SqB (K : PySem.W.Frag) (H : Hp) (t : Bool) (a : Addr) (xs : List V) : Prop := match t with
  | false => SqL K H a xs
  | true => SqT K H a xs
def IterB (t : Bool) (h : Heap) (it a : Addr) (i : Nat) : Prop := match t with
  | false => h.IsListIter it a i
  | true => h.IsTupleIter it a i
def IsB (t : Bool) (h : Heap) (a : Addr) (items : Array Value) : Prop := match t with
  | false => h.IsList a items
  | true => h.IsTuple a items
def clsB : Bool → String
  | false => "list"
  | true => "tuple"
def itClsB : Bool → String
  | false => "list_iterator"
  | true => "tuple_iterator"
theorem IsB.obj {t : Bool} {h : Heap} {a : Addr} {items : Array Value} (x : IsB t h a items) : ∃ o, h.get? a = some o ∧ o.cls = .type (clsB t) := by
  cases t with
  | false => obtain ⟨o, h1, h2, _⟩ := x; exact ⟨o, h1, h2⟩
  | true => obtain ⟨o, h1, h2, _⟩ := x; exact ⟨o, h1, h2⟩
theorem IterB.obj {t : Bool} {h : Heap} {it a : Addr} {i : Nat} (x : IterB t h it a i) : ∃ o, h.get? it = some o ∧ o.cls = .type (itClsB t) ∧ o.data = .fields #[.ref a, .int i 0] := by
  cases t with
  | false => obtain ⟨o, h1, h2, h3⟩ := x; exact ⟨o, h1, h2, h3⟩
  | true => obtain ⟨o, h1, h2, h3⟩ := x; exact ⟨o, h1, h2, h3⟩
theorem IterB.of {t : Bool} {h : Heap} {it a : Addr} {i : Nat} {o : Obj} (h1 : h.get? it = some o) (h2 : o.cls = .type (itClsB t)) (h3 : o.data = .fields #[.ref a, .int i 0]) : IterB t h it a i := by
  cases t with
  | false => exact ⟨o, h1, h2, h3⟩
  | true => exact ⟨o, h1, h2, h3⟩
theorem IterB.at {t : Bool} {h h' : Heap} {it a : Addr} {i : Nat} (x : IterB t h it a i) (k : ∀ o, h.get? it = some o → h'.get? it = some o) : IterB t h' it a i := by
  obtain ⟨o, h1, h2, h3⟩ := x.obj
  exact IterB.of (k o h1) h2 h3
def itObjB (t : Bool) (a : Addr) : Obj := { cls := .type (itClsB t), data := .fields #[.ref a, .int 0 0] }
theorem beginsB (t : Bool) (a : Addr) (items : Array Value) : Begins (.ref a) (itObjB t a) fun h => IsB t h a items := by
  cases t with
  | false => exact begins_list a items
  | true => exact begins_tuple a items
theorem drawsB {prog : Program} {w : World} {A : Around} (t : Bool) (hh : A.handled = none) (it a : Addr) (hne : a ≠ it) (items : Array Value) :
    Draws prog w A it [it, a] items.size (fun i v => items[i]? = some v) (fun i h => IterB t h it a i ∧ IsB t h a items) := by
  cases t with
  | false => exact Draws.list hh it a hne items
  | true => exact Draws.tuple hh it a hne items
section
variable {X : Cx} {pins : List (Addr × Obj)} {σ : L2.St} {H : Hp} {s : Shared} {a : Addr} {xs ys : List V} {t : Bool}
theorem sqB_is (I : Inv X pins σ H s) (h : SqB X.K H t a xs) : ∃ its : List Value, Vals xs its ∧ IsB t s.heap a its.toArray := by
  cases t with
  | false => obtain ⟨its, r, p, _⟩ := I.list h; exact ⟨its, r, p.isList⟩
  | true => obtain ⟨its, r, p, _⟩ := I.tuple h; exact ⟨its, r, p⟩
theorem sqB_inj (I : Inv X pins σ H s) (h : SqB X.K H t a xs) (h' : SqB X.K H t a ys) : xs = ys := by
  cases t with
  | false => exact I.list_inj h h'
  | true => exact I.tuple_inj h h'
theorem sqB_same {K : PySem.W.Frag} {H' : Hp} (e : Same H H') (h : SqB K H t a xs) : SqB K H' t a xs := by
  cases t with
  | false => exact e.seq h
  | true => exact Same.sqt e _ _ h
end

/-! enumerate(v) of one argument -/
set_option maxHeartbeats 1000000 in
theorem meets_enum1 {v : Value} {o : Obj} {H : Heap → Prop} (B : Begins v o H) :
    Meets (Builtin.«enumerate.__new__» ⟨[.type "enumerate", v], []⟩) (fun _ R s => H s.heap ∧
      R (.ok (.ret (.ref (s.heap.push o).objs.size))) { s with heap := (s.heap.push o).push { cls := .type "enumerate", data := .fields #[.none, .bool false, .ref s.heap.objs.size, rawInt 0, .none, .none] } }) :=
  .of_wp fun prog w A R s h => by
    obtain ⟨hp, g, d, tk, os⟩ := s; obtain ⟨h1, h⟩ := h
    have hsub := sub_enumerate
    have q1 : ∀ {A' : Around} {E : Value → Shared → Prop} {Q : Value → Shared → Prop}, Q (.ref hp.objs.size) ⟨hp.push o, g, d, tk, os⟩ → wpAny (model prog w) A' (pyIter v) Q E ⟨hp, g, d, tk, os⟩ :=
      fun q => B.iter prog w _ _ ⟨hp, g, d, tk, os⟩ _ h1 q
    wp_walk using q1
    refine wpAny_stack_any fun st => wpAny_pure ?_
    split
    · rename_i c _ _ _ _ _
      cases (c == Value.type "enumerate")
      · wp_walk using q1
        exact ⟨_, rfl, h⟩
      · wp_walk using q1
        exact ⟨_, rfl, h⟩
    · wp_walk using q1
      exact ⟨_, rfl, h⟩
theorem enum1_begins {prog : Program} {w : World} {A : Around} {E : Value → Shared → Prop} {s : Shared} {v : Value} {o : Obj} {H : Heap → Prop} {Q : Value → Shared → Prop} (B : Begins v o H) (h1 : H s.heap)
    (h : ∀ h', IsEnum h' (s.heap.objs.size + 1) s.heap.objs.size 0 .none → h'.get? s.heap.objs.size = some o →
      (∀ b o, s.heap.get? b = some o → h'.get? b = some o) → Q (.ref (s.heap.objs.size + 1)) { s with heap := h' }) :
    wpAny (model prog w) A (call (.type "enumerate") [v]) Q E s := by
  refine callType_new F.called_enumerate (by decide) (F.typeCall_enumerate_1 _) (F.newCall_enumerate_1 _) (fun obj => F.args_object_init_2 obj _) F.entry_enumerate_new
    (meets_enum1 B) ⟨h1, ?_⟩
  have hz : (s.heap.push o).objs.size = s.heap.objs.size + 1 := Heap.size_push ..
  show _ ∧ _
  rw [hz]
  have he : IsEnum ((s.heap.push o).push { cls := .type "enumerate", data := .fields #[.none, .bool false, .ref s.heap.objs.size, rawInt 0, .none, .none] }) (s.heap.objs.size + 1) s.heap.objs.size 0 .none := by
    have := Heap.get?_push_size (s.heap.push o) (o := { cls := .type "enumerate", data := .fields #[.none, .bool false, .ref s.heap.objs.size, rawInt 0, .none, .none] }) rfl
    rw [hz] at this; exact this
  refine ⟨⟨_, he, rfl⟩, h _ he (Heap.get?_push_of_some _ (Heap.get?_push_size _ B.free)) fun b o x => Heap.get?_push_of_some _ (Heap.get?_push_of_some _ x)⟩

theorem cls_apart {t : Bool} {h : Heap} {a c : Addr} {items : Array Value} {o : Obj} {n : String} (x : IsB t h a items) (ho : h.get? c = some o) (hc : o.cls = .type n) (hn : n ≠ "list" ∧ n ≠ "tuple") : c ≠ a := by
  rintro rfl
  obtain ⟨oa, ha, hac⟩ := x.obj
  rw [ho] at ha; cases ha
  rw [hc] at hac
  cases t
  · exact hn.1 (Value.type.inj hac)
  · exact hn.2 (Value.type.inj hac)
/-- what enumerate(list or tuple at a) yields -/
def IteB (t : Bool) (K : PySem.W.Frag) (a : Addr) : It :=
  ⟨fun i H => ∃ (xs : List V) (x : V), SqB K H t a xs ∧ xs[i]? = some x, fun i H v H' => ∃ T x, v = .ref T ∧ H T = none ∧ H' = upd H T (.tup [.int (i : Nat), x]) ∧ ∀ xs, SqB K H t a xs → xs[i]? = some x, fun i H => ∃ xs : List V, SqB K H t a xs ∧ xs.length = i⟩
theorem turn_enumB {P : Program} {w : World} {K : PySem.W.Frag} {elts : List Expr} {kk : Nat} {tpos : Pos} (t : Bool) (a e it : Addr) :
    Turn P w K (.Tuple elts kk tpos) (IteB t K a) [e, it] e (fun i h => (∃ old, IsEnum h e it ((i : Nat) : Int) old) ∧ IterB t h it a i ∧ e ≠ it) where
  mem := by simp
  obj := fun i h st b hb => by
    obtain ⟨⟨old, he⟩, hi, _⟩ := st
    obtain ⟨o, ho, hc, hd⟩ := hi.obj
    have e' : b = e ∨ b = it := by simpa using hb
    rcases e' with z | z
    · rw [z]; exact ⟨_, he, fun v q => nomatch q⟩
    · rw [z]; exact ⟨o, ho, fun v q => by rw [hd] at q; cases q⟩
  keep := fun i h h' st k => let ⟨⟨old, he⟩, hi, hne⟩ := st; ⟨⟨old, k e (by simp) _ he⟩, hi.at fun o q => k it (by simp) o q, hne⟩
  item := by
    intro X hP hw hK hc i pins s σ H E I hf st hg
    subst hP hw hK
    obtain ⟨⟨old, he⟩, hit, hne⟩ := st
    obtain ⟨xs, x, hq, hx⟩ := hg
    obtain ⟨its, rv, p⟩ := sqB_is I hq
    obtain ⟨u, hu, ru⟩ := rv.get hx
    obtain ⟨oa, ha, hac⟩ := p.obj
    obtain ⟨oi, hoi, hci, hdi⟩ := hit.obj
    have hel : e < s.heap.objs.size := Heap.lt_size he
    have hil : it < s.heap.objs.size := Heap.lt_size hoi
    have hae : a ≠ it := by
      rintro rfl
      rw [hoi] at ha; cases ha
      rw [hci] at hac
      cases t <;> exact absurd hac (by decide)
    have hee : e ∉ [it, a] := by
      intro hm
      rcases (by simpa using hm : e = it ∨ e = a) with z | z
      · exact hne z
      · exact cls_apart p he rfl (by decide) z
    have hlt : i < its.toArray.size := by
      have := rv.length
      have hx' := (List.getElem?_eq_some_iff.mp hu).1
      simpa using hx'
    have hh1 : X.A.in1.handled = none := I.ok.hd hc
    refine wpAny_pyNext_enum_itemC (drawsB (prog := X.prog) (w := X.w) (A := X.A.in1) t hh1 it a hae its.toArray) he ⟨hit, p⟩ hlt hne hee fun x1 h' tk hP ho hst hT hsz hk => ?_
    have ex : x1 = u := by
      have : its.toArray[i]? = some u := by simpa using hu
      rw [this] at hP
      exact (Option.some.inj hP).symm
    subst ex
    refine ⟨_, rfl, wpAny_letOwnedTupleGo_enum (s := { s with heap := h', toks := tk + 1 }) ho fun h'' he' sb => ?_⟩
    have hT2 : h''.get? s.heap.objs.size = some { cls := .type "tuple", data := .seq #[.int i tk, x1] } := (sb.2 _ (Nat.ne_of_gt hel)).trans hT
    have new : ObjOk X.prog X.w (upd H s.heap.objs.size (.tup [.int (i : Nat), x])) h'' s.heap.objs.size (.tup [.int (i : Nat), x]) :=
      ⟨by show 2 ≤ sizeLine; decide, [.int i tk, x1], .cons ⟨_, rfl⟩ (.cons ru .nil), ⟨_, hT2, rfl, _, rfl⟩⟩
    have I1 : Inv X pins σ (upd H s.heap.objs.size (.tup [.int (i : Nat), x])) { s with heap := h'', toks := tk + 1 } :=
      I.turnedNew (ch := [e, it]) (fun b ob hb q => (sb.2 b (fun z => hb (by simp [z]))).trans (hk b ob (fun z => hb (by simp [z])) (fun z => hb (by simp [z])) q)) hf (Nat.le_refl _) new
    refine ⟨.ref s.heap.objs.size, _, I1, rfl, ⟨_, x, rfl, I.hok.fresh (Nat.le_refl _), rfl, fun ys hy => by rw [sqB_inj I hy hq]; exact hx⟩, ⟨⟨x1, ?_⟩, hst.1.at fun o q => (sb.2 it (Ne.symm hne)).trans q, hne⟩, fun b hb => ?_⟩
    · have e1 : ((i + 1 : Nat) : Int) = (i : Int) + 1 := by omega
      rw [e1]; exact he'
    · have hb' : b < s.heap.objs.size := by
        have e' : b = e ∨ b = it := by simpa using hb
        rcases e' with z | z
        · rw [z]; exact hel
        · rw [z]; exact hil
      rw [upd_ne (Nat.ne_of_lt hb')]
      exact (hf b hb).1
  done := by
    intro X hP hw hK hc i pins s σ H E I hf st hg
    subst hP hw hK
    obtain ⟨⟨old, he⟩, hit, hne⟩ := st
    obtain ⟨xs, hq, hx⟩ := hg
    obtain ⟨its, rv, p⟩ := sqB_is I hq
    obtain ⟨oa, ha, hac⟩ := p.obj
    obtain ⟨oi, hoi, hci, hdi⟩ := hit.obj
    have hae : a ≠ it := by
      rintro rfl
      rw [hoi] at ha; cases ha
      rw [hci] at hac
      cases t <;> exact absurd hac (by decide)
    obtain ⟨f0, f1, f2, f3, f4, f5⟩ := hf it (by simp)
    have hl := rv.length
    have hh1 : X.A.in1.handled = none := I.ok.hd hc
    have hn : its.toArray.size = i := by simp; omega
    refine wpAny_pyNext_enum_endD (drawsB (prog := X.prog) (w := X.w) (A := X.A.in1) t hh1 it a hae its.toArray) he (by rw [hn]; exact ⟨hit, p⟩) fun h' eb => ⟨rfl, I.turned (t' := s.toks) (fun b o hb q => eb b o hb q) f0 f1 f3 f4 f5⟩
  self := fun A i s Q E st h => let ⟨⟨_, he⟩, _⟩ := st; wpAny_pyIter_enum he h
def iEnumB (K : PySem.W.Frag) (ta : TA) : TI := fun σ H R => ta σ H fun vs H1 => ∃ t a xs, vs = [.ref a] ∧ SqB K H1 t a xs ∧ R (IteB t K a) H1
theorem pi_enumB {X : Cx} {e : Expr} {ta : TA} {p pos tpos : Pos} {elts : List Expr} {kk : Nat} (hg : Gl X "enumerate") (hm : X.mg "enumerate" = none) (ha : PA X [e] ta) (hs : starEach [e] X.env = [(false, eval e X.env)] := by rfl) :
    PI X (.Tuple elts kk tpos) (.Call (.Name "enumerate" p) [e] [] pos) (iEnumB X.K ta) := by
  refine ⟨fun pins s σ H R I h => ?_⟩
  refine Call_ (ld_blt I hg hm boot_enumerate (PyProof.Rows.callWith_type1 (thn (ha.run pos pins s σ H _ I h) fun us s1 ⟨vs, H1, I1, r1, q1⟩ => ?_) hs rfl))
  obtain ⟨t, a, xs, ex, hq, q⟩ := q1
  subst ex
  cases r1 with
  | cons r rr =>
    cases rr
    cases r
    obtain ⟨its, rv, p'⟩ := sqB_is I1 hq
    refine enum1_begins (beginsB t a its.toArray) p' fun h' he hit hk => wpAny_pyIter_enum he ?_
    have I2 : Inv X pins σ H1 { s1 with heap := h' } := I1.kept (t' := s1.toks) hk
    refine ⟨s1.heap.objs.size + 1, [s1.heap.objs.size + 1, s1.heap.objs.size], _, _, H1, rfl, I2, turn_enumB t a (s1.heap.objs.size + 1) s1.heap.objs.size, ⟨⟨.none, he⟩, IterB.of hit rfl rfl, Nat.succ_ne_self _⟩, fun b hb => ?_, q⟩
    have e' : b = s1.heap.objs.size + 1 ∨ b = s1.heap.objs.size := by simpa using hb
    have hle : s1.heap.objs.size ≤ b := by
      rcases e' with z | z
      · rw [z]; exact Nat.le_add_right _ _
      · rw [z]; exact Nat.le_refl _
    exact I1.fpOk hle (I1.hok.fresh hle)

/-! zip of two -/
def ItzB (t u : Bool) (K : PySem.W.Frag) (a b : Addr) : It :=
  ⟨fun i H => ∃ (xs ys : List V) (x y : V), SqB K H t a xs ∧ SqB K H u b ys ∧ xs[i]? = some x ∧ ys[i]? = some y,
    fun i H v H' => ∃ T x y, v = .ref T ∧ H T = none ∧ H' = upd H T (.tup [x, y]) ∧ (∀ xs, SqB K H t a xs → xs[i]? = some x) ∧ ∀ ys, SqB K H u b ys → ys[i]? = some y,
    fun i H => ∃ xs ys : List V, SqB K H t a xs ∧ SqB K H u b ys ∧ i ≤ xs.length ∧ i ≤ ys.length ∧ (i = xs.length ∨ i = ys.length)⟩
structure ZApart (z TI TO i1 i2 : Addr) : Prop where
  TIz : TI ≠ z
  TOz : TO ≠ z
  TITO : TI ≠ TO
  TIi1 : TI ≠ i1
  TIi2 : TI ≠ i2
  zi1 : z ≠ i1
  zi2 : z ≠ i2
  Ti1 : TO ≠ i1
  Ti2 : TO ≠ i2
  i12 : i1 ≠ i2
theorem turn_zipB {P : Program} {w : World} {K : PySem.W.Frag} {elts : List Expr} {kk : Nat} {tpos : Pos} (t u : Bool) {a b z TI TO i1 i2 : Addr} (D : ZApart z TI TO i1 i2) :
    Turn P w K (.Tuple elts kk tpos) (ItzB t u K a b) [z, TI, TO, i1, i2] z (fun i h => IsZip h z TI TO .none ∧ IsTupOf2 h TI (.ref i1) (.ref i2) ∧ (∃ x y, IsTupOf2 h TO x y) ∧ IterB t h i1 a i ∧ IterB u h i2 b i ∧ TO ≠ a ∧ TO ≠ b) where
  mem := by simp
  obj := fun i h st c hc => by
    obtain ⟨hz, hTI, ⟨x, y, hTO⟩, h1, h2, _⟩ := st
    obtain ⟨o1, e1, _, d1⟩ := h1.obj
    obtain ⟨o2, e2, _, d2⟩ := h2.obj
    have e' : c = z ∨ c = TI ∨ c = TO ∨ c = i1 ∨ c = i2 := by simpa using hc
    rcases e' with q | q | q | q | q
    · rw [q]; exact ⟨_, hz, fun v q => nomatch q⟩
    · rw [q]; exact ⟨_, hTI, fun v q => nomatch q⟩
    · rw [q]; exact ⟨_, hTO, fun v q => nomatch q⟩
    · rw [q]; exact ⟨o1, e1, fun v q => by rw [d1] at q; cases q⟩
    · rw [q]; exact ⟨o2, e2, fun v q => by rw [d2] at q; cases q⟩
  keep := fun i h h' st k => by
    obtain ⟨hz, hTI, ⟨x, y, hTO⟩, h1, h2, h3⟩ := st
    exact ⟨k z (by simp) _ hz, k TI (by simp) _ hTI, ⟨x, y, k TO (by simp) _ hTO⟩, h1.at fun o q => k i1 (by simp) o q, h2.at fun o q => k i2 (by simp) o q, h3⟩
  item := by
    intro X hP hw hK hc i pins s σ H E I hf st hg
    subst hP hw hK
    obtain ⟨hz, hTI, ⟨x0, y0, hTO⟩, h1, h2, na, nb⟩ := st
    obtain ⟨xs, ys, x, y, hqx, hqy, hx, hy⟩ := hg
    obtain ⟨its, rv, p⟩ := sqB_is I hqx
    obtain ⟨its2, rv2, p2⟩ := sqB_is I hqy
    obtain ⟨v1, hu, ru⟩ := rv.get hx
    obtain ⟨v2, hu2, ru2⟩ := rv2.get hy
    have hzl : z < s.heap.objs.size := Heap.lt_size hz
    obtain ⟨o1, ho1, hc1, _⟩ := h1.obj
    obtain ⟨o2, ho2, hc2, _⟩ := h2.obj
    have it1 : ∀ t : Bool, itClsB t ≠ "list" ∧ itClsB t ≠ "tuple" := by decide
    have S : ZipSep2 z TI TO i1 i2 [i1, a] [i2, b] :=
      { TIz := D.TIz, TOz := D.TOz, TITO := D.TITO, TIi1 := D.TIi1, mem1 := by simp, TIi2 := D.TIi2, mem2 := by simp
        zf1 := by simp only [List.mem_cons, List.not_mem_nil, or_false, not_or]; exact ⟨D.zi1, cls_apart p hz rfl (by decide)⟩
        Tf1 := by simp only [List.mem_cons, List.not_mem_nil, or_false, not_or]; exact ⟨D.Ti1, na⟩
        zf2 := by simp only [List.mem_cons, List.not_mem_nil, or_false, not_or]; exact ⟨D.zi2, cls_apart p2 hz rfl (by decide)⟩
        Tf2 := by simp only [List.mem_cons, List.not_mem_nil, or_false, not_or]; exact ⟨D.Ti2, nb⟩
        sep1_2 := by simp only [List.mem_cons, List.not_mem_nil, or_false, not_or]; exact ⟨D.i12, cls_apart p2 ho1 hc1 (it1 t)⟩
        sep2_1 := by simp only [List.mem_cons, List.not_mem_nil, or_false, not_or]; exact ⟨Ne.symm D.i12, cls_apart p ho2 hc2 (it1 u)⟩ }
    have hh1 : X.A.in1.handled = none := I.ok.hd hc
    have hl1 : i < its.toArray.size := by simpa using (List.getElem?_eq_some_iff.mp hu).1
    have hl2 : i < its2.toArray.size := by simpa using (List.getElem?_eq_some_iff.mp hu2).1
    refine wpAny_pyNext_zipD2_item S (drawsB (prog := X.prog) (w := X.w) (A := X.A.in1) t hh1 i1 a (Ne.symm (cls_apart p ho1 hc1 (it1 t))) its.toArray) (drawsB (prog := X.prog) (w := X.w) (A := X.A.in1) u hh1 i2 b (Ne.symm (cls_apart p2 ho2 hc2 (it1 u))) its2.toArray)
      hz hTI hTO ⟨h1, p⟩ ⟨h2, p2⟩ hl1 hl2 fun w1 w2 h' tk P1 P2 z' TO' s1 s2 hT hsz hk => ?_
    have ex1 : w1 = v1 := by
      have : its.toArray[i]? = some v1 := by simpa using hu
      rw [this] at P1
      exact (Option.some.inj P1).symm
    have ex2 : w2 = v2 := by
      have : its2.toArray[i]? = some v2 := by simpa using hu2
      rw [this] at P2
      exact (Option.some.inj P2).symm
    subst ex1 ex2
    refine ⟨_, rfl, wpAny_letOwnedTupleGo_zip (s := { s with heap := h', toks := tk }) z' fun h'' z'' sb => ?_⟩
    have hT2 : h''.get? s.heap.objs.size = some { cls := .type "tuple", data := .seq #[w1, w2] } := (sb.2 _ (Nat.ne_of_gt hzl)).trans hT
    have new : ObjOk X.prog X.w (upd H s.heap.objs.size (.tup [x, y])) h'' s.heap.objs.size (.tup [x, y]) :=
      ⟨by show 2 ≤ sizeLine; decide, [w1, w2], .cons ru (.cons ru2 .nil), ⟨_, hT2, rfl, _, rfl⟩⟩
    have I1 : Inv X pins σ (upd H s.heap.objs.size (.tup [x, y])) { s with heap := h'', toks := tk } :=
      I.turnedNew (t' := tk) (ch := [z, TI, TO, i1, i2]) (fun c o hb q => (sb.2 c (fun q' => hb (by simp [q']))).trans (hk c o (fun q' => hb (by simp [q'])) (fun q' => hb (by simp [q'])) (fun q' => hb (by simp [q'])) (fun q' => hb (by simp [q'])) q)) hf (Nat.le_refl _) new
    refine ⟨.ref s.heap.objs.size, _, I1, rfl, ⟨_, x, y, rfl, I.hok.fresh (Nat.le_refl _), rfl, fun l hl => by rw [sqB_inj I hl hqx]; exact hx, fun l hl => by rw [sqB_inj I hl hqy]; exact hy⟩, ⟨z'', ?_, ⟨w1, w2, ?_⟩, ?_, ?_, na, nb⟩, fun c hcm => ?_⟩
    · exact (sb.2 _ D.TIz).trans (hk _ _ D.TIz D.TITO D.TIi1 D.TIi2 hTI)
    · exact (sb.2 _ D.TOz).trans TO'
    · exact s1.1.at fun o q => (sb.2 _ (Ne.symm D.zi1)).trans q
    · exact s2.1.at fun o q => (sb.2 _ (Ne.symm D.zi2)).trans q
    · have hlt : c < s.heap.objs.size := by
        have e' : c = z ∨ c = TI ∨ c = TO ∨ c = i1 ∨ c = i2 := by simpa using hcm
        rcases e' with q | q | q | q | q
        · rw [q]; exact hzl
        · rw [q]; exact Heap.lt_size hTI
        · rw [q]; exact Heap.lt_size hTO
        · rw [q]; exact Heap.lt_size ho1
        · rw [q]; exact Heap.lt_size ho2
      rw [upd_ne (Nat.ne_of_lt hlt)]
      exact (hf c hcm).1
  done := by
    intro X hP hw hK hc i pins s σ H E I hf st hg
    subst hP hw hK
    obtain ⟨hz, hTI, ⟨x0, y0, hTO⟩, h1, h2, na, nb⟩ := st
    obtain ⟨xs, ys, hqx, hqy, hle1, hle2, hend⟩ := hg
    obtain ⟨its, rv, p⟩ := sqB_is I hqx
    obtain ⟨its2, rv2, p2⟩ := sqB_is I hqy
    have l1 := rv.length
    have l2 := rv2.length
    obtain ⟨o1, ho1, hc1, _⟩ := h1.obj
    obtain ⟨o2, ho2, hc2, _⟩ := h2.obj
    have it1 : ∀ t : Bool, itClsB t ≠ "list" ∧ itClsB t ≠ "tuple" := by decide
    have S : ZipSep2 z TI TO i1 i2 [i1, a] [i2, b] :=
      { TIz := D.TIz, TOz := D.TOz, TITO := D.TITO, TIi1 := D.TIi1, mem1 := by simp, TIi2 := D.TIi2, mem2 := by simp
        zf1 := by simp only [List.mem_cons, List.not_mem_nil, or_false, not_or]; exact ⟨D.zi1, cls_apart p hz rfl (by decide)⟩
        Tf1 := by simp only [List.mem_cons, List.not_mem_nil, or_false, not_or]; exact ⟨D.Ti1, na⟩
        zf2 := by simp only [List.mem_cons, List.not_mem_nil, or_false, not_or]; exact ⟨D.zi2, cls_apart p2 hz rfl (by decide)⟩
        Tf2 := by simp only [List.mem_cons, List.not_mem_nil, or_false, not_or]; exact ⟨D.Ti2, nb⟩
        sep1_2 := by simp only [List.mem_cons, List.not_mem_nil, or_false, not_or]; exact ⟨D.i12, cls_apart p2 ho1 hc1 (it1 t)⟩
        sep2_1 := by simp only [List.mem_cons, List.not_mem_nil, or_false, not_or]; exact ⟨Ne.symm D.i12, cls_apart p ho2 hc2 (it1 u)⟩ }
    have hh1 : X.A.in1.handled = none := I.ok.hd hc
    refine wpAny_pyNext_zipD2_end S (drawsB (prog := X.prog) (w := X.w) (A := X.A.in1) t hh1 i1 a (Ne.symm (cls_apart p ho1 hc1 (it1 t))) its.toArray) (drawsB (prog := X.prog) (w := X.w) (A := X.A.in1) u hh1 i2 b (Ne.symm (cls_apart p2 ho2 hc2 (it1 u))) its2.toArray)
      hz hTI hTO ⟨h1, p⟩ ⟨h2, p2⟩ (by simp; omega) (by simp; omega) (by simp; omega) fun h' tk hk => ⟨rfl, I.turnedL (t' := tk) (ch := [z, TI, TO, i1, i2]) (fun c o hb q =>
      hk c o (fun q' => hb (by simp [q'])) (fun q' => hb (by simp [q'])) (fun q' => hb (by simp [q'])) (fun q' => hb (by simp [q'])) q) hf⟩
  self := fun A i s Q E st h => wpAny_pyIter_zip st.1 h
def iZipB (K : PySem.W.Frag) (ta : TA) : TI := fun σ H R => ta σ H fun vs H1 => ∃ t u a b xs ys, vs = [.ref a, .ref b] ∧ SqB K H1 t a xs ∧ SqB K H1 u b ys ∧ R (ItzB t u K a b) H1
theorem pi_zipB {X : Cx} {e e2 : Expr} {ta : TA} {p pos tpos : Pos} {elts : List Expr} {kk : Nat} (hg : Gl X "zip") (hm : X.mg "zip" = none) (ha : PA X [e, e2] ta)
    (hs : starEach [e, e2] X.env = (false, eval e X.env) :: starEach [e2] X.env := by rfl) (hpl : (backTo pos (starEach [e2] X.env)).any (·.1) = false := by rfl) :
    PI X (.Tuple elts kk tpos) (.Call (.Name "zip" p) [e, e2] [] pos) (iZipB X.K ta) := by
  refine ⟨fun pins s σ H R I h => ?_⟩
  refine Call_ (ld_blt I hg hm PyProof.Rows.boot_zip (PyProof.Rows.callWith_type1 (thn (ha.run pos pins s σ H _ I h) fun us s1 ⟨vs, H1, I1, r1, q1⟩ => ?_) hs hpl))
  obtain ⟨t, u, a, b, xs, ys, ex, hqx, hqy, q⟩ := q1
  subst ex
  cases r1 with
  | cons r rr =>
    cases rr with
    | cons r' rr =>
      cases rr
      cases r
      cases r'
      obtain ⟨its, rv, p1⟩ := sqB_is I1 hqx
      obtain ⟨its2, rv2, p2⟩ := sqB_is I1 hqy
      have la : a < s1.heap.objs.size := by obtain ⟨_, e, _⟩ := p1.obj; exact Heap.lt_size e
      have lb : b < s1.heap.objs.size := by obtain ⟨_, e, _⟩ := p2.obj; exact Heap.lt_size e
      refine zip_begins2 (beginsB t a its.toArray) (beginsB u b its2.toArray) p1 p2 fun h' hz hTI hTO h1 h2 hsz hk => wpAny_pyIter_zip hz ?_
      have I2 : Inv X pins σ H1 { s1 with heap := h' } := I1.kept (t' := s1.toks) hk
      have D : ZApart (s1.heap.objs.size + 4) (s1.heap.objs.size + 2) (s1.heap.objs.size + 3) s1.heap.objs.size (s1.heap.objs.size + 1) := by
        constructor <;> (show ¬ (@Eq Nat _ _); omega)
      refine ⟨s1.heap.objs.size + 4, [s1.heap.objs.size + 4, s1.heap.objs.size + 2, s1.heap.objs.size + 3, s1.heap.objs.size, s1.heap.objs.size + 1], _, _, H1, rfl, I2, turn_zipB t u D,
        ⟨hz, hTI, ⟨_, _, hTO⟩, IterB.of h1 rfl rfl, IterB.of h2 rfl rfl, Nat.ne_of_gt (Nat.lt_of_lt_of_le la (Nat.le_add_right _ _)), Nat.ne_of_gt (Nat.lt_of_lt_of_le lb (Nat.le_add_right _ _))⟩, fun c hcm => ?_, q⟩
      have e' : c = s1.heap.objs.size + 4 ∨ c = s1.heap.objs.size + 2 ∨ c = s1.heap.objs.size + 3 ∨ c = s1.heap.objs.size ∨ c = s1.heap.objs.size + 1 := by simpa using hcm
      have hle : s1.heap.objs.size ≤ c := by
        rcases e' with z | z | z | z | z
        · rw [z]; exact Nat.le_add_right _ _
        · rw [z]; exact Nat.le_add_right _ _
        · rw [z]; exact Nat.le_add_right _ _
        · rw [z]; exact Nat.le_refl _
        · rw [z]; exact Nat.le_add_right _ _
      exact I1.fpOk hle (I1.hok.fresh hle)
end Pl

set_option Elab.async false
set_option linter.all false
set_option maxRecDepth 100000
set_option maxHeartbeats 4000000
/-! Pl5: what loops and comprehensions walk, targets, comprehensions -/
namespace Pl
open PySem PySem.Spec PyProof.Rows L2

/-- S, and all that cannot change, is kept -/
def Kp (S : Addr → Prop) (H H' : Hp) : Prop := ∀ b o, H b = some o → (S b ∨ ¬ Mut (some o)) → H' b = some o
section
variable {K : PySem.W.Frag} {S F G : Addr → Prop} {H H1 H' : Hp} {v : V} {d : D} {a : Addr}
theorem Kp.refl : Kp S H H := fun _ _ e _ => e
theorem Kp.trans (h : Kp S H H1) (h' : Kp S H1 H') : Kp S H H' := fun b o e m => h' b o (h b o e m) m
theorem Kp.imp {S' : Addr → Prop} (h : Kp S H H') (i : ∀ b, S' b → S b) : Kp S' H H' := fun b o e m => h b o e (m.imp (i b) id)
theorem Same.kp (h : Same H H') : Kp S H H' := fun b o e _ => h b o e
theorem Kp.same (h : Kp S H H') (i : ∀ b, H b ≠ none → S b) : Same H H' := fun b o e => h b o e (.inl (i b (by rw [e]; exact fun z => nomatch z)))
theorem not_mut_tup {xs : List V} : ¬ Mut (some (.tup xs)) := fun z => z
theorem not_mut_frz {o : Obj} {u : HO} : ¬ Mut (some (.frz o u)) := fun z => z
theorem Kp.sqt (h : Kp S H H') : ∀ b xs, SqT K H b xs → SqT K H' b xs := fun b xs q => by
  rcases q with (q | ⟨o, q⟩) | q
  · exact .inl (.inl (h _ _ q (.inr not_mut_tup)))
  · exact .inl (.inr ⟨o, h _ _ q (.inr not_mut_frz)⟩)
  · exact .inr q
theorem Kp.sql (h : Kp S H H') {b : Addr} {xs : List V} (hb : S b) (q : SqL K H b xs) : SqL K H' b xs := by
  rcases q with (q | ⟨o, q⟩) | q
  · exact .inl (.inl (h _ _ q (.inl hb)))
  · exact .inl (.inr ⟨o, h _ _ q (.inr not_mut_frz)⟩)
  · exact .inr q
theorem Kp.rp (h : Kp S H H') {L : List Addr} (r : Rp K H v d L) (hl : ∀ b ∈ L, S b) : Rp K H' v d L := r.keep h.sqt d fun b hb o e => h b o e (.inl (hl b hb))
theorem Kp.rpa (h : Kp S H H') {vs : List V} {ds : List D} {L : List Addr} (r : RpA K H vs ds L) (hl : ∀ b ∈ L, S b) : RpA K H' vs ds L := r.keep h.sqt ds fun b hb o e => h b o e (.inl (hl b hb))
theorem RpA.addr : ∀ {vs : List V} {ds : List D} {L : List Addr}, RpA K H vs ds L → ∀ b ∈ L, H b ≠ none
  | [], _, _, h => by cases h; simp
  | _ :: vs, _, _, h => by
    cases h with
    | cons h1 h2 => exact fun b hb => (List.mem_append.mp hb).elim (h1.addr b) (RpA.addr h2 b)
end

/-! ### sources -/
abbrev Src := En → Option (List D × Bool)
/-- J yields xs while S is kept; what is yielded lies within G -/
def Wk (K : PySem.W.Frag) (S : Addr → Prop) (H1 : Hp) (J : It) (xs : List D) (G : Addr → Prop) : Prop := ∀ H, Kp S H1 H →
  (∀ i x, xs[i]? = some x → J.go i H ∧ ∀ v H2, J.yld i H v H2 → Same H H2 ∧ ∃ L, Rp K H2 v x L ∧ ∀ b ∈ L, G b) ∧ J.stop xs.length H
/-- what must be kept -/
def Cd (F : Addr → Prop) (H H' : Hp) (bw : Bool) (S : Addr → Prop) : Prop := (∀ b, H' b ≠ none → S b) ∨ (bw = false ∧ ∀ b, F b ∨ (H b = none ∧ H' b ≠ none) → S b)
def TI' (K : PySem.W.Frag) (s : Src) : TI := fun σ H R => ∃ F env xs bw, Ok K F σ H env ∧ s env = some (xs, bw) ∧ ∀ J H', Same H H' → Sz K H' → xs.length ≤ sizeLine →
  (∀ S, Cd F H H' bw S → Wk K S H' J xs (fun b => F b ∨ (H b = none ∧ H' b ≠ none))) → R J H'
def VI (X : Cx) (tg e : Expr) (s : Src) : Prop := PI X tg e (TI' X.K s)
section
variable {X : Cx} {tg e : Expr}
theorem PI.to {t t' : TI} (h : PI X tg e t) (i : ∀ σ H R, t' σ H R → t σ H (fun J H' => Sz X.K H' → R J H')) : PI X tg e t' :=
  ⟨fun pins s σ H R I w => thn (h.run pins s σ H _ I (i σ H R w)) fun v s1 q => thn q fun u s2 ⟨it, fp, tn, J, H', e1, I1, T, t0, f, r⟩ => ⟨it, fp, tn, J, H', e1, I1, T, t0, f, r (szs_of I1)⟩⟩
theorem PI.or {t t' : TI} (h : PI X tg e t) (h' : PI X tg e t') : PI X tg e (fun σ H R => t σ H R ∨ t' σ H R) :=
  ⟨fun pins s σ H R I w => w.elim (h.run pins s σ H R I) (h'.run pins s σ H R I)⟩
end
def isBw : Fl → Bool
  | .bw => true
  | _ => false
def seqOf : RV → Option (List D × Bool)
  | (.list ds, f) => if isSc f = true then none else some (ds, isBw f)
  | (.tuple ds, _) => some (ds, false)
  | _ => none
def seqTy : RV → Bool
  | (.tuple _, _) => true
  | _ => false
/-- a value that is walked -/
def Sq1 (K : PySem.W.Frag) (F : Addr → Prop) (H H' : Hp) (v : V) (t : Bool) (a : Addr) (vs : List V) (ds : List D) (bw : Bool) : Prop :=
  v = .ref a ∧ ∃ L, RpA K H' vs ds L ∧ (∀ b ∈ L, F b ∨ (H b = none ∧ H' b ≠ none)) ∧ ∀ S, Cd F H H' bw S → ∀ H2, Kp S H' H2 → SqB K H2 t a vs ∧ RpA K H2 vs ds L
theorem Cd.all {F : Addr → Prop} {H H' : Hp} {bw : Bool} : Cd F H H' bw (fun b => H' b ≠ none) := .inl fun _ z => z
theorem Cd.or {F : Addr → Prop} {H H' : Hp} {b1 b2 : Bool} {S : Addr → Prop} (h : Cd F H H' (b1 || b2) S) : Cd F H H' b1 S ∧ Cd F H H' b2 S := by
  rcases h with h | ⟨h1, h2⟩
  · exact ⟨.inl h, .inl h⟩
  · rw [Bool.or_eq_false_iff] at h1
    exact ⟨.inr ⟨h1.1, h2⟩, .inr ⟨h1.2, h2⟩⟩
section
variable {K : PySem.W.Frag} {S F G : Addr → Prop} {H H1 H' : Hp} {v : V} {r : RV} {ds : List D} {bw : Bool}
theorem Cd.mem {L : List Addr} {vs : List V} (c : Cd F H H' bw S) (ra : RpA K H' vs ds L) (hl : ∀ b ∈ L, F b ∨ H b = none) : ∀ b ∈ L, S b := fun b hb => by
  have hn := ra.addr b hb
  rcases c with c | ⟨_, c⟩
  · exact c b hn
  · exact c b ((hl b hb).imp id fun z => ⟨z, hn⟩)
theorem sq_of (h : Res K F H H' v r) (e : seqOf r = some (ds, bw)) : ∃ a vs, Sq1 K F H H' v (seqTy r) a vs ds bw := by
  obtain ⟨d, f⟩ := r
  cases d <;> try (cases (show (none : Option (List D × Bool)) = some (ds, bw) from e))
  · rename_i xs
    have e' : (if isSc f = true then none else some (xs, isBw f)) = some (ds, bw) := e
    split at e'
    · cases e'
    · rename_i hs
      cases e'
      have core : ∃ a vs L, v = .ref a ∧ H' a = some (.lst vs) ∧ RpA K H' vs ds L ∧ (∀ b ∈ L, F b ∨ H b = none) ∧ (isBw f = false → F a ∨ H a = none) := by
        cases f with
        | fz =>
          obtain ⟨L, h1, h2⟩ := h
          cases h1 with
          | lst h3 h4 => exact ⟨_, _, _, rfl, h3, h4, fun b hb => h2 b (List.mem_cons_of_mem _ hb), fun _ => h2 _ List.mem_cons_self⟩
        | ow => obtain ⟨a, h1, h2, vs, L, e, q, hl⟩ := h; exact ⟨a, vs, L, h1, e, q, fun b hb => (hl b hb).1, fun _ => .inr h2⟩
        | bw => obtain ⟨a, h1, vs, L, e, q, hl⟩ := h; exact ⟨a, vs, L, h1, e, q, hl, fun z => nomatch z⟩
        | sc => exact absurd rfl hs
      obtain ⟨a, vs, L, rfl, ha, ra, hl, hfa⟩ := core
      have hn : H' a ≠ none := by rw [ha]; exact fun z => nomatch z
      refine ⟨a, vs, rfl, L, ra, fun b hb => (hl b hb).imp id fun z => ⟨z, ra.addr b hb⟩, fun S c H2 k => ⟨?_, k.rpa ra (c.mem ra hl)⟩⟩
      refine k.sql ?_ (.inl (.inl ha))
      rcases c with c | ⟨hb, c⟩
      · exact c a hn
      · exact c a ((hfa hb).imp id fun z => ⟨z, hn⟩)
  · rename_i xs
    have e' : some (xs, false) = some (ds, bw) := e
    cases e'
    obtain ⟨a, vs, L, rfl, sq, ra, hl⟩ := h.tuple
    exact ⟨a, vs, rfl, L, ra, fun b hb => (hl b hb).imp id fun z => ⟨z, ra.addr b hb⟩, fun S c H2 k => ⟨k.sqt _ _ sq, k.rpa ra (c.mem ra hl)⟩⟩
theorem Sq1.sq {t : Bool} {a : Addr} {vs : List V} (h : Sq1 K F H H' v t a vs ds bw) : SqB K H' t a vs := by
  obtain ⟨_, L, _, _, q⟩ := h
  exact (q _ Cd.all H' Kp.refl).1
theorem Sq1.len {t : Bool} {a : Addr} {vs : List V} (h : Sq1 K F H H' v t a vs ds bw) : vs.length = ds.length := by
  obtain ⟨_, L, ra, _⟩ := h
  exact ra.length
end

section
variable {X : Cx} {tg a b c e : Expr} {ga gb gc : GE} {pos p : Pos}
def seqS (g : GE) : Src := fun env => (g env).bind seqOf
theorem sqB_len {K : PySem.W.Frag} {H : Hp} {t : Bool} {a : Addr} {vs : List V} (z : Sz K H) (h : SqB K H t a vs) : vs.length ≤ sizeLine := by
  cases t with
  | false => exact z.1 a vs h
  | true => exact z.2.1 a vs h
theorem wk_list {K : PySem.W.Frag} {F : Addr → Prop} {H H' : Hp} {v : V} {ds : List D} {bw : Bool} {a : Addr} {vs : List V} (h : Sq1 K F H H' v false a vs ds bw) (S : Addr → Prop) (c : Cd F H H' bw S) :
    Wk K S H' (Itl K a) ds (fun b => F b ∨ (H b = none ∧ H' b ≠ none)) := by
  obtain ⟨_, L, ra, hl, hs⟩ := h
  intro H2 k
  obtain ⟨sq, ra2⟩ := hs S c H2 k
  refine ⟨fun i x hx => ?_, vs, sq, Nat.le_of_eq ra2.length⟩
  obtain ⟨w, M, e1, rw1, hm⟩ := ra2.get hx
  refine ⟨⟨vs, w, sq, e1⟩, fun v2 H3 y => ?_⟩
  obtain ⟨rfl, y⟩ := y
  have := y vs sq
  rw [e1] at this
  cases this
  exact ⟨Same.refl _, M, rw1, fun b hb => hl b (hm b hb)⟩
theorem wk_tup {K : PySem.W.Frag} {F : Addr → Prop} {H H' : Hp} {v : V} {ds : List D} {bw : Bool} {a : Addr} {vs : List V} (h : Sq1 K F H H' v true a vs ds bw) (S : Addr → Prop) (c : Cd F H H' bw S) :
    Wk K S H' (Itt K a) ds (fun b => F b ∨ (H b = none ∧ H' b ≠ none)) := by
  obtain ⟨_, L, ra, hl, hs⟩ := h
  intro H2 k
  obtain ⟨sq, ra2⟩ := hs S c H2 k
  refine ⟨fun i x hx => ?_, vs, sq, Nat.le_of_eq ra2.length⟩
  obtain ⟨w, M, e1, rw1, hm⟩ := ra2.get hx
  refine ⟨⟨vs, w, sq, e1⟩, fun v2 H3 y => ?_⟩
  obtain ⟨rfl, y⟩ := y
  have := y vs sq
  rw [e1] at this
  cases this
  exact ⟨Same.refl _, M, rw1, fun b hb => hl b (hm b hb)⟩
/-- a list or a tuple -/
theorem vi_seq (h : VE X e ga) : VI X tg e (seqS ga) := by
  refine PI.to (PI.or (pi_list h) (pi_tup h)) fun σ H R ⟨F, env, xs, bw, ok, e, q⟩ => ?_
  obtain ⟨r, e1, e2⟩ := bind2 e
  by_cases ht : seqTy r = true
  · refine .inr ⟨F, env, r, ok, e1, fun v H1 s1 z1 r1 => ?_⟩
    obtain ⟨a, vs, sq⟩ := sq_of r1 e2
    rw [ht] at sq
    refine ⟨a, sq.1, ⟨vs, sq.sq⟩, fun sz => q _ H1 s1 sz ?_ fun S c => wk_tup sq S c⟩
    rw [← sq.len]
    exact sqB_len sz sq.sq
  · refine .inl ⟨F, env, r, ok, e1, fun v H1 s1 z1 r1 => ?_⟩
    obtain ⟨a, vs, sq⟩ := sq_of r1 e2
    rw [eq_false_of_ne_true ht] at sq
    refine ⟨a, sq.1, ⟨vs, sq.sq⟩, fun sz => q _ H1 s1 sz ?_ fun S c => wk_list sq S c⟩
    rw [← sq.len]
    exact sqB_len sz sq.sq
/-! ranges -/
def rngL (lo : Int) (n : Nat) : List D := (List.range n).map fun i => .int (lo + (i : Nat))
def rngD (lo : Int) (n : Nat) : List D := (List.range n).map fun i => .int (lo - (i : Nat))
theorem rngL_len {lo : Int} {n : Nat} : (rngL lo n).length = n := by simp [rngL]
theorem rngD_len {lo : Int} {n : Nat} : (rngD lo n).length = n := by simp [rngD]
theorem wk_range {K S H' lo n G} : Wk K S H' (Itr lo n) (rngL lo n) G := by
  intro H k
  refine ⟨fun i x hx => ?_, Nat.le_of_eq rngL_len.symm⟩
  have hi : i < n := by have := (List.getElem?_eq_some_iff.mp hx).1; rwa [rngL_len] at this
  have ex : x = .int (lo + (i : Nat)) := by simpa [rngL, hi] using hx.symm
  subst ex
  refine ⟨hi, fun v H2 y => ?_⟩
  obtain ⟨rfl, rfl⟩ := y
  exact ⟨Same.refl _, [], .int _, by simp⟩
theorem wk_rangeD {K S H' lo n G} : Wk K S H' (Itc lo (-1) n) (rngD lo n) G := by
  intro H k
  refine ⟨fun i x hx => ?_, Nat.le_of_eq rngD_len.symm⟩
  have hi : i < n := by have := (List.getElem?_eq_some_iff.mp hx).1; rwa [rngD_len] at this
  have ex : x = .int (lo - (i : Nat)) := by simpa [rngD, hi] using hx.symm
  subst ex
  refine ⟨hi, fun v H2 y => ?_⟩
  obtain ⟨rfl, rfl⟩ := y
  refine ⟨Same.refl _, [], ?_, by simp⟩
  have e : lo + (i : Int) * -1 = lo - (i : Nat) := by omega
  rw [e]
  exact .int _
def inB (i : Int) : Bool := decide (-(2 ^ 62) ≤ i) && decide (i < 2 ^ 62)
theorem inB_of {i : Int} (h : inB i = true) : -(2 ^ 62) ≤ i ∧ i < 2 ^ 62 := by
  unfold inB at h
  rw [Bool.and_eq_true] at h
  exact ⟨of_decide_eq_true h.1, of_decide_eq_true h.2⟩
def rng1G : List RV → Option (List D × Bool)
  | [(.int j, _)] => if inB j = true ∧ j.toNat ≤ 16777216 then some (rngL 0 j.toNat, false) else none
  | _ => none
def rng2G : List RV → Option (List D × Bool)
  | [(.int i, _), (.int j, _)] => if (inB i = true ∧ inB j = true) ∧ (j - i).toNat ≤ 16777216 then some (rngL i (j - i).toNat, false) else none
  | _ => none
def rng3G : List RV → Option (List D × Bool)
  | [(.int i, _), (.int j, _), (.int c, _)] => if (inB i = true ∧ inB j = true) ∧ (i - j).toNat ≤ 16777216 ∧ c = -1 then some (rngD i (i - j).toNat, false) else none
  | _ => none
def aS (g : List RV → Option (List D × Bool)) (t : GA) : Src := fun env => (t env).bind g
variable {t : GA}
theorem vi_range1 (hg : Gl X "range") (hm : X.mg "range" = none) (ha : VA X [a] t) (hs : starEach [a] X.env = [(false, eval a X.env)] := by rfl) : VI X tg (.Call (.Name "range" p) [a] [] pos) (aS rng1G t) := by
  refine PI.to (pi_range1 hg hm ha hs) fun σ H R ⟨F, env, xs, bw, ok, e, q⟩ => ?_
  obtain ⟨rs, e1, e2⟩ := bind2 e
  refine ⟨F, env, rs, ok, e1, fun vs H1 r1 => ?_⟩
  unfold rng1G at e2
  split at e2
  · rename_i j f
    split at e2
    · rename_i hc
      cases e2
      cases r1 with
      | cons s r1 t1 =>
        cases t1 with
        | nil s1 =>
          obtain ⟨b1, b2⟩ := inB_of hc.1
          exact ⟨j, by rw [r1.int], b1, b2, fun sz => q _ _ (s.trans s1) sz (by rw [rngL_len, sizeLine_eq]; exact hc.2) fun S _ => wk_range⟩
    · cases e2
  · cases e2
theorem vi_range2 (hg : Gl X "range") (hm : X.mg "range" = none) (ha : VA X [a, b] t) (hs : starEach [a, b] X.env = [(false, eval a X.env), (false, eval b X.env)] := by rfl) (hs2 : starEach [b] X.env = [(false, eval b X.env)] := by rfl) : VI X tg (.Call (.Name "range" p) [a, b] [] pos) (aS rng2G t) := by
  refine PI.to (pi_range2 hg hm ha hs hs2) fun σ H R ⟨F, env, xs, bw, ok, e, q⟩ => ?_
  obtain ⟨rs, e1, e2⟩ := bind2 e
  refine ⟨F, env, rs, ok, e1, fun vs H1 r1 => ?_⟩
  unfold rng2G at e2
  split at e2
  · rename_i i f j f2
    split at e2
    · rename_i hc
      cases e2
      cases r1 with
      | cons s r1 t1 =>
        cases t1 with
        | cons s1 r2 t2 =>
          cases t2 with
          | nil s2 =>
            obtain ⟨b1, b2⟩ := inB_of hc.1.1
            obtain ⟨b3, b4⟩ := inB_of hc.1.2
            exact ⟨i, j, by rw [r1.int, r2.int], ⟨b1, b2, b3, b4⟩, fun sz => q _ _ ((s.trans s1).trans s2) sz (by rw [rngL_len, sizeLine_eq]; exact hc.2) fun S _ => wk_range⟩
    · cases e2
  · cases e2
theorem vi_range3 (hg : Gl X "range") (hm : X.mg "range" = none) (ha : VA X [a, b, c] t) (hs : starEach [a, b, c] X.env = (false, eval a X.env) :: starEach [b, c] X.env := by rfl) (hpl : (backTo pos (starEach [b, c] X.env)).any (·.1) = false := by rfl) : VI X tg (.Call (.Name "range" p) [a, b, c] [] pos) (aS rng3G t) := by
  refine PI.to (pi_range3 hg hm ha hs hpl) fun σ H R ⟨F, env, xs, bw, ok, e, q⟩ => ?_
  obtain ⟨rs, e1, e2⟩ := bind2 e
  refine ⟨F, env, rs, ok, e1, fun vs H1 r1 => ?_⟩
  unfold rng3G at e2
  split at e2
  · rename_i i f j f2 k f3
    split at e2
    · rename_i hc
      obtain ⟨⟨c1, c2⟩, c3, rfl⟩ := hc
      cases e2
      cases r1 with
      | cons s r1 t1 =>
        cases t1 with
        | cons s1 r2 t2 =>
          cases t2 with
          | cons s2 r3 t3 =>
            cases t3 with
            | nil s3 =>
              obtain ⟨b1, b2⟩ := inB_of c1
              obtain ⟨b3, b4⟩ := inB_of c2
              exact ⟨i, j, -1, _, by rw [r1.int, r2.int, r3.int], RgC.neg b1 b2 b3 b4, fun sz => q _ _ (((s.trans s1).trans s2).trans s3) sz (by rw [rngD_len, sizeLine_eq]; exact c3) fun S _ => wk_rangeD⟩
    · cases e2
  · cases e2
/-! enumerate, zip -/
def enumL (ds : List D) : List D := ds.zipIdx.map fun p => .tuple [.int (p.2 : Nat), p.1]
def zipL (ds es : List D) : List D := List.zipWith (fun x y => .tuple [x, y]) ds es
def enumG : List RV → Option (List D × Bool)
  | [r] => (seqOf r).map fun p => (enumL p.1, p.2)
  | _ => none
def zipG : List RV → Option (List D × Bool)
  | [r, s] => (seqOf r).bind fun p => (seqOf s).map fun q => (zipL p.1 q.1, p.2 || q.2)
  | _ => none
theorem sq_yield {K : PySem.W.Frag} {H : Hp} {T : Addr} {x y : V} {d e : D} {L M : List Addr} (n : H T = none) (rx : Rp K H x d L) (ry : Rp K H y e M) : Same H (upd H T (.tup [x, y])) ∧ Rp K (upd H T (.tup [x, y])) (.ref T) (.tuple [d, e]) (L ++ (M ++ [])) := by
  have s : Same H (upd H T (.tup [x, y])) := same_new n
  exact ⟨s, .tup (.inl (.inl upd_same)) (.cons (rx.mono s) (.cons (ry.mono s) .nil))⟩
theorem vi_enum {elts : List Expr} {kk : Nat} {tpos : Pos} (hg : Gl X "enumerate") (hm : X.mg "enumerate" = none) (ha : VA X [a] t) (hs : starEach [a] X.env = [(false, eval a X.env)] := by rfl) : VI X (.Tuple elts kk tpos) (.Call (.Name "enumerate" p) [a] [] pos) (aS enumG t) := by
  refine PI.to (pi_enumB hg hm ha hs) fun σ H R ⟨F, env, xs, bw, ok, e, q⟩ => ?_
  obtain ⟨rs, e1, e2⟩ := bind2 e
  refine ⟨F, env, rs, ok, e1, fun vs H1 r1 => ?_⟩
  unfold enumG at e2
  split at e2
  · rename_i r
    cases e3 : seqOf r with
    | none => rw [e3] at e2; cases e2
    | some pr =>
      obtain ⟨ds, bw'⟩ := pr
      rw [e3] at e2
      cases e2
      cases r1 with
      | cons s r1 t1 =>
        cases t1 with
        | nil s1 =>
          obtain ⟨a, ws, sq⟩ := sq_of (r1.mono s1) e3
          have sq' := sq
          obtain ⟨rfl, L, ra, hl, hk⟩ := sq
          refine ⟨seqTy r, a, ws, rfl, sq'.sq, fun sz => q _ _ (s.trans s1) sz ?_ fun S c => ?_⟩
          · have := sqB_len sz sq'.sq
            rw [sq'.len] at this
            simpa [enumL] using this
          · intro H2 k
            obtain ⟨sqb, ra2⟩ := hk S c H2 k
            refine ⟨fun i x hx => ?_, ws, sqb, ?_⟩
            · have hi : i < ds.length := by have := (List.getElem?_eq_some_iff.mp hx).1; simpa [enumL] using this
              have ex : x = .tuple [.int (i : Nat), ds[i]] := by simpa [enumL, hi] using hx.symm
              subst ex
              obtain ⟨w, M, e4, rw1, hm⟩ := ra2.get (List.getElem?_eq_getElem hi)
              refine ⟨⟨ws, w, sqb, e4⟩, fun v2 H3 y => ?_⟩
              obtain ⟨T, x1, rfl, nT, rfl, y⟩ := y
              have := y ws sqb
              rw [e4] at this
              cases this
              obtain ⟨sm, rp⟩ := sq_yield nT (.int (i : Nat)) rw1
              refine ⟨sm, _, rp, fun b hb => ?_⟩
              exact hl b (hm b (by simpa using hb))
            · have := ra2.length
              simp [enumL, this]
  · cases e2
theorem vi_zip {elts : List Expr} {kk : Nat} {tpos : Pos} (hg : Gl X "zip") (hm : X.mg "zip" = none) (ha : VA X [a, b] t)
    (hs : starEach [a, b] X.env = (false, eval a X.env) :: starEach [b] X.env := by rfl) (hpl : (backTo pos (starEach [b] X.env)).any (·.1) = false := by rfl) : VI X (.Tuple elts kk tpos) (.Call (.Name "zip" p) [a, b] [] pos) (aS zipG t) := by
  refine PI.to (pi_zipB hg hm ha hs hpl) fun σ H R ⟨F, env, xs, bw, ok, e, q⟩ => ?_
  obtain ⟨rs, e1, e2⟩ := bind2 e
  refine ⟨F, env, rs, ok, e1, fun vs H1 r1 => ?_⟩
  unfold zipG at e2
  split at e2
  · rename_i r r'
    obtain ⟨⟨ds, bw1⟩, e3, e2⟩ := bind2 e2
    cases e4 : seqOf r' with
    | none => rw [e4] at e2; cases e2
    | some pr =>
      obtain ⟨es, bw2⟩ := pr
      rw [e4] at e2
      cases e2
      cases r1 with
      | cons s r1 t1 =>
        cases t1 with
        | cons s1 r2 t2 =>
          cases t2 with
          | nil s2 =>
            obtain ⟨a, ws, sq⟩ := sq_of (r1.mono (s1.trans s2)) e3
            obtain ⟨a', ws', sq2⟩ := sq_of ((r2.back s).mono s2) e4
            have sq' := sq
            have sq2' := sq2
            obtain ⟨rfl, L, ra, hl, hk⟩ := sq
            obtain ⟨rfl, L', ra', hl', hk'⟩ := sq2
            refine ⟨seqTy r, seqTy r', a, a', ws, ws', rfl, sq'.sq, sq2'.sq, fun sz => q _ _ ((s.trans s1).trans s2) sz ?_ fun S c => ?_⟩
            · have := sqB_len sz sq'.sq
              rw [sq'.len] at this
              have h2 : (zipL ds es).length ≤ ds.length := by simp [zipL]; omega
              exact Nat.le_trans h2 this
            · obtain ⟨c1, c2⟩ := Cd.or c
              intro H2 k
              obtain ⟨sqb, ra2⟩ := hk S c1 H2 k
              obtain ⟨sqb', ra2'⟩ := hk' S c2 H2 k
              have hlen := ra2.length
              have hlen' := ra2'.length
              refine ⟨fun i x hx => ?_, ws, ws', sqb, sqb', ?_⟩
              · have hi : i < ds.length ∧ i < es.length := by have := (List.getElem?_eq_some_iff.mp hx).1; simp [zipL] at this; exact ⟨by omega, by omega⟩
                have ex : x = .tuple [ds[i]'hi.1, es[i]'hi.2] := by
                  have : (zipL ds es)[i]? = some (.tuple [ds[i]'hi.1, es[i]'hi.2]) := by simp [zipL, List.getElem?_zipWith, hi.1, hi.2]
                  rw [this] at hx
                  exact (Option.some.inj hx).symm
                subst ex
                obtain ⟨w, M, e5, rw1, hm⟩ := ra2.get (List.getElem?_eq_getElem hi.1)
                obtain ⟨w', M', e6, rw2, hm'⟩ := ra2'.get (List.getElem?_eq_getElem hi.2)
                refine ⟨⟨ws, ws', w, w', sqb, sqb', e5, e6⟩, fun v2 H3 y => ?_⟩
                obtain ⟨T, x1, x2, rfl, nT, rfl, y1, y2⟩ := y
                have q1 := y1 ws sqb
                rw [e5] at q1
                cases q1
                have q2 := y2 ws' sqb'
                rw [e6] at q2
                cases q2
                obtain ⟨sm, rp⟩ := sq_yield nT rw1 rw2
                refine ⟨sm, _, rp, fun b hb => ?_⟩
                rcases List.mem_append.mp hb with z | z
                · exact hl b (hm b z)
                · exact hl' b (hm' b (by simpa using z))
              · simp [zipL]; omega
  · cases e2
end
end Pl

set_option Elab.async false
set_option linter.all false
set_option maxRecDepth 100000
set_option maxHeartbeats 4000000
/-! Pl6: targets, comprehensions -/
namespace Pl
open PySem PySem.Spec PyProof.Rows L2

mutual
inductive Tg | nm (i : Nat) | tp (ts : Tgs)
inductive Tgs | nil | cons (t : Tg) (ts : Tgs)
end
mutual
def asT : Tg → D → En → Option En
  | .nm i, x, env => some (env.set i (some (x, .fz)))
  | .tp ts, .tuple ds, env => asTs ts ds env
  | .tp ts, .list ds, env => asTs ts ds env
  | .tp _, _, _ => none
def asTs : Tgs → List D → En → Option En
  | .nil, [], env => some env
  | .cons t ts, d :: ds, env => (asT t d env).bind fun e => asTs ts ds e
  | _, _, _ => none
end
mutual
def Tg.vars : Tg → List Nat
  | .nm i => [i]
  | .tp ts => ts.vars
def Tgs.vars : Tgs → List Nat
  | .nil => []
  | .cons t ts => t.vars ++ ts.vars
end
def Tgs.len : Tgs → Nat
  | .nil => 0
  | .cons _ ts => ts.len + 1
theorem asTs_len : ∀ (ts : Tgs) (ds : List D) (env env' : En), asTs ts ds env = some env' → ds.length = ts.len
  | .nil, [], _, _, _ => rfl
  | .nil, _ :: _, _, _, h => by simp [asTs] at h
  | .cons t ts, [], _, _, h => by simp [asTs] at h
  | .cons t ts, d :: ds, env, env', h => by
    rw [asTs] at h
    obtain ⟨e, _, h2⟩ := bind2 h
    have := asTs_len ts ds e env' h2
    simp [Tgs.len, this]
/-- only the slots vs have changed, to frozen values -/
def Chg (vs : List Nat) (env : En) (σ : L2.St) (env' : En) (σ' : L2.St) : Prop := σ'.length = σ.length ∧ ∀ i, (env'[i]? = env[i]? ∧ σ'[i]? = σ[i]?) ∨ (i ∈ vs ∧ ∃ d, env'[i]? = some (some (d, .fz)))
theorem Chg.refl {vs env σ} : Chg vs env σ env σ := ⟨rfl, fun _ => .inl ⟨rfl, rfl⟩⟩
theorem Chg.trans {vs ws env σ env1 σ1 env2 σ2} (h : Chg vs env σ env1 σ1) (h' : Chg ws env1 σ1 env2 σ2) : Chg (vs ++ ws) env σ env2 σ2 :=
  ⟨h'.1.trans h.1, fun i => by
    rcases h'.2 i with ⟨e1, e2⟩ | ⟨m, d, e⟩
    · rcases h.2 i with ⟨e3, e4⟩ | ⟨m, d, e⟩
      · exact .inl ⟨e1.trans e3, e2.trans e4⟩
      · exact .inr ⟨List.mem_append_left _ m, d, e1.trans e⟩
    · exact .inr ⟨List.mem_append_right _ m, d, e⟩⟩
theorem Chg.imp {vs ws env σ env1 σ1} (h : Chg vs env σ env1 σ1) (hv : ∀ i ∈ vs, i ∈ ws) : Chg ws env σ env1 σ1 := ⟨h.1, fun i => (h.2 i).imp id fun z => ⟨hv i z.1, z.2⟩⟩
section
variable {K : PySem.W.Frag} {F F' : Addr → Prop} {H H1 H' : Hp} {σ : L2.St} {env : En} {v : V} {d : D} {i : Nat}
theorem getElem?_set' {α : Type} (l : List α) (i j : Nat) (x : α) : (l.set i x)[j]? = if i = j ∧ j < l.length then some x else l[j]? := by
  rw [List.getElem?_set]
  by_cases h : i = j
  · subst h
    by_cases h2 : i < l.length
    · simp [h2]
    · simp [h2]
  · simp [h]
/-- slot i gets a frozen value -/
theorem Ok.set_fz (ok : Ok K F σ H env) {L : List Addr} (r : Rp K H v d L) (hl : ∀ b ∈ L, F b) : Ok K F (σ.set i (some v)) H (env.set i (some (d, .fz))) ∧ Chg [i] env σ (env.set i (some (d, .fz))) (σ.set i (some v)) := by
  have hlen := ok.len
  have look : ∀ j r0, (env.set i (some (d, .fz)))[j]? = some (some r0) → (i = j ∧ j < σ.length ∧ r0 = (d, .fz) ∧ (σ.set i (some v))[j]? = some (some v)) ∨ (env[j]? = some (some r0) ∧ (σ.set i (some v))[j]? = σ[j]?) := fun j r0 e => by
    rw [getElem?_set'] at e ⊢
    rw [hlen] at e
    by_cases c : i = j ∧ j < σ.length
    · rw [if_pos c] at e ⊢
      exact .inl ⟨c.1, c.2, by cases e; rfl, rfl⟩
    · rw [if_neg c] at e ⊢
      exact .inr ⟨e, rfl⟩
  refine ⟨⟨by simp [hlen], ok.dom, fun j r0 e => ?_, fun j k d1 d2 a hjk e1 e2 e3 e4 => ?_⟩, by simp, fun j => ?_⟩
  · rcases look j r0 e with ⟨_, _, rfl, e2⟩ | ⟨e1, e2⟩
    · exact ⟨v, e2, L, r, hl⟩
    · obtain ⟨w, e3, s⟩ := ok.slot j r0 e1
      exact ⟨w, e2.trans e3, s⟩
  · rcases look j _ e1 with ⟨_, _, q, _⟩ | ⟨p1, p2⟩
    · cases q
    rcases look k _ e2 with ⟨_, _, q, _⟩ | ⟨q1, q2⟩
    · cases q
    exact ok.sep j k d1 d2 a hjk p1 q1 (p2.symm.trans e3) (q2.symm.trans e4)
  · rw [getElem?_set', getElem?_set', hlen]
    by_cases c : i = j ∧ j < σ.length
    · rw [if_pos c, if_pos c]
      exact .inr ⟨by simp [c.1], d, rfl⟩
    · rw [if_neg c, if_neg c]
      exact .inl ⟨rfl, rfl⟩
/-- more is frozen: none of it owned -/
theorem Ok.grow (ok : Ok K F σ H env) (hi : ∀ b, F b → F' b) (hd : ∀ b, F' b → H b ≠ none) (ho : ∀ (i : Nat) (d : D) (a : Addr), env[i]? = some (some (d, .ow)) → σ[i]? = some (some (.ref a)) → ¬ F' a) : Ok K F' σ H env := by
  refine ⟨ok.len, hd, fun i r e => ?_, ok.sep⟩
  obtain ⟨v, e1, s⟩ := ok.slot i r e
  refine ⟨v, e1, ?_⟩
  obtain ⟨d, fl⟩ := r
  cases fl with
  | fz => obtain ⟨L, h1, h2⟩ := s; exact ⟨L, h1, fun b hb => hi b (h2 b hb)⟩
  | ow => obtain ⟨a, rfl, h2, h3⟩ := s; exact ⟨a, rfl, ho i d a e e1, h3.imp hi⟩
  | bw => obtain ⟨a, h1, h3⟩ := s; exact ⟨a, h1, h3.imp hi⟩
  | sc => exact s
theorem Ok.own (ok : Ok K F σ H env) {a : Addr} (e : env[i]? = some (some (d, .ow))) (e1 : σ[i]? = some (some (.ref a))) : ¬ F a ∧ H a ≠ none ∧ Obj1 K F H a d := by
  obtain ⟨v, e2, a', rfl, h2, h3⟩ := ok.slot i _ e
  rw [e2] at e1
  cases e1
  exact ⟨h2, h3.isn, h3⟩
/-- what came new is frozen too -/
theorem Ok.new (ok : Ok K F σ H env) (s : Same H H') : Ok K (fun b => F b ∨ (H b = none ∧ H' b ≠ none)) σ H' env := by
  refine (ok.mono s).grow (fun b hb => .inl hb) (fun b hb => hb.elim (fun z => (ok.mono s).dom b z) fun z => z.2) fun i d a e e1 z => ?_
  have h := ok.own e e1
  exact z.elim h.1 fun z => h.2.1 z.1
end
def TG' (K : PySem.W.Frag) (t : Tg) : TG := fun v σ H Q => ∃ F env env' x L, Ok K F σ H env ∧ Rp K H v x L ∧ (∀ b ∈ L, F b) ∧ asT t x env = some env' ∧ ∀ σ', Chg t.vars env σ env' σ' → Ok K F σ' H env' → Q σ' H
def TGs' (K : PySem.W.Frag) (t : Tgs) : TGs := fun vs σ H Q => ∃ F env env' xs L, Ok K F σ H env ∧ RpA K H vs xs L ∧ (∀ b ∈ L, F b) ∧ asTs t xs env = some env' ∧ ∀ σ', Chg t.vars env σ env' σ' → Ok K F σ' H env' → Q σ' H
def VG (X : Cx) (e : Expr) (t : Tg) : Prop := PG X e (TG' X.K t)
def VGs (X : Cx) (e : List Expr) (t : Tgs) : Prop := PGs X e (TGs' X.K t)
theorem PG.to {X : Cx} {e : Expr} {t t' : TG} (h : PG X e t) (i : ∀ v σ H Q, t' v σ H Q → t v σ H Q) : PG X e t' := ⟨fun pins s σ H v u Q I r w => h.run pins s σ H v u Q I r (i v σ H Q w)⟩
theorem PG.or {X : Cx} {e : Expr} {t t' : TG} (h : PG X e t) (h' : PG X e t') : PG X e (fun v σ H Q => t v σ H Q ∨ t' v σ H Q) := ⟨fun pins s σ H v u Q I r w => w.elim (h.run pins s σ H v u Q I r) (h'.run pins s σ H v u Q I r)⟩
theorem PGs.to {X : Cx} {e : List Expr} {t t' : TGs} (h : PGs X e t) (i : ∀ v σ H Q, t' v σ H Q → t v σ H Q) : PGs X e t' := ⟨fun pins s σ H v u Q I r w => h.run pins s σ H v u Q I r (i v σ H Q w)⟩
section
variable {X : Cx} {pos : Pos} {e : Expr} {es : List Expr}
theorem vg_name (i : Nat) {x : Str} (hN : X.N.Nodup) (hi : X.N[i]? = some x := by rfl) (hx : Loc X.env.scope x := by first | exact Or.inl rfl | exact Or.inr rfl) (hf : X.fn x = true ∨ X.env.scope.names.lookup x = some .local := by first | exact .inl rfl | exact .inr rfl) : VG X (.Name x pos) (.nm i) :=
  PG.to (pg_name hN hi hx hf) fun v σ H Q ⟨F, env, env', x, L, ok, r, hl, e, q⟩ => by
    rw [asT] at e
    cases e
    obtain ⟨o, c⟩ := ok.set_fz (i := i) r hl
    exact q _ c o
theorem vgs_nil : VGs X [] .nil := PGs.to pgs_nil fun vs σ H Q ⟨F, env, env', xs, L, ok, r, hl, e, q⟩ => by
  have := asTs_len _ _ _ _ e
  cases xs with
  | nil =>
    rw [asTs] at e
    cases e
    cases r
    exact ⟨rfl, q _ Chg.refl ok⟩
  | cons _ _ => simp [Tgs.len] at this
theorem vgs_cons {t : Tg} {ts : Tgs} (h : VG X e t) (h' : VGs X es ts) (hs : (assignEach (e :: es) X.env).map (·.2) = assign e X.env :: (assignEach es X.env).map (·.2) := by rfl) : VGs X (e :: es) (.cons t ts) :=
  PGs.to (pgs_cons h h' hs) fun vs σ H Q ⟨F, env, env', xs, L, ok, r, hl, e, q⟩ => by
    cases xs with
    | nil => rw [asTs] at e <;> first | cases e | exact fun z => nomatch z
    | cons d ds =>
      rw [asTs] at e
      obtain ⟨e1, a1, a2⟩ := bind2 e
      cases r with
      | @cons v vs _ _ L M r1 r2 =>
        refine ⟨v, vs, rfl, F, env, e1, d, L, ok, r1, fun b hb => hl b (List.mem_append_left _ hb), a1, fun σ1 c1 o1 => ?_⟩
        exact ⟨F, e1, env', ds, M, o1, r2, fun b hb => hl b (List.mem_append_right _ hb), a2, fun σ2 c2 o2 => q σ2 (by rw [Tgs.vars]; exact c1.trans c2) o2⟩
theorem vg_tup {ts : Tgs} {k : Nat} (hc : X.calm = true) (h : VGs X es ts) (hn : (assignEach es X.env).length = ts.len := by rfl) (hst : (assignEach es X.env).findIdx? (·.1) = none := by rfl) : VG X (.Tuple es k pos) (.tp ts) :=
  PG.to (PG.or (pg_tup hc h hn hst) (pg_unl hc h hn hst)) fun v σ H Q ⟨F, env, env', x, L, ok, r, hl, e, q⟩ => by
    cases x <;> try (rw [asT] at e <;> first | cases e | (intros; exact fun z => nomatch z))
    · rename_i ds
      obtain ⟨a, vs, M, rfl, sq, ra, hm⟩ := r.list
      exact .inr ⟨a, vs, rfl, .inl (.inl sq), ra.length.trans (asTs_len _ _ _ _ e), F, env, env', _, M, ok, ra, fun b hb => hl b (hm b hb), e, fun σ' c o => q σ' (by rw [Tg.vars]; exact c) o⟩
    · obtain ⟨a, vs, rfl, sq, ra⟩ := r.tuple
      exact .inl ⟨a, vs, rfl, sq, ra.length.trans (asTs_len _ _ _ _ e), F, env, env', _, L, ok, ra, hl, e, fun σ' c o => q σ' (by rw [Tg.vars]; exact c) o⟩
end

/-! ### comprehensions -/
def wipeE (env : En) : List Nat → En
  | [] => env
  | v :: vs => (wipeE env vs).set v none
theorem wipeE_length (env : En) : ∀ vs, (wipeE env vs).length = env.length
  | [] => rfl
  | v :: vs => by rw [wipeE, List.length_set, wipeE_length env vs]
theorem wipeE_some {env : En} {i : Nat} {r : RV} : ∀ {vs : List Nat}, (wipeE env vs)[i]? = some (some r) → env[i]? = some (some r) ∧ i ∉ vs
  | [], h => ⟨h, by simp⟩
  | v :: vs, h => by
    rw [wipeE, getElem?_set'] at h
    split at h
    · cases h
    · rename_i hc
      obtain ⟨h1, h2⟩ := wipeE_some h
      refine ⟨h1, ?_⟩
      simp only [List.mem_cons, not_or]
      refine ⟨fun e => hc ⟨e.symm, ?_⟩, h2⟩
      obtain ⟨hh, _⟩ := List.getElem?_eq_some_iff.mp h
      exact hh
theorem Ok.wipe {K F σ H env} (ok : Ok K F σ H env) (vs : List Nat) : Ok K F (L2.wipe σ vs) H (wipeE env vs) := by
  refine ⟨by rw [wipeE_length, wipe_length]; exact ok.len, ok.dom, fun i r e => ?_, fun i j d d' a hij e1 e2 e3 e4 => ?_⟩
  · obtain ⟨e1, hi⟩ := wipeE_some e
    obtain ⟨v, e2, s⟩ := ok.slot i r e1
    exact ⟨v, by rw [wipe_out hi]; exact e2, s⟩
  · obtain ⟨a1, b1⟩ := wipeE_some e1
    obtain ⟨a2, b2⟩ := wipeE_some e2
    rw [wipe_out b1] at e3
    rw [wipe_out b2] at e4
    exact ok.sep i j d d' a hij a1 a2 e3 e4
theorem wipe_in {σ : L2.St} {i : Nat} : ∀ {vs : List Nat}, i ∈ vs → (wipe σ vs)[i]? = if i < σ.length then some none else none
  | [], h => by simp at h
  | v :: vs, h => by
    unfold wipe
    rw [getElem?_set', wipe_length]
    by_cases hv : v = i
    · subst hv
      by_cases h2 : v < σ.length
      · simp [h2]
      · rw [if_neg (fun z => h2 z.2), if_neg h2, List.getElem?_eq_none (by rw [wipe_length]; omega)]
    · rw [if_neg (fun z => hv z.1)]
      rcases List.mem_cons.mp h with z | z
      · exact absurd z.symm hv
      · exact wipe_in z
theorem wipe_ext {σ τ : L2.St} {vs : List Nat} (hl : σ.length = τ.length) (h : ∀ i, i ∉ vs → σ[i]? = τ[i]?) : wipe σ vs = wipe τ vs := by
  apply List.ext_getElem?
  intro i
  by_cases hi : i ∈ vs
  · rw [wipe_in hi, wipe_in hi, hl]
  · rw [wipe_out hi, wipe_out hi, h i hi]
theorem Chg.wipe {vs ws env σ env' σ'} (c : Chg vs env σ env' σ') (h : ∀ i ∈ vs, i ∈ ws) : L2.wipe σ' ws = L2.wipe σ ws :=
  wipe_ext c.1 fun i hi => (c.2 i).elim (fun z => z.2) fun z => absurd (h i z.1) hi
theorem wipe_wipe {σ : L2.St} {vs : List Nat} : wipe (wipe σ vs) vs = wipe σ vs := wipe_ext (wipe_length _ _) fun i hi => wipe_out hi

def lcGo (f : D → Option (Option D)) : List D → Option (List D)
  | [] => some []
  | x :: xs => (f x).bind fun o => (lcGo f xs).map fun ys => o.toList ++ ys
theorem lcGo_snoc (f : D → Option (Option D)) (x : D) : ∀ xs : List D, lcGo f (xs ++ [x]) = (lcGo f xs).bind fun ys => (f x).map fun o => ys ++ o.toList
  | [] => by simp [lcGo]; cases f x <;> simp
  | y :: xs => by
    rw [List.cons_append, lcGo, lcGo_snoc f x xs, lcGo]
    cases f y <;> cases lcGo f xs <;> cases f x <;> simp
theorem lcGo_get {f : D → Option (Option D)} : ∀ {xs ys : List D} {i : Nat} {x : D}, lcGo f xs = some ys → xs[i]? = some x → ∃ zs o, lcGo f (xs.take i) = some zs ∧ f x = some o ∧ lcGo f (xs.take (i + 1)) = some (zs ++ o.toList)
  | [], _, _, _, _, e => by simp at e
  | y :: xs, ys, 0, x, h, e => by
    simp at e
    subst e
    rw [lcGo] at h
    obtain ⟨o, h1, _⟩ := bind2 h
    exact ⟨[], o, rfl, h1, by simp [lcGo, h1]⟩
  | y :: xs, ys, i + 1, x, h, e => by
    rw [lcGo] at h
    obtain ⟨o, h1, h2⟩ := bind2 h
    cases h3 : lcGo f xs with
    | none => rw [h3] at h2; cases h2
    | some ws =>
      obtain ⟨zs, p, q1, q2, q3⟩ := lcGo_get h3 (by simpa using e)
      refine ⟨o.toList ++ zs, p, by simp [lcGo, h1, q1], q2, ?_⟩
      rw [List.take_succ_cons, lcGo, h1, q3]
      simp
def bYes : GB := fun _ => some true
/-- one turn -/
def lcT (tg : Tg) (tt : GB) (te : GE) (W : En) (x : D) : Option (Option D) :=
  (asT tg x W).bind fun e => (tt e).bind fun b => if b = true then (te e).bind fun r => if plainFl r.2 = true then some (some r.1) else none else some none
def lcF (own : List Nat) (tg : Tg) (tt : GB) (te : GE) (env : En) (x : D) : Option (Option D) := lcT tg tt te (wipeE env own) x
def eLc (own : List Nat) (tg : Tg) (src : Src) (tt : GB) (te : GE) : GE := fun env => (src env).bind fun p => (lcGo (lcF own tg tt te env) p.1).map fun ys => (.list ys, .ow)
/-- some of a comprehension's loop: the new list at D -/
structure LcI (K : PySem.W.Frag) (F : Addr → Prop) (H0 H1 : Hp) (A0 : Addr) (ys : List D) (n : Nat) (H : Hp) : Prop where
  same : Same H1 H
  acc : ∃ acc L, H A0 = some (.lst acc) ∧ acc.length ≤ n ∧ RpA K H acc ys L ∧ ∀ b ∈ L, (F b ∨ H0 b = none) ∧ b ≠ A0
theorem sqt_upd {K : PySem.W.Frag} {H : Hp} {D : Addr} {xs ys : List V} (h : H D = some (.lst xs)) : ∀ b zs, SqT K H b zs → SqT K (upd H D (.lst ys)) b zs := fun b zs q => by
  rcases q with (q | ⟨o, q⟩) | q
  · exact .inl (.inl (by rw [upd_ne (ne_of q h (fun z => nomatch z))]; exact q))
  · exact .inl (.inr ⟨o, by rw [upd_ne (ne_of q h (fun z => nomatch z))]; exact q⟩)
  · exact .inr q
theorem LcI.start {K F H0 H1 D} (n : H1 D = none) : LcI K F H0 H1 D [] 0 (upd H1 D (.lst [])) := ⟨same_new n, [], [], upd_same, Nat.le_refl _, .nil, by simp⟩
theorem LcI.skip {K F H0 H1 D ys n H H'} (h : LcI K F H0 H1 D ys n H) (s : Same H H') : LcI K F H0 H1 D ys (n + 1) H' := by
  obtain ⟨acc, L, e, hl, ra, hb⟩ := h.acc
  exact ⟨h.same.trans s, acc, L, s _ _ e, Nat.le_succ_of_le hl, ra.mono s, hb⟩
theorem LcI.push {K F H0 H1 D ys n H H' v d L} (h : LcI K F H0 H1 D ys n H) (s : Same H H') (hD : H1 D = none) (r : Rp K H' v d L) (hl : ∀ b ∈ L, (F b ∨ H0 b = none) ∧ b ≠ D) :
    ∃ acc, H' D = some (.lst acc) ∧ acc.length ≤ n ∧ LcI K F H0 H1 D (ys ++ [d]) (n + 1) (upd H' D (.lst (acc ++ [v]))) := by
  obtain ⟨acc, M, e, hn, ra, hm⟩ := h.acc
  refine ⟨acc, s _ _ e, hn, fun b o q => ?_, acc ++ [v], M ++ (L ++ []), upd_same, by simp; omega, ?_, fun b hb => ?_⟩
  · have nb : b ≠ D := fun z => by rw [z, hD] at q; cases q
    rw [upd_ne nb]
    exact s _ _ (h.same _ _ q)
  · have k := sqt_upd (K := K) (ys := acc ++ [v]) (s _ _ e)
    have k1 : ∀ b ∈ M, ∀ o, H' b = some o → (upd H' D (.lst (acc ++ [v]))) b = some o := fun b hb o q => by rw [upd_ne (hm b hb).2]; exact q
    have k2 : ∀ b ∈ L, ∀ o, H' b = some o → (upd H' D (.lst (acc ++ [v]))) b = some o := fun b hb o q => by rw [upd_ne (hl b hb).2]; exact q
    exact ((ra.mono s).keep k ys k1).append (.cons (r.keep k d k2) .nil)
  · rcases List.mem_append.mp hb with z | z
    · exact hm b z
    · exact hl b (by simpa using z)
/-- one turn's inner part: target, tests, element -/
theorem turn_core {K : PySem.W.Frag} {F Fc : Addr → Prop} {σw : L2.St} {H0 H1 Hc H2 : Hp} {W : En} {own : List Nat} {tg : Tg} {tt : GB} {te : GE} {x : D} {v : V} {L : List Addr} {o : Option D} {D0 : Addr} {ys : List D} {n : Nat} {Nx : Hp → Prop}
    (okc : Ok K Fc σw Hc W) (hF : ∀ b, Fc b → (F b ∨ H0 b = none) ∧ b ≠ D0) (s0 : Same H0 H1) (nD : H1 D0 = none) (inv : LcI K F H0 H1 D0 ys n Hc) (s2 : Same Hc H2) (r : Rp K H2 v x L) (hl : ∀ b ∈ L, Fc b) (hv : ∀ i ∈ tg.vars, i ∈ own) (hn : o ≠ none → n < sizeLine)
    (e : lcT tg tt te W x = some o) (q : ∀ H', (∀ b u, Hc b = some u → b ≠ D0 → H' b = some u) → LcI K F H0 H1 D0 (ys ++ o.toList) (n + 1) H' → Nx H') :
    TG' K tg v σw H2 fun σ2 H3 => wipe σ2 own = wipe σw own ∧ TB' K tt σ2 H3 fun b H4 => if b = true then TE' K te σ2 H4 fun y H5 => ∃ acc, H5 D0 = some (.lst acc) ∧ acc.length < sizeLine ∧ Nx (upd H5 D0 (.lst (acc ++ [y]))) else Nx H4 := by
  unfold lcT at e
  obtain ⟨e1, a1, e⟩ := bind2 e
  obtain ⟨b, a2, e⟩ := bind2 e
  refine ⟨_, W, e1, x, L, okc.mono s2, r, hl, a1, fun σ2 c ok2 => ⟨c.wipe hv, _, e1, b, ok2, a2, fun H4 s4 z4 => ?_⟩⟩
  cases b with
  | false =>
    rw [if_neg Bool.false_ne_true] at e ⊢
    cases e
    exact q H4 (fun b u hb _ => s4 _ _ (s2 _ _ hb)) (by simpa using inv.skip (s2.trans s4))
  | true =>
    rw [if_pos rfl] at e ⊢
    obtain ⟨y, a3, e⟩ := bind2 e
    split at e
    · rename_i hp
      cases e
      obtain ⟨d, f⟩ := y
      obtain ⟨n1, n2⟩ := plain_ne hp
      refine ⟨_, e1, (d, f), ok2.mono s4, a3, fun w H5 s5 z5 rw => ?_⟩
      obtain ⟨M, rm, hm⟩ := rw.frz n1 n2
      have D4 : H4 D0 ≠ none := by
        obtain ⟨acc, _, eD, _⟩ := inv.acc
        rw [s4 _ _ (s2 _ _ eD)]
        exact fun z => nomatch z
      obtain ⟨acc, eD, hacc, inv'⟩ := inv.push ((s2.trans s4).trans s5) nD rm fun b hb => by
        rcases hm b hb with z | z
        · exact hF b z
        · exact ⟨.inr (s0.free (inv.same.free (s2.free (s4.free z)))), fun w => D4 (by rw [← w]; exact z)⟩
      refine ⟨acc, eD, Nat.lt_of_le_of_lt hacc (hn (fun z => nomatch z)), q _ (fun b u hb nb => ?_) inv'⟩
      rw [upd_ne nb]
      exact s5 _ _ (s4 _ _ (s2 _ _ hb))
    · cases e
theorem lc_reads {K : PySem.W.Frag} {F : Addr → Prop} {σ : L2.St} {H : Hp} {Q : VK} {env : En} {own : List Nat} {tg : Tg} {src : Src} {tt : GB} {te : GE} {r : RV} (ok : Ok K F σ H env) (hv : ∀ i ∈ tg.vars, i ∈ own) (e : eLc own tg src tt te env = some r)
    (q : ∀ v H', Same H H' → Res K F H H' v r → Q v H') : tLc (TI' K src) (TG' K tg) (TB' K tt) (TE' K te) own σ H Q := by
  obtain ⟨⟨xs, bw⟩, e1, e⟩ := bind2 e
  cases e2 : lcGo (lcF own tg tt te env) xs with
  | none => rw [e2] at e; cases e
  | some ys =>
    rw [e2] at e
    cases e
    refine ⟨F, env, xs, bw, ok, e1, fun J H1 s1 sz1 hx wk D nD => ?_⟩
    have wk := wk _ Cd.all
    refine ⟨fun i m H2 => m = xs.length - i ∧ i ≤ xs.length ∧ ∃ zs, lcGo (lcF own tg tt te env) (xs.take i) = some zs ∧ LcI K F H H1 D zs i H2, ⟨_, rfl, Nat.zero_le _, [], rfl, LcI.start nD⟩, ?_⟩
    rintro i m H2 ⟨rfl, hi, zs, ez, inv⟩
    obtain ⟨w1, w2⟩ := wk H2 (Same.kp inv.same)
    by_cases hlt : i < xs.length
    · obtain ⟨go, wy⟩ := w1 i xs[i] (List.getElem?_eq_getElem hlt)
      obtain ⟨zs', o, ez', eo, en⟩ := lcGo_get e2 (List.getElem?_eq_getElem hlt)
      rw [ez] at ez'
      cases ez'
      refine .inr ⟨go, fun H' => LcI K F H H1 D (zs ++ o.toList) (i + 1) H', fun H' p => ⟨xs.length - (i + 1), by omega, rfl, hlt, _, en, p⟩, fun v H3 y => ?_⟩
      obtain ⟨s3, L, rv, hl⟩ := wy v H3 y
      have okc := ((ok.new s1).wipe own).mono inv.same
      have hF : ∀ b, (F b ∨ (H b = none ∧ H1 b ≠ none)) → (F b ∨ H b = none) ∧ b ≠ D := fun b z => ⟨z.imp id fun z => z.1, fun w => z.elim (fun z => ok.dom b z (s1.free (by rw [w]; exact nD))) fun z => z.2 (by rw [w]; exact nD)⟩
      have t := turn_core (Nx := fun H' => LcI K F H H1 D (zs ++ o.toList) (i + 1) H') okc hF s1 nD inv s3 rv hl hv (fun _ => Nat.lt_of_lt_of_le hlt hx) eo fun H' _ p => p
      rwa [wipe_wipe] at t
    · have ei : i = xs.length := by omega
      subst ei
      refine .inl ⟨w2, q _ H2 (s1.trans inv.same) ?_⟩
      rw [List.take_length, e2] at ez
      cases ez
      obtain ⟨acc, L, eD, _, ra, hb⟩ := inv.acc
      exact ⟨D, rfl, s1.free nD, acc, L, eD, ra, hb⟩
section
variable {X : Cx} {elt tge iter : Expr} {ifs : List Expr} {scope : Scope} {own : List (Str × Nat)} {pos : Pos} {src : Src} {tg : Tg} {tt : GB} {te : GE}
def VTs (X : Cx) (ifs : List Expr) (g : GB) : Prop := PTs X ifs (TB' X.K g)
theorem PTs.to {X : Cx} {e : List Expr} {t t' : TT} (h : PTs X e t) (i : ∀ σ H Q, t' σ H Q → t σ H (fun v H' => Sz X.K H' → Q v H')) : PTs X e t' :=
  ⟨fun pins s σ H Q I w => thn (h.run pins s σ H _ I (i σ H Q w)) fun u s' ⟨H', I', q⟩ => ⟨H', I', q (szs_of I')⟩⟩
theorem vts_nil : VTs X [] bYes := PTs.to pts_nil fun σ H Q ⟨F, env, r, ok, e, q⟩ => by cases e; exact fun sz => q H (Same.refl H) sz
theorem vts_one {c : Expr} (h : VB X c tt) : VTs X [c] tt := pts_one h
/-- what a clause asks within the block -/
def Blk (X : Cx) (scope : Scope) (P : Cx → Prop) : Prop := ∀ (s : Shared) (H : Hp) (C : Addr) (cl : List (Str × Addr)) (fp : List Addr), P (X.blk s H scope (compEnvC scope cl C X.env) fp)
def memAll (vs ws : List Nat) : Bool := vs.all fun i => ws.contains i
theorem memAll_of {vs ws : List Nat} (h : memAll vs ws = true) : ∀ i ∈ vs, i ∈ ws := fun i hi => by
  unfold memAll at h
  have := List.all_eq_true.mp h i hi
  simpa using this
theorem ve_lc (hc : X.calm = true) (hN : X.N.Nodup) (hi : VI X tge iter src) (ok : BlkOk X.N X.env.scope scope own) (hv : memAll tg.vars (own.map (·.2)) = true)
    (hg : Blk X scope fun Y => VG Y tge tg) (ht : Blk X scope fun Y => VTs Y ifs tt) (he : Blk X scope fun Y => VE Y elt te) (hs : ∀ x, foldedSetIterable iter X.env x = pure x := by intro _; rfl) :
    VE X (.ListComp elt [⟨tge, iter, ifs, 0⟩] scope pos) (eLc (own.map (·.2)) tg src tt te) :=
  PE.to (pe_lc (g := TG' X.K tg) (tt := TB' X.K tt) (te := TE' X.K te) hc hN hi ok (fun s H C cl fp => hg s H C cl fp) (fun s H C cl fp => ht s H C cl fp) (fun s H C cl fp => he s H C cl fp) hs) fun σ H Q ⟨F, env, r, ok, e, q⟩ => lc_reads ok (memAll_of hv) e fun v H' s r sz => q v H' s sz r
end

/-! ### two clauses -/
theorem Ok.keep {K F σ H H' env} (ok : Ok K F σ H env) (t : ∀ b xs, SqT K H b xs → SqT K H' b xs) (f : ∀ b, F b → ∀ o, H b = some o → H' b = some o) (z : ∀ b o u, H b = some (.frz o u) → H' b = some (.frz o u))
    (w : ∀ (i : Nat) (d : D) (fl : Fl) (a : Addr), (fl = .ow ∨ fl = .bw) → env[i]? = some (some (d, fl)) → σ[i]? = some (some (.ref a)) → ∀ o, H a = some o → H' a = some o) : Ok K F σ H' env := by
  refine ⟨ok.len, fun b hb => ?_, fun i r e => ?_, ok.sep⟩
  · cases q : H b with
    | none => exact absurd q (ok.dom b hb)
    | some o => rw [f b hb o q]; exact fun z => nomatch z
  · obtain ⟨v, e1, s⟩ := ok.slot i r e
    refine ⟨v, e1, ?_⟩
    obtain ⟨d, fl⟩ := r
    cases fl with
    | fz => obtain ⟨L, h1, h2⟩ := s; exact ⟨L, h1.keep t d fun b hb => f b (h2 b hb), h2⟩
    | ow => obtain ⟨a, rfl, h2, h3⟩ := s; exact ⟨a, rfl, h2, h3.keep t (w i d _ a (.inl rfl) e e1) f⟩
    | bw => obtain ⟨a, rfl, h3⟩ := s; exact ⟨a, rfl, h3.keep t (w i d _ a (.inr rfl) e e1) f⟩
    | sc => obtain ⟨a, ns, h1, h2, h3⟩ := s; exact ⟨a, ns, h1, h2, h3.imp (fun ⟨o, q⟩ => ⟨o, z _ _ _ q⟩) id⟩
theorem Ok.ownA {K F σ H env} {i : Nat} {d : D} {fl : Fl} {a : Addr} (ok : Ok K F σ H env) (hf : fl = .ow ∨ fl = .bw) (e : env[i]? = some (some (d, fl))) (e1 : σ[i]? = some (some (.ref a))) : H a ≠ none := by
  obtain ⟨v, e2, s⟩ := ok.slot i _ e
  rw [e2] at e1
  cases e1
  rcases hf with rfl | rfl
  · obtain ⟨a', e3, _, h3⟩ := s; cases e3; exact h3.isn
  · obtain ⟨a', e3, h3⟩ := s; cases e3; exact h3.isn
def ccat (f : D → Option (List D)) : List D → Option (List D)
  | [] => some []
  | x :: xs => (f x).bind fun o => (ccat f xs).map fun ys => o ++ ys
theorem ccat_get {f : D → Option (List D)} : ∀ {xs ys : List D} {i : Nat} {x : D}, ccat f xs = some ys → xs[i]? = some x → ∃ zs o rest, ccat f (xs.take i) = some zs ∧ f x = some o ∧ ccat f (xs.take (i + 1)) = some (zs ++ o) ∧ ys = (zs ++ o) ++ rest
  | [], _, _, _, _, e => by simp at e
  | y :: xs, ys, 0, x, h, e => by
    simp at e
    subst e
    rw [ccat] at h
    obtain ⟨o, h1, h2⟩ := bind2 h
    cases h3 : ccat f xs with
    | none => rw [h3] at h2; cases h2
    | some ws => rw [h3] at h2; cases h2; exact ⟨[], o, ws, rfl, h1, by simp [ccat, h1], rfl⟩
  | y :: xs, ys, i + 1, x, h, e => by
    rw [ccat] at h
    obtain ⟨o, h1, h2⟩ := bind2 h
    cases h3 : ccat f xs with
    | none => rw [h3] at h2; cases h2
    | some ws =>
      rw [h3] at h2
      cases h2
      obtain ⟨zs, p, rest, q1, q2, q3, rfl⟩ := ccat_get h3 (by simpa using e)
      refine ⟨o ++ zs, p, rest, by simp [ccat, h1, q1], q2, ?_, by simp⟩
      rw [List.take_succ_cons, ccat, h1, q3]
      simp
theorem lcGo_pre {f : D → Option (Option D)} : ∀ {xs ys : List D} {i : Nat} {zs : List D}, lcGo f xs = some ys → lcGo f (xs.take i) = some zs → ∃ rest, ys = zs ++ rest
  | xs, ys, 0, zs, h, e => by
    rw [List.take_zero, lcGo] at e
    cases e
    exact ⟨ys, rfl⟩
  | [], ys, i + 1, zs, h, e => by
    rw [List.take_nil] at e
    rw [h] at e
    cases e
    exact ⟨[], by simp⟩
  | x :: xs, ys, i + 1, zs, h, e => by
    rw [List.take_succ_cons, lcGo] at e
    rw [lcGo] at h
    obtain ⟨o, h1, h2⟩ := bind2 h
    rw [h1] at e
    cases h3 : lcGo f xs with
    | none => rw [h3] at h2; cases h2
    | some ws =>
      rw [h3] at h2
      cases h2
      cases e3 : lcGo f (xs.take i) with
      | none => simp [e3] at e
      | some us =>
        simp [e3] at e
        subst e
        obtain ⟨rest, rfl⟩ := lcGo_pre h3 e3
        exact ⟨rest, by simp⟩
def lc2F (own own1 : List Nat) (tg : Tg) (tt : GB) (src1 : Src) (tg1 : Tg) (tt1 : GB) (te : GE) (env : En) (x : D) : Option (List D) :=
  (asT tg x (wipeE env own)).bind fun e => (tt e).bind fun b => if b = true then (src1 e).bind fun p => if p.2 = true then none else lcGo (lcT tg1 tt1 te (wipeE e own1)) p.1 else some []
def eLc2 (own own1 : List Nat) (tg : Tg) (src : Src) (tt : GB) (tg1 : Tg) (src1 : Src) (tt1 : GB) (te : GE) : GE := fun env =>
  (src env).bind fun p => (ccat (lc2F own own1 tg tt src1 tg1 tt1 te env) p.1).bind fun ys => if ys.length ≤ 16777216 then some (.list ys, .ow) else none
theorem LcI.fit {K F H0 H1 D0 ys n H} (h : LcI K F H0 H1 D0 ys n H) : LcI K F H0 H1 D0 ys ys.length H := by
  obtain ⟨acc, L, e, hl, ra, hb⟩ := h.acc
  exact ⟨h.same, acc, L, e, Nat.le_of_eq ra.length, ra, hb⟩
theorem iteF {a b : Prop} (h : b) : (if false = true then a else b) := by rw [if_neg Bool.false_ne_true]; exact h
theorem iteT {a b : Prop} (h : a) : (if true = true then a else b) := by rw [if_pos rfl]; exact h
theorem lc2_reads {K : PySem.W.Frag} {F : Addr → Prop} {σ : L2.St} {H : Hp} {Q : VK} {env : En} {own own1 : List Nat} {tg tg1 : Tg} {src src1 : Src} {tt tt1 : GB} {te : GE} {r : RV} (ok : Ok K F σ H env) (hv : ∀ i ∈ tg.vars, i ∈ own) (hv1 : ∀ i ∈ tg1.vars, i ∈ own1)
    (e : eLc2 own own1 tg src tt tg1 src1 tt1 te env = some r) (q : ∀ v H', Same H H' → Res K F H H' v r → Q v H') : tLc2 (TI' K src) (TG' K tg) (TB' K tt) (TI' K src1) (TG' K tg1) (TB' K tt1) (TE' K te) own own1 σ H Q := by
  obtain ⟨⟨xs, bw⟩, e1, e⟩ := bind2 e
  obtain ⟨ys, e2, e⟩ := bind2 e
  split at e
  rotate_left
  · cases e
  rename_i hsz
  cases e
  refine ⟨F, env, xs, bw, ok, e1, fun J H1 s1 sz1 hx wk D0 nD => ?_⟩
  have wk := wk _ Cd.all
  refine ⟨fun i m H2 => m = xs.length - i ∧ i ≤ xs.length ∧ ∃ zs, ccat (lc2F own own1 tg tt src1 tg1 tt1 te env) (xs.take i) = some zs ∧ LcI K F H H1 D0 zs zs.length H2, ⟨_, rfl, Nat.zero_le _, [], rfl, LcI.start nD⟩, ?_⟩
  rintro i m H2 ⟨rfl, hi, zs, ez, inv⟩
  obtain ⟨w1, w2⟩ := wk H2 (Same.kp inv.same)
  by_cases hlt : i < xs.length
  · obtain ⟨go, wy⟩ := w1 i xs[i] (List.getElem?_eq_getElem hlt)
    obtain ⟨zs', o, rest, ez', eo, en, eys⟩ := ccat_get e2 (List.getElem?_eq_getElem hlt)
    rw [ez] at ez'
    cases ez'
    have hsz2 : zs.length + o.length ≤ sizeLine := by
      rw [sizeLine_eq]
      rw [eys] at hsz
      simp at hsz
      omega
    refine .inr ⟨go, fun H' => LcI K F H H1 D0 (zs ++ o) (zs ++ o).length H', fun H' p => ⟨xs.length - (i + 1), by omega, rfl, hlt, _, en, p⟩, fun v H3 y => ?_⟩
    obtain ⟨s3, L, rv, hl⟩ := wy v H3 y
    have okc := ((ok.new s1).wipe own).mono (inv.same.trans s3)
    have hF : ∀ b, (F b ∨ (H b = none ∧ H1 b ≠ none)) → (F b ∨ H b = none) ∧ b ≠ D0 := fun b z => ⟨z.imp id fun z => z.1, fun w => z.elim (fun z => ok.dom b z (s1.free (by rw [w]; exact nD))) fun z => z.2 (by rw [w]; exact nD)⟩
    unfold lc2F at eo
    obtain ⟨ee, a1, eo⟩ := bind2 eo
    obtain ⟨b, a2, eo⟩ := bind2 eo
    refine ⟨_, _, ee, xs[i], L, okc, rv, hl, a1, fun σ2 c ok2 => ⟨by rw [c.wipe hv, wipe_wipe], _, ee, b, ok2, a2, fun H4 s4 z4 => ?_⟩⟩
    have slots : ∀ (i : Nat) (d : D) (fl : Fl) (a : Addr), (fl = .ow ∨ fl = .bw) → ee[i]? = some (some (d, fl)) → σ2[i]? = some (some (.ref a)) → a ≠ D0 := fun i d fl a hf f1 f2 => by
      rcases c.2 i with ⟨g1, g2⟩ | ⟨_, d', g1⟩
      · rw [f1] at g1
        rw [f2] at g2
        obtain ⟨g3, g4⟩ := wipeE_some g1.symm
        rw [wipe_out g4] at g2
        have := ok.ownA hf g3 g2.symm
        rintro rfl
        exact this (s1.free nD)
      · rw [g1] at f1
        cases f1
        rcases hf with z | z <;> cases z
    cases b with
    | false =>
      refine iteF ?_
      rw [if_neg Bool.false_ne_true] at eo
      cases eo
      have := (inv.skip (s3.trans s4)).fit
      simpa using this
    | true =>
      refine iteT ?_
      rw [if_pos rfl] at eo
      obtain ⟨⟨xs1, bw1⟩, a3, eo⟩ := bind2 eo
      split at eo
      · cases eo
      rename_i hb1
      have hb1 : bw1 = false := eq_false_of_ne_true hb1
      subst hb1
      have inv4 := inv.same.trans (s3.trans s4)
      have D4 : H4 D0 ≠ none := by
        obtain ⟨acc, _, eD, _⟩ := inv.acc
        rw [s4 _ _ (s3 _ _ eD)]
        exact fun z => nomatch z
      have ok4 := ok2.mono s4
      refine ⟨_, ee, xs1, false, ok4, a3, fun J1 H5 s5 z5 hx1 wk1 => ?_⟩
      have wk1 := wk1 (fun b => H5 b ≠ none ∧ b ≠ D0) (.inr ⟨rfl, fun b hb => by
        rcases hb with hb | hb
        · exact ⟨(ok4.mono s5).dom b hb, (hF b hb).2⟩
        · exact ⟨hb.2, fun w => D4 (by rw [← w]; exact hb.1)⟩⟩)
      have ok5 := ok4.new s5
      have inv5 : LcI K F H H1 D0 zs zs.length H5 := by
        obtain ⟨acc, L2, eD, hl2, ra2, hb2⟩ := inv.acc
        exact ⟨inv4.trans s5, acc, L2, s5 _ _ (s4 _ _ (s3 _ _ eD)), hl2, ra2.mono ((s3.trans s4).trans s5), hb2⟩
      have hF5 : ∀ b, ((F b ∨ (H b = none ∧ H1 b ≠ none)) ∨ (H4 b = none ∧ H5 b ≠ none)) → (F b ∨ H b = none) ∧ b ≠ D0 := fun b z => by
        rcases z with z | z
        · exact hF b z
        · exact ⟨.inr (s1.free (inv4.free z.1)), fun w => D4 (by rw [← w]; exact z.1)⟩
      refine ⟨fun j k H6 => k = xs1.length - j ∧ j ≤ xs1.length ∧ ∃ us, lcGo (lcT tg1 tt1 te (wipeE ee own1)) (xs1.take j) = some us ∧ LcI K F H H1 D0 (zs ++ us) (zs ++ us).length H6 ∧ ∀ b u, H5 b = some u → b ≠ D0 → H6 b = some u,
        ⟨_, rfl, Nat.zero_le _, [], rfl, by simpa using inv5, fun b u z _ => z⟩, ?_⟩
      rintro j k H6 ⟨rfl, hj, us, eu, inv6, k6⟩
      have kp6 : Kp (fun b => H5 b ≠ none ∧ b ≠ D0) H5 H6 := fun b u hb hm => by
        by_cases nb : b = D0
        · subst nb
          rcases hm with hm | hm
          · exact absurd rfl hm.2
          · obtain ⟨acc, _, eD, _⟩ := inv5.acc
            rw [eD] at hb
            cases hb
            exact absurd trivial hm
        · exact k6 b u hb nb
      obtain ⟨y1, y2⟩ := wk1 H6 kp6
      by_cases hjt : j < xs1.length
      · obtain ⟨go1, wy1⟩ := y1 j xs1[j] (List.getElem?_eq_getElem hjt)
        obtain ⟨us', p, eu', ep, en'⟩ := lcGo_get eo (List.getElem?_eq_getElem hjt)
        rw [eu] at eu'
        cases eu'
        obtain ⟨rest1, eo1⟩ := lcGo_pre eo en'
        refine .inr ⟨go1, fun H' => LcI K F H H1 D0 ((zs ++ us) ++ p.toList) ((zs ++ us) ++ p.toList).length H' ∧ ∀ b u, H5 b = some u → b ≠ D0 → H' b = some u, fun H' pp => ⟨xs1.length - (j + 1), by omega, rfl, hjt, _, en', by simpa [List.append_assoc] using pp.1, pp.2⟩, fun v1 H7 y7 => ?_⟩
        obtain ⟨s7, M, rv1, hm⟩ := wy1 v1 H7 y7
        have okc6 := (ok5.keep (H' := H6) kp6.sqt (fun b hb u hu => k6 b u hu (hF5 b hb).2) (fun b o u hb => kp6 _ _ hb (.inr not_mut_frz)) (fun i d fl a hf f1 f2 u hu => k6 a u hu (slots i d fl a hf f1 f2))).wipe own1
        have t := turn_core (Nx := fun H' => LcI K F H H1 D0 ((zs ++ us) ++ p.toList) ((zs ++ us) ++ p.toList).length H' ∧ ∀ b u, H5 b = some u → b ≠ D0 → H' b = some u) okc6 hF5 s1 nD inv6 s7 rv1 hm hv1 (fun hp => by
          cases p with
          | none => exact absurd rfl hp
          | some d =>
            rw [eo1] at hsz2
            simp at hsz2 ⊢
            omega) ep fun H' kk pp => ⟨pp.fit, fun b u hb nb => kk b u (k6 b u hb nb) nb⟩
        rwa [wipe_wipe] at t
      · have ej : j = xs1.length := by omega
        subst ej
        rw [List.take_length, eo] at eu
        cases eu
        exact .inl ⟨y2, inv6⟩
  · have ei : i = xs.length := by omega
    subst ei
    refine .inl ⟨w2, q _ H2 (s1.trans inv.same) ?_⟩
    rw [List.take_length, e2] at ez
    cases ez
    obtain ⟨acc, L, eD, _, ra, hb⟩ := inv.acc
    exact ⟨D0, rfl, s1.free nD, acc, L, eD, ra, hb⟩
section
variable {X : Cx} {elt tge iter tge1 iter1 : Expr} {ifs ifs1 : List Expr} {scope : Scope} {own : List (Str × Nat)} {own1 : List Nat} {pos : Pos} {src src1 : Src} {tg tg1 : Tg} {tt tt1 : GB} {te : GE}
theorem ve_lc2 (hc : X.calm = true) (hN : X.N.Nodup) (hi : VI X tge iter src) (ok : BlkOk X.N X.env.scope scope own) (ho : memAll own1 (own.map (·.2)) = true) (hv : memAll tg.vars (own.map (·.2)) = true) (hv1 : memAll tg1.vars own1 = true)
    (hg : Blk X scope fun Y => VG Y tge tg) (ht : Blk X scope fun Y => VTs Y ifs tt) (hi1 : Blk X scope fun Y => VI Y tge1 iter1 src1) (hg1 : Blk X scope fun Y => VG Y tge1 tg1) (ht1 : Blk X scope fun Y => VTs Y ifs1 tt1) (he : Blk X scope fun Y => VE Y elt te)
    (hs : ∀ x, foldedSetIterable iter X.env x = pure x := by intro _; rfl) (hs1 : ∀ env x, foldedSetIterable iter1 env x = pure x := by intro _ _; rfl) :
    VE X (.ListComp elt [⟨tge, iter, ifs, 0⟩, ⟨tge1, iter1, ifs1, 0⟩] scope pos) (eLc2 (own.map (·.2)) own1 tg src tt tg1 src1 tt1 te) :=
  PE.to (pe_lc2 (g := TG' X.K tg) (tt := TB' X.K tt) (wi1 := TI' X.K src1) (g1 := TG' X.K tg1) (tt1 := TB' X.K tt1) (te := TE' X.K te) hc hN hi ok (memAll_of ho) (fun s H C cl fp => hg s H C cl fp) (fun s H C cl fp => ht s H C cl fp)
    (fun s H C cl fp => hi1 s H C cl fp) (fun s H C cl fp => hg1 s H C cl fp) (fun s H C cl fp => ht1 s H C cl fp) (fun s H C cl fp => he s H C cl fp) hs hs1) fun σ H Q ⟨F, env, r, ok, e, q⟩ => lc2_reads ok (memAll_of hv) (memAll_of hv1) e fun v H' s r sz => q v H' s sz r
end
end Pl

set_option Elab.async false
set_option linter.all false
set_option maxRecDepth 100000
set_option maxHeartbeats 4000000
/-! Pl7: statements -/
namespace Pl
open PySem PySem.Spec PyProof.Rows L2

inductive Out | nx (e : En) | rt (r : RV) | bk (e : En) | ct (e : En)
abbrev GS := En → Option Out

/-- the state of a def's body. B: the heap at its entry; F0: what was frozen there; P: what nobody writes; F: what is frozen -/
structure SOk (K : PySem.W.Frag) (B : Hp) (F0 P F : Addr → Prop) (σ : L2.St) (H : Hp) (env : En) : Prop where
  ok : Ok K F σ H env
  sB : Same B H
  fr : ∀ b, F b → F0 b ∨ B b = none
  FP : ∀ b, F b → P b
  BP : ∀ b, B b ≠ none → P b
  Pd : ∀ b, P b → H b ≠ none
  ow : ∀ (i : Nat) (d : D) (a : Addr), env[i]? = some (some (d, .ow)) → σ[i]? = some (some (.ref a)) → ¬ P a
  bw : ∀ (i : Nat) (d : D) (a : Addr), env[i]? = some (some (d, .bw)) → σ[i]? = some (some (.ref a)) → P a
/-- a step -/
structure Stp (P F : Addr → Prop) (σ : L2.St) (H : Hp) (env : En) (P' F' : Addr → Prop) (σ' : L2.St) (H' : Hp) (env' : En) : Prop where
  pP : ∀ b, P b → P' b
  pF : ∀ b, F b → F' b
  kp : Kp P H H'
  dom : ∀ b, H b ≠ none → H' b ≠ none
  nw : ∀ b, F' b → F b ∨ H b = none ∨ ¬ P b
  bw : ∀ (i : Nat) (d : D), env'[i]? = some (some (d, .bw)) → env[i]? = some (some (d, .bw)) ∧ σ'[i]? = σ[i]?
  ln : env'.length = env.length
section
variable {K : PySem.W.Frag} {B H H1 H' H2 : Hp} {F0 P F P' F' P2 F2 : Addr → Prop} {σ σ' σ2 : L2.St} {env env' env2 : En} {D' : Ends} {v : V} {d : D} {r : RV}
theorem Stp.refl : Stp P F σ H env P F σ H env := ⟨fun _ z => z, fun _ z => z, Kp.refl, fun _ z => z, fun _ z => .inl z, fun _ _ z => ⟨z, rfl⟩, rfl⟩
theorem Stp.trans (h : Stp P F σ H env P' F' σ' H' env') (h' : Stp P' F' σ' H' env' P2 F2 σ2 H2 env2) : Stp P F σ H env P2 F2 σ2 H2 env2 := by
  refine ⟨fun b z => h'.pP b (h.pP b z), fun b z => h'.pF b (h.pF b z), h.kp.trans (h'.kp.imp h.pP), fun b z => h'.dom b (h.dom b z), fun b z => ?_, fun i d e => ?_, h'.ln.trans h.ln⟩
  · rcases h'.nw b z with z | z | z
    · exact h.nw b z
    · refine .inr (.inl ?_)
      cases q : H b with
      | none => rfl
      | some o => exact absurd z (h.dom b (by rw [q]; exact fun z => nomatch z))
    · exact .inr (.inr fun w => z (h.pP b w))
  · obtain ⟨e1, e2⟩ := h'.bw i d e
    obtain ⟨e3, e4⟩ := h.bw i d e1
    exact ⟨e3, e2.trans e4⟩
theorem Stp.later (s : Same H H') : Stp P F σ H env P F σ H' env := ⟨fun _ z => z, fun _ z => z, Same.kp s, fun b z => Same.dom s z, fun _ z => .inl z, fun _ _ z => ⟨z, rfl⟩, rfl⟩
theorem SOk.later (h : SOk K B F0 P F σ H env) (s : Same H H') : SOk K B F0 P F σ H' env := ⟨h.ok.mono s, h.sB.trans s, h.fr, h.FP, h.BP, fun b z => Same.dom s (h.Pd b z), h.ow, h.bw⟩
/-- what came new is frozen -/
theorem SOk.new (h : SOk K B F0 P F σ H env) (s : Same H H') : SOk K B F0 (fun b => P b ∨ (F b ∨ (H b = none ∧ H' b ≠ none))) (fun b => F b ∨ (H b = none ∧ H' b ≠ none)) σ H' env ∧
    Stp P F σ H env (fun b => P b ∨ (F b ∨ (H b = none ∧ H' b ≠ none))) (fun b => F b ∨ (H b = none ∧ H' b ≠ none)) σ H' env := by
  refine ⟨⟨h.ok.new s, h.sB.trans s, fun b z => ?_, fun b z => .inr z, fun b z => .inl (h.BP b z), fun b z => ?_, fun i d a e e1 z => ?_, fun i d a e e1 => .inl (h.bw i d a e e1)⟩,
    fun b z => .inl z, fun b z => .inl z, Same.kp s, fun b z => Same.dom s z, fun b z => z.imp id fun z => .inl z.1, fun i d z => ⟨z, rfl⟩, rfl⟩
  · exact z.elim (h.fr b) fun z => .inr (h.sB.free z.1)
  · rcases z with z | z | z
    · exact Same.dom s (h.Pd b z)
    · exact Same.dom s (h.ok.dom b z)
    · exact z.2
  · rcases z with z | z | z
    · exact h.ow i d a e e1 z
    · exact (h.ok.own e e1).1 z
    · exact h.ok.ownA (.inl rfl) e e1 z.1
theorem SOk.forget (h : SOk K B F0 P F σ H env) (ws : List Nat) : SOk K B F0 P F σ H (wipeE env ws) ∧ Stp P F σ H env P F σ H (wipeE env ws) := by
  have k : Ok K F σ H (wipeE env ws) := by
    refine ⟨by rw [wipeE_length]; exact h.ok.len, h.ok.dom, fun i r e => h.ok.slot i r (wipeE_some e).1, fun i j d d' a hij e1 e2 e3 e4 => h.ok.sep i j d d' a hij (wipeE_some e1).1 (wipeE_some e2).1 e3 e4⟩
  exact ⟨⟨k, h.sB, h.fr, h.FP, h.BP, h.Pd, fun i d a e e1 => h.ow i d a (wipeE_some e).1 e1, fun i d a e e1 => h.bw i d a (wipeE_some e).1 e1⟩,
    fun _ z => z, fun _ z => z, Kp.refl, fun _ z => z, fun _ z => .inl z, fun i d z => ⟨(wipeE_some z).1, rfl⟩, wipeE_length _ _⟩
/-- targets have been set to frozen values -/
theorem SOk.chg (h : SOk K B F0 P F σ H env) {vs : List Nat} (c : Chg vs env σ env' σ') (ok : Ok K F σ' H env') : SOk K B F0 P F σ' H env' ∧ Stp P F σ H env P F σ' H env' := by
  have back : ∀ (i : Nat) (d : D) (fl : Fl), fl ≠ .fz → env'[i]? = some (some (d, fl)) → env[i]? = some (some (d, fl)) ∧ σ'[i]? = σ[i]? := fun i d fl hf e => by
    rcases c.2 i with ⟨e1, e2⟩ | ⟨_, d', e1⟩
    · exact ⟨e1.symm.trans e, e2⟩
    · rw [e] at e1
      cases e1
      exact absurd rfl hf
  refine ⟨⟨ok, h.sB, h.fr, h.FP, h.BP, h.Pd, fun i d a e e1 => ?_, fun i d a e e1 => ?_⟩, fun _ z => z, fun _ z => z, Kp.refl, fun _ z => z, fun _ z => .inl z, fun i d z => back i d .bw (fun w => nomatch w) z, by rw [ok.len, c.1, h.ok.len]⟩
  · obtain ⟨e2, e3⟩ := back i d .ow (fun w => nomatch w) e
    exact h.ow i d a e2 (e3.symm.trans e1)
  · obtain ⟨e2, e3⟩ := back i d .bw (fun w => nomatch w) e
    exact h.bw i d a e2 (e3.symm.trans e1)
theorem Obj1.impA {G G' : Addr → Prop} {a : Addr} (h : Obj1 K G H a d) (hg : ∀ b, G b → H b ≠ none → G' b) : Obj1 K G' H a d := by
  cases d with
  | list ds => obtain ⟨vs, L, h1, h2, h3⟩ := h; exact ⟨vs, L, h1, h2, fun b hb => hg b (h3 b hb) (h2.addr b hb)⟩
  | dict ds =>
    rcases h with ⟨vs, L, h1, h2, h3, h4⟩ | ⟨vs, L, h1, h2, h3, h4⟩
    · exact .inl ⟨vs, L, h1, h2, h3, fun b hb => hg b (h4 b hb) (h3.addr b hb)⟩
    · exact .inr ⟨vs, L, h1, h2, h3, fun b hb => hg b (h4 b hb) (h3.addr b hb)⟩
  | _ => exact h
/-- a value that comes into a slot -/
def asgV (own : Bool) : RV → Option RV
  | (d, .fz) => some (d, .fz)
  | (d, .ow) => some (d, if own = true then .ow else .fz)
  | _ => none
theorem SOk.set (h : SOk K B F0 P F σ H env) (s : Same H H') (rv : Res K F H H' v r) {own : Bool} {r1 : RV} (e : asgV own r = some r1) (i : Nat) :
    ∃ P' F', SOk K B F0 P' F' (σ.set i (some v)) H' (env.set i (some r1)) ∧ Stp P F σ H env P' F' (σ.set i (some v)) H' (env.set i (some r1)) := by
  have frozen : ∀ d, Res K F H H' v (d, .fz) → ∃ P' F', SOk K B F0 P' F' (σ.set i (some v)) H' (env.set i (some (d, .fz))) ∧ Stp P F σ H env P' F' (σ.set i (some v)) H' (env.set i (some (d, .fz))) := fun d rv => by
    obtain ⟨L, rp, hl⟩ := rv
    obtain ⟨k1, s1⟩ := h.new s
    obtain ⟨o, c⟩ := k1.ok.set_fz (i := i) rp fun b hb => (hl b hb).imp id fun z => ⟨z, rp.addr b hb⟩
    obtain ⟨k2, s2⟩ := k1.chg c o
    exact ⟨_, _, k2, s1.trans s2⟩
  obtain ⟨d, fl⟩ := r
  cases fl with
  | bw => cases e
  | sc => cases e
  | fz => cases e; exact frozen d rv
  | ow =>
    have e' : some (d, if own = true then Fl.ow else Fl.fz) = some r1 := e
    cases e'
    by_cases ho : own = true
    rotate_left
    · rw [if_neg ho]
      exact frozen d (rv.frz (fun z => nomatch z) (fun z => nomatch z))
    rw [if_pos ho]
    obtain ⟨a, rfl, na, ob⟩ := rv
    have hlen := h.ok.len
    have aH : H' a ≠ none := ob.isn
    -- F'
    refine ⟨fun b => P b ∨ (H b = none ∧ H' b ≠ none ∧ b ≠ a), fun b => F b ∨ (H b = none ∧ H' b ≠ none ∧ b ≠ a), ?_, ?_⟩
    · have nFa : ¬ (F a ∨ (H a = none ∧ H' a ≠ none ∧ a ≠ a)) := fun z => z.elim (fun z => h.ok.dom a z na) fun z => z.2.2 rfl
      have look : ∀ j r0, (env.set i (some (d, .ow)))[j]? = some (some r0) → (i = j ∧ j < σ.length ∧ r0 = (d, .ow) ∧ (σ.set i (some (.ref a)))[j]? = some (some (.ref a))) ∨ (env[j]? = some (some r0) ∧ (σ.set i (some (.ref a)))[j]? = σ[j]?) := fun j r0 e => by
        rw [getElem?_set'] at e ⊢
        rw [hlen] at e
        by_cases c : i = j ∧ j < σ.length
        · rw [if_pos c] at e ⊢
          exact .inl ⟨c.1, c.2, by cases e; rfl, rfl⟩
        · rw [if_neg c] at e ⊢
          exact .inr ⟨e, rfl⟩
      have k0 : Ok K (fun b => F b ∨ (H b = none ∧ H' b ≠ none ∧ b ≠ a)) σ H' env := (h.ok.mono s).grow (fun b z => .inl z) (fun b z => z.elim (fun z => Same.dom s (h.ok.dom b z)) fun z => z.2.1) fun j d a' e e1 z => by
        have := h.ok.own e e1
        exact z.elim this.1 fun z => this.2.1 z.1
      refine ⟨⟨by simp [hlen], k0.dom, fun j r0 e => ?_, fun j k d1 d2 a' hjk e1 e2 e3 e4 => ?_⟩, h.sB.trans s, fun b z => ?_, fun b z => z.imp (h.FP b) id, fun b z => .inl (h.BP b z), fun b z => ?_, fun j d1 a' e e1 z => ?_, fun j d1 a' e e1 => ?_⟩
      · rcases look j r0 e with ⟨_, _, rfl, e2⟩ | ⟨e1, e2⟩
        · exact ⟨_, e2, a, rfl, nFa, ob.impA fun b z w => z.1.imp id fun y => ⟨y, w, z.2⟩⟩
        · obtain ⟨w, e3, sl⟩ := k0.slot j r0 e1
          exact ⟨w, e2.trans e3, sl⟩
      · rcases look j _ e1 with ⟨q1, _, _, q4⟩ | ⟨p1, p2⟩
        · rcases look k _ e2 with ⟨r1, _, _, r4⟩ | ⟨g1, g2⟩
          · exact hjk (q1.symm.trans r1)
          · rw [q4] at e3
            cases e3
            rw [g2] at e4
            exact h.ok.ownA (.inl rfl) g1 e4 na
        · rcases look k _ e2 with ⟨r1, _, _, r4⟩ | ⟨g1, g2⟩
          · rw [r4] at e4
            cases e4
            rw [p2] at e3
            exact h.ok.ownA (.inl rfl) p1 e3 na
          · exact h.ok.sep j k d1 d2 a' hjk p1 g1 (p2.symm.trans e3) (g2.symm.trans e4)
      · exact z.elim (h.fr b) fun z => .inr (h.sB.free z.1)
      · exact z.elim (fun z => Same.dom s (h.Pd b z)) fun z => z.2.1
      · rcases look j _ e with ⟨_, _, _, q4⟩ | ⟨p1, p2⟩
        · rw [q4] at e1
          cases e1
          exact z.elim (fun z => h.Pd a z na) fun z => z.2.2 rfl
        · rw [p2] at e1
          exact z.elim (h.ow j d1 a' p1 e1) fun z => h.ok.ownA (.inl rfl) p1 e1 z.1
      · rcases look j _ e with ⟨_, _, q3, _⟩ | ⟨p1, p2⟩
        · cases q3
        · rw [p2] at e1
          exact .inl (h.bw j d1 a' p1 e1)
    · refine ⟨fun b z => .inl z, fun b z => .inl z, Same.kp s, fun b z => Same.dom s z, fun b z => z.imp id fun z => .inl z.1, fun j d1 e => ?_, List.length_set⟩
      rw [getElem?_set'] at e ⊢
      rw [hlen] at e
      split at e
      · cases e
      · rename_i c
        rw [if_neg c]
        exact ⟨e, rfl⟩
/-- an own value is frozen -/
def fzS (env : En) (i : Nat) : En := match env[i]? with
  | some (some (d, .ow)) => env.set i (some (d, .fz))
  | _ => env
theorem SOk.freeze (h : SOk K B F0 P F σ H env) (i : Nat) : ∃ P' F', SOk K B F0 P' F' σ H (fzS env i) ∧ Stp P F σ H env P' F' σ H (fzS env i) := by
  unfold fzS
  split
  rotate_left
  · exact ⟨P, F, h, Stp.refl⟩
  rename_i d e
  obtain ⟨v, ev, a, rfl, nF, ob⟩ := h.ok.slot i _ e
  obtain ⟨L, rp, hl⟩ := ob.rp
  have nP := h.ow i d a e ev
  have hlen := h.ok.len
  have hL : ∀ b, b = a → H b ≠ none := fun b z => by rw [z]; exact ob.isn
  have look : ∀ j r0, (env.set i (some (d, .fz)))[j]? = some (some r0) → (i = j ∧ r0 = (d, .fz)) ∨ (i ≠ j ∧ env[j]? = some (some r0)) := fun j r0 e1 => by
    rw [getElem?_set'] at e1
    by_cases c : i = j
    · subst c
      have hi : i < env.length := (List.getElem?_eq_some_iff.mp e).1
      rw [if_pos ⟨rfl, hi⟩] at e1
      exact .inl ⟨rfl, by cases e1; rfl⟩
    · rw [if_neg fun z => c z.1] at e1
      exact .inr ⟨c, e1⟩
  have fr : ∀ b, F b ∨ b = a → F0 b ∨ B b = none := fun b z => z.elim (h.fr b) fun z => by
    subst z
    refine .inr ?_
    cases q : B b with
    | none => rfl
    | some o => exact absurd (h.BP b (by rw [q]; exact fun z => nomatch z)) nP
  refine ⟨fun b => P b ∨ b = a, fun b => F b ∨ b = a, ⟨⟨by simp [hlen], fun b z => z.elim (h.ok.dom b) (hL b), fun j r0 e1 => ?_, fun j k d1 d2 a' hjk e1 e2 e3 e4 => ?_⟩, h.sB, fr, fun b z => z.imp (h.FP b) id, fun b z => .inl (h.BP b z), fun b z => z.elim (h.Pd b) (hL b), fun j d1 a' e1 e2 z => ?_, fun j d1 a' e1 e2 => ?_⟩, ?_⟩
  · rcases look j r0 e1 with ⟨rfl, rfl⟩ | ⟨hij, e2⟩
    · exact ⟨_, ev, L, rp, hl⟩
    · obtain ⟨w, e3, sl⟩ := h.ok.slot j r0 e2
      refine ⟨w, e3, ?_⟩
      obtain ⟨d0, fl⟩ := r0
      cases fl with
      | fz => obtain ⟨L, h1, h2⟩ := sl; exact ⟨L, h1, fun b hb => .inl (h2 b hb)⟩
      | ow =>
        obtain ⟨a2, rfl, h2, h3⟩ := sl
        refine ⟨a2, rfl, fun z => z.elim h2 fun z => ?_, h3.imp fun b z => .inl z⟩
        subst z
        exact h.ok.sep i j _ _ _ hij e e2 ev e3
      | bw => obtain ⟨a2, h1, h3⟩ := sl; exact ⟨a2, h1, h3.imp fun b z => .inl z⟩
      | sc => exact sl
  · rcases look j _ e1 with ⟨_, q⟩ | ⟨_, p1⟩
    · cases q
    rcases look k _ e2 with ⟨_, q⟩ | ⟨_, p2⟩
    · cases q
    exact h.ok.sep j k d1 d2 a' hjk p1 p2 e3 e4
  · rcases look j _ e1 with ⟨_, q⟩ | ⟨hij, p1⟩
    · cases q
    rcases z with z | z
    · exact h.ow j d1 a' p1 e2 z
    · subst z
      exact h.ok.sep i j _ _ _ hij e p1 ev e2
  · rcases look j _ e1 with ⟨_, q⟩ | ⟨hij, p1⟩
    · cases q
    exact .inl (h.bw j d1 a' p1 e2)
  · refine ⟨fun b z => .inl z, fun b z => .inl z, Kp.refl, fun b z => z, fun b z => z.imp id fun z => .inr ?_, fun j d1 e1 => ?_, List.length_set⟩
    · subst z; exact nP
    · rcases look j _ e1 with ⟨_, q⟩ | ⟨hij, p1⟩
      · cases q
      · exact ⟨p1, rfl⟩
end

/-! ### readings -/
def Post (D : Ends) (K : PySem.W.Frag) (B : Hp) (F0 P F : Addr → Prop) (σ : L2.St) (H : Hp) (env : En) : Out → Prop
  | .nx e => ∀ P' F' σ' H', SOk K B F0 P' F' σ' H' e → Stp P F σ H env P' F' σ' H' e → D.nx σ' H'
  | .bk e => ∀ P' F' σ' H', SOk K B F0 P' F' σ' H' e → Stp P F σ H env P' F' σ' H' e → D.bk σ' H'
  | .ct e => ∀ P' F' σ' H', SOk K B F0 P' F' σ' H' e → Stp P F σ H env P' F' σ' H' e → D.ct σ' H'
  | .rt r => ∀ v H', Same B H' → Res K F0 B H' v r → D.rt v H'
def TS' (K : PySem.W.Frag) (g : GS) : TS := fun D σ H => ∃ B F0 P F env out, SOk K B F0 P F σ H env ∧ g env = some out ∧ Post D K B F0 P F σ H env out
def VS (X : Cx) (st : Stmt) (g : GS) : Prop := PS X st (TS' X.K g)
def VSs (X : Cx) (st : List Stmt) (g : GS) : Prop := PSs X st (TS' X.K g)
section
variable {K : PySem.W.Frag} {B H H1 H' H2 : Hp} {F0 P F P' F' P2 F2 : Addr → Prop} {σ σ' σ2 : L2.St} {env env' env2 : En} {Dd : Ends} {v : V} {d : D} {r : RV} {out : Out}
theorem Post.step (s : Stp P F σ H env P' F' σ' H' env') (p : Post Dd K B F0 P F σ H env out) : Post Dd K B F0 P' F' σ' H' env' out := by
  cases out with
  | nx e => exact fun P' F' σ' H' h s' => p P' F' σ' H' h (s.trans s')
  | bk e => exact fun P' F' σ' H' h s' => p P' F' σ' H' h (s.trans s')
  | ct e => exact fun P' F' σ' H' h s' => p P' F' σ' H' h (s.trans s')
  | rt r => exact p
theorem SOk.ret (h : SOk K B F0 P F σ H env) (rv : Res K F H H' v r) : Res K F0 B H' v r := (rv.back h.sB).imp h.fr
end
section
variable {X : Cx} {st : Stmt} {rest a b : List Stmt} {ga gr gb : GS} {pos : Pos}
theorem PS.to {t t' : TS} (h : PS X st t) (i : ∀ D σ H, t' D σ H → t D σ H) : PS X st t' := ⟨fun pins s σ H D I w => h.run pins s σ H D I (i D σ H w)⟩
theorem PSs.to {t t' : TS} (h : PSs X rest t) (i : ∀ D σ H, t' D σ H → t D σ H) : PSs X rest t' := ⟨fun pins s σ H D I w => h.run pins s σ H D I (i D σ H w)⟩
def sSkip : GS := fun env => some (.nx env)
def sSeq (g h : GS) : GS := fun env => (g env).bind fun o => match o with
  | .nx e => h e
  | o => some o
theorem vss_nil : VSs X [] sSkip := PSs.to pss_nil fun D σ H ⟨B, F0, P, F, env, out, h, e, p⟩ => by
  cases e
  exact p P F σ H h Stp.refl
theorem vs_pass : VS X (.Pass pos) sSkip := PS.to ps_pass fun D σ H ⟨B, F0, P, F, env, out, h, e, p⟩ => by
  cases e
  exact p P F σ H h Stp.refl
def sBk : GS := fun env => some (.bk env)
def sCt : GS := fun env => some (.ct env)
theorem vs_break : VS X (.Break pos) sBk := PS.to ps_break fun D σ H ⟨B, F0, P, F, env, out, h, e, p⟩ => by
  cases e
  exact p P F σ H h Stp.refl
theorem vs_continue : VS X (.Continue pos) sCt := PS.to ps_continue fun D σ H ⟨B, F0, P, F, env, out, h, e, p⟩ => by
  cases e
  exact p P F σ H h Stp.refl
theorem vss_cons (h1 : VS X st ga) (h2 : VSs X rest gr) : VSs X (st :: rest) (sSeq ga gr) := PSs.to (pss_cons h1 h2) fun D σ H ⟨B, F0, P, F, env, out, h, e, p⟩ => by
  obtain ⟨o, e1, e2⟩ := bind2 e
  refine ⟨B, F0, P, F, env, o, h, e1, ?_⟩
  cases o with
  | nx e3 => exact fun P' F' σ' H' h' s' => ⟨B, F0, P', F', e3, out, h', e2, p.step s'⟩
  | bk _ => cases e2; exact p
  | ct _ => cases e2; exact p
  | rt _ => cases e2; exact p
theorem vss_one (h1 : VS X st ga) : VSs X [st] ga := pss_one h1
/-- own values frozen ahead of a statement -/
def sPre (i : Nat) (g : GS) : GS := fun env => g (fzS env i)
theorem TS'.pre {K : PySem.W.Frag} {g : GS} {D : Ends} {σ : L2.St} {H : Hp} {i : Nat} (h : TS' K (sPre i g) D σ H) : TS' K g D σ H := by
  obtain ⟨B, F0, P, F, env, out, h, e, p⟩ := h
  obtain ⟨P', F', h', s'⟩ := h.freeze i
  exact ⟨B, F0, P', F', _, out, h', e, p.step s'⟩
theorem vs_pre (i : Nat) (h : VS X st ga) : VS X st (sPre i ga) := PS.to h fun D σ H q => q.pre
/-- slots forgotten behind a statement -/
def fgO (ws : List Nat) : Out → Out
  | .nx e => .nx (wipeE e ws)
  | o => o
def sFg (ws : List Nat) (g : GS) : GS := fun env => (g env).map (fgO ws)
theorem vs_fg (ws : List Nat) (h : VS X st ga) : VS X st (sFg ws ga) := PS.to h fun D σ H ⟨B, F0, P, F, env, out, h, e, p⟩ => by
  unfold sFg at e
  cases e1 : ga env with
  | none => rw [e1] at e; cases e
  | some o =>
    rw [e1] at e
    cases e
    refine ⟨B, F0, P, F, env, o, h, e1, ?_⟩
    cases o with
    | nx e => exact fun P' F' σ' H' h' s' => p P' F' σ' H' (h'.forget ws).1 (s'.trans (h'.forget ws).2)
    | bk _ => exact p
    | ct _ => exact p
    | rt _ => exact p
def sIf (c : GB) (g h : GS) : GS := fun env => (c env).bind fun k => if k = true then g env else h env
theorem vs_if {c : Expr} {gc : GB} (hc : VB X c gc) (ha : VSs X a ga) (hb : VSs X b gb) : VS X (.If c a b pos) (sIf gc ga gb) := PS.to (ps_if hc ha hb) fun D σ H ⟨B, F0, P, F, env, out, h, e, p⟩ => by
  obtain ⟨k, e1, e2⟩ := bind2 e
  refine ⟨F, env, k, h.ok, e1, fun H' s _ => ?_⟩
  have h' := h.later s
  have p' := p.step (Stp.later (P := P) (F := F) (σ := σ) (env := env) s)
  cases k with
  | true => exact iteT ⟨B, F0, P, F, env, out, h', e2, p'⟩
  | false => exact iteF ⟨B, F0, P, F, env, out, h', e2, p'⟩
/-! return -/
def retV : RV → Option RV
  | (d, .fz) => some (d, .fz)
  | (d, .ow) => some (d, .ow)
  | _ => none
def sRet (g : GE) : GS := fun env => ((g env).bind retV).map .rt
theorem retV_of {r r' : RV} (h : retV r = some r') : r' = r := by
  obtain ⟨d, f⟩ := r
  cases f <;> cases h <;> rfl
theorem vs_ret {e : Expr} {g : GE} (he : VE X e g) : VS X (.Return (some e) pos) (sRet g) := PS.to (ps_ret he) fun D σ H ⟨B, F0, P, F, env, out, h, e, p⟩ => by
  unfold sRet at e
  cases e1 : (g env).bind retV with
  | none => rw [e1] at e; cases e
  | some r =>
    rw [e1] at e
    cases e
    obtain ⟨r0, e2, e3⟩ := bind2 e1
    cases retV_of e3
    exact ⟨F, env, _, h.ok, e2, fun v H' s _ rv => p v H' (h.sB.trans s) (h.ret rv)⟩
def sRetN : GS := fun _ => some (.rt (.none, .fz))
theorem vs_retN : VS X (.Return none pos) sRetN := PS.to ps_retN fun D σ H ⟨B, F0, P, F, env, out, h, e, p⟩ => by
  cases e
  exact p .non H h.sB Res.ofNone
/-- return of a name whose own value goes out -/
def sRetM (i : Nat) : GS := fun env => match env[i]? with
  | some (some (d, .ow)) => some (.rt (d, .ow))
  | some (some (d, .fz)) => some (.rt (d, .fz))
  | _ => none
theorem vs_retM (i : Nat) {x : Str} {p2 : Pos} (hN : X.N[i]? = some x := by rfl) (hv : Vis X.env.scope x := by first | exact Or.inl rfl | exact Or.inr (Or.inl rfl) | exact Or.inr (Or.inr rfl)) (hd : (x == ("__debug__" : Str)) = false := by decide)
    (hcd : (x == ("__classdict__" : Str)) = false := by decide) : VS X (.Return (some (.Name x p2)) pos) (sRetM i) := PS.to (ps_ret (pe_var hN hv hd hcd)) fun D σ H ⟨B, F0, P, F, env, out, h, e, p⟩ => by
  unfold sRetM at e
  split at e
  · rename_i d e1
    cases e
    obtain ⟨v, e2, a, rfl, nF, ob⟩ := h.ok.slot i _ e1
    refine ⟨_, e2, p _ H h.sB ⟨a, rfl, ?_, ob.imp fun b hb => ⟨h.fr b hb, fun z => nF (by rw [← z]; exact hb)⟩⟩⟩
    cases q : B a with
    | none => rfl
    | some o => exact absurd (h.BP a (by rw [q]; exact fun z => nomatch z)) (h.ow i d a e1 e2)
  · rename_i d e1
    cases e
    obtain ⟨v, e2, L, rp, hl⟩ := h.ok.slot i _ e1
    exact ⟨_, e2, p _ H h.sB ⟨L, rp, fun b hb => h.fr b (hl b hb)⟩⟩
  · cases e
/-! name = value -/
def sAsg (i : Nat) (own : Bool) (g : GE) : GS := fun env => ((g env).bind (asgV own)).map fun r => .nx (env.set i (some r))
theorem asg_reads {K : PySem.W.Frag} {i : Nat} {own : Bool} {g : GE} {D : Ends} {σ : L2.St} {H : Hp} (h : TS' K (sAsg i own g) D σ H) :
    ∃ F env r, Ok K F σ H env ∧ g env = some r ∧ ∀ v H', Same H H' → Res K F H H' v r → D.nx (σ.set i (some v)) H' := by
  obtain ⟨B, F0, P, F, env, out, h, e, p⟩ := h
  unfold sAsg at e
  cases e1 : (g env).bind (asgV own) with
  | none => rw [e1] at e; cases e
  | some r1 =>
    rw [e1] at e
    cases e
    obtain ⟨r, e2, e3⟩ := bind2 e1
    refine ⟨F, env, r, h.ok, e2, fun v H' s rv => ?_⟩
    obtain ⟨P', F', k, st⟩ := h.set s rv e3 i
    exact p P' F' _ H' k st
theorem vs_asg (i : Nat) (own : Bool) {x : Str} {e : Expr} {g : GE} {pos' : Pos} (hN : X.N.Nodup) (he : VE X e g) (hi : X.N[i]? = some x := by rfl) (hx : Loc X.env.scope x := by first | exact Or.inl rfl | exact Or.inr rfl) (hs : swapsWith e (some (.Name x pos')) pos.line X.env = pure false := by rfl)
    (hf : X.fn x = true ∨ X.env.scope.names.lookup x = some .local := by first | exact .inl rfl | exact .inr rfl) : VS X (.Assign [.Name x pos'] e pos) (sAsg i own g) :=
  PS.to (ps_set hN hi hx he hs hf) fun D σ H q => by
    obtain ⟨F, env, r, ok, e1, p⟩ := asg_reads q
    exact ⟨F, env, r, ok, e1, fun v H' s _ rv => p v H' s rv⟩
theorem vs_asgLc (i : Nat) (own : Bool) {y : Str} {py : Pos} {elt tge iter : Expr} {ifs : List Expr} {scope : Scope} {ownL : List (Str × Nat)} {pos spos : Pos} {src : Src} {tg : Tg} {tt : GB} {te : GE} (hc : X.calm = true) (hN : X.N.Nodup)
    (hi : VI X tge iter src) (ok : BlkOk X.N X.env.scope scope ownL) (hv : memAll tg.vars (ownL.map (·.2)) = true)
    (hg : Blk X scope fun Y => VG Y tge tg) (ht : Blk X scope fun Y => VTs Y ifs tt) (he : Blk X scope fun Y => VE Y elt te) (hy : X.N[i]? = some y := by rfl) (hyl : X.env.scope.names.lookup y = some .local := by rfl)
    (hsw : swapsWith (.ListComp elt [⟨tge, iter, ifs, 0⟩] scope pos) (some (.Name y py)) spos.line X.env = pure true := by first | exact sw_true rfl rfl rfl rfl | rfl) (hs : ∀ x, foldedSetIterable iter X.env x = pure x := by intro _; rfl) :
    VS X (.Assign [.Name y py] (.ListComp elt [⟨tge, iter, ifs, 0⟩] scope pos) spos) (sAsg i own (eLc (ownL.map (·.2)) tg src tt te)) :=
  PS.to (ps_setLc (g := TG' X.K tg) (tt := TB' X.K tt) (te := TE' X.K te) hc hN hy hyl hsw hi ok (fun s H C cl fp => hg s H C cl fp) (fun s H C cl fp => ht s H C cl fp) (fun s H C cl fp => he s H C cl fp) hs) fun D σ H q => by
    obtain ⟨F, env, r, ok, e1, p⟩ := asg_reads q
    exact lc_reads ok (memAll_of hv) e1 fun v H' s rv => p v H' s rv
theorem vs_asgLc2 (i : Nat) (own : Bool) {y : Str} {py : Pos} {elt tge iter tge1 iter1 : Expr} {ifs ifs1 : List Expr} {scope : Scope} {ownL : List (Str × Nat)} {own1 : List Nat} {pos spos : Pos} {src src1 : Src} {tg tg1 : Tg} {tt tt1 : GB} {te : GE} (hc : X.calm = true) (hN : X.N.Nodup)
    (hi : VI X tge iter src) (ok : BlkOk X.N X.env.scope scope ownL) (ho : memAll own1 (ownL.map (·.2)) = true) (hv : memAll tg.vars (ownL.map (·.2)) = true) (hv1 : memAll tg1.vars own1 = true)
    (hg : Blk X scope fun Y => VG Y tge tg) (ht : Blk X scope fun Y => VTs Y ifs tt) (hi1 : Blk X scope fun Y => VI Y tge1 iter1 src1) (hg1 : Blk X scope fun Y => VG Y tge1 tg1) (ht1 : Blk X scope fun Y => VTs Y ifs1 tt1) (he : Blk X scope fun Y => VE Y elt te)
    (hy : X.N[i]? = some y := by rfl) (hyl : X.env.scope.names.lookup y = some .local := by rfl)
    (hsw : swapsWith (.ListComp elt [⟨tge, iter, ifs, 0⟩, ⟨tge1, iter1, ifs1, 0⟩] scope pos) (some (.Name y py)) spos.line X.env = pure true := by first | exact sw_true rfl rfl rfl rfl | rfl)
    (hs : ∀ x, foldedSetIterable iter X.env x = pure x := by intro _; rfl) (hs1 : ∀ env x, foldedSetIterable iter1 env x = pure x := by intro _ _; rfl) :
    VS X (.Assign [.Name y py] (.ListComp elt [⟨tge, iter, ifs, 0⟩, ⟨tge1, iter1, ifs1, 0⟩] scope pos) spos) (sAsg i own (eLc2 (ownL.map (·.2)) own1 tg src tt tg1 src1 tt1 te)) :=
  PS.to (ps_setLc2 (g := TG' X.K tg) (tt := TB' X.K tt) (wi1 := TI' X.K src1) (g1 := TG' X.K tg1) (tt1 := TB' X.K tt1) (te := TE' X.K te) hc hN hy hyl hsw hi ok (memAll_of ho) (fun s H C cl fp => hg s H C cl fp) (fun s H C cl fp => ht s H C cl fp)
    (fun s H C cl fp => hi1 s H C cl fp) (fun s H C cl fp => hg1 s H C cl fp) (fun s H C cl fp => ht1 s H C cl fp) (fun s H C cl fp => he s H C cl fp) hs hs1) fun D σ H q => by
    obtain ⟨F, env, r, ok, e1, p⟩ := asg_reads q
    exact lc2_reads ok (memAll_of hv) (memAll_of hv1) e1 fun v H' s rv => p v H' s rv
/-! a, b = value -/
def sAsgT (tg : Tg) (g : GE) : GS := fun env => (g env).bind fun r => if plainFl r.2 = true then (asT tg r.1 env).map .nx else none
theorem vs_asgT {tge e : Expr} {tg : Tg} {g : GE} (he : VE X e g) (hg : VG X tge tg) (hs : swapsWithSole [tge] e pos.line X.env = pure false := by rfl) (hw : swappedStores [tge] e X.env = pure none := by rfl)
    (h1 : (assignEach [tge] X.env).map (·.2) = [assign tge X.env] := by rfl) : VS X (.Assign [tge] e pos) (sAsgT tg g) :=
  PS.to (ps_asg he hg hs hw h1) fun D σ H ⟨B, F0, P, F, env, out, h, e, p⟩ => by
    obtain ⟨r, e1, e2⟩ := bind2 e
    split at e2
    rotate_left
    · cases e2
    rename_i hp
    obtain ⟨d, fl⟩ := r
    obtain ⟨n1, n2⟩ := plain_ne hp
    cases e3 : asT tg d env with
    | none =>
      have e2' : (asT tg d env).map Out.nx = some out := e2
      rw [e3] at e2'; cases e2'
    | some env' =>
      have e2' : (asT tg d env).map Out.nx = some out := e2
      rw [e3] at e2'
      cases e2'
      refine ⟨F, env, _, h.ok, e1, fun v H' s _ rv => ?_⟩
      obtain ⟨L, rp, hl⟩ := rv.frz n1 n2
      obtain ⟨k1, s1⟩ := h.new s
      refine ⟨_, env, env', d, L, k1.ok, rp, fun b hb => (hl b hb).imp id fun z => ⟨z, rp.addr b hb⟩, e3, fun σ' c o => ?_⟩
      obtain ⟨k2, s2⟩ := k1.chg c o
      exact p _ _ _ _ k2 (s1.trans s2)
end
end Pl

set_option Elab.async false
set_option linter.all false
set_option maxRecDepth 100000
set_option maxHeartbeats 4000000
/-! Pl8: statements that write, several targets, loops -/
namespace Pl
open PySem PySem.Spec PyProof.Rows L2

/-! ### several names at once -/
def parE : List (Nat × Bool) → List RV → En → Option En
  | [], [], env => some env
  | (i, o) :: ts, r :: rs, env => (asgV o r).bind fun r1 => parE ts rs (env.set i (some r1))
  | _, _, _ => none
def setAll : L2.St → List Nat → List V → L2.St
  | σ, i :: is, v :: vs => setAll (σ.set i (some v)) is vs
  | σ, _, _ => σ
theorem ResL.imp {K} {F F' : Addr → Prop} (g : ∀ b, F b → F' b) : ∀ {H H' : Hp} {vs : List V} {rs : List RV}, ResL K F H H' vs rs → ResL K F' H H' vs rs
  | _, _, _, _, .nil s => .nil s
  | _, _, _, _, .cons s r t => .cons s (r.imp fun b z => .inl (g b z)) (ResL.imp g t)
theorem parE_len : ∀ (ts : List (Nat × Bool)) (rs : List RV) (env env' : En), parE ts rs env = some env' → rs.length = ts.length
  | [], [], _, _, _ => rfl
  | [], _ :: _, _, _, h => by simp [parE] at h
  | _ :: _, [], _, _, h => by simp [parE] at h
  | (i, o) :: ts, r :: rs, env, env', h => by
    rw [parE] at h
    obtain ⟨r1, _, h2⟩ := bind2 h
    simp [parE_len ts rs _ _ h2]
section
variable {K : PySem.W.Frag} {B : Hp} {F0 : Addr → Prop}
theorem SOk.par : ∀ (ts : List (Nat × Bool)) (rs : List RV) {vs : List V} {env env' : En} {P F : Addr → Prop} {σ : L2.St} {H H1 : Hp}, SOk K B F0 P F σ H env → ResL K F H H1 vs rs → parE ts rs env = some env' →
    ∃ P' F', SOk K B F0 P' F' (setAll σ (ts.map (·.1)) vs) H1 env' ∧ Stp P F σ H env P' F' (setAll σ (ts.map (·.1)) vs) H1 env'
  | [], [], _, _, _, P, F, _, _, _, h, .nil s, e => by
    rw [parE] at e
    cases e
    exact ⟨P, F, h.later s, Stp.later s⟩
  | [], _ :: _, _, _, _, _, _, _, _, _, _, _, e => by simp [parE] at e
  | _ :: _, [], _, _, _, _, _, _, _, _, _, _, e => by simp [parE] at e
  | (i, o) :: ts, r :: rs, _, _, _, _, _, _, _, _, h, .cons s rv t, e => by
    rw [parE] at e
    obtain ⟨r1, e1, e2⟩ := bind2 e
    obtain ⟨P1, F1, k1, s1⟩ := h.set s rv e1 i
    obtain ⟨P2, F2, k2, s2⟩ := SOk.par ts rs k1 (t.imp s1.pF) e2
    exact ⟨P2, F2, k2, s1.trans s2⟩
end
def sPar (ts : List (Nat × Bool)) (g : GA) : GS := fun env => ((g env).bind fun rs => parE ts rs env).map .nx
theorem par_reads {K : PySem.W.Frag} {ts : List (Nat × Bool)} {g : GA} {D : Ends} {σ : L2.St} {H : Hp} (h : TS' K (sPar ts g) D σ H) :
    ∃ F env rs, Ok K F σ H env ∧ g env = some rs ∧ rs.length = ts.length ∧ ∀ vs H1 H2, ResL K F H H1 vs rs → Same H1 H2 → D.nx (setAll σ (ts.map (·.1)) vs) H2 := by
  obtain ⟨B, F0, P, F, env, out, h, e, p⟩ := h
  unfold sPar at e
  cases e1 : (g env).bind fun rs => parE ts rs env with
  | none => rw [e1] at e; cases e
  | some env' =>
    rw [e1] at e
    cases e
    obtain ⟨rs, e2, e3⟩ := bind2 e1
    refine ⟨F, env, rs, h.ok, e2, parE_len _ _ _ _ e3, fun vs H1 H2 rl s => ?_⟩
    obtain ⟨P', F', k, st⟩ := h.par ts rs rl e3
    exact p P' F' _ H2 (k.later s) (st.trans (Stp.later s))
def gNs : List Nat → TGs
  | [] => gNil
  | i :: is => gCons (gName i) (gNs is)
theorem gNs_run {H : Hp} {Q : L2.St → Hp → Prop} : ∀ (is : List Nat) (vs : List V) (σ : L2.St), vs.length = is.length → Q (setAll σ is vs) H → gNs is vs σ H Q
  | [], [], _, _, q => ⟨rfl, q⟩
  | [], _ :: _, _, h, _ => by simp at h
  | _ :: _, [], _, h, _ => by simp at h
  | i :: is, v :: vs, σ, h, q => ⟨v, vs, rfl, gNs_run is vs (σ.set i (some v)) (by simpa using h) q⟩
section
variable {X : Cx} {pos : Pos} {g : GA}
theorem pgn_nil : PGs X [] (gNs []) := pgs_nil
theorem pgn_cons {e : Expr} {es : List Expr} {i : Nat} {is : List Nat} (h : PG X e (gName i)) (h' : PGs X es (gNs is)) (hs : (assignEach (e :: es) X.env).map (·.2) = assign e X.env :: (assignEach es X.env).map (·.2) := by rfl) : PGs X (e :: es) (gNs (i :: is)) := pgs_cons h h' hs
theorem pgn_name (i : Nat) {x : Str} (hN : X.N.Nodup) (hi : X.N[i]? = some x := by rfl) (hx : Loc X.env.scope x := by first | exact Or.inl rfl | exact Or.inr rfl) (hf : X.fn x = true ∨ X.env.scope.names.lookup x = some .local := by first | exact .inl rfl | exact .inr rfl) : PG X (.Name x pos) (gName i) := pg_name hN hi hx hf
theorem vs_par2 {i j : Nat} {o1 o2 : Bool} {x y : Str} {a b : Expr} {px py pt : Pos} {kt k2 pt2} (hc : X.calm = true) (hN : X.N.Nodup) (ha : VA X [a, b] g) (hi : X.N[i]? = some x := by rfl) (hj : X.N[j]? = some y := by rfl) (hij : i ≠ j := by decide)
    (hx : X.env.scope.names.lookup x = some .local := by rfl) (hy : X.env.scope.names.lookup y = some .local := by rfl)
    (hw : swappedStores [.Tuple [.Name x px, .Name y py] kt pt] (.Tuple [a, b] k2 pt2) X.env = pure (some [x, y]) := by rfl)
    (hs : swapsWithSole [.Tuple [.Name x px, .Name y py] kt pt] (.Tuple [a, b] k2 pt2) pos.line X.env = pure false := by rfl) :
    VS X (.Assign [.Tuple [.Name x px, .Name y py] kt pt] (.Tuple [a, b] k2 pt2) pos) (sPar [(i, o1), (j, o2)] g) :=
  PS.to (ps_par hc hN hi hj hij hx hy ha hw hs) fun D σ H q => by
    obtain ⟨F, env, rs, ok, e, hl, p⟩ := par_reads q
    refine ⟨F, env, rs, ok, e, fun vs H' rl => ?_⟩
    have hv := rl.length.trans hl
    match vs, hv, rl with
    | [v, w], _, rl => exact ⟨v, w, rfl, p _ _ _ rl (Same.refl _)⟩
theorem vs_par3 {i j l : Nat} {o1 o2 o3 : Bool} {x y z : Str} {a b c : Expr} {px py pz pt : Pos} {kt k2 pt2} (hc : X.calm = true) (hN : X.N.Nodup) (ha : VA X [a, b, c] g) (hi : X.N[i]? = some x := by rfl) (hj : X.N[j]? = some y := by rfl) (hl : X.N[l]? = some z := by rfl) (hij : i ≠ j := by decide) (hil : i ≠ l := by decide) (hjl : j ≠ l := by decide)
    (hx : X.env.scope.names.lookup x = some .local := by rfl) (hy : X.env.scope.names.lookup y = some .local := by rfl) (hz : X.env.scope.names.lookup z = some .local := by rfl)
    (hw : swappedStores [.Tuple [.Name x px, .Name y py, .Name z pz] kt pt] (.Tuple [a, b, c] k2 pt2) X.env = pure (some [x, y, z]) := by rfl)
    (hs : swapsWithSole [.Tuple [.Name x px, .Name y py, .Name z pz] kt pt] (.Tuple [a, b, c] k2 pt2) pos.line X.env = pure false := by rfl) :
    VS X (.Assign [.Tuple [.Name x px, .Name y py, .Name z pz] kt pt] (.Tuple [a, b, c] k2 pt2) pos) (sPar [(i, o1), (j, o2), (l, o3)] g) :=
  PS.to (ps_par3 hc hN hi hj hl hij hil hjl hx hy hz ha hw hs) fun D σ H q => by
    obtain ⟨F, env, rs, ok, e, hl, p⟩ := par_reads q
    refine ⟨F, env, rs, ok, e, fun vs H' rl => ?_⟩
    have hv := rl.length.trans hl
    match vs, hv, rl with
    | [v, w, u], _, rl => exact ⟨v, w, u, rfl, p _ _ _ rl (Same.refl _)⟩
theorem vs_parN {ts : List (Nat × Bool)} {tgs es : List Expr} {pt : Pos} {kt k2 pt2} (hc : X.calm = true) (ha : VA X es g) (hg : PGs X tgs (gNs (ts.map (·.1)))) (hz : ts.length ≤ 16777216 := by decide)
    (hn : (assignEach tgs X.env).length = ts.length := by rfl) (hst : (assignEach tgs X.env).findIdx? (·.1) = none := by rfl)
    (hs : swapsWithSole [.Tuple tgs kt pt] (.Tuple es k2 pt2) pos.line X.env = pure false := by rfl) (hw : swappedStores [.Tuple tgs kt pt] (.Tuple es k2 pt2) X.env = pure none := by rfl)
    (h1 : (assignEach [.Tuple tgs kt pt] X.env).map (·.2) = [assign (.Tuple tgs kt pt) X.env] := by rfl) : VS X (.Assign [.Tuple tgs kt pt] (.Tuple es k2 pt2) pos) (sPar ts g) :=
  PS.to (ps_asg (pe_tup ha) (pg_tup (n := ts.length) hc hg hn hst) hs hw h1) fun D σ H q => by
    obtain ⟨F, env, rs, ok, e, hl, p⟩ := par_reads q
    refine ⟨F, env, rs, ok, e, fun vs H' rl => ⟨by rw [rl.length, hl, sizeLine_eq]; exact hz, fun a n => ?_⟩⟩
    exact ⟨a, vs, rfl, .inl (.inl upd_same), rl.length.trans hl, gNs_run _ _ _ (by simpa using rl.length.trans hl) (p _ _ _ rl (same_new n))⟩
end

/-! ### writing an own list -/
section
variable {K : PySem.W.Frag} {B H H1 H' H2 : Hp} {F0 P F P' F' P2 F2 : Addr → Prop} {σ σ' σ2 : L2.St} {env env' env2 : En} {Dd : Ends} {v : V} {d d' : D} {r : RV} {a : Addr} {o u : HO} {i : Nat}
theorem mut_sqt (h : H a = some u) (m : Mut (some u)) : ∀ b zs, SqT K H b zs → SqT K (upd H a o) b zs := fun b zs q => by
  have ne : ∀ w, H b = some w → ¬ Mut (some w) → b ≠ a := fun w e n z => by
    subst z
    rw [h] at e
    cases e
    exact n m
  rcases q with (q | ⟨w, q⟩) | q
  · exact .inl (.inl (by rw [upd_ne (ne _ q not_mut_tup)]; exact q))
  · exact .inl (.inr ⟨w, by rw [upd_ne (ne _ q not_mut_frz)]; exact q⟩)
  · exact .inr q
theorem Obj1.mut {G : Addr → Prop} (h : Obj1 K G H a d) : ∃ u, H a = some u ∧ Mut (some u) := by
  cases d with
  | list ds => obtain ⟨vs, L, h1, _⟩ := h; exact ⟨_, h1, trivial⟩
  | dict ds => rcases h with ⟨vs, L, h1, _⟩ | ⟨vs, L, h1, _⟩ <;> exact ⟨_, h1, trivial⟩
  | _ => exact h.elim
theorem SOk.mut (h : SOk K B F0 P F σ H env) (e : env[i]? = some (some (d, .ow))) (e1 : σ[i]? = some (some (.ref a))) (ob : Obj1 K F (upd H a o) a d') :
    SOk K B F0 P F σ (upd H a o) (env.set i (some (d', .ow))) ∧ Stp P F σ H env P F σ (upd H a o) (env.set i (some (d', .ow))) := by
  obtain ⟨v, ev, a', rfl, nF, ob0⟩ := h.ok.slot i _ e
  rw [ev] at e1
  cases e1
  have nP := h.ow i d a e ev
  obtain ⟨u, hu, mu⟩ := ob0.mut
  have sqt := mut_sqt (K := K) (o := o) hu mu
  have kF : ∀ b, F b → ∀ w, H b = some w → (upd H a o) b = some w := fun b hb w q => by
    rw [upd_ne (fun z => nF (by rw [← z]; exact hb))]; exact q
  have hi : i < env.length := (List.getElem?_eq_some_iff.mp e).1
  have look : ∀ j r0, (env.set i (some (d', .ow)))[j]? = some (some r0) → (i = j ∧ r0 = (d', .ow)) ∨ (i ≠ j ∧ env[j]? = some (some r0)) := fun j r0 e1 => by
    rw [getElem?_set'] at e1
    by_cases c : i = j
    · subst c
      rw [if_pos ⟨rfl, hi⟩] at e1
      exact .inl ⟨rfl, by cases e1; rfl⟩
    · rw [if_neg fun z => c z.1] at e1
      exact .inr ⟨c, e1⟩
  have dm : ∀ b, H b ≠ none → (upd H a o) b ≠ none := fun b z => by
    by_cases c : b = a
    · subst c; rw [upd_same]; exact fun z => nomatch z
    · rw [upd_ne c]; exact z
  have kP : Kp P H (upd H a o) := fun b w q m => by
    rw [upd_ne ?_]
    · exact q
    · rintro rfl
      rw [hu] at q
      cases q
      exact m.elim nP fun m => m mu
  refine ⟨⟨⟨by rw [List.length_set]; exact h.ok.len, fun b z => dm b (h.ok.dom b z), fun j r0 e1 => ?_, fun j k d1 d2 a' hjk e1 e2 e3 e4 => ?_⟩, ?_, h.fr, h.FP, h.BP, fun b z => dm b (h.Pd b z), fun j d1 a' e1 e2 => ?_, fun j d1 a' e1 e2 => ?_⟩, fun _ z => z, fun _ z => z, kP, dm, fun _ z => .inl z, fun j d1 e1 => ?_, List.length_set⟩
  · rcases look j r0 e1 with ⟨rfl, rfl⟩ | ⟨hij, e2⟩
    · exact ⟨_, ev, a, rfl, nF, ob⟩
    · obtain ⟨w, e3, sl⟩ := h.ok.slot j r0 e2
      refine ⟨w, e3, ?_⟩
      obtain ⟨d0, fl⟩ := r0
      cases fl with
      | fz => obtain ⟨L, h1, h2⟩ := sl; exact ⟨L, h1.keep sqt d0 fun b hb => kF b (h2 b hb), h2⟩
      | ow =>
        obtain ⟨a2, rfl, h2, h3⟩ := sl
        have na : a2 ≠ a := fun z => h.ok.sep i j _ _ _ hij e e2 ev (z ▸ e3)
        exact ⟨a2, rfl, h2, h3.keep sqt (fun w q => by rw [upd_ne na]; exact q) kF⟩
      | bw =>
        obtain ⟨a2, rfl, h3⟩ := sl
        have na : a2 ≠ a := fun z => nP (z ▸ h.bw j _ _ e2 e3)
        exact ⟨a2, rfl, h3.keep sqt (fun w q => by rw [upd_ne na]; exact q) kF⟩
      | sc =>
        obtain ⟨a2, ns, h1, h2, h3⟩ := sl
        exact ⟨a2, ns, h1, h2, h3.imp (fun ⟨w, q⟩ => ⟨w, kP _ _ q (.inr not_mut_frz)⟩) id⟩
  · rcases look j _ e1 with ⟨rfl, q⟩ | ⟨c1, p1⟩
    · rcases look k _ e2 with ⟨rfl, _⟩ | ⟨c2, p2⟩
      · exact hjk rfl
      · exact h.ok.sep i k _ _ _ hjk e p2 e3 e4
    · rcases look k _ e2 with ⟨rfl, _⟩ | ⟨c2, p2⟩
      · exact h.ok.sep j i _ _ _ hjk p1 e e3 e4
      · exact h.ok.sep j k _ _ _ hjk p1 p2 e3 e4
  · intro b w q
    have nb : b ≠ a := fun z => nP (by rw [← z]; exact h.BP b (by rw [q]; exact fun z => nomatch z))
    rw [upd_ne nb]
    exact h.sB _ _ q
  · rcases look j _ e1 with ⟨rfl, q⟩ | ⟨c1, p1⟩
    · rw [ev] at e2; cases e2; exact nP
    · exact h.ow j d1 a' p1 e2
  · rcases look j _ e1 with ⟨rfl, q⟩ | ⟨c1, p1⟩
    · cases q
    · exact h.bw j d1 a' p1 e2
  · rcases look j _ e1 with ⟨rfl, q⟩ | ⟨c1, p1⟩
    · cases q
    · exact ⟨p1, rfl⟩
/-- the list at a slot, as it stands -/
theorem SOk.lst {ds : List D} (h : SOk K B F0 P F σ H env) (e : env[i]? = some (some (.list ds, .ow))) : ∃ a vs L, σ[i]? = some (some (.ref a)) ∧ H a = some (.lst vs) ∧ RpA K H vs ds L ∧ (∀ b ∈ L, F b) ∧ ¬ F a := by
  obtain ⟨v, ev, a, rfl, nF, vs, L, h1, h2, h3⟩ := h.ok.slot i _ e
  exact ⟨a, vs, L, ev, h1, h2, h3, nF⟩
theorem Obj1.lst {ws : List V} {es : List D} {L : List Addr} (hm : Mut (H a)) (nF : ¬ F a) (ra : RpA K H ws es L) (hl : ∀ b ∈ L, F b) : Obj1 K F (upd H a (.lst ws)) a (.list es) := by
  cases q : H a with
  | none => rw [q] at hm; exact hm.elim
  | some u =>
    rw [q] at hm
    exact ⟨ws, L, upd_same, ra.keep (mut_sqt q hm) es fun b hb w e => by rw [upd_ne (fun z => nF (by rw [← z]; exact hl b hb))]; exact e, hl⟩
end
section
variable {X : Cx} {x : Str} {p pos apos cpos : Pos} {e ix : Expr} {g gi : GE} {t : GA}
abbrev mL (env : En) (i : Nat) (f : List D → Option (List D)) : Option Out := match env[i]? with
  | some (some (.list ds, .ow)) => (f ds).map fun es => .nx (env.set i (some (.list es, .ow)))
  | _ => none
theorem mL_of {env : En} {i : Nat} {f : List D → Option (List D)} {out : Out} (h : mL env i f = some out) : ∃ ds es, env[i]? = some (some (.list ds, .ow)) ∧ f ds = some es ∧ out = .nx (env.set i (some (.list es, .ow))) := by
  unfold mL at h
  split at h
  · rename_i ds e
    cases e2 : f ds with
    | none => rw [e2] at h; cases h
    | some es => rw [e2] at h; cases h; exact ⟨ds, es, e, e2, rfl⟩
  · cases h
/-- x.append(e) -/
def sApp (i : Nat) (t : GA) : GS := fun env => (t env).bind fun rs => match rs with
  | [(d, f)] => mL env i fun ds => if plainFl f = true ∧ ds.length < 16777216 then some (ds ++ [d]) else none
  | _ => none
theorem tyl {K : PySem.W.Frag} {H : Hp} {a : Addr} {vs : List V} (h : H a = some (.lst vs)) : tyV K "list" (.ref a) H := .inl ⟨rfl, vs, .inl (.inl h)⟩
theorem SOk.lstMut {K : PySem.W.Frag} {B H H1 : Hp} {F0 P F : Addr → Prop} {σ : L2.St} {env : En} {i : Nat} {ds : List D} {En0 : Ends} (h : SOk K B F0 P F σ H env) (s : Same H H1) (e : env[i]? = some (some (.list ds, .ow))) {es : List D} (p : Post En0 K B F0 P F σ H env (.nx (env.set i (some (.list es, .ow))))) :
    ∃ a vs L, σ[i]? = some (some (.ref a)) ∧ H1 a = some (.lst vs) ∧ RpA K H1 vs ds L ∧ (∀ b ∈ L, F b) ∧ ∀ ws M, RpA K H1 ws es M → (∀ b ∈ M, F b ∨ H b = none) → En0.nx σ (upd H1 a (.lst ws)) := by
  obtain ⟨a, vs, L, e1, e2, ra, hl, nF⟩ := (h.later s).lst e
  refine ⟨a, vs, L, e1, e2, ra, hl, fun ws M rm hm => ?_⟩
  obtain ⟨k1, s1⟩ := h.new s
  have na : ¬ (F a ∨ (H a = none ∧ H1 a ≠ none)) := fun z => z.elim nF fun z => h.ok.ownA (.inl rfl) e e1 z.1
  have ob := Obj1.lst (F := fun b => F b ∨ (H b = none ∧ H1 b ≠ none)) (a := a) (by rw [e2]; trivial) na rm fun b hb => (hm b hb).imp id fun z => ⟨z, rm.addr b hb⟩
  obtain ⟨k2, s2⟩ := k1.mut e e1 ob
  exact p _ _ _ _ k2 (s1.trans s2)
theorem vs_app (i : Nat) (he : VA X [e] t) (hN : X.N[i]? = some x := by rfl) (hv : Vis X.env.scope x := by first | exact Or.inl rfl | exact Or.inr (Or.inl rfl) | exact Or.inr (Or.inr rfl)) (hd : (x == ("__debug__" : Str)) = false := by decide)
    (hcd : (x == ("__classdict__" : Str)) = false := by decide) (hbase : attributeBase (.Name x p) "append" X.env (eval (.Name x p) X.env) = eval (.Name x p) X.env := by rfl)
    (hfew : ((backTo cpos (starEach [e] X.env)).all (fun x => !x.1) && (backToKw cpos (keywordEach [] X.env)).all (fun x => x.1.isSome)
      && decide ([e].length + ([] : List Keyword).length + (if ([] : List Keyword).isEmpty then 0 else 1) < 30)) = true := by rfl)
    (hline : (apos.endLine == cpos.line) = true := by rfl) (hs : starEach [e] X.env = (false, eval e X.env) :: starEach [] X.env := by rfl) (hplain : (backTo cpos (starEach [] X.env)).any (·.1) = false := by rfl)
    (hsw : swapsWith (.Call (.Attribute (.Name x p) "append" apos) [e] [] cpos) none pos.line X.env = pure false := by rfl) :
    VS X (.Expr (.Call (.Attribute (.Name x p) "append" apos) [e] [] cpos) pos) (sApp i t) :=
  PS.to (ps_expr (pe_bm PySem.F.plainAttrs_list PySem.F.slot_list_append PySem.F.type_list_append mt_append (pe_var hN hv hd hcd) he hbase hfew hline hs hplain) hsw) fun D σ H ⟨B, F0, P, F, env, out, h, e, p⟩ => by
    obtain ⟨rs, e1, e2⟩ := bind2 e
    split at e2
    rotate_left
    · cases e2
    rename_i d f
    obtain ⟨ds, es, e3, e4, rfl⟩ := mL_of e2
    split at e4
    rotate_left
    · cases e4
    rename_i hc
    cases e4
    obtain ⟨n1, n2⟩ := plain_ne hc.1
    obtain ⟨a0, vs0, L0, f1, f2, _⟩ := h.lst e3
    refine ⟨_, f1, tyl f2, F, env, _, h.ok, e1, fun vs H1 rl => ?_⟩
    cases rl with
    | cons s rv t =>
      cases t with
      | nil s2 =>
        obtain ⟨a, vs, L, g1, g2, ra, hl, q⟩ := h.lstMut (s.trans s2) e3 p
        rw [f1] at g1
        cases g1
        obtain ⟨M, rm, hm⟩ := (rv.mono s2).frz n1 n2
        refine ⟨_, vs, _, rfl, rfl, g2, by rw [ra.length, sizeLine_eq]; exact hc.2, q _ _ (ra.append (.cons rm .nil)) fun b hb => ?_⟩
        rcases List.mem_append.mp hb with z | z
        · exact .inl (hl b z)
        · exact hm b (by simpa using z)
/-- x.extend(e) -/
def sExt (i : Nat) (t : GA) : GS := fun env => (t env).bind fun rs => match rs with
  | [(.list xs, f)] => mL env i fun ds => if isSc f = false ∧ ds.length + xs.length ≤ 16777216 then some (ds ++ xs) else none
  | _ => none
theorem vs_ext (i : Nat) (he : VA X [e] t) (hN : X.N[i]? = some x := by rfl) (hv : Vis X.env.scope x := by first | exact Or.inl rfl | exact Or.inr (Or.inl rfl) | exact Or.inr (Or.inr rfl)) (hd : (x == ("__debug__" : Str)) = false := by decide)
    (hcd : (x == ("__classdict__" : Str)) = false := by decide) (hbase : attributeBase (.Name x p) "extend" X.env (eval (.Name x p) X.env) = eval (.Name x p) X.env := by rfl)
    (hfew : ((backTo cpos (starEach [e] X.env)).all (fun x => !x.1) && (backToKw cpos (keywordEach [] X.env)).all (fun x => x.1.isSome)
      && decide ([e].length + ([] : List Keyword).length + (if ([] : List Keyword).isEmpty then 0 else 1) < 30)) = true := by rfl)
    (hline : (apos.endLine == cpos.line) = true := by rfl) (hs : starEach [e] X.env = (false, eval e X.env) :: starEach [] X.env := by rfl) (hplain : (backTo cpos (starEach [] X.env)).any (·.1) = false := by rfl)
    (hsw : swapsWith (.Call (.Attribute (.Name x p) "extend" apos) [e] [] cpos) none pos.line X.env = pure false := by rfl) :
    VS X (.Expr (.Call (.Attribute (.Name x p) "extend" apos) [e] [] cpos) pos) (sExt i t) :=
  PS.to (ps_expr (pe_bm PySem.F.plainAttrs_list PySem.F.slot_list_extend PySem.F.type_list_extend mt_extend (pe_var hN hv hd hcd) he hbase hfew hline hs hplain) hsw) fun D σ H ⟨B, F0, P, F, env, out, h, e, p⟩ => by
    obtain ⟨rs, e1, e2⟩ := bind2 e
    split at e2
    rotate_left
    · cases e2
    rename_i xs f
    obtain ⟨ds, es, e3, e4, rfl⟩ := mL_of e2
    split at e4
    rotate_left
    · cases e4
    rename_i hc
    cases e4
    obtain ⟨a0, vs0, L0, f1, f2, _⟩ := h.lst e3
    refine ⟨_, f1, tyl f2, F, env, _, h.ok, e1, fun vs H1 rl => ?_⟩
    cases rl with
    | cons s rv t =>
      cases t with
      | nil s2 =>
        obtain ⟨a, vs, L, g1, g2, ra, hl, q⟩ := h.lstMut (s.trans s2) e3 p
        rw [f1] at g1
        cases g1
        obtain ⟨b1, ws, M, rfl, hw, rm, hm⟩ := (rv.mono s2).listT (not_sc hc.1)
        refine ⟨_, b1, vs, ws, rfl, rfl, g2, hw, by rw [ra.length, rm.length, sizeLine_eq]; exact hc.2, q _ _ (ra.append rm) fun b hb => ?_⟩
        rcases List.mem_append.mp hb with z | z
        · exact .inl (hl b z)
        · exact hm b z
/-- x.insert(k, e) -/
def sIns (i : Nat) (t : GA) : GS := fun env => (t env).bind fun rs => match rs with
  | [(.int k, _), (d, f)] => mL env i fun ds => if plainFl f = true ∧ ds.length < 16777216 ∧ 0 ≤ k ∧ k < 2 ^ 63 then some (ds.take k.toNat ++ [d] ++ ds.drop k.toNat) else none
  | _ => none
theorem vs_ins {e2 : Expr} (i : Nat) (he : VA X [e, e2] t) (hN : X.N[i]? = some x := by rfl) (hv : Vis X.env.scope x := by first | exact Or.inl rfl | exact Or.inr (Or.inl rfl) | exact Or.inr (Or.inr rfl)) (hd : (x == ("__debug__" : Str)) = false := by decide)
    (hcd : (x == ("__classdict__" : Str)) = false := by decide) (hbase : attributeBase (.Name x p) "insert" X.env (eval (.Name x p) X.env) = eval (.Name x p) X.env := by rfl)
    (hfew : ((backTo cpos (starEach [e, e2] X.env)).all (fun x => !x.1) && (backToKw cpos (keywordEach [] X.env)).all (fun x => x.1.isSome)
      && decide ([e, e2].length + ([] : List Keyword).length + (if ([] : List Keyword).isEmpty then 0 else 1) < 30)) = true := by rfl)
    (hline : (apos.endLine == cpos.line) = true := by rfl) (hs : starEach [e, e2] X.env = (false, eval e X.env) :: starEach [e2] X.env := by rfl) (hplain : (backTo cpos (starEach [e2] X.env)).any (·.1) = false := by rfl)
    (hsw : swapsWith (.Call (.Attribute (.Name x p) "insert" apos) [e, e2] [] cpos) none pos.line X.env = pure false := by rfl) :
    VS X (.Expr (.Call (.Attribute (.Name x p) "insert" apos) [e, e2] [] cpos) pos) (sIns i t) :=
  PS.to (ps_expr (pe_bm PySem.F.plainAttrs_list PySem.F.slot_list_insert PySem.F.type_list_insert mt_insert (pe_var hN hv hd hcd) he hbase hfew hline hs hplain) hsw) fun D σ H ⟨B, F0, P, F, env, out, h, e, p⟩ => by
    obtain ⟨rs, e1, e2⟩ := bind2 e
    split at e2
    rotate_left
    · cases e2
    rename_i k f0 d f
    obtain ⟨ds, es, e3, e4, rfl⟩ := mL_of e2
    split at e4
    rotate_left
    · cases e4
    rename_i hc
    cases e4
    obtain ⟨n1, n2⟩ := plain_ne hc.1
    obtain ⟨a0, vs0, L0, f1, f2, _⟩ := h.lst e3
    refine ⟨_, f1, tyl f2, F, env, _, h.ok, e1, fun vs H1 rl => ?_⟩
    cases rl with
    | cons s rk t =>
      cases t with
      | cons s1 rv t =>
        cases t with
        | nil s2 =>
          obtain ⟨a, vs, L, g1, g2, ra, hl, q⟩ := h.lstMut ((s.trans s1).trans s2) e3 p
          rw [f1] at g1
          cases g1
          obtain ⟨M, rm, hm⟩ := ((rv.back s).mono s2).frz n1 n2
          obtain ⟨M1, r1, hm1⟩ := ra.take k.toNat
          obtain ⟨M2, r2, hm2⟩ := ra.drop k.toNat
          refine ⟨_, vs, k, _, rfl, by rw [rk.int], g2, by rw [ra.length, sizeLine_eq]; exact hc.2.1, hc.2.2.1, hc.2.2.2, q _ _ ((r1.append (.cons rm .nil)).append r2) fun b hb => ?_⟩
          rcases List.mem_append.mp hb with z | z
          · rcases List.mem_append.mp z with z | z
            · exact .inl (hl b (hm1 b z))
            · exact hm b (by simpa using z)
          · exact .inl (hl b (hm2 b z))
/-- x[k] = e -/
def sSet (i : Nat) (gi g : GE) : GS := fun env => (g env).bind fun r => (gi env).bind fun k => (asI k).bind fun k => mL env i fun ds => if plainFl r.2 = true then (ixN ds.length k).map fun j => ds.set j r.1 else none
theorem vs_setI (i : Nat) {sp : Pos} (he : VE X e g) (hi : VE X ix gi) (hN : X.N[i]? = some x := by rfl) (hv : Vis X.env.scope x := by first | exact Or.inl rfl | exact Or.inr (Or.inl rfl) | exact Or.inr (Or.inr rfl)) (hd : (x == ("__debug__" : Str)) = false := by decide)
    (hcd : (x == ("__classdict__" : Str)) = false := by decide) (ha : ∀ v, assign (.Subscript (.Name x p) ix sp) X.env v = (do
      let ov ← holding [v] (eval (.Name x p) X.env)
      let iv ← holding [v, ov] (eval ix X.env)
      standAt sp
      holding [v, ov, iv] (setItem ov iv v)
      release [v, ov, iv] []) := by intro _; rfl) (hs : swapsWithSole [.Subscript (.Name x p) ix sp] e pos.line X.env = pure false := by rfl) (hw : swappedStores [.Subscript (.Name x p) ix sp] e X.env = pure none := by rfl)
    (h1 : (assignEach [.Subscript (.Name x p) ix sp] X.env).map (·.2) = [assign (.Subscript (.Name x p) ix sp) X.env] := by rfl) : VS X (.Assign [.Subscript (.Name x p) ix sp] e pos) (sSet i gi g) :=
  PS.to (ps_asg he (pg_sub (pe_var hN hv hd hcd) hi set_list ha) hs hw h1) fun D σ H ⟨B, F0, P, F, env, out, h, e, p⟩ => by
    obtain ⟨r, e1, e2⟩ := bind2 e
    obtain ⟨k0, e3, e4⟩ := bind2 e2
    obtain ⟨k, e5, e6⟩ := bind2 e4
    obtain ⟨f, rfl⟩ := asI_of e5
    obtain ⟨ds, es, e7, e8, rfl⟩ := mL_of e6
    split at e8
    rotate_left
    · cases e8
    rename_i hp
    cases e9 : ixN ds.length k with
    | none => rw [e9] at e8; cases e8
    | some j =>
      rw [e9] at e8
      cases e8
      obtain ⟨n1, n2⟩ := plain_ne hp
      obtain ⟨d, fl⟩ := r
      refine ⟨F, env, _, h.ok, e1, fun v H1 s _ rv => ?_⟩
      obtain ⟨a0, vs0, L0, f1, f2, _⟩ := h.lst e7
      refine ⟨_, f1, F, env, _, h.ok.mono s, e3, fun kv H2 s2 _ rk => ?_⟩
      obtain ⟨a, vs, L, g1, g2, ra, hl, q⟩ := h.lstMut (s.trans s2) e7 p
      rw [f1] at g1
      cases g1
      obtain ⟨M, rm, hm⟩ := (rv.mono s2).frz n1 n2
      obtain ⟨N, rn, hn⟩ := ra.set j rm
      exact ⟨_, vs, k, j, rfl, rk.int, g2, by rw [ra.length]; exact e9, q _ _ rn fun b hb => (hn b hb).elim (fun z => .inl (hl b z)) (hm b)⟩
/-- x[k] op= e -/
def sAugS (f : Int → Int → Int) (i : Nat) (gi g : GE) : GS := fun env => (gi env).bind fun k => (asI k).bind fun k => (g env).bind fun r => (asI r).bind fun z => mL env i fun ds => (ixN ds.length k).bind fun j => match ds[j]? with
  | some (.int y) => some (ds.set j (.int (f y z)))
  | _ => none
theorem get_listI : PGet X (rIxL X.K) := by
  intro pins s σ H o iv ov v Q I rx ry h
  obtain ⟨p, xs, i, z, rfl, rfl, hq, he, q⟩ := h
  cases rx
  obtain ⟨t, rfl⟩ := ry
  obtain ⟨its, r, pl, hz⟩ := I.list hq
  obtain ⟨j, h1, h2, h3, h4, h5⟩ := atI_get he
  obtain ⟨w, ew, rw'⟩ := r.get h2
  have hl := r.length
  have hn := line63
  have fin : EP X pins σ Q w s := ⟨z, H, I, rw', q⟩
  by_cases h0 : 0 ≤ i
  · have hj : i.toNat = j := by
      rw [seqIndex_of h0 h5] at h1
      exact Option.some.inj h1
    exact wpAny_getItem_list pl.isList h0 (by omega) (by rw [hj]; simpa using ew) fin
  · have hj : (i + (its.toArray.size : Int)).toNat = j := by
      rw [seqIndex_neg (by omega) h4] at h1
      rw [List.size_toArray, ← hl]
      exact Option.some.inj h1
    exact wpAny_getItem_list_neg pl.isList (by omega) (by rw [List.size_toArray] <;> omega) (by omega) (by rw [hj]; simpa using ew) fin
theorem vs_augS (f : Int → Int → Int) {op : Operator} (i : Nat) {sp : Pos} (hi : VE X ix gi) (he : VE X e g) (ho : PIp X op (ipI f)) (hN : X.N[i]? = some x := by rfl) (hv : Vis X.env.scope x := by first | exact Or.inl rfl | exact Or.inr (Or.inl rfl) | exact Or.inr (Or.inr rfl)) (hd : (x == ("__debug__" : Str)) = false := by decide)
    (hcd : (x == ("__classdict__" : Str)) = false := by decide) (ha : ∀ ov iv new, augStore ix ov iv new = (do holding [new, ov, iv] (setItem ov iv new); release [new, ov, iv] []; pure .next) := by intros; rfl) : VS X (.AugAssign (.Subscript (.Name x p) ix sp) op e pos) (sAugS f i gi g) :=
  PS.to (ps_augS (pe_var hN hv hd hcd) hi get_listI he ho set_list ha) fun D σ H ⟨B, F0, P, F, env, out, h, e, p⟩ => by
    obtain ⟨k0, e1, ea⟩ := bind2 e
    obtain ⟨k, e2, eb⟩ := bind2 ea
    obtain ⟨f1, rfl⟩ := asI_of e2
    obtain ⟨r, e3, ec⟩ := bind2 eb
    obtain ⟨z, e4, ed⟩ := bind2 ec
    obtain ⟨f2, rfl⟩ := asI_of e4
    obtain ⟨ds, es, e7, ee, rfl⟩ := mL_of ed
    obtain ⟨j, e9, e8⟩ := bind2 ee
    split at e8
    rotate_left
    · cases e8
    rename_i y ey
    cases e8
    obtain ⟨a0, vs0, L0, g1, g2, _⟩ := h.lst e7
    refine ⟨_, g1, F, env, _, h.ok, e1, fun kv H1 s _ rk => ?_⟩
    obtain ⟨a, vs, L, k1, k2, ra, hl, q⟩ := (h.later s).lstMut (Same.refl _) e7 (p.step (Stp.later s))
    rw [g1] at k1
    cases k1
    obtain ⟨w, M, ew, rw1, hm⟩ := ra.get ey
    cases rw1
    refine ⟨_, vs, k, _, rfl, rk.int, .inl (.inl k2), by unfold L2.atI; rw [ra.length, e9]; exact ew, F, env, _, h.ok.mono s, e3, fun v H2 s2 _ rv => ?_⟩
    obtain ⟨a, vs', L, k1, k3, ra, hl, q⟩ := h.lstMut (s.trans s2) e7 p
    rw [g1] at k1
    cases k1
    obtain ⟨N, rn, hn⟩ := ra.set j (.int (f y z))
    exact ⟨y, z, rfl, rv.int, _, vs', k, j, rfl, rk.int, k3, by rw [ra.length]; exact e9, q _ _ rn fun b hb => (hn b hb).elim (fun z => .inl (hl b z)) fun z => by simp at z⟩
/-- name op= e, of ints -/
def sAug (f : Int → Int → Int) (i : Nat) (g : GE) : GS := fun env => match env[i]? with
  | some (some (.int y, .fz)) => (g env).bind fun r => (asI r).map fun z => .nx (env.set i (some (.int (f y z), .fz)))
  | _ => none
theorem vs_aug (f : Int → Int → Int) {op : Operator} (i : Nat) (hNd : X.N.Nodup) (he : VE X e g) (ho : PIp X op (ipI f)) (hi : X.N[i]? = some x := by rfl) (hx : Loc X.env.scope x := by first | exact Or.inl rfl | exact Or.inr rfl)
    (hf : X.fn x = true ∨ X.env.scope.names.lookup x = some .local := by first | exact .inl rfl | exact .inr rfl) : VS X (.AugAssign (.Name x p) op e pos) (sAug f i g) :=
  PS.to (ps_aug hNd hi hx he ho hf) fun D σ H ⟨B, F0, P, F, env, out, h, e, p⟩ => by
    unfold sAug at e
    split at e
    rotate_left
    · cases e
    rename_i y ey
    obtain ⟨r, e1, e2⟩ := bind2 e
    cases e3 : asI r with
    | none => rw [e3] at e2; cases e2
    | some z =>
      rw [e3] at e2
      cases e2
      obtain ⟨f1, rfl⟩ := asI_of e3
      obtain ⟨v, ev, L, rp, hl⟩ := h.ok.slot i _ ey
      cases rp
      refine ⟨_, ev, F, env, _, h.ok, e1, fun w H1 s _ rw => ⟨y, z, rfl, rw.int, ?_⟩⟩
      obtain ⟨P', F', k, st⟩ := h.set s (Res.ofInt (i := f y z)) (own := false) (r1 := (.int (f y z), .fz)) rfl i
      exact p P' F' _ H1 k st
end
end Pl

set_option Elab.async false
set_option linter.all false
set_option maxRecDepth 100000
set_option maxHeartbeats 4000000
/-! Pl9: loops, defs, calls -/
namespace Pl
open PySem PySem.Spec PyProof.Rows L2

/-! ### for -/
def forGo (tg : Tg) (body : GS) (ws : List Nat) : List D → En → Option Out
  | [], env => some (.nx env)
  | x :: xs, env => (asT tg x env).bind fun e => (body e).bind fun o => match o with
    | .nx e => forGo tg body ws xs (wipeE e ws)
    | .ct e => forGo tg body ws xs (wipeE e ws)
    | .bk e => some (.nx (wipeE e ws))
    | .rt r => some (.rt r)
def lockS : Slot → Slot
  | some (d, .ow) => some (d, .bw)
  | s => s
def lockE (env : En) : En := env.map lockS
def unlS : Slot → Slot → Slot
  | some (_, .ow), some (d, .bw) => some (d, .ow)
  | _, s => s
def unlE (e0 e : En) : En := List.zipWith unlS e0 e
def unlO (e0 : En) : Out → Out
  | .nx e => .nx (unlE e0 e)
  | o => o
def sFor (ws : List Nat) (tg : Tg) (src : Src) (body : GS) : GS := fun env => (src env).bind fun p =>
  if p.2 = true then (forGo tg body ws p.1 (lockE (wipeE env ws))).map (unlO (wipeE env ws)) else forGo tg body ws p.1 (wipeE env ws)
section
variable {K : PySem.W.Frag} {B H H1 H' H2 : Hp} {F0 P F P' F' P2 F2 : Addr → Prop} {σ σ' σ2 : L2.St} {env env' env2 : En} {Dd : Ends} {v : V} {d d' : D} {r : RV} {a : Addr} {o u : HO} {i : Nat} {out : Out}
theorem for_reads {J : It} {xs : List D} {tg : Tg} {body : GS} {ws : List Nat} (h0 : SOk K B F0 P F σ H env) (wk : Wk K P H J xs F) (e : forGo tg body ws xs env = some out) (p : Post Dd K B F0 P F σ H env out) :
    ∃ W : Nat → Nat → L2.St → Hp → Prop, (∃ m, W 0 m σ H) ∧ ∀ i m σ H, W i m σ H → (J.stop i H ∧ Dd.nx σ H) ∨ (J.go i H ∧ ∃ N : L2.St → Hp → Prop, (∀ σ' H', N σ' H' → ∃ m', m' < m ∧ W (i + 1) m' σ' H') ∧
      ∀ x H', J.yld i H x H' → TG' K tg x σ H' fun σ2 H2 => TS' K body { Dd with nx := N, ct := N, bk := Dd.nx } σ2 H2) := by
  refine ⟨fun i m σ1 H1 => m = xs.length - i ∧ i ≤ xs.length ∧ ∃ P' F' e1, SOk K B F0 P' F' σ1 H1 e1 ∧ Stp P F σ H env P' F' σ1 H1 e1 ∧ forGo tg body ws (xs.drop i) e1 = some out, ⟨_, rfl, Nat.zero_le _, P, F, env, h0, Stp.refl, by simpa using e⟩, ?_⟩
  rintro i m σ1 H1 ⟨rfl, hi, P', F', e1, h1, s1, eg⟩
  obtain ⟨w1, w2⟩ := wk H1 s1.kp
  by_cases hlt : i < xs.length
  · obtain ⟨go, wy⟩ := w1 i xs[i] (List.getElem?_eq_getElem hlt)
    rw [List.drop_eq_getElem_cons hlt, forGo] at eg
    obtain ⟨e2, a1, eg2⟩ := bind2 eg
    obtain ⟨o, a2, eg3⟩ := bind2 eg2
    refine .inr ⟨go, fun σ' H' => ∃ P2 F2 e3, SOk K B F0 P2 F2 σ' H' e3 ∧ Stp P F σ H env P2 F2 σ' H' e3 ∧ forGo tg body ws (xs.drop (i + 1)) e3 = some out, fun σ' H' hN => ⟨xs.length - (i + 1), by omega, rfl, hlt, hN⟩, fun x H3 y => ?_⟩
    obtain ⟨sm, L, rx, hl⟩ := wy x H3 y
    have h3 := h1.later sm
    have s3 := s1.trans (Stp.later (P := P') (F := F') (σ := σ1) (env := e1) sm)
    refine ⟨F', e1, e2, _, L, h3.ok, rx, fun b hb => s1.pF b (hl b hb), a1, fun σ4 c ok4 => ?_⟩
    obtain ⟨h4, s4⟩ := h3.chg c ok4
    have s5 := s3.trans s4
    refine ⟨B, F0, P', F', e2, o, h4, a2, ?_⟩
    cases o with
    | nx e5 => exact fun P6 F6 σ6 H6 h6 s6 => ⟨P6, F6, _, (h6.forget ws).1, (s5.trans s6).trans (h6.forget ws).2, eg3⟩
    | ct e5 => exact fun P6 F6 σ6 H6 h6 s6 => ⟨P6, F6, _, (h6.forget ws).1, (s5.trans s6).trans (h6.forget ws).2, eg3⟩
    | bk e5 =>
      cases eg3
      exact fun P6 F6 σ6 H6 h6 s6 => p P6 F6 σ6 H6 (h6.forget ws).1 ((s5.trans s6).trans (h6.forget ws).2)
    | rt r =>
      cases eg3
      exact p
  · have ei : i = xs.length := by omega
    subst ei
    rw [List.drop_length, forGo] at eg
    cases eg
    exact .inl ⟨w2, p P' F' σ1 H1 h1 s1⟩
theorem forGo_no {tg : Tg} {body : GS} {ws : List Nat} : ∀ (xs : List D) (env e : En), forGo tg body ws xs env ≠ some (.bk e) ∧ forGo tg body ws xs env ≠ some (.ct e)
  | [], env, e => ⟨fun z => (by cases z), fun z => (by cases z)⟩
  | x :: xs, env, e => by
    have key : ∀ o, (o = .bk e ∨ o = .ct e) → forGo tg body ws (x :: xs) env ≠ some o := fun o ho z => by
      rw [forGo] at z
      obtain ⟨e1, _, z2⟩ := bind2 z
      obtain ⟨o1, _, z3⟩ := bind2 z2
      have ih := fun e1 => forGo_no (tg := tg) (body := body) (ws := ws) xs e1 e
      cases o1 with
      | nx e5 => rcases ho with rfl | rfl; exact (ih _).1 z3; exact (ih _).2 z3
      | ct e5 => rcases ho with rfl | rfl; exact (ih _).1 z3; exact (ih _).2 z3
      | bk e5 => rcases ho with rfl | rfl <;> cases z3
      | rt e5 => rcases ho with rfl | rfl <;> cases z3
    exact ⟨key _ (.inl rfl), key _ (.inr rfl)⟩
theorem lock_get {e : En} {i : Nat} : (lockE e)[i]? = (e[i]?).map lockS := by unfold lockE; rw [List.getElem?_map]
theorem lock_of {e : En} {i : Nat} {d : D} {fl : Fl} (h : (lockE e)[i]? = some (some (d, fl))) : (fl = .bw ∧ e[i]? = some (some (d, .ow))) ∨ (fl ≠ .ow ∧ e[i]? = some (some (d, fl))) := by
  rw [lock_get] at h
  cases q : e[i]? with
  | none => rw [q] at h; cases h
  | some s =>
    rw [q] at h
    have h' : lockS s = some (d, fl) := Option.some.inj h
    cases s with
    | none => cases h'
    | some r =>
      obtain ⟨d0, f0⟩ := r
      cases f0 with
      | ow => cases h'; exact .inl ⟨rfl, rfl⟩
      | fz => cases h'; exact .inr ⟨(fun z => nomatch z), rfl⟩
      | bw => cases h'; exact .inr ⟨(fun z => nomatch z), rfl⟩
      | sc => cases h'; exact .inr ⟨(fun z => nomatch z), rfl⟩
theorem SOk.lock (h : SOk K B F0 P F σ H env) : SOk K B F0 (fun b => H b ≠ none) F σ H (lockE env) := by
  refine ⟨⟨by unfold lockE; rw [List.length_map]; exact h.ok.len, h.ok.dom, fun i r e => ?_, fun i j d d' a _ e1 _ _ _ => ?_⟩, h.sB, h.fr, h.ok.dom, fun b z => Same.dom h.sB z, fun b z => z, fun i d a e _ => ?_, fun i d a e e1 => ?_⟩
  · obtain ⟨d, fl⟩ := r
    rcases lock_of e with ⟨rfl, e1⟩ | ⟨_, e1⟩
    · obtain ⟨v, e2, a, rfl, _, h3⟩ := h.ok.slot i _ e1
      exact ⟨_, e2, a, rfl, h3⟩
    · exact h.ok.slot i _ e1
  · rcases lock_of e1 with ⟨q, _⟩ | ⟨q, _⟩
    · cases q
    · exact absurd rfl q
  · rcases lock_of e with ⟨q, _⟩ | ⟨q, _⟩
    · cases q
    · exact absurd rfl q
  · rcases lock_of e with ⟨_, e2⟩ | ⟨_, e2⟩
    · exact h.ok.ownA (.inl rfl) e2 e1
    · exact h.ok.ownA (.inr rfl) e2 e1
theorem unl_of {e0 e : En} {i : Nat} {d : D} {fl : Fl} (h : (unlE e0 e)[i]? = some (some (d, fl))) : (fl = .ow ∧ e[i]? = some (some (d, .bw)) ∧ ∃ d0, e0[i]? = some (some (d0, .ow))) ∨ (e[i]? = some (some (d, fl)) ∧ (fl = .bw → ∀ d0, e0[i]? ≠ some (some (d0, .ow)))) := by
  unfold unlE at h
  rw [List.getElem?_zipWith] at h
  cases q0 : e0[i]? with
  | none => rw [q0] at h; cases h
  | some s0 =>
    cases q : e[i]? with
    | none => rw [q0, q] at h; cases h
    | some s =>
      rw [q0, q] at h
      have h' : unlS s0 s = some (d, fl) := Option.some.inj h
      cases s with
      | none =>
        rcases s0 with _ | ⟨d0, f0⟩
        · cases h'
        · cases f0 <;> cases h'
      | some r =>
        obtain ⟨d1, f1⟩ := r
        rcases s0 with _ | ⟨d0, f0⟩
        · cases f1 <;> (cases h'; exact .inr ⟨rfl, fun _ _ z => nomatch z⟩)
        · cases f0 <;> cases f1 <;> cases h' <;> first | exact .inl ⟨rfl, rfl, _, rfl⟩ | (refine .inr ⟨rfl, ?_⟩; intro q; cases q; done) | (refine .inr ⟨rfl, ?_⟩; intro _ d0 z; cases z)
theorem SOk.unlock (h : SOk K B F0 P F σ H env) (s : Stp (fun b => H b ≠ none) F σ H (lockE env) P' F' σ' H' env') (k : SOk K B F0 P' F' σ' H' env') :
    ∃ P2, SOk K B F0 P2 F' σ' H' (unlE env env') ∧ Stp P F σ H env P2 F' σ' H' (unlE env env') := by
  -- the unlocked slots
  have unl : ∀ (i : Nat) (d d0 : D) (a : Addr), env'[i]? = some (some (d, .bw)) → env[i]? = some (some (d0, .ow)) → σ'[i]? = some (some (.ref a)) → σ[i]? = some (some (.ref a)) ∧ ¬ P a ∧ ¬ F' a ∧ P' a := fun i d d0 a e1 e2 e3 => by
    obtain ⟨q1, q2⟩ := s.bw i d e1
    have e4 := q2.symm.trans e3
    refine ⟨e4, h.ow i d0 a e2 e4, fun z => ?_, k.bw i d a e1 e3⟩
    have hn := h.ok.ownA (.inl rfl) e2 e4
    rcases s.nw a z with w | w | w
    · exact (h.ok.own e2 e4).1 w
    · exact hn w
    · exact w hn
  have locked : ∀ (i : Nat) (d : D), env'[i]? = some (some (d, .bw)) → (∀ d0, env[i]? ≠ some (some (d0, .ow))) → env[i]? = some (some (d, .bw)) ∧ σ'[i]? = σ[i]? := fun i d e1 e2 => by
    obtain ⟨q1, q2⟩ := s.bw i d e1
    rcases lock_of q1 with ⟨_, z⟩ | ⟨_, z⟩
    · exact absurd z (e2 d)
    · exact ⟨z, q2⟩
  have PH : ∀ b, P b → P' b := fun b z => s.pP b (h.Pd b z)
  have hlen : env'.length = env.length := by
    have := s.ln
    unfold lockE at this
    rwa [List.length_map] at this
  have hul : (unlE env env').length = env'.length := by
    unfold unlE
    rw [List.length_zipWith, hlen, Nat.min_self]
  refine ⟨fun b => P b ∨ F' b, ⟨⟨?_, k.ok.dom, fun i r e => ?_, fun i j d d' a hij e1 e2 e3 e4 => ?_⟩, k.sB, k.fr, fun b z => .inr z, fun b z => .inl (h.BP b z), fun b z => z.elim (fun z => s.dom b (h.Pd b z)) (k.ok.dom b), fun i d a e e1 z => ?_, fun i d a e e1 => ?_⟩, ?_⟩
  · rw [hul]
    exact k.ok.len
  · obtain ⟨d, fl⟩ := r
    rcases unl_of e with ⟨rfl, e1, d0, e2⟩ | ⟨e1, _⟩
    · obtain ⟨v, e3, a, rfl, ob⟩ := k.ok.slot i _ e1
      exact ⟨_, e3, a, rfl, (unl i d d0 a e1 e2 e3).2.2.1, ob⟩
    · exact k.ok.slot i _ e1
  · rcases unl_of e1 with ⟨_, f1, d0, g1⟩ | ⟨f1, _⟩
    · rcases unl_of e2 with ⟨_, f2, d0', g2⟩ | ⟨f2, _⟩
      · exact h.ok.sep i j _ _ a hij g1 g2 (unl i d d0 a f1 g1 e3).1 (unl j d' d0' a f2 g2 e4).1
      · exact k.ow j d' a f2 e4 (unl i d d0 a f1 g1 e3).2.2.2
    · rcases unl_of e2 with ⟨_, f2, d0', g2⟩ | ⟨f2, _⟩
      · exact k.ow i d a f1 e3 (unl j d' d0' a f2 g2 e4).2.2.2
      · exact k.ok.sep i j d d' a hij f1 f2 e3 e4
  · rcases unl_of e with ⟨_, f1, d0, g1⟩ | ⟨f1, _⟩
    · exact z.elim (unl i d d0 a f1 g1 e1).2.1 (unl i d d0 a f1 g1 e1).2.2.1
    · exact k.ow i d a f1 e1 (z.elim (PH a) (k.FP a))
  · rcases unl_of e with ⟨q, _⟩ | ⟨f1, hf⟩
    · cases q
    · obtain ⟨g1, g2⟩ := locked i d f1 (hf rfl)
      exact .inl (h.bw i d a g1 (g2.symm.trans e1))
  · refine ⟨fun b z => .inl z, s.pF, s.kp.imp h.Pd, s.dom, fun b z => ?_, fun i d e => ?_, hul.trans hlen⟩
    · rcases s.nw b z with w | w | w
      · exact .inl w
      · exact .inr (.inl w)
      · refine .inr (.inl ?_)
        cases q : H b with
        | none => rfl
        | some o => exact absurd (by rw [q]; exact fun z => nomatch z) w
    · rcases unl_of e with ⟨q, _⟩ | ⟨f1, hf⟩
      · cases q
      · exact locked i d f1 (hf rfl)
end
section
variable {X : Cx} {pos : Pos} {b : List Stmt} {gb : GS}
theorem vs_for (ws : List Nat) {tge iter : Expr} {tg : Tg} {src : Src} (hp : PassesOwn (model X.prog X.w) X.A X.env X.xe) (hc : X.calm = true) (hi : VI X tge iter src) (hg : VG X tge tg) (hb : VSs X b gb)
    (hs : ∀ x, foldedSetIterable iter X.env x = pure x := by intro _; rfl) : VS X (.For tge iter b [] pos) (sFor ws tg src gb) :=
  PS.to (ps_for hp hc hi hg hb hs) fun D σ H ⟨B, F0, P, F, env, out, h, e, p⟩ => by
    obtain ⟨⟨xs, bw⟩, e1, e2⟩ := bind2 e
    refine ⟨F, env, xs, bw, h.ok, e1, fun J H1 s1 z1 hx wk => ?_⟩
    obtain ⟨k1, t1⟩ := h.new s1
    obtain ⟨k2, t2⟩ := k1.forget ws
    have p2 := p.step (t1.trans t2)
    by_cases hb : bw = true
    · subst hb
      rw [if_pos rfl] at e2
      cases e3 : forGo tg gb ws xs (lockE (wipeE env ws)) with
      | none => rw [e3] at e2; cases e2
      | some o =>
        rw [e3] at e2
        cases e2
        refine for_reads k2.lock (wk _ (.inl fun b z => z)) e3 ?_
        cases o with
        | nx e4 =>
          intro P' F' σ' H' k s
          obtain ⟨P3, k3, s3⟩ := k2.unlock s k
          exact p2 P3 F' σ' H' k3 s3
        | rt r => exact p2
        | bk e4 =>
          intro P' F' σ' H' k s
          exact absurd e3 (forGo_no xs _ e4).1
        | ct e4 =>
          intro P' F' σ' H' k s
          exact absurd e3 (forGo_no xs _ e4).2
    · rw [if_neg hb] at e2
      exact for_reads k2 (wk _ (.inr ⟨eq_false_of_ne_true hb, fun b z => .inr z⟩)) e2 p2
/-! ### while -/
def whileN (c : GB) (body : GS) (ws : List Nat) : Nat → En → Option Out
  | 0, _ => none
  | n + 1, env => (c env).bind fun k => if k = true then (body env).bind fun o => match o with
    | .nx e => whileN c body ws n (wipeE e ws)
    | .ct e => whileN c body ws n (wipeE e ws)
    | .bk e => some (.nx (wipeE e ws))
    | .rt r => some (.rt r)
    else some (.nx env)
def fuel : Nat := 1099511627776
def sWhile (ws : List Nat) (c : GB) (body : GS) : GS := fun env => whileN c body ws fuel (wipeE env ws)
theorem vs_while (ws : List Nat) {c : Expr} {gc : GB} (hp : PassesOwn (model X.prog X.w) X.A X.env X.xe) (hc : VB X c gc) (hb : VSs X b gb) : VS X (.While c b [] pos) (sWhile ws gc gb) :=
  PS.to (ps_while hp hc hb) fun D σ H ⟨B, F0, P, F, env, out, h, e, p⟩ => by
    obtain ⟨k1, t1⟩ := h.forget ws
    refine ⟨fun m σ1 H1 => ∃ P' F' e1, SOk X.K B F0 P' F' σ1 H1 e1 ∧ Stp P F σ H env P' F' σ1 H1 e1 ∧ whileN gc gb ws m e1 = some out, ⟨fuel, P, F, _, k1, t1, e⟩, ?_⟩
    rintro m σ1 H1 ⟨P', F', e1, h1, s1, eg⟩
    cases m with
    | zero => cases eg
    | succ n =>
      rw [whileN] at eg
      obtain ⟨k, a1, eg2⟩ := bind2 eg
      refine ⟨F', e1, k, h1.ok, a1, fun H2 sm _ => ?_⟩
      have h2 := h1.later sm
      have s2 := s1.trans (Stp.later (P := P') (F := F') (σ := σ1) (env := e1) sm)
      cases k with
      | false =>
        rw [if_neg Bool.false_ne_true] at eg2
        cases eg2
        exact iteF (p P' F' σ1 H2 h2 s2)
      | true =>
        rw [if_pos rfl] at eg2
        obtain ⟨o, a2, eg3⟩ := bind2 eg2
        refine iteT ⟨fun σ' H' => ∃ P2 F2 e3, SOk X.K B F0 P2 F2 σ' H' e3 ∧ Stp P F σ H env P2 F2 σ' H' e3 ∧ whileN gc gb ws n e3 = some out, fun σ' H' hN => ⟨n, Nat.lt_succ_self n, hN⟩, B, F0, P', F', e1, o, h2, a2, ?_⟩
        cases o with
        | nx e5 => exact fun P6 F6 σ6 H6 h6 s6 => ⟨P6, F6, _, (h6.forget ws).1, (s2.trans s6).trans (h6.forget ws).2, eg3⟩
        | ct e5 => exact fun P6 F6 σ6 H6 h6 s6 => ⟨P6, F6, _, (h6.forget ws).1, (s2.trans s6).trans (h6.forget ws).2, eg3⟩
        | bk e5 =>
          cases eg3
          exact fun P6 F6 σ6 H6 h6 s6 => p P6 F6 σ6 H6 (h6.forget ws).1 ((s2.trans s6).trans (h6.forget ws).2)
        | rt r =>
          cases eg3
          exact p
/-! ### defs -/
def argF : RV → RV
  | (d, .ow) => (d, .fz)
  | r => r
/-- a def of n names, np of them parameters -/
def fnG (np n : Nat) (body : GS) (rs : List RV) : Option RV := if rs.length = np then (body (rs.map (fun r => some (argF r)) ++ List.replicate (n - np) none)).bind fun o => match o with
  | .nx _ => some (.none, .fz)
  | .rt r => some r
  | _ => none else none
def ArgsOk (K : PySem.W.Frag) (F : Addr → Prop) (H : Hp) (vs : List V) (rs : List RV) : Prop := vs.length = rs.length ∧ ∀ (i : Nat) (r : RV), rs[i]? = some r → ∃ v, vs[i]? = some v ∧ SlOk K F H v (argF r)
/-- what a def with the function g promises -/
def spG (K : PySem.W.Frag) (g : List RV → Option RV) : Sp := fun vs H Q _ => ∃ F rs r, ArgsOk K F H vs rs ∧ (∀ b, F b → H b ≠ none) ∧ g rs = some r ∧ ∀ v H', Same H H' → Res K F H H' v r → Q v H'
theorem fnG_len {np n : Nat} {g : GS} {rs : List RV} {r : RV} (h : fnG np n g rs = some r) : rs.length = np := by
  unfold fnG at h
  split at h
  · assumption
  · cases h
theorem argF_ow (r : RV) (d : D) : argF r ≠ (d, .ow) := by
  obtain ⟨d0, f⟩ := r
  cases f <;> exact fun z => nomatch z
theorem start_get {N : List Str} {vs : List V} {i : Nat} {v : V} (h : vs[i]? = some v) : (L2.start N vs)[i]? = some (some v) := by
  unfold L2.start
  have hi : i < vs.length := (List.getElem?_eq_some_iff.mp h).1
  rw [List.getElem?_append_left (by simpa using hi), List.getElem?_map, h]
  rfl
theorem start_ok {K : PySem.W.Frag} {F : Addr → Prop} {H : Hp} {vs : List V} {rs : List RV} {N : List Str} {np n : Nat} (hn : N.length = n) (hp : np ≤ n) (hl : rs.length = np) (ha : ArgsOk K F H vs rs) (hF : ∀ b, F b → H b ≠ none) :
    SOk K H F (fun b => H b ≠ none) F (L2.start N vs) H (rs.map (fun r => some (argF r)) ++ List.replicate (n - np) none) := by
  have look : ∀ (i : Nat) (r0 : RV), (rs.map (fun r => some (argF r)) ++ List.replicate (n - np) (none : Slot))[i]? = some (some r0) → ∃ r, rs[i]? = some r ∧ r0 = argF r := fun i r0 e => by
    by_cases hi : i < rs.length
    · rw [List.getElem?_append_left (by simpa using hi), List.getElem?_map, List.getElem?_eq_getElem hi] at e
      exact ⟨rs[i], List.getElem?_eq_getElem hi, by cases e; rfl⟩
    · rw [List.getElem?_append_right (by simpa using Nat.le_of_not_lt hi), List.getElem?_replicate] at e
      split at e <;> cases e
  refine ⟨⟨?_, hF, fun i r0 e => ?_, fun i j d d' a _ e1 _ _ _ => ?_⟩, Same.refl H, fun b z => .inl z, hF, fun b z => z, fun b z => z, fun i d a e _ => ?_, fun i d a e e1 => ?_⟩
  · unfold L2.start
    simp [hn, hl, ha.1]
  · obtain ⟨r, e1, rfl⟩ := look i r0 e
    obtain ⟨v, e2, s⟩ := ha.2 i r e1
    exact ⟨v, start_get e2, s⟩
  · obtain ⟨r, _, q⟩ := look i _ e1
    exact absurd q.symm (argF_ow r d)
  · obtain ⟨r, _, q⟩ := look i _ e
    exact absurd q.symm (argF_ow r d)
  · obtain ⟨r, f1, q⟩ := look i _ e
    obtain ⟨v, e2, s⟩ := ha.2 i r f1
    rw [start_get e2] at e1
    cases e1
    rw [← q] at s
    obtain ⟨a', h1, h3⟩ := s
    cases h1
    exact h3.isn
theorem body_reads {K : PySem.W.Frag} {vs : List V} {H : Hp} {Q : VK} {E : XK} {N : List Str} {np n : Nat} {g : GS} (hn : N.length = n) (hp : np ≤ n) (h : spG K (fnG np n g) vs H Q E) : TS' K g { nx := fun _ H' => Q .non H', rt := Q } (L2.start N vs) H := by
  obtain ⟨F, rs, r, ha, hF, e, q⟩ := h
  have hl := fnG_len e
  unfold fnG at e
  rw [if_pos hl] at e
  obtain ⟨o, e1, e2⟩ := bind2 e
  refine ⟨H, F, _, F, _, o, start_ok hn hp hl ha hF, e1, ?_⟩
  cases o with
  | nx e => cases e2; exact fun P' F' σ' H' k s => q .non H' k.sB Res.ofNone
  | rt r => cases e2; exact fun v H' s rv => q v H' s rv
  | bk e => cases e2
  | ct e => cases e2
/-- a def keeps its promise -/
theorem fn_ok {P : Program} {w : World} {K : PySem.W.Frag} {mg : Str → Option Value} {base : Heap} {x qual : Str} {st : Stmt} {f : Addr} {fd : FuncData} {N ps : List Str} {k np n : Nat} {g : GS} (Fn : Fun K x qual st f fd) (S : FnScope N ps (defScope st)) (hn : N.length = n) (hps : ps.length = np) (hp : np ≤ n)
    (hbody : ∀ (cdv : Value) (A : Around) (outer : List Env) (s : Shared) (H : Hp) (E : XK), Room k (A.deeper (envOfC qual (defScope st) s.heap.objs.size f cdv)) → VSs (cxOf CX0 P w K mg base N qual (defScope st) f cdv A outer s H E).nox (defBody st) g) :
    FnOk P w K mg base CX0 (k + 1) f fd ps (spG K (fnG np n g)) :=
  Fn.ok S (fun vs H Q E ⟨F, rs, r, ha, _, e, _⟩ => by rw [ha.1, fnG_len e, hps]) fun cdv A outer s H vs Q E hr h => ⟨_, hbody cdv A outer s H E hr, body_reads hn hp h⟩
/-! ### calls -/
theorem args_of {K : PySem.W.Frag} {F : Addr → Prop} {H H' : Hp} {vs : List V} {rs : List RV} (h : ResL K F H H' vs rs) : ArgsOk K (fun b => F b ∨ (H b = none ∧ H' b ≠ none)) H' vs rs := by
  refine ⟨h.length, fun i r e => ?_⟩
  obtain ⟨v, e1, rv⟩ := h.get e
  refine ⟨v, e1, ?_⟩
  obtain ⟨d, fl⟩ := r
  cases fl with
  | fz => obtain ⟨L, rp, hl⟩ := rv; exact ⟨L, rp, fun b hb => (hl b hb).imp id fun z => ⟨z, rp.addr b hb⟩⟩
  | ow => obtain ⟨L, rp, hl⟩ := rv.frz (fun z => nomatch z) (fun z => nomatch z); exact ⟨L, rp, fun b hb => (hl b hb).imp id fun z => ⟨z, rp.addr b hb⟩⟩
  | bw => obtain ⟨a, rfl, ob⟩ := rv; exact ⟨a, rfl, ob.impA fun b z w => z.imp id fun z => ⟨z, w⟩⟩
  | sc => exact rv
variable {e : Expr} {es : List Expr} {x : Str} {p : Pos} {t : GA}
theorem call_reads {K : PySem.W.Frag} {g : List RV → Option RV} {E : XK} {F : Addr → Prop} {env : En} {σ : L2.St} {H : Hp} {Q : VK} {r : RV} (ok : Ok K F σ H env) (e : eA g t env = some r) (q : ∀ v H', Same H H' → Res K F H H' v r → Q v H') :
    tCall (spG K g) [] E (TA' K t) σ H Q := by
  obtain ⟨rs, e1, e2⟩ := bind2 e
  refine ⟨F, env, rs, ok, e1, fun vs H1 rl => ?_⟩
  show spG K g (vs ++ []) H1 Q E
  rw [List.append_nil]
  refine ⟨_, rs, r, args_of rl, fun b z => z.elim (fun z => Same.dom rl.same (ok.dom b z)) fun z => z.2, e2, fun v H' s rv => q v H' (rl.same.trans s) ((rv.back rl.same).imp fun b z => z.imp id fun z => z.1)⟩
/-- a def of the module that does what g says, at k calls' room -/
structure Cl (P : Program) (w : World) (K : PySem.W.Frag) (mg : Str → Option Value) (base : Heap) (k : Nat) (x : Str) (g : List RV → Option RV) : Prop where
  ex : ∃ (f : Addr) (fd : FuncData) (ps : List Str), FnOk P w K mg base CX0 k f fd ps (spG K g) ∧ mg x = some (.ref f) ∧ PySem.W.keepIn K (.ref f) = true ∧ Binds K fd ps []
/-- a def as it stands behind the top -/
structure Tp (K : PySem.W.Frag) (mg : Str → Option Value) (x : Str) (st : Stmt) : Prop where
  ex : ∃ (f : Addr) (fd : FuncData), Fun K x x st f fd ∧ mg x = some (.ref f)
theorem cl_of {P : Program} {w : World} {K : PySem.W.Frag} {mg : Str → Option Value} {base : Heap} {x : Str} {st : Stmt} {N ps : List Str} {k np n : Nat} {g : GS} (T : Tp K mg x st) (S : FnScope N ps (defScope st)) (hn : N.length = n) (hps : ps.length = np) (hp : np ≤ n)
    (hb : ∀ (kV doc pm : Value) (an : Option Addr) (cdv ct : Value) (us : List Value), us.length = ps.length → bindArgs (PySem.W.fnOf x x (defArgs st) (defBody st) (defScope st) .none kV doc pm an cdv ct) ⟨us, []⟩ = pure (ps.zip us))
    (hbody : ∀ (f : Addr) (cdv : Value) (A : Around) (outer : List Env) (s : Shared) (H : Hp) (E : XK), Room k (A.deeper (envOfC x (defScope st) s.heap.objs.size f cdv)) → VSs (cxOf CX0 P w K mg base N x (defScope st) f cdv A outer s H E).nox (defBody st) g) :
    Cl P w K mg base (k + 1) x (fnG np n g) := by
  obtain ⟨f, fd, F, hm⟩ := T.ex
  exact ⟨f, fd, ps, fn_ok F S hn hps hp fun cdv A outer s H E hr => hbody f cdv A outer s H E hr, hm, F.kp, F.binds hb⟩
theorem Cl.mono {P : Program} {w : World} {K : PySem.W.Frag} {mg : Str → Option Value} {base : Heap} {k j : Nat} {x : Str} {g : List RV → Option RV} (c : Cl P w K mg base k x g) (h : k ≤ j) : Cl P w K mg base j x g := by
  obtain ⟨f, fd, ps, h1, h2⟩ := c.ex
  exact ⟨f, fd, ps, h1.mono h, h2⟩
theorem cl_none {P : Program} {w : World} {K : PySem.W.Frag} {mg : Str → Option Value} {base : Heap} {k : Nat} {x : Str} {st : Stmt} (T : Tp K mg x st) {ps : List Str}
    (hb : ∀ (kV doc pm : Value) (an : Option Addr) (cdv ct : Value) (us : List Value), us.length = ps.length → bindArgs (PySem.W.fnOf x x (defArgs st) (defBody st) (defScope st) .none kV doc pm an cdv ct) ⟨us, []⟩ = pure (ps.zip us)) : Cl P w K mg base k x (fun _ => none) := by
  obtain ⟨f, fd, F, hm⟩ := T.ex
  exact ⟨f, fd, ps, ⟨fun vs H Q E ⟨_, _, _, _, _, e, _⟩ => (nomatch e), fun A outer s H args us vs Q E _ _ _ _ ⟨_, _, _, _, _, e, _⟩ => (nomatch e)⟩, hm, F.kp, F.binds hb⟩
theorem ve_call {k j : Nat} {g : List RV → Option RV} (c : Cl X.prog X.w X.K X.mg X.base k x g) (hr : Room j X.A) (hk : k ≤ j) (hg : Gl X x) (ha : VA X (e :: es) t)
    (hdb : (x == ("__debug__" : Str)) = false := by decide) (he : starEach (e :: es) X.env = (false, eval e X.env) :: starEach es X.env := by rfl) (hpl : (backTo pos (starEach es X.env)).any (·.1) = false := by rfl) :
    VE X (.Call (.Name x p) (e :: es) [] pos) (eA g t) := by
  obtain ⟨f, fd, ps, Fo, hm, kp, hb⟩ := c.ex
  exact PE.to (pe_call (E := E0) Fo (hr.mono hk) hg hm kp hb .nil pass0 ha hdb he hpl) fun σ H Q ⟨F, env, r, ok, e, q⟩ => call_reads ok e fun v H' s rv sz => q v H' s sz rv
theorem ve_call0 {k j : Nat} {g : List RV → Option RV} (c : Cl X.prog X.w X.K X.mg X.base k x g) (hr : Room j X.A) (hk : k ≤ j) (hg : Gl X x)
    (hdb : (x == ("__debug__" : Str)) = false := by decide) : VE X (.Call (.Name x p) [] [] pos) (eA g aNil) := by
  obtain ⟨f, fd, ps, Fo, hm, kp, hb⟩ := c.ex
  exact PE.to (pe_call0 (E := E0) Fo (hr.mono hk) hg hm kp hb .nil pass0 hdb) fun σ H Q ⟨F, env, r, ok, e, q⟩ =>
    ⟨F, [], r, ⟨rfl, fun i r z => by simp at z⟩, ok.dom, e, fun v H' s rv sz => q v H' s sz rv⟩
end
end Pl

set_option Elab.async false
set_option linter.all false
set_option maxRecDepth 100000
set_option maxHeartbeats 4000000
/-! Pl10: built-in calls -/
namespace Pl
open PySem PySem.Spec PyProof.Rows L2

section
variable {X : Cx}
def CallF (X : Cx) (f : Value) (g : List RV → Option RV) : Prop :=
  ∃ r, CallR X f r ∧ ∀ (F : Addr → Prop) (H0 H : Hp) (vs : List V) (rs : List RV) (c : RV) (Q : VK), ResL X.K F H0 H vs rs → g rs = some c → (∀ v H', Same H H' → Res X.K F H0 H' v c → Q v H') → r vs H Q
theorem CallF.or {f : Value} {g g' : List RV → Option RV} (h : CallF X f g) (h' : CallF X f g') : CallF X f (fun rs => (g rs).or (g' rs)) := by
  obtain ⟨r, h1, h2⟩ := h
  obtain ⟨r', k1, k2⟩ := h'
  refine ⟨_, h1.or k1, fun F H0 H vs rs c Q rl e q => ?_⟩
  cases e1 : g rs with
  | some z =>
    have e : (g rs).or (g' rs) = some c := e
    rw [e1] at e
    cases e
    exact .inl (h2 F H0 H vs rs _ Q rl e1 q)
  | none =>
    have e : (g rs).or (g' rs) = some c := e
    rw [e1] at e
    exact .inr (k2 F H0 H vs rs _ Q rl e q)
theorem CallF.congr {f : Value} {g g' : List RV → Option RV} (h : CallF X f g) (e : ∀ rs, g' rs = g rs) : CallF X f g' := by
  have : g' = g := funext e
  rw [this]
  exact h
/-- a call of one argument -/
def one (g : RV → Option RV) (rs : List RV) : Option RV := match rs with
  | [a] => g a
  | _ => none
def two (g : RV → RV → Option RV) (rs : List RV) : Option RV := match rs with
  | [a, b] => g a b
  | _ => none
theorem one_of {g : RV → Option RV} {rs : List RV} {c : RV} (h : one g rs = some c) : ∃ a, rs = [a] ∧ g a = some c := by
  unfold one at h
  split at h
  · exact ⟨_, rfl, h⟩
  · cases h
theorem two_of {g : RV → RV → Option RV} {rs : List RV} {c : RV} (h : two g rs = some c) : ∃ a b, rs = [a, b] ∧ g a b = some c := by
  unfold two at h
  split at h
  · exact ⟨_, _, rfl, h⟩
  · cases h
theorem ResL.one {K : PySem.W.Frag} {F : Addr → Prop} {H0 H : Hp} {vs : List V} {a : RV} (h : ResL K F H0 H vs [a]) : ∃ v, vs = [v] ∧ Res K F H0 H v a := by
  cases h with
  | cons s r t =>
    cases t with
    | nil s2 => exact ⟨_, rfl, r.mono s2⟩
theorem ResL.two {K : PySem.W.Frag} {F : Addr → Prop} {H0 H : Hp} {vs : List V} {a b : RV} (h : ResL K F H0 H vs [a, b]) : ∃ v w, vs = [v, w] ∧ Res K F H0 H v a ∧ Res K F H0 H w b := by
  cases h with
  | cons s r t =>
    obtain ⟨w, rfl, r2⟩ := t.one
    exact ⟨_, w, rfl, r.mono t.same, r2.back s⟩
theorem ResL.three {K : PySem.W.Frag} {F : Addr → Prop} {H0 H : Hp} {vs : List V} {a b c : RV} (h : ResL K F H0 H vs [a, b, c]) : ∃ v w u, vs = [v, w, u] ∧ Res K F H0 H v a ∧ Res K F H0 H w b ∧ Res K F H0 H u c := by
  cases h with
  | cons s r t =>
    obtain ⟨w, u, rfl, r2, r3⟩ := t.two
    exact ⟨_, w, u, rfl, r.mono t.same, r2.back s, r3.back s⟩
theorem call1 {f : Value} {g : RV → Option RV} {r : V → Hp → VK → Prop} (h : CallR X f (fun xs H Q => ∃ x, xs = [x] ∧ r x H Q)) (k : ∀ (F : Addr → Prop) (H0 H : Hp) (v : V) (a c : RV) (Q : VK), Res X.K F H0 H v a → Same H0 H → g a = some c → (∀ v H', Same H H' → Res X.K F H0 H' v c → Q v H') → r v H Q) :
    CallF X f (one g) := by
  refine ⟨_, h, fun F H0 H vs rs c Q rl e q => ?_⟩
  obtain ⟨a, rfl, e2⟩ := one_of e
  obtain ⟨v, rfl, rv⟩ := rl.one
  exact ⟨v, rfl, k F H0 H v a c Q rv rl.same e2 q⟩
theorem call2 {f : Value} {g : RV → RV → Option RV} {r : V → V → Hp → VK → Prop} (h : CallR X f (fun xs H Q => ∃ x y, xs = [x, y] ∧ r x y H Q)) (k : ∀ (F : Addr → Prop) (H0 H : Hp) (v w : V) (a b c : RV) (Q : VK), Res X.K F H0 H v a → Res X.K F H0 H w b → Same H0 H → g a b = some c → (∀ v H', Same H H' → Res X.K F H0 H' v c → Q v H') → r v w H Q) :
    CallF X f (two g) := by
  refine ⟨_, h, fun F H0 H vs rs c Q rl e q => ?_⟩
  obtain ⟨a, b, rfl, e2⟩ := two_of e
  obtain ⟨v, w, rfl, rv, rw⟩ := rl.two
  exact ⟨v, w, rfl, k F H0 H v w a b c Q rv rw rl.same e2 q⟩
theorem CallR.imp {f : Value} {r r' : List V → Hp → VK → Prop} (h : CallR X f r) (i : ∀ xs H Q, r' xs H Q → r xs H Q) : CallR X f r' := fun pins s σ H xs us Q I rv q => h pins s σ H xs us Q I rv (i xs H Q q)
/-! len -/
def lenG : RV → Option RV
  | (.list ds, _) => some (.int (ds.length : Nat), .fz)
  | (.tuple ds, _) => some (.int (ds.length : Nat), .fz)
  | (.str x, _) => if x.length ≤ 16777216 then some (.int (x.length : Nat), .fz) else none
  | _ => none
theorem callF_len : CallF X (.builtin "len") (one lenG) := by
  refine call1 (r := fun x H Q => ∃ n, LenV X.K x H n ∧ Q (.int (n : Nat)) H) (CallR.imp call_len fun xs H Q ⟨x, e, n, l, q⟩ => ⟨x, n, e, l, q⟩) fun F H0 H v a c Q rv sm e q => ?_
  obtain ⟨d, f⟩ := a
  cases d <;> try (cases (show (none : Option RV) = some c from e))
  · rename_i x
    have e' : (if x.length ≤ 16777216 then some ((.int (x.length : Nat), .fz) : RV) else none) = some c := e
    split at e'
    · rename_i hc
      cases e'
      rw [rv.str]
      exact ⟨x.length, ⟨by rw [sizeLine_eq]; exact hc, rfl⟩, q _ H (Same.refl H) Res.ofInt⟩
    · cases e'
  · rename_i ds
    cases e
    obtain ⟨p, vs, L, rfl, s, r, _⟩ := rv.list
    exact ⟨ds.length, .inl ⟨vs, s, r.length.symm⟩, q _ H (Same.refl H) Res.ofInt⟩
  · rename_i ds
    cases e
    obtain ⟨p, vs, L, rfl, s, r, _⟩ := rv.tuple
    exact ⟨ds.length, .inr ⟨vs, s, r.length.symm⟩, q _ H (Same.refl H) Res.ofInt⟩
/-! abs, int, min, max of ints -/
def absG : RV → Option RV
  | (.int i, _) => some (.int (if i < 0 then -i else i), .fz)
  | _ => none
theorem callF_abs : CallF X (.builtin "abs") (one absG) := by
  refine call1 (r := fun x H Q => ∃ i, x = .int i ∧ Q (.int (if i < 0 then -i else i)) H) (CallR.imp call_abs fun xs H Q ⟨x, e, i, e2, q⟩ => ⟨i, by rw [e, e2], q⟩) fun F H0 H v a c Q rv sm e q => ?_
  obtain ⟨d, f⟩ := a
  cases d <;> try (cases (show (none : Option RV) = some c from e))
  cases e
  exact ⟨_, rv.int, q _ H (Same.refl H) Res.ofInt⟩
def intG : RV → Option RV
  | (.int i, _) => some (.int i, .fz)
  | (.bool b, _) => some (.int (if b then 1 else 0), .fz)
  | _ => none
theorem callF_int : CallF X (.type "int") (one intG) := by
  refine call1 (r := fun x H Q => (∃ i, x = .int i ∧ Q (.int i) H) ∨ ∃ k, x = .bl k ∧ Q (.int (if k then 1 else 0)) H) (CallR.imp call_int1 fun xs H Q ⟨x, e, h⟩ => h.imp (fun ⟨i, e2, q⟩ => ⟨i, by rw [e, e2], q⟩) fun ⟨i, e2, q⟩ => ⟨i, by rw [e, e2], q⟩) fun F H0 H v a c Q rv sm e q => ?_
  obtain ⟨d, f⟩ := a
  cases d <;> try (cases (show (none : Option RV) = some c from e))
  · cases e
    exact .inr ⟨_, rv.bool, q _ H (Same.refl H) Res.ofInt⟩
  · cases e
    exact .inl ⟨_, rv.int, q _ H (Same.refl H) Res.ofInt⟩
def int2G (k : Int → Int → Int) : RV → RV → Option RV
  | (.int i, _), (.int j, _) => some (.int (k i j), .fz)
  | _, _ => none
theorem callF_int2 {f : Value} {k : Int → Int → Int} (h : CallR X f (fun xs H Q => ∃ i j, xs = [.int i, .int j] ∧ Q (.int (k i j)) H)) : CallF X f (two (int2G k)) := by
  refine call2 (r := fun x y H Q => ∃ i j, x = .int i ∧ y = .int j ∧ Q (.int (k i j)) H) (CallR.imp h fun xs H Q ⟨x, y, e, i, j, e1, e2, q⟩ => ⟨i, j, by rw [e, e1, e2], q⟩) fun F H0 H v w a b c Q rv rw sm e q => ?_
  obtain ⟨d, f⟩ := a
  obtain ⟨d2, f2⟩ := b
  cases d <;> try (cases (show (none : Option RV) = some c from e))
  cases d2 <;> try (cases (show (none : Option RV) = some c from e))
  cases e
  exact ⟨_, _, rv.int, rw.int, q _ H (Same.refl H) Res.ofInt⟩
def maxI (i j : Int) : Int := if j > i then j else i
def minI (i j : Int) : Int := if j < i then j else i
theorem callF_max2 (hc : X.calm = true) : CallF X (.builtin "max") (two (int2G maxI)) := callF_int2 (call_max2 hc)
theorem callF_min2 (hc : X.calm = true) : CallF X (.builtin "min") (two (int2G minI)) := callF_int2 (call_min2 hc)
def min3G : List RV → Option RV
  | [(.int a, _), (.int b, _), (.int c, _)] => some (.int (minI (minI a b) c), .fz)
  | _ => none
theorem callF_min3 (hc : X.calm = true) : CallF X (.builtin "min") min3G := by
  refine ⟨fun xs H Q => ∃ a b c, xs = [.int a, .int b, .int c] ∧ Q (.int (minI (minI a b) c)) H, ?_, fun F H0 H vs rs c Q rl e q => ?_⟩
  · intro pins s σ H xs us Q I r h
    obtain ⟨a, b, c, rfl, q⟩ := h
    cases r with
    | cons r1 r =>
      cases r with
      | cons r2 r =>
        cases r with
        | cons r3 r =>
          cases r
          obtain ⟨t, rfl⟩ := r1
          obtain ⟨u, rfl⟩ := r2
          obtain ⟨x, rfl⟩ := r3
          refine min_three_ints (I.ok.hd hc) fun h' tk k => ⟨.int _, H, I.kept k, ?_, q⟩
          unfold minI
          by_cases h1 : b < a
          · simp only [if_pos h1]
            by_cases h2 : c < b <;> simp only [h2, if_true, if_false] <;> exact ⟨_, rfl⟩
          · simp only [if_neg h1]
            by_cases h2 : c < a <;> simp only [h2, if_true, if_false] <;> exact ⟨_, rfl⟩
  · unfold min3G at e
    split at e
    · cases e
      obtain ⟨v, w, u, rfl, r1, r2, r3⟩ := rl.three
      exact ⟨_, _, _, by rw [r1.int, r2.int, r3.int], q _ H (Same.refl H) Res.ofInt⟩
    · cases e
/-! list, tuple -/
def listG : RV → Option RV
  | (.list ds, _) => some (.list ds, .ow)
  | (.tuple ds, _) => some (.list ds, .ow)
  | _ => none
theorem callF_list : CallF X (.type "list") (one listG) := by
  refine call1 (r := fun x H Q => ∃ p ys, x = .ref p ∧ (SqL X.K H p ys ∨ SqT X.K H p ys) ∧ ∀ l, H l = none → Q (.ref l) (upd H l (.lst ys))) (CallR.imp call_list_of fun xs H Q ⟨x, e, p, ys, e2, q⟩ => ⟨p, ys, by rw [e, e2], q⟩) fun F H0 H v a c Q rv sm e q => ?_
  obtain ⟨d, f⟩ := a
  cases d <;> try (cases (show (none : Option RV) = some c from e))
  · cases e
    obtain ⟨p, vs, L, rfl, s, r, hl⟩ := rv.list
    refine ⟨p, vs, rfl, .inl s, fun l n => q _ _ (same_new n) ⟨l, rfl, sm.free n, vs, L, upd_same, r.mono (same_new n), fun b hb => ⟨hl b hb, fun z => r.addr b hb (z ▸ n)⟩⟩⟩
  · cases e
    obtain ⟨p, vs, L, rfl, s, r, hl⟩ := rv.tuple
    refine ⟨p, vs, rfl, .inr s, fun l n => q _ _ (same_new n) ⟨l, rfl, sm.free n, vs, L, upd_same, r.mono (same_new n), fun b hb => ⟨hl b hb, fun z => r.addr b hb (z ▸ n)⟩⟩⟩
def tupleG : RV → Option RV
  | (.list ds, _) => some (.tuple ds, .fz)
  | (.tuple ds, _) => some (.tuple ds, .fz)
  | _ => none
theorem callF_tuple : CallF X (.type "tuple") (one tupleG) := by
  refine call1 (r := fun x H Q => ∃ p ys, x = .ref p ∧ ((SqL X.K H p ys ∧ ∀ l, H l = none → Q (.ref l) (upd H l (.tup ys))) ∨ (SqT X.K H p ys ∧ Q (.ref p) H))) (CallR.imp call_tuple_of fun xs H Q ⟨x, e, p, ys, e2, q⟩ => ⟨p, ys, by rw [e, e2], q⟩) fun F H0 H v a c Q rv sm e q => ?_
  obtain ⟨d, f⟩ := a
  cases d <;> try (cases (show (none : Option RV) = some c from e))
  · cases e
    obtain ⟨p, vs, L, rfl, s, r, hl⟩ := rv.list
    exact ⟨p, vs, rfl, .inl ⟨s, fun l n => q _ _ (same_new n) ⟨L, .tup (.inl (.inl upd_same)) (r.mono (same_new n)), hl⟩⟩⟩
  · cases e
    obtain ⟨p, vs, L, rfl, s, r, hl⟩ := rv.tuple
    exact ⟨p, vs, rfl, .inr ⟨s, q _ _ (Same.refl H) ⟨L, .tup s r, hl⟩⟩⟩
/-! sum, any, all -/
def intsOf : List D → Option (List Int)
  | [] => some []
  | .int i :: ds => (intsOf ds).map fun r => i :: r
  | _ :: _ => none
theorem intsOf_of : ∀ {ds : List D} {ns : List Int}, intsOf ds = some ns → ds = ns.map .int
  | [], _, h => by cases h; rfl
  | d :: ds, ns, h => by
    cases d <;> try (cases (show (none : Option (List Int)) = some ns from h))
    rename_i i
    have h' : (intsOf ds).map (fun r => i :: r) = some ns := h
    cases e : intsOf ds with
    | none => rw [e] at h'; cases h'
    | some r => rw [e] at h'; cases h'; rw [intsOf_of e]; rfl
theorem rpa_ints_inv {K : PySem.W.Frag} {H : Hp} : ∀ {ns : List Int} {vs : List V} {L : List Addr}, RpA K H vs (ns.map .int) L → vs = ns.map V.int
  | [], _, _, h => by cases h; rfl
  | n :: ns, _, _, h => by
    cases h with
    | cons h1 h2 => cases h1; rw [rpa_ints_inv h2]; rfl
def sumG : RV → Option RV
  | (.list ds, _) => (intsOf ds).map fun ns => (.int ns.sum, .fz)
  | (.tuple ds, _) => (intsOf ds).map fun ns => (.int ns.sum, .fz)
  | _ => none
theorem sum_tup (hc : X.calm = true) : CallR X (.builtin "sum") (fun vs H Q => ∃ (a : Addr) (ns : List Int), vs = [V.ref a] ∧ SqT X.K H a (ns.map V.int) ∧ Q (.int ns.sum) H) := by
  intro pins s σ H vs us Q I r h
  obtain ⟨a, ns, rfl, hs, q⟩ := h
  obtain ⟨its, rv, ht, _⟩ := I.tuple hs
  rw [Vals.ref1 r]
  have hi := rv.ints
  obtain ⟨xs, e⟩ := hi.allInts.items
  have hn : numsOf (intItems xs).toList = ns := by rw [← e]; exact hi.numsOf
  rw [nums_intItems] at hn
  have ht' : s.heap.IsTuple a (intItems xs) := by rw [← e]; exact ht
  refine PySem.W.ktm_sumG (I.ok.hd hc) ht' fun h' tk t' hk => ?_
  rw [preSum_eq, List.take_of_length_le (by simp), hn]
  exact ⟨.int _, H, I.kept hk, ⟨_, rfl⟩, q⟩
theorem callF_sum (hc : X.calm = true) : CallF X (.builtin "sum") (one sumG) := by
  refine call1 (r := fun x H Q => ∃ (a : Addr) (ns : List Int), x = .ref a ∧ (SqL X.K H a (ns.map V.int) ∨ SqT X.K H a (ns.map V.int)) ∧ Q (.int ns.sum) H)
    (CallR.imp ((cr_sum hc).or (sum_tup hc)) fun xs H Q ⟨x, e, a, ns, e2, h, q⟩ => h.imp (fun h => ⟨a, ns, by rw [e, e2], h, q⟩) fun h => ⟨a, ns, by rw [e, e2], h, q⟩) fun F H0 H v a c Q rv sm e q => ?_
  obtain ⟨d, f⟩ := a
  cases d <;> try (cases (show (none : Option RV) = some c from e))
  · rename_i ds
    have e' : (intsOf ds).map (fun ns => ((.int ns.sum, .fz) : RV)) = some c := e
    cases e1 : intsOf ds with
    | none => rw [e1] at e'; cases e'
    | some ns =>
      rw [e1] at e'
      cases e'
      cases intsOf_of e1
      obtain ⟨p, vs, L, rfl, s, r, hl⟩ := rv.list
      cases rpa_ints_inv r
      exact ⟨p, ns, rfl, .inl s, q _ H (Same.refl H) Res.ofInt⟩
  · rename_i ds
    have e' : (intsOf ds).map (fun ns => ((.int ns.sum, .fz) : RV)) = some c := e
    cases e1 : intsOf ds with
    | none => rw [e1] at e'; cases e'
    | some ns =>
      rw [e1] at e'
      cases e'
      cases intsOf_of e1
      obtain ⟨p, vs, L, rfl, s, r, hl⟩ := rv.tuple
      cases rpa_ints_inv r
      exact ⟨p, ns, rfl, .inr s, q _ H (Same.refl H) Res.ofInt⟩
def boolsOf : List D → Option (List Bool)
  | [] => some []
  | .bool i :: ds => (boolsOf ds).map fun r => i :: r
  | _ :: _ => none
theorem boolsOf_of : ∀ {ds : List D} {ns : List Bool}, boolsOf ds = some ns → ds = ns.map .bool
  | [], _, h => by cases h; rfl
  | d :: ds, ns, h => by
    cases d <;> try (cases (show (none : Option (List Bool)) = some ns from h))
    rename_i i
    have h' : (boolsOf ds).map (fun r => i :: r) = some ns := h
    cases e : boolsOf ds with
    | none => rw [e] at h'; cases h'
    | some r => rw [e] at h'; cases h'; rw [boolsOf_of e]; rfl
theorem rpa_bools_inv {K : PySem.W.Frag} {H : Hp} : ∀ {ns : List Bool} {vs : List V} {L : List Addr}, RpA K H vs (ns.map .bool) L → vs = ns.map V.bl
  | [], _, _, h => by cases h; rfl
  | n :: ns, _, _, h => by
    cases h with
    | cons h1 h2 => cases h1; rw [rpa_bools_inv h2]; rfl
def boolsG (k : List Bool → Bool) : RV → Option RV
  | (.list ds, _) => (boolsOf ds).map fun ns => (.bool (k ns), .fz)
  | _ => none
theorem callF_bools {f : Value} {k : List Bool → Bool} (h : CallR X f (fun vs H Q => ∃ (a : Addr) (bs : List Bool), vs = [V.ref a] ∧ SqL X.K H a (bs.map V.bl) ∧ Q (.bl (k bs)) H)) : CallF X f (one (boolsG k)) := by
  refine call1 (r := fun x H Q => ∃ (a : Addr) (bs : List Bool), x = .ref a ∧ SqL X.K H a (bs.map V.bl) ∧ Q (.bl (k bs)) H) (CallR.imp h fun xs H Q ⟨x, e, a, ns, e2, h, q⟩ => ⟨a, ns, by rw [e, e2], h, q⟩) fun F H0 H v a c Q rv sm e q => ?_
  obtain ⟨d, f⟩ := a
  cases d <;> try (cases (show (none : Option RV) = some c from e))
  rename_i ds
  have e' : (boolsOf ds).map (fun ns => ((.bool (k ns), .fz) : RV)) = some c := e
  cases e1 : boolsOf ds with
  | none => rw [e1] at e'; cases e'
  | some ns =>
    rw [e1] at e'
    cases e'
    cases boolsOf_of e1
    obtain ⟨p, vs, L, rfl, s, r, hl⟩ := rv.list
    cases rpa_bools_inv r
    exact ⟨p, ns, rfl, s, q _ H (Same.refl H) Res.ofBool⟩
def anyL (bs : List Bool) : Bool := bs.any id
def allL (bs : List Bool) : Bool := bs.all id
theorem callF_any (hc : X.calm = true) : CallF X (.builtin "any") (one (boolsG anyL)) := callF_bools (cr_any hc)
theorem callF_all (hc : X.calm = true) : CallF X (.builtin "all") (one (boolsG allL)) := callF_bools (cr_all hc)
/-! min, max of data -/
def alikeB (ds : List D) : Bool := okA 9 ds && (ds.all fun x => ds.all fun y => PySem.W.alike x y) && ds.all fun x => !isNone x
theorem alikeB_of {ds : List D} (h : alikeB ds = true) : okA 9 ds = true ∧ PySem.W.AlikeAll ds := by
  unfold alikeB at h
  rw [Bool.and_eq_true, Bool.and_eq_true] at h
  obtain ⟨⟨h1, h2⟩, h3⟩ := h
  refine ⟨h1, fun x hx y hy => ?_, fun x hx z => ?_⟩
  · exact List.all_eq_true.mp (List.all_eq_true.mp h2 x hx) y hy
  · have := List.all_eq_true.mp h3 x hx
    rw [z] at this
    simp [isNone] at this
def mmG (k : D → List D → D) : RV → Option RV
  | (.list (d :: ds), _) => if alikeB (d :: ds) = true then some (k d ds, .fz) else none
  | (.tuple (d :: ds), _) => if alikeB (d :: ds) = true then some (k d ds, .fz) else none
  | _ => none
def rMM (K : PySem.W.Frag) (k : D → List D → D) (x : V) (H : Hp) (Q : VK) : Prop := ∃ (t : Bool) (p : Addr) (xs : List V) (d : D) (ds : List D), x = .ref p ∧ SqB K H t p xs ∧ DpAll K H xs (d :: ds) ∧ alikeB (d :: ds) = true ∧ ∀ (i : Nat) (v : V), xs[i]? = some v → (d :: ds)[i]? = some (k d ds) → Q v H
theorem pick {pins : List (Addr × Obj)} {σ : L2.St} {H : Hp} {s : Shared} {xs : List V} {its : List Value} {d : D} {ds : List D} {as : List Addr} {Q : VK} {k : D → List D → D} (I : Inv X pins σ H s) (rv : Vals xs its) (hr : ReadsAll s.heap its (d :: ds) as) (al : PySem.W.AlikeAll (d :: ds)) (hm : k d ds ∈ d :: ds)
    (q : ∀ (i : Nat) (v : V), xs[i]? = some v → (d :: ds)[i]? = some (k d ds) → Q v H) {i : Nat} {v : Value} {h' : Heap} {tk : Nat} {bs : List Addr} (e : its.toArray[i]? = some v) (r : Reads h' v (k d ds) bs) (hk : ∀ b o, s.heap.get? b = some o → h'.get? b = some o) :
    EP X pins σ Q v { s with heap := h', toks := tk } := by
  obtain ⟨bs2, r2, h3, h4, _⟩ := PySem.W.readsAll_atA (vs := its.toArray) (by simpa using hr) i v e
  have ee := PySem.W.alike_unique _ _ _ _ _ (al.1 _ h4 _ hm) (PySem.W.reads_keeps hk r2) r
  have el : its[i]? = some v := by simpa using e
  have hl := rv.length
  have hi : i < xs.length := by rw [hl]; exact (List.getElem?_eq_some_iff.mp el).1
  obtain ⟨u, eu, ru⟩ := rv.get (List.getElem?_eq_getElem hi)
  rw [el] at eu
  cases eu
  refine ⟨xs[i], H, I.kept hk, ru, q i _ (List.getElem?_eq_getElem hi) ?_⟩
  rw [List.getElem?_eq_getElem h3, ← ee, List.getD_eq_getElem?_getD, List.getElem?_eq_getElem h3]
  rfl
theorem minD_mem (d : D) : ∀ ds : List D, ∀ e, PySem.W.minD e ds = e ∨ PySem.W.minD e ds ∈ ds
  | [], e => .inl rfl
  | x :: xs, e => by
    have : PySem.W.minD e (x :: xs) = PySem.W.minD (if PySem.W.dataLt x e then x else e) xs := rfl
    rw [this]
    rcases minD_mem d xs (if PySem.W.dataLt x e then x else e) with h | h
    · rw [h]
      by_cases c : PySem.W.dataLt x e = true
      · rw [if_pos c]; exact .inr List.mem_cons_self
      · rw [if_neg c]; exact .inl rfl
    · exact .inr (List.mem_cons_of_mem _ h)
theorem maxD_mem (d : D) : ∀ ds : List D, ∀ e, PySem.W.maxD e ds = e ∨ PySem.W.maxD e ds ∈ ds
  | [], e => .inl rfl
  | x :: xs, e => by
    have : PySem.W.maxD e (x :: xs) = PySem.W.maxD (if PySem.W.dataLt e x then x else e) xs := rfl
    rw [this]
    rcases maxD_mem d xs (if PySem.W.dataLt e x then x else e) with h | h
    · rw [h]
      by_cases c : PySem.W.dataLt e x = true
      · rw [if_pos c]; exact .inr List.mem_cons_self
      · rw [if_neg c]; exact .inl rfl
    · exact .inr (List.mem_cons_of_mem _ h)
theorem mm_mem {d : D} {ds : List D} {m : D} (h : m = d ∨ m ∈ ds) : m ∈ d :: ds := by
  rcases h with h | h
  · rw [h]; exact List.mem_cons_self
  · exact List.mem_cons_of_mem _ h
theorem roomA {n : Nat} (hu : X.A.units + 64 < cLine) (h : n ≤ 9) : X.A.units + 1 + n < cLine := by omega
theorem cr_minD (hc : X.calm = true) (hu : X.A.units + 64 < cLine) : CallR X (.builtin "min") (fun xs H Q => ∃ x, xs = [x] ∧ rMM X.K PySem.W.minD x H Q) := by
  intro pins s σ H vs us Q I r h
  obtain ⟨x, rfl, t, p, xs, d, ds, rfl, sq, dp, al, q⟩ := h
  rw [Vals.ref1 r]
  obtain ⟨ok, al⟩ := alikeB_of al
  obtain ⟨its, rv, hs⟩ := sqB_is I sq
  obtain ⟨as, hr⟩ := Dp.readsAll I _ _ _ dp rv
  have hd := (okA_of 9 _ ok).2.2
  cases t with
  | false => exact PySem.W.min_list_data (I.ok.hd hc) hs (by simpa using hr) al (roomA hu hd) fun i v h' tk bs e r hk => pick I rv hr al (mm_mem (minD_mem d ds d)) q e r hk
  | true => exact PySem.W.min_tuple_data (I.ok.hd hc) hs (by simpa using hr) al (roomA hu hd) fun i v h' tk bs e r hk => pick I rv hr al (mm_mem (minD_mem d ds d)) q e r hk
theorem cr_maxD (hc : X.calm = true) (hu : X.A.units + 64 < cLine) : CallR X (.builtin "max") (fun xs H Q => ∃ x, xs = [x] ∧ rMM X.K PySem.W.maxD x H Q) := by
  intro pins s σ H vs us Q I r h
  obtain ⟨x, rfl, t, p, xs, d, ds, rfl, sq, dp, al, q⟩ := h
  rw [Vals.ref1 r]
  obtain ⟨ok, al⟩ := alikeB_of al
  obtain ⟨its, rv, hs⟩ := sqB_is I sq
  obtain ⟨as, hr⟩ := Dp.readsAll I _ _ _ dp rv
  have hd := (okA_of 9 _ ok).2.2
  cases t with
  | false => exact PySem.W.max_list_data (I.ok.hd hc) hs (by simpa using hr) al (roomA hu hd) fun i v h' tk bs e r hk => pick I rv hr al (mm_mem (maxD_mem d ds d)) q e r hk
  | true => exact PySem.W.max_tuple_data (I.ok.hd hc) hs (by simpa using hr) al (roomA hu hd) fun i v h' tk bs e r hk => pick I rv hr al (mm_mem (maxD_mem d ds d)) q e r hk
theorem mm_reads {K : PySem.W.Frag} {k : D → List D → D} {F : Addr → Prop} {H0 H : Hp} {v : V} {a c : RV} {Q : VK} (rv : Res K F H0 H v a) (e : mmG k a = some c) (q : ∀ v H', Same H H' → Res K F H0 H' v c → Q v H') : rMM K k v H Q := by
  obtain ⟨d, f⟩ := a
  cases d <;> try (cases (show (none : Option RV) = some c from e))
  · rename_i ds
    cases ds with
    | nil => cases e
    | cons d ds =>
      have e' : (if alikeB (d :: ds) = true then some ((k d ds, Fl.fz) : RV) else none) = some c := e
      split at e'
      · rename_i hc
        cases e'
        obtain ⟨p, vs, L, rfl, s, r, hl⟩ := rv.list
        refine ⟨false, p, vs, d, ds, rfl, s, r.dp _ (okA_of 9 _ (alikeB_of hc).1).1, hc, fun i v e1 e2 => ?_⟩
        obtain ⟨w, M, e3, rw, hm⟩ := r.get e2
        rw [e1] at e3
        cases e3
        exact q v H (Same.refl H) ⟨M, rw, fun b hb => hl b (hm b hb)⟩
      · cases e'
  · rename_i ds
    cases ds with
    | nil => cases e
    | cons d ds =>
      have e' : (if alikeB (d :: ds) = true then some ((k d ds, Fl.fz) : RV) else none) = some c := e
      split at e'
      · rename_i hc
        cases e'
        obtain ⟨p, vs, L, rfl, s, r, hl⟩ := rv.tuple
        refine ⟨true, p, vs, d, ds, rfl, s, r.dp _ (okA_of 9 _ (alikeB_of hc).1).1, hc, fun i v e1 e2 => ?_⟩
        obtain ⟨w, M, e3, rw, hm⟩ := r.get e2
        rw [e1] at e3
        cases e3
        exact q v H (Same.refl H) ⟨M, rw, fun b hb => hl b (hm b hb)⟩
      · cases e'
theorem callF_minD (hc : X.calm = true) (hu : X.A.units + 64 < cLine) : CallF X (.builtin "min") (one (mmG PySem.W.minD)) := call1 (cr_minD hc hu) fun F H0 H v a c Q rv sm e q => mm_reads rv e q
theorem callF_maxD (hc : X.calm = true) (hu : X.A.units + 64 < cLine) : CallF X (.builtin "max") (one (mmG PySem.W.maxD)) := call1 (cr_maxD hc hu) fun F H0 H v a c Q rv sm e q => mm_reads rv e q
/-! ### the calls -/
variable {e a : Expr} {es : List Expr} {x : Str} {p pos : Pos} {t : GA} {g : List RV → Option RV} {id T : String} {ga gb : GE}
theorem ve_callB (hc : CallF X (.builtin id) g) (hg : Gl X x) (hm : X.mg x = none) (hv : bootBuiltins x = some (.builtin id)) (ha : VA X (e :: es) t) (hn : x ≠ "__name__" := by decide) (hdb : (x == ("__debug__" : Str)) = false := by decide)
    (he : starEach (e :: es) X.env = (false, eval e X.env) :: starEach es X.env := by rfl) (hpl : (backTo pos (starEach es X.env)).any (·.1) = false := by rfl) : VE X (.Call (.Name x p) (e :: es) [] pos) (eA g t) := by
  obtain ⟨r, h1, h2⟩ := hc
  refine PE.to (pe_callB h1 hg hm hv ha hn hdb he hpl) fun σ H Q ⟨F, env, r, ok, e, q⟩ => ?_
  obtain ⟨rs, e1, e2⟩ := bind2 e
  exact ⟨F, env, rs, ok, e1, fun vs H1 rl => h2 F H H1 vs rs r _ rl e2 fun v H' s rv sz => q v H' (rl.same.trans s) sz rv⟩
theorem ve_callTy (hc : CallF X (.type T) g) (hg : Gl X x) (hm : X.mg x = none) (hv : bootBuiltins x = some (.type T)) (ha : VA X (e :: es) t) (hn : x ≠ "__name__" := by decide) (hdb : (x == ("__debug__" : Str)) = false := by decide)
    (he : starEach (e :: es) X.env = (false, eval e X.env) :: starEach es X.env := by rfl) (hpl : (backTo pos (starEach es X.env)).any (·.1) = false := by rfl) : VE X (.Call (.Name x p) (e :: es) [] pos) (eA g t) := by
  obtain ⟨r, h1, h2⟩ := hc
  refine PE.to (pe_callTy h1 hg hm hv ha hn hdb he hpl) fun σ H Q ⟨F, env, r, ok, e, q⟩ => ?_
  obtain ⟨rs, e1, e2⟩ := bind2 e
  exact ⟨F, env, rs, ok, e1, fun vs H1 rl => h2 F H H1 vs rs r _ rl e2 fun v H' s rv sz => q v H' (rl.same.trans s) sz rv⟩
/-- isinstance(e, T) -/
def tyN : D → String
  | .none => "NoneType"
  | .bool _ => "bool"
  | .int _ => "int"
  | .str _ => "str"
  | .list _ => "list"
  | .tuple _ => "tuple"
  | .dict _ => "dict"
def eIsi (T : String) (g : GE) : GE := fun env => (g env).bind fun r => match r.1 with
  | .dict _ => none
  | d => (kitB (tyN d) T).map fun b => (.bool b, .fz)
theorem tyX_of {K : PySem.W.Frag} {F : Addr → Prop} {H0 H : Hp} {v : V} {d : D} {f : Fl} (rv : Res K F H0 H v (d, f)) (hd : ∀ l, d ≠ .dict l) : TyX K H v (.type (tyN d)) := by
  cases d with
  | none => rw [rv.non1]; exact .base .non
  | bool b => rw [rv.bool]; exact .base (.bl b)
  | int b => rw [rv.int]; exact .base (.int b)
  | str b => rw [rv.str]; exact .base (.str b)
  | list ds =>
    obtain ⟨p, vs, L, rfl, s, _⟩ := rv.list
    rcases s with (s | ⟨o, s⟩) | ⟨o, its, n, hk, hc, _⟩
    · exact .base (.lst s)
    · exact .base (.frz s)
    · exact .kList hk hc
  | tuple ds =>
    obtain ⟨p, vs, L, rfl, s, _⟩ := rv.tuple
    rcases s with (s | ⟨o, s⟩) | ⟨o, its, n, hk, hc, _⟩
    · exact .base (.tup s)
    · exact .fTuple s
    · exact .kTuple hk hc
  | dict l => exact absurd rfl (hd l)
theorem ve_isi (T : String) {y : Str} {q : Pos} (he : VE X e ga) (hg : Gl X "isinstance") (hm : X.mg "isinstance" = none) (hgT : Gl X y) (hmT : X.mg y = none) (hT : bootBuiltins y = some (.type T)) (hn : y ≠ "__name__" := by decide) (hd : (y == ("__debug__" : Str)) = false := by decide)
    (hs : starEach [e, .Name y q] X.env = (false, eval e X.env) :: starEach [.Name y q] X.env := by rfl) (hs2 : starEach [.Name y q] X.env = (false, eval (.Name y q) X.env) :: starEach [] X.env := by rfl) (hpl : (backTo pos (starEach [.Name y q] X.env)).any (·.1) = false := by rfl) :
    VE X (.Call (.Name "isinstance" p) [e, .Name y q] [] pos) (eIsi T ga) := by
  refine PE.to (pe_callB (x := "isinstance") call_isi hg hm boot_isinstance (pa_cons he (pa_cons (pe_bltn (v := .ty T) hgT hmT hT rfl hn hd) pa_nil hs2) hs) (by decide) (by decide) hs hpl) fun σ H Q ⟨F, env, r, ok, e, q⟩ => ?_
  obtain ⟨r0, e1, e2⟩ := bind2 e
  obtain ⟨d, f⟩ := r0
  refine ⟨F, env, _, ok, e1, fun v H1 s1 z1 rv => ?_⟩
  have key : ∀ c, (kitB (tyN d) T).map (fun b => ((.bool b, .fz) : RV)) = some c → (∀ l, d ≠ .dict l) → c = r → rIsi X.K [v, .ty T] H1 (fun v H' => Sz X.K H' → Q v H') := fun c ec hd hcr => by
    cases e3 : kitB (tyN d) T with
    | none => rw [e3] at ec; cases ec
    | some b =>
      rw [e3] at ec
      cases ec
      subst hcr
      exact ⟨v, .ty T, _, _, b, rfl, .ty T, tyX_of rv hd, kit_ty e3, fun sz => q _ H1 s1 sz Res.ofBool⟩
  cases d with
  | dict l => cases e2
  | _ => exact key r e2 (fun l z => nomatch z) rfl
/-- list(range(..)), tuple(range(..)) -/
def eLR (own : Bool) (g : List RV → Option (List D × Bool)) (t : GA) : GE := fun env => (t env).bind fun rs => (g rs).map fun p => if own = true then (.list p.1, .ow) else (.tuple p.1, .fz)
theorem rgV_eq (a b : Int) : rgV a b = (rngL a (b - a).toNat).map fun d => match d with
  | .int i => V.int i
  | _ => V.non := by
  unfold rgV rngL
  rw [List.map_map]
  rfl
theorem rgV_rp {K : PySem.W.Frag} {H : Hp} (a b : Int) : RpA K H (rgV a b) (rngL a (b - a).toNat) [] := by
  have e : rgV a b = ((List.range (b - a).toNat).map fun i => a + (i : Nat)).map V.int := by unfold rgV; rw [List.map_map]; rfl
  have e2 : rngL a (b - a).toNat = ((List.range (b - a).toNat).map fun i => a + (i : Nat)).map .int := by unfold rngL; rw [List.map_map]; rfl
  rw [e, e2]
  exact rpa_ints _
theorem ve_listR1 {p2 pos2 : Pos} (hc : X.calm = true) (hg : Gl X "list") (hm : X.mg "list" = none) (hgr : Gl X "range") (hmr : X.mg "range" = none) (ha : VE X a ga) (na : starEach [a] X.env = (false, eval a X.env) :: starEach [] X.env := by rfl)
    (nb : starEach [.Call (.Name "range" p2) [a] [] pos2] X.env = (false, eval (.Call (.Name "range" p2) [a] [] pos2) X.env) :: starEach [] X.env := by rfl) : VE X (.Call (.Name "list" p) [.Call (.Name "range" p2) [a] [] pos2] [] pos) (eLR true rng1G (aCons ga aNil)) := by
  refine PE.to (pe_listRg hc hg hm (prg_1 hgr hmr ha na) nb) fun σ H Q ⟨F, env, r, ok, e, q⟩ => ?_
  obtain ⟨rs, e1, e2⟩ := bind2 e
  obtain ⟨r0, e3, e4⟩ := bind2 e1
  cases e4
  cases e5 : rng1G [r0] with
  | none => rw [e5] at e2; cases e2
  | some pr =>
    rw [e5] at e2
    cases e2
    obtain ⟨d, f⟩ := r0
    cases d <;> try (cases (show (none : Option (List D × Bool)) = some pr from e5))
    rename_i j
    have e6 : (if inB j = true ∧ j.toNat ≤ 16777216 then some (rngL 0 j.toNat, false) else none) = some pr := e5
    split at e6
    · rename_i hc
      cases e6
      obtain ⟨b1, b2⟩ := inB_of hc.1
      refine ⟨F, env, _, ok, e3, fun v H1 s1 z1 rv => ⟨j, rv.int, ⟨by decide, by decide, b1, b2, by have := hc.2; simpa using this⟩, fun l n sz => q _ _ (s1.trans (same_new n)) sz ?_⟩⟩
      have := Res.newList (F := F) (K := X.K) n s1 (rgV_rp 0 j) (by simp)
      simpa using this
    · cases e6
theorem ve_tupR1 {p2 pos2 : Pos} (hc : X.calm = true) (hg : Gl X "tuple") (hm : X.mg "tuple" = none) (hgr : Gl X "range") (hmr : X.mg "range" = none) (ha : VE X a ga) (na : starEach [a] X.env = (false, eval a X.env) :: starEach [] X.env := by rfl)
    (nb : starEach [.Call (.Name "range" p2) [a] [] pos2] X.env = (false, eval (.Call (.Name "range" p2) [a] [] pos2) X.env) :: starEach [] X.env := by rfl) : VE X (.Call (.Name "tuple" p) [.Call (.Name "range" p2) [a] [] pos2] [] pos) (eLR false rng1G (aCons ga aNil)) := by
  refine PE.to (pe_tupRg hc hg hm (prg_1 hgr hmr ha na) nb) fun σ H Q ⟨F, env, r, ok, e, q⟩ => ?_
  obtain ⟨rs, e1, e2⟩ := bind2 e
  obtain ⟨r0, e3, e4⟩ := bind2 e1
  cases e4
  cases e5 : rng1G [r0] with
  | none => rw [e5] at e2; cases e2
  | some pr =>
    rw [e5] at e2
    cases e2
    obtain ⟨d, f⟩ := r0
    cases d <;> try (cases (show (none : Option (List D × Bool)) = some pr from e5))
    rename_i j
    have e6 : (if inB j = true ∧ j.toNat ≤ 16777216 then some (rngL 0 j.toNat, false) else none) = some pr := e5
    split at e6
    · rename_i hc
      cases e6
      obtain ⟨b1, b2⟩ := inB_of hc.1
      refine ⟨F, env, _, ok, e3, fun v H1 s1 z1 rv => ⟨j, rv.int, ⟨by decide, by decide, b1, b2, by have := hc.2; simpa using this⟩, fun l n sz => q _ _ (s1.trans (same_new n)) sz ?_⟩⟩
      have := Res.newTup (F := F) (K := X.K) (H := H) n (rgV_rp 0 j) (by simp)
      simpa using this
    · cases e6
end
end Pl

set_option Elab.async false
set_option linter.all false
set_option maxRecDepth 100000
set_option maxHeartbeats 4000000
/-! Pl11: sorting lists of data -/
namespace Pl
open PySem PySem.Spec PyProof.Rows L2 PySem.W PySem.Calls PySem.SeqAt

section
variable {prog : Program} {w : World} {A : Around} {E : Value → Shared → Prop} {s : Shared}
theorem call_tuple_lt {Q : Value → Shared → Prop} {l b : Addr} {items items2 : Array Value} {e r : Nat → Bool} (hl : s.heap.IsTuple l items) (hb : s.heap.IsTuple b items2)
    (he : ∀ j (h1 : j < items.size) (h2 : j < items2.size), EqAt A.in1 s items[j] items2[j] (e j)) (hr : ∀ j (h1 : j < items.size) (h2 : j < items2.size), e j = false → RcLt A.in1 s items[j] items2[j] (r j))
    (h : Q (.bool (firstLt e r (decide (items.size < items2.size)) (List.range (min items.size items2.size)))) s) : wpAny (model prog w) A (call (.builtin "tuple.__lt__") [.ref l, .ref b]) Q E s := by
  obtain ⟨⟨cls, dd, data, sl⟩, ho, hc, n, hd⟩ := id hl
  obtain ⟨⟨cls2, dd2, data2, sl2⟩, ho2, hc2, n2, hd2⟩ := id hb
  simp only at hc hd hc2 hd2
  subst hc hd hc2 hd2
  exact call_meets F.slot_tuple_lt ⟨_, ho, rfl⟩ F.entry_tuple_lt (F.args_tuple_lt_2 _ _) (tuple_ltAt l b items items2 n n2 dd dd2 sl sl2 e r) ⟨ho, ho2, he, hr, h⟩
theorem oneLt_tup {xs ys : List D} {a b : Value} {as bs : List Addr} {Q : Bool → Shared → Prop} (ra : Reads s.heap a (.tuple xs) as) (rb : Reads s.heap b (.tuple ys) bs) (h : alike (.tuple xs) (.tuple ys) = true)
    (hu : A.units + min (PyData.depth (.tuple xs)) (PyData.depth (.tuple ys)) < cLine) (hq : Q (dataLt (.tuple xs) (.tuple ys)) s) : wpAny (model prog w) A (oneLt' true a b) Q E s := by
  have hal : alikeAll xs ys = true := by simpa [alike] using h
  cases ra with
  | @tuple l o vs n _ as₁ h1 h2 h3 h4 =>
    cases rb with
    | @tuple l' o' vs' n' _ bs₁ k1 k2 k3 k4 =>
      have n1 : vs.size = xs.length := by simpa using ReadsAll.length _ _ _ h4
      have n2 : vs'.size = ys.length := by simpa using ReadsAll.length _ _ _ k4
      rw [dataLt_tuple, ← firstLt_toks xs ys hal, ← n1, ← n2] at hq
      rw [oneLt'_eq]
      simp only [if_true]
      refine wpAny_bind (wpAny_cRoomFor (room_here hu) ?_)
      refine wpAny_bind (wpAny_callSpecialIfBound?_slot (T := "tuple") ⟨_, h1, h2⟩ F.slot_tuple_lt (call_tuple_lt (e := pairEq xs ys) (r := fun j => dataLt (xs.getD j .none) (ys.getD j .none)) ⟨_, h1, h2, _, h3⟩ ⟨_, k1, k2, _, k3⟩ (fun j j1 j2 => ?_) (fun j j1 j2 hj => ?_) ?_))
      · have := eqAt_alikeAll xs ys A.in1 s vs.toList vs'.toList _ _ h4 k4 hal (room_in hu) j (by simpa using j1) (by simpa using j2)
        simpa using this
      · have := rcLt_alikeAll xs ys A.in1 s vs.toList vs'.toList _ _ h4 k4 hal (room_in hu) j (by simpa using j1) (by simpa using j2) hj
        simpa using this
      · exact wpAny_truthy_bool hq
/-- what stands first in tuples -/
inductive Fsts (h : Heap) : List Value → List (Option Value) → Prop
  | nil : Fsts h [] []
  | cons {a : Addr} {o : Obj} {xs : Array Value} {n : Nat} {vs : List Value} {fs : List (Option Value)} (ho : h.get? a = some o) (hc : o.cls = .type "tuple") (hd : o.data = .seq xs n) (r : Fsts h vs fs) : Fsts h (.ref a :: vs) (xs[0]? :: fs)
theorem fsts_run {M : Model} : ∀ {vs : List Value} {fs : List (Option Value)} {Q : List (Option Value) → Shared → Prop}, Fsts s.heap vs fs → Q fs s → wpAny M A (vs.mapM firstOfTuple') Q E s
  | [], _, _, .nil, h => by rw [List.mapM_nil]; exact wpAny_pure h
  | _ :: vs, _, Q, .cons ho hc hd t, h => by
    rw [List.mapM_cons]
    refine wpAny_bind ?_
    rw [kas_first_eq]
    refine wpAny_bind (Looks.here (show Looks M s.heap (typeOf (.ref _)) _ from (Looks.ld ho).andThen .now) ?_)
    rw [hc, if_neg (by first | decide | simp)]
    refine wpAny_bind (listItems_at ho hd (wpAny_pure ?_))
    exact wpAny_bind (fsts_run (Q := fun bs s' => wpAny M A (pure (_ :: bs)) Q E s') t (wpAny_pure h))
theorem fsts_of {h : Heap} : ∀ {vs : List Value} {ds : List D}, EachIs (fun v d => ∃ as, Reads h v d as) vs ds → (∀ d ∈ ds, ∃ xs, d = .tuple xs) → ∃ fs, Fsts h vs fs ∧ fs.length = ds.length ∧ ∀ (i : Nat) (d : D), ds[i]? = some d → ∃ f : Option Value, fs[i]? = some f ∧ (f.isSome = true ↔ d ≠ .tuple [])
  | _, _, .nil, _ => ⟨[], .nil, rfl, fun i d e => by simp at e⟩
  | _, _, .cons (b := d) ⟨as, r⟩ t, ht => by
    obtain ⟨fs, h1, h2, h3⟩ := fsts_of t fun d hd => ht d (List.mem_cons_of_mem _ hd)
    obtain ⟨xs, rfl⟩ := ht d List.mem_cons_self
    cases r with
    | @tuple a o vs n _ _ ho hc hd hr =>
      refine ⟨_, .cons ho hc hd h1, by simp [h2], fun i d e => ?_⟩
      cases i with
      | succ i => exact h3 i d (by simpa using e)
      | zero =>
        simp at e
        subst e
        refine ⟨_, rfl, ?_⟩
        have hlen : vs.size = xs.length := by simpa using ReadsAll.length _ _ _ hr
        cases xs with
        | nil =>
          have h0 : vs[0]? = none := by simp; simpa using hlen
          rw [h0]
          simp
        | cons x r =>
          have h0 : 0 < vs.size := by rw [hlen]; simp
          rw [Array.getElem?_eq_getElem h0]
          simp
def isTup : D → Bool
  | .tuple _ => true
  | _ => false
theorem isTup_of {d : D} (h : isTup d = true) : ∃ xs, d = .tuple xs := by
  cases d <;> first | exact ⟨_, rfl⟩ | cases h
/-- lists of tuples can be sorted, empty ones among them -/
theorem SortsAt.tups {vs : List Value} {ds : List D} (e : EachIs (fun v d => ∃ as, Reads s.heap v d as) vs ds) (hal : AllAlike ds) (ht : ∀ d ∈ ds, ∃ xs, d = .tuple xs) (hu : ∀ d, d ∈ ds → A.units + d.depth < cLine) : SortsAt prog w A s (dataKind s.heap ds) vs := by
  by_cases hne : ∀ d ∈ ds, d ≠ .tuple []
  · refine SortsAt.data e hal (.inl fun d hd => ?_) hu
    obtain ⟨xs, rfl⟩ := ht d hd
    cases xs with
    | nil => exact absurd rfl (hne _ hd)
    | cons x r => exact ⟨x, r, rfl⟩
  have room : ∀ {d d' : D}, d ∈ ds → A.units + min d.depth d'.depth < cLine := fun {d d'} hd => Nat.lt_of_le_of_lt (Nat.add_le_add_left (Nat.min_le_left _ _) _) (hu d hd)
  have lt : ∀ f : Bool, ∀ (E : Value → Shared → Prop) (x y : Value) (a b : List (Int ⊕ List Nat)) (Q : Bool → Shared → Prop), (dataKind s.heap ds).keyOf x = some a → (dataKind s.heap ds).keyOf y = some b → Q ((dataKind s.heap ds).blt a b) s → wpAny (model prog w) A (oneLt' f x y) Q E s := fun f E x y a b Q ha hb hq => by
    obtain ⟨d, as, hd, ra, rfl⟩ := dataKind_inv ha
    obtain ⟨d', as', hd', rb, rfl⟩ := dataKind_inv hb
    obtain ⟨xs, rfl⟩ := ht d hd
    obtain ⟨ys, rfl⟩ := ht d' hd'
    cases f with
    | false => exact oneLt_alike (fun z => nomatch z) ra rb (hal _ hd _ hd') (fun z => nomatch z) (room hd) hq
    | true => exact oneLt_tup ra rb (hal _ hd _ hd') (room hd) hq
  have keys : ∀ v, v ∈ vs → ∃ a, (dataKind s.heap ds).keyOf v = some a := fun v hv => by
    obtain ⟨d, hd, as, r⟩ := e.left v hv
    exact ⟨_, dataKind_some hal hd r⟩
  obtain ⟨fs, hf, hfl, hfi⟩ := fsts_of e ht
  have hex : ∃ d ∈ ds, d = .tuple [] := by
    apply Classical.byContradiction
    intro hn
    exact hne fun d hd z => hn ⟨d, hd, z⟩
  have hno : (fs.toArray.all fun x => x.isSome) = false := by
    obtain ⟨d, hd, rfl⟩ := hex
    obtain ⟨i, hi, ei⟩ := List.getElem_of_mem hd
    obtain ⟨f, e1, e2⟩ := hfi i (.tuple []) (by rw [List.getElem?_eq_getElem hi, ei])
    have hff : f.isSome = false := by
      cases q : f.isSome with
      | false => rfl
      | true => exact absurd rfl (e2.mp q)
    rw [List.all_toArray, List.all_eq_false]
    exact ⟨f, List.mem_of_getElem? e1, by rw [hff]; exact fun z => nomatch z⟩
  cases ds with
  | nil => obtain ⟨d, hd, _⟩ := hex; exact absurd hd (by simp)
  | cons d0 ds0 =>
    obtain ⟨f0, g1, g2⟩ := hfi 0 d0 rfl
    have hf0 : (fs.toArray[0]?.bind id).isSome = f0.isSome := by
      rw [List.getElem?_toArray, g1]
      cases f0 <;> rfl
    by_cases h0 : d0 = .tuple []
    · have hf1 : f0.isSome = false := by
        cases q : f0.isSome with
        | false => rfl
        | true => exact absurd h0 (g2.mp q)
      refine ⟨keys, oneType', fun E x y a b Q ha hb hq => by rw [keyLt'_oneType]; exact lt true E x y a b Q ha hb hq, fun h2 E Q hq => ?_⟩
      rw [keyKind'_eq, List.mapM_toArray, map_eq_pure_bind]
      refine wpAny_bind (wpAny_bind (fsts_run hf (wpAny_pure ?_)))
      rw [if_neg (by rw [hno]; simp), if_neg (by rw [hf0, hf1]; simp)]
      rw [oneTypeOnly'_eq, List.mapM_toArray, map_eq_pure_bind]
      have hT : ∀ v ∈ vs, Looks (model prog w) s.heap (typeOf v) (.type "tuple") := fun v hv => by
        obtain ⟨d, hd, as, r⟩ := e.left v hv
        obtain ⟨xs, rfl⟩ := ht d hd
        exact looks_reads r
      refine wpAny_bind (wpAny_bind (wpAny_bind (kas_mapM (r := .type "tuple") _ (fun v hv Q' hq => (hT v hv).here hq) (wpAny_pure ?_))))
      cases vs with
      | nil => simp at h2
      | cons v vs =>
        have hall : ((List.map (fun _ => Value.type "tuple") (v :: vs)).toArray.all fun x => x == Value.type "tuple") = true := by
          simp only [List.all_toArray, List.all_map, List.all_eq_true]
          intro _ _
          exact beq_self_eq_true _
        have hz : (List.map (fun _ => Value.type "tuple") (v :: vs)).toArray[0]? = some (Value.type "tuple") := by simp
        rw [hz]
        simp only [hall, if_true]
        exact wpAny_pure (wpAny_pure hq)
    · have hf1 : f0.isSome = true := g2.mpr h0
      refine ⟨keys, general', fun E x y a b Q ha hb hq => lt false E x y a b Q ha hb hq, fun h2 E Q hq => ?_⟩
      rw [keyKind'_eq, List.mapM_toArray, map_eq_pure_bind]
      refine wpAny_bind (wpAny_bind (fsts_run hf (wpAny_pure ?_)))
      rw [if_neg (by rw [hno]; simp), if_pos (by rw [hf0, hf1])]
      exact wpAny_pure hq
/-- what sorted() takes -/
def sortB (ds : List D) : Bool := okA 9 ds && (ds.all fun x => ds.all fun y => alike x y) && (ds.all isTup || ds.all fun x => !isNone x && !isTup x)
theorem SortsAt.dat {vs : List Value} {ds : List D} (e : EachIs (fun v d => ∃ as, Reads s.heap v d as) vs ds) (h : sortB ds = true) (hu : A.units + 9 < cLine) : AllAlike ds ∧ SortsAt prog w A s (dataKind s.heap ds) vs := by
  unfold sortB at h
  rw [Bool.and_eq_true, Bool.and_eq_true] at h
  obtain ⟨⟨h1, h2⟩, h3⟩ := h
  have hal : AllAlike ds := fun x hx y hy => List.all_eq_true.mp (List.all_eq_true.mp h2 x hx) y hy
  have hd : ∀ d, d ∈ ds → A.units + d.depth < cLine := fun d hd => by
    rw [okA_all] at h1
    have := (okD_of 9 d (List.all_eq_true.mp h1 d hd)).2.2
    omega
  refine ⟨hal, ?_⟩
  rw [Bool.or_eq_true] at h3
  rcases h3 with h3 | h3
  · exact SortsAt.tups e hal (fun d hd => isTup_of (List.all_eq_true.mp h3 d hd)) hd
  · refine SortsAt.data e hal (.inr fun d hd => ?_) hd
    have := List.all_eq_true.mp h3 d hd
    rw [Bool.and_eq_true] at this
    refine ⟨fun z => ?_, fun xs z => ?_⟩
    · rw [z] at this; simp [isNone] at this
    · rw [z] at this; simp [isTup] at this
end
/-- the order of sorted() -/
def leD (a b : D) : Bool := !dataLt b a
theorem leD_eq : dataLe false (fun d : D => d) = leD := by
  rw [dataLe_eq]
  rfl
theorem rpa_pairs {K : PySem.W.Frag} {H : Hp} {G : Addr → Prop} : ∀ (ps : List (V × D)), (∀ p ∈ ps, ∃ M, Rp K H p.1 p.2 M ∧ ∀ b ∈ M, G b) → ∃ L, RpA K H (ps.map (·.1)) (ps.map (·.2)) L ∧ ∀ b ∈ L, G b
  | [], _ => ⟨[], .nil, by simp⟩
  | p :: ps, h => by
    obtain ⟨M, r, hm⟩ := h p List.mem_cons_self
    obtain ⟨L, ra, hl⟩ := rpa_pairs ps fun q hq => h q (List.mem_cons_of_mem _ hq)
    exact ⟨M ++ L, .cons r ra, fun b hb => (List.mem_append.mp hb).elim (hm b) (hl b)⟩
theorem rpa_zip {K : PySem.W.Frag} {H : Hp} : ∀ {vs : List V} {ds : List D} {L : List Addr}, RpA K H vs ds L → ∀ p ∈ vs.zip ds, ∃ M, Rp K H p.1 p.2 M ∧ ∀ b ∈ M, b ∈ L
  | [], _, _, h, p, hp => by simp at hp
  | v :: vs, _, _, h, p, hp => by
    cases h with
    | cons h1 h2 =>
      rw [List.zip_cons_cons] at hp
      rcases List.mem_cons.mp hp with z | z
      · rw [z]; exact ⟨_, h1, fun b hb => List.mem_append_left _ hb⟩
      · obtain ⟨M, r, hm⟩ := rpa_zip h2 p z
        exact ⟨M, r, fun b hb => List.mem_append_right _ (hm b hb)⟩
section
variable {X : Cx}
theorem each_of {pins : List (Addr × Obj)} {σ : L2.St} {H : Hp} {s : Shared} (I : Inv X pins σ H s) : ∀ {xs : List V} {ds : List D} {us : List Value}, DpAll X.K H xs ds → Vals xs us → EachIs (fun v (b : V × D) => RelV b.1 v ∧ Dp X.K H b.1 b.2) us (xs.zip ds)
  | [], _, _, h, r => by cases h; cases r; exact .nil
  | x :: xs, _, _, h, r => by
    cases h with
    | cons h1 h2 =>
      cases r with
      | cons r1 r2 => exact .cons ⟨r1, h1⟩ (each_of I h2 r2)
theorem zip_snd {xs : List V} {ds : List D} (h : xs.length = ds.length) : (xs.zip ds).map (·.2) = ds := by
  rw [← List.unzip_snd, List.unzip_zip_right (by omega)]
def sortG : RV → Option RV
  | (.list ds, _) => if sortB ds = true ∧ ds.length ≤ 16777216 then some (.list (ds.mergeSort leD), .ow) else none
  | _ => none
def rSortD (K : PySem.W.Frag) (x : V) (H : Hp) (Q : VK) : Prop := ∃ (p : Addr) (xs : List V) (ds : List D), x = .ref p ∧ SqL K H p xs ∧ DpAll K H xs ds ∧ xs.length = ds.length ∧ sortB ds = true ∧ ds.length ≤ 16777216 ∧
  ∀ l, H l = none → Q (.ref l) (upd H l (.lst (((xs.zip ds).mergeSort (dataLe false (fun b : V × D => b.2))).map (·.1))))
theorem vals_each : ∀ {us : List Value} {ps : List (V × D)} {R : V × D → Prop}, EachIs (fun v (b : V × D) => RelV b.1 v ∧ R b) us ps → Vals (ps.map (·.1)) us
  | _, _, _, .nil => .nil
  | _, _, _, .cons h t => .cons h.1 (vals_each t)
theorem cr_sortedD (hu : X.A.units + 64 < cLine) : CallR X (.builtin "sorted") (fun xs H Q => ∃ x, xs = [x] ∧ rSortD X.K x H Q) := by
  intro pins s σ H vs us Q I r h
  obtain ⟨x, rfl, p, xs, ds, rfl, sq, dp, hlen, hb, hz, q⟩ := h
  rw [Vals.ref1 r]
  obtain ⟨its, rv, pl, hzz⟩ := I.list sq
  have e := each_of I dp rv
  have hds : (xs.zip ds).map (fun b : V × D => b.2) = ds := zip_snd hlen
  have er : EachIs (fun v (b : V × D) => ∃ as, Reads (sortingHeap (copyHeap s.heap its) (s.heap.objs.size + 1) its) v b.2 as) its (xs.zip ds) := e.mono fun v b ⟨r1, d1⟩ => by
    obtain ⟨as, r2⟩ := Dp.reads I b.2 b.1 v d1 r1
    exact ⟨as, PyProof.Rows.Reads.keeps (fun _ _ => sorting_copy_old) r2⟩
  have er2 : EachIs (fun v d => ∃ as, Reads (sortingHeap (copyHeap s.heap its) (s.heap.objs.size + 1) its) v d as) its ds := by
    have := each_map (R := fun v d => ∃ as, Reads (sortingHeap (copyHeap s.heap its) (s.heap.objs.size + 1) its) v d as) (fun b : V × D => b.2) er
    rwa [hds] at this
  have hbl : (xs.zip ds).length = ds.length := by rw [List.length_zip, hlen, Nat.min_self]
  obtain ⟨hal, S⟩ := SortsAt.dat (prog := X.prog) (w := X.w) (A := X.A.in1.in1) (s := { s with heap := sortingHeap (copyHeap s.heap its) (s.heap.objs.size + 1) its }) er2 hb (by show X.A.units + 1 + 1 + 9 < _; omega)
  have hal' : AllAlike ((xs.zip ds).map fun b : V × D => b.2) := by rw [hds]; exact hal
  have S' : SortsAt X.prog X.w X.A.in1.in1 { s with heap := sortingHeap (copyHeap s.heap its) (s.heap.objs.size + 1) its } (dataKind (sortingHeap (copyHeap s.heap its) (s.heap.objs.size + 1) its) ((xs.zip ds).map fun b : V × D => b.2)) its := by
    rw [hds]; exact S
  have hI : its.length ≤ sizeLine := by rw [← rv.length]; exact hzz
  refine sorted_vals pl.isList S' hI ?_
  have eo := sortVals_data (R := fun v (b : V × D) => RelV b.1 v ∧ Dp X.K H b.1 b.2) (enc := fun b : V × D => b.2) false e er hal'
  have hl2 := sortVals_length (κ := dataKind (sortingHeap (copyHeap s.heap its) (s.heap.objs.size + 1) its) ((xs.zip ds).map fun b : V × D => b.2)) false (ks := its) (vs := its) rfl
  obtain ⟨ep, he'⟩ := PyProof.Rows.sortedAll_at s.heap its (List.toArray (sortVals (dataKind (sortingHeap (copyHeap s.heap its) (s.heap.objs.size + 1) its) ((xs.zip ds).map fun b : V × D => b.2)) false its its))
  have rv2 := vals_each eo
  have hlen2 : (((xs.zip ds).mergeSort (dataLe false (fun b : V × D => b.2))).map (·.1)).length ≤ sizeLine := by
    rw [List.length_map, List.length_mergeSort, hbl, sizeLine_eq]; exact hz
  exact ⟨.ref _, upd H (s.heap.objs.size + 1) (.lst (((xs.zip ds).mergeSort (dataLe false (fun b : V × D => b.2))).map (·.1))), I.laid (t' := s.toks) (fun _ _ => PyProof.Rows.sortedAll_old) (Nat.le_succ _) ⟨hlen2, _, ep, rv2, he'⟩, rfl, q _ (I.hok.fresh (Nat.le_succ _))⟩
theorem callF_sorted (hu : X.A.units + 64 < cLine) : CallF X (.builtin "sorted") (one sortG) := by
  refine call1 (cr_sortedD hu) fun F H0 H v a c Q rv sm e q => ?_
  obtain ⟨d, f⟩ := a
  cases d <;> try (cases (show (none : Option RV) = some c from e))
  rename_i ds
  have e' : (if sortB ds = true ∧ ds.length ≤ 16777216 then some ((.list (ds.mergeSort leD), .ow) : RV) else none) = some c := e
  split at e'
  · rename_i hc
    cases e'
    obtain ⟨p, vs, L, rfl, s, r, hl⟩ := rv.list
    have hok := hc.1
    unfold sortB at hok
    rw [Bool.and_eq_true, Bool.and_eq_true] at hok
    refine ⟨p, vs, ds, rfl, s, r.dp _ (okA_of 9 _ hok.1.1).1, r.length, hc.1, hc.2, fun l n => q _ _ (same_new n) ?_⟩
    have hz := zip_snd r.length
    have hm : ((vs.zip ds).mergeSort (dataLe false (fun b : V × D => b.2))).map (·.2) = ds.mergeSort leD := by
      have := sort_maps (r := dataLe false (fun b : V × D => b.2)) (s := leD) (fun b : V × D => b.2) (l := vs.zip ds) (fun a _ b _ => rfl)
      rw [this, hz]
    obtain ⟨L2, ra2, hl2⟩ := rpa_pairs (K := X.K) (H := H) (G := fun b => b ∈ L) ((vs.zip ds).mergeSort (dataLe false (fun b : V × D => b.2))) fun p hp => rpa_zip r p (List.mem_mergeSort.mp hp)
    rw [hm] at ra2
    exact Res.newList n sm ra2 fun b hb => hl b (hl2 b hb)
  · cases e'
end
end Pl

set_option Elab.async false
set_option linter.all false
set_option maxRecDepth 100000
set_option maxHeartbeats 4000000
/-! Pl12: names for what the printed texts use -/
namespace Pl
open PySem PySem.Spec PyProof.Rows L2
theorem bt_len : bootBuiltins "len" = some (.builtin "len") := by decide +kernel
theorem bt_abs : bootBuiltins "abs" = some (.builtin "abs") := by decide +kernel
theorem bt_min : bootBuiltins "min" = some (.builtin "min") := by decide +kernel
theorem bt_max : bootBuiltins "max" = some (.builtin "max") := by decide +kernel
theorem bt_sum : bootBuiltins "sum" = some (.builtin "sum") := by decide +kernel
theorem bt_any : bootBuiltins "any" = some (.builtin "any") := by decide +kernel
theorem bt_all : bootBuiltins "all" = some (.builtin "all") := by decide +kernel
theorem bt_sorted : bootBuiltins "sorted" = some (.builtin "sorted") := by decide +kernel
theorem bt_int : bootBuiltins "int" = some (.type "int") := by decide +kernel
theorem bt_bool : bootBuiltins "bool" = some (.type "bool") := by decide +kernel
theorem bt_str : bootBuiltins "str" = some (.type "str") := by decide +kernel
theorem bt_tuple : bootBuiltins "tuple" = some (.type "tuple") := by decide +kernel
theorem bt_list : bootBuiltins "list" = some (.type "list") := by decide +kernel
def bl : List Str := ["len", "abs", "min", "max", "sum", "any", "all", "sorted", "int", "bool", "str", "tuple", "list", "range", "enumerate", "zip", "isinstance", "set", "dict"]
section
variable {X : Cx}
abbrev leG : RV → RV → Option RV := cmpG fun i j => decide (i ≤ j)
abbrev gtG : RV → RV → Option RV := cmpG fun i j => decide (j < i)
abbrev geG : RV → RV → Option RV := cmpG fun i j => decide (j ≤ i)
/-- < of ints, else of data -/
def ltA (a b : RV) : Option RV := (cmpG (fun i j => decide (i < j)) a b).or (ltG a b)
theorem opF_ltA (hu : X.A.units + 64 < cLine) : OpF X (compareOp .Lt) ltA := opF_ltI.or (opF_lt hu)
def minA (rs : List RV) : Option RV := (two (int2G minI) rs).or ((min3G rs).or (one (mmG PySem.W.minD) rs))
theorem callF_minA (hc : X.calm = true) (hu : X.A.units + 64 < cLine) : CallF X (.builtin "min") minA := (callF_min2 hc).or ((callF_min3 hc).or (callF_minD hc hu))
def maxA (rs : List RV) : Option RV := (two (int2G maxI) rs).or (one (mmG PySem.W.maxD) rs)
theorem callF_maxA (hc : X.calm = true) (hu : X.A.units + 64 < cLine) : CallF X (.builtin "max") maxA := (callF_max2 hc).or (callF_maxD hc hu)
end
end Pl

set_option Elab.async false
set_option linter.all false
set_option maxRecDepth 100000
set_option maxHeartbeats 4000000
/-! Pl13: a[i], b = x, y; ranges of two bounds; default=; xs.index(k) -/
namespace Pl
open PySem PySem.Spec PyProof.Rows L2

/-! ### a tuple of targets, items of own lists among them -/
inductive Tq | nm (i : Nat) | sub (i : Nat) (gi : GE)
def parQ : List Tq → List D → En → Option En
  | [], [], env => some env
  | .nm i :: ts, d :: ds, env => parQ ts ds (env.set i (some (d, .fz)))
  | .sub i gi :: ts, d :: ds, env => (gi env).bind fun k => (asI k).bind fun k => match env[i]? with
    | some (some (.list es, .ow)) => (ixN es.length k).bind fun j => parQ ts ds (env.set i (some (.list (es.set j d), .ow)))
    | _ => none
  | _, _, _ => none
theorem parQ_len : ∀ (ts : List Tq) (ds : List D) (env env' : En), parQ ts ds env = some env' → ds.length = ts.length
  | [], [], _, _, _ => rfl
  | [], _ :: _, _, _, h => by simp [parQ] at h
  | .nm _ :: _, [], _, _, h => by simp [parQ] at h
  | .sub _ _ :: _, [], _, _, h => by simp [parQ] at h
  | .nm i :: ts, d :: ds, env, env', h => by
    rw [parQ] at h
    simp [parQ_len ts ds _ _ h]
  | .sub i gi :: ts, d :: ds, env, env', h => by
    rw [parQ] at h
    obtain ⟨k, _, h⟩ := bind2 h
    obtain ⟨k, _, h⟩ := bind2 h
    split at h
    · obtain ⟨j, _, h⟩ := bind2 h
      simp [parQ_len ts ds _ _ h]
    · cases h
def TQs' (K : PySem.W.Frag) (ts : List Tq) : TGs := fun vs σ H Q => ∃ B F0 P F env env' ds L, SOk K B F0 P F σ H env ∧ RpA K H vs ds L ∧ (∀ b ∈ L, F b) ∧ parQ ts ds env = some env' ∧
  ∀ P' F' σ' H', SOk K B F0 P' F' σ' H' env' → Stp P F σ H env P' F' σ' H' env' → Q σ' H'
def VQs (X : Cx) (es : List Expr) (ts : List Tq) : Prop := PGs X es (TQs' X.K ts)
section
variable {X : Cx} {pos : Pos} {e : Expr} {es : List Expr} {ts : List Tq}
theorem vqs_nil : VQs X [] [] := PGs.to pgs_nil fun vs σ H Q ⟨B, F0, P, F, env, env', ds, L, h, r, hl, e, q⟩ => by
  cases ds with
  | nil =>
    rw [parQ] at e
    cases e
    cases r
    exact ⟨rfl, q _ _ _ _ h Stp.refl⟩
  | cons _ _ => simp [parQ] at e
theorem vqs_nm (i : Nat) {x : Str} (hN : X.N.Nodup) (h' : VQs X es ts) (hi : X.N[i]? = some x := by rfl) (hx : Loc X.env.scope x := by first | exact Or.inl rfl | exact Or.inr rfl) (hf : X.fn x = true ∨ X.env.scope.names.lookup x = some .local := by first | exact .inl rfl | exact .inr rfl)
    (hs : (assignEach (.Name x pos :: es) X.env).map (·.2) = assign (.Name x pos) X.env :: (assignEach es X.env).map (·.2) := by rfl) : VQs X (.Name x pos :: es) (.nm i :: ts) :=
  PGs.to (pgs_cons (pg_name hN hi hx hf) h' hs) fun vs σ H Q ⟨B, F0, P, F, env, env', ds, L, h, r, hl, e, q⟩ => by
    cases ds with
    | nil => simp [parQ] at e
    | cons d ds =>
      rw [parQ] at e
      cases r with
      | @cons v vs _ _ L1 L2 r1 r2 =>
        obtain ⟨o, c⟩ := h.ok.set_fz (i := i) r1 fun b hb => hl b (List.mem_append_left _ hb)
        obtain ⟨k, s⟩ := h.chg c o
        exact ⟨v, vs, rfl, B, F0, P, F, _, env', ds, L2, k, r2, fun b hb => hl b (List.mem_append_right _ hb), e, fun P' F' σ' H' k' s' => q P' F' σ' H' k' (s.trans s')⟩
theorem vqs_sub (i : Nat) {x : Str} {p : Pos} {ix : Expr} {gi : GE} (hi : VE X ix gi) (h' : VQs X es ts) (hN : X.N[i]? = some x := by rfl) (hv : Vis X.env.scope x := by first | exact Or.inl rfl | exact Or.inr (Or.inl rfl) | exact Or.inr (Or.inr rfl)) (hd : (x == ("__debug__" : Str)) = false := by decide)
    (hcd : (x == ("__classdict__" : Str)) = false := by decide) (ha : ∀ v, assign (.Subscript (.Name x p) ix pos) X.env v = (do
      let ov ← holding [v] (eval (.Name x p) X.env)
      let iv ← holding [v, ov] (eval ix X.env)
      standAt pos
      holding [v, ov, iv] (setItem ov iv v)
      release [v, ov, iv] []) := by intro _; rfl)
    (hs : (assignEach (.Subscript (.Name x p) ix pos :: es) X.env).map (·.2) = assign (.Subscript (.Name x p) ix pos) X.env :: (assignEach es X.env).map (·.2) := by rfl) : VQs X (.Subscript (.Name x p) ix pos :: es) (.sub i gi :: ts) :=
  PGs.to (pgs_cons (pg_sub (pe_var hN hv hd hcd) hi set_list ha) h' hs) fun vs σ H Q ⟨B, F0, P, F, env, env', ds, L, h, r, hl, e, q⟩ => by
    cases ds with
    | nil => simp [parQ] at e
    | cons d ds =>
      rw [parQ] at e
      obtain ⟨k0, e1, ea⟩ := bind2 e
      obtain ⟨k, e2, eb⟩ := bind2 ea
      obtain ⟨f, rfl⟩ := asI_of e2
      split at eb
      rotate_left
      · cases eb
      rename_i es0 e3
      obtain ⟨j, e4, e5⟩ := bind2 eb
      cases r with
      | @cons v vs _ _ L1 L2 r1 r2 =>
        obtain ⟨a, xs, M, f1, f2, ra, hm, nF⟩ := h.lst e3
        refine ⟨v, vs, rfl, _, f1, F, env, _, h.ok, e1, fun kv H2 s2 _ rk => ?_⟩
        have h2 := h.later s2
        obtain ⟨a', xs', M', g1, g2, ra', hm', nF'⟩ := h2.lst e3
        rw [f1] at g1
        cases g1
        obtain ⟨N, rn, hn⟩ := ra'.set j (r1.mono s2)
        have hN : ∀ b ∈ N, F b := fun b hb => (hn b hb).elim (hm' b) fun z => hl b (List.mem_append_left _ z)
        obtain ⟨k2, st2⟩ := h2.mut e3 f1 (Obj1.lst (a := a) (by rw [g2]; trivial) nF' rn hN)
        refine ⟨_, xs', k, j, rfl, rk.int, g2, by rw [ra'.length]; exact e4, B, F0, P, F, _, env', ds, L2, k2, ?_, fun b hb => hl b (List.mem_append_right _ hb), e5, fun P' F' σ' H' k' s' => q P' F' σ' H' k' (((Stp.later s2).trans st2).trans s')⟩
        exact (r2.mono s2).keep (mut_sqt g2 trivial) ds fun b hb w ew => by
          rw [upd_ne (fun z => nF' (by rw [← z]; exact hl b (List.mem_append_right _ hb)))]; exact ew
def sParS (ts : List Tq) (g : GA) : GS := fun env => (g env).bind fun rs => if plainAll rs = true then (parQ ts (rs.map (·.1)) env).map .nx else none
theorem vs_parS {tgs vals : List Expr} {g : GA} {pt : Pos} {kt k2 pt2} (hc : X.calm = true) (ha : VA X vals g) (hg : VQs X tgs ts) (hz : ts.length ≤ 16777216 := by decide)
    (hn : (assignEach tgs X.env).length = ts.length := by rfl) (hst : (assignEach tgs X.env).findIdx? (·.1) = none := by rfl)
    (hs : swapsWithSole [.Tuple tgs kt pt] (.Tuple vals k2 pt2) pos.line X.env = pure false := by rfl) (hw : swappedStores [.Tuple tgs kt pt] (.Tuple vals k2 pt2) X.env = pure none := by rfl)
    (h1 : (assignEach [.Tuple tgs kt pt] X.env).map (·.2) = [assign (.Tuple tgs kt pt) X.env] := by rfl) : VS X (.Assign [.Tuple tgs kt pt] (.Tuple vals k2 pt2) pos) (sParS ts g) :=
  PS.to (ps_asg (pe_tup ha) (pg_tup (n := ts.length) hc hg hn hst) hs hw h1) fun D σ H ⟨B, F0, P, F, env, out, h, e, p⟩ => by
    obtain ⟨rs, e1, e2⟩ := bind2 e
    split at e2
    rotate_left
    · cases e2
    rename_i hp
    cases e3 : parQ ts (rs.map (·.1)) env with
    | none => rw [e3] at e2; cases e2
    | some env' =>
      rw [e3] at e2
      cases e2
      have hl := parQ_len _ _ _ _ e3
      rw [List.length_map] at hl
      refine ⟨F, env, rs, h.ok, e1, fun vs H1 rl => ⟨by rw [rl.length, hl, sizeLine_eq]; exact hz, fun a n => ?_⟩⟩
      obtain ⟨L, ra, hL⟩ := rl.rpa hp
      have s2 := same_new (o := .tup vs) n
      obtain ⟨k1, st1⟩ := h.new rl.same
      refine ⟨a, vs, rfl, .inl (.inl upd_same), rl.length.trans hl, B, F0, _, _, env, env', rs.map (·.1), L, k1.later s2, ra.mono s2, fun b hb => (hL b hb).imp id fun z => ⟨z, ra.addr b hb⟩, e3, fun P' F' σ' H' k' s' => p P' F' σ' H' k' ((st1.trans (Stp.later s2)).trans s')⟩
/-! ### list(range(a, b)), tuple(range(a, b)) -/
variable {a b : Expr} {ga gb : GE} {p : Pos}
theorem rng2_run {K : PySem.W.Frag} {own : Bool} {F : Addr → Prop} {env : En} {σ : L2.St} {H : Hp} {Q : VK} {r : RV} {Z : Int → Int → Hp → Prop} (ok : Ok K F σ H env) (e : eLR own rng2G (aCons ga (aCons gb aNil)) env = some r)
    (z : ∀ i j H2, Same H H2 → RgOk i j → r = (if own = true then (.list (rngL i (j - i).toNat), .ow) else (.tuple (rngL i (j - i).toNat), .fz)) → Z i j H2) : tRg2 (TE' K ga) (TE' K gb) σ H Z := by
  obtain ⟨rs, e1, e2⟩ := bind2 e
  obtain ⟨r0, e3, e4⟩ := bind2 e1
  obtain ⟨rs1, e5, e6⟩ := bind2 e4
  obtain ⟨r1, e7, e8⟩ := bind2 e5
  cases e8
  cases e6
  cases e9 : rng2G [r0, r1] with
  | none => rw [e9] at e2; cases e2
  | some pr =>
    rw [e9] at e2
    cases e2
    obtain ⟨d, f⟩ := r0
    obtain ⟨d2, f2⟩ := r1
    cases d <;> try (cases (show (none : Option (List D × Bool)) = some pr from e9))
    cases d2 <;> try (cases (show (none : Option (List D × Bool)) = some pr from e9))
    rename_i i j
    have e10 : (if (inB i = true ∧ inB j = true) ∧ (j - i).toNat ≤ 16777216 then some (rngL i (j - i).toNat, false) else none) = some pr := e9
    split at e10
    · rename_i hc
      cases e10
      obtain ⟨b1, b2⟩ := inB_of hc.1.1
      obtain ⟨b3, b4⟩ := inB_of hc.1.2
      exact ⟨F, env, _, ok, e3, fun v H1 s1 z1 rv => ⟨F, env, _, ok.mono s1, e7, fun w H2 s2 z2 rw => ⟨i, j, rv.int, rw.int, z i j H2 (s1.trans s2) ⟨b1, b2, b3, b4, by have := hc.2; simpa using this⟩ rfl⟩⟩⟩
    · cases e10
theorem ve_listR2 {p2 pos2 : Pos} (hc : X.calm = true) (hg : Gl X "list") (hm : X.mg "list" = none) (hgr : Gl X "range") (hmr : X.mg "range" = none) (ha : VE X a ga) (hb : VE X b gb) (na : starEach [a, b] X.env = (false, eval a X.env) :: starEach [b] X.env := by rfl)
    (nb : starEach [b] X.env = (false, eval b X.env) :: starEach [] X.env := by rfl) (hp : (backTo pos2 (starEach [b] X.env)).any (·.1) = false := by rfl)
    (nc : starEach [.Call (.Name "range" p2) [a, b] [] pos2] X.env = (false, eval (.Call (.Name "range" p2) [a, b] [] pos2) X.env) :: starEach [] X.env := by rfl) : VE X (.Call (.Name "list" p) [.Call (.Name "range" p2) [a, b] [] pos2] [] pos) (eLR true rng2G (aCons ga (aCons gb aNil))) :=
  PE.to (pe_listRg hc hg hm (prg_2 hgr hmr ha hb na nb hp) nc) fun σ H Q ⟨F, env, r, ok, e, q⟩ => rng2_run (Q := Q) ok e fun i j H2 s rk er => ⟨rk, fun l n sz => by
    subst er
    exact q _ _ (s.trans (same_new n)) sz (Res.newList n s (rgV_rp i j) (by simp))⟩
theorem ve_tupR2 {p2 pos2 : Pos} (hc : X.calm = true) (hg : Gl X "tuple") (hm : X.mg "tuple" = none) (hgr : Gl X "range") (hmr : X.mg "range" = none) (ha : VE X a ga) (hb : VE X b gb) (na : starEach [a, b] X.env = (false, eval a X.env) :: starEach [b] X.env := by rfl)
    (nb : starEach [b] X.env = (false, eval b X.env) :: starEach [] X.env := by rfl) (hp : (backTo pos2 (starEach [b] X.env)).any (·.1) = false := by rfl)
    (nc : starEach [.Call (.Name "range" p2) [a, b] [] pos2] X.env = (false, eval (.Call (.Name "range" p2) [a, b] [] pos2) X.env) :: starEach [] X.env := by rfl) : VE X (.Call (.Name "tuple" p) [.Call (.Name "range" p2) [a, b] [] pos2] [] pos) (eLR false rng2G (aCons ga (aCons gb aNil))) :=
  PE.to (pe_tupRg hc hg hm (prg_2 hgr hmr ha hb na nb hp) nc) fun σ H Q ⟨F, env, r, ok, e, q⟩ => rng2_run (Q := Q) ok e fun i j H2 s rk er => ⟨rk, fun l n sz => by
    subst er
    exact q _ _ (s.trans (same_new n)) sz (Res.newTup n (rgV_rp i j) (by simp))⟩
/-! ### default= -/
def VK' (X : Cx) (kws : List Keyword) (g : GA) : Prop := PK X kws (TA' X.K g)
theorem vk_nil : VK' X [] aNil := ⟨fun pos pins s σ H Q I ⟨F, env, rs, ok, e, q⟩ => pk_nil.run pos pins s σ H Q I (by cases e; exact q [] H (.nil (Same.refl H)))⟩
theorem vk_cons {kws : List Keyword} {nm : Option Str} {kpos : Pos} {t : GA} (ha : VE X a ga) (hr : VK' X kws t) : VK' X (⟨nm, a, kpos⟩ :: kws) (aCons ga t) :=
  ⟨fun pos pins s σ H Q I ⟨F, env, rs, ok, e, q⟩ => (pk_cons ha hr).run pos pins s σ H Q I (by
    obtain ⟨r, e1, e2⟩ := bind2 e
    obtain ⟨rs', e3, e4⟩ := bind2 e2
    cases e4
    exact ⟨F, env, r, ok, e1, fun v H1 s1 z1 r1 => ⟨F, env, rs', ok.mono s1, e3, fun vs H2 q2 => q _ H2 (.cons s1 r1 q2)⟩⟩)⟩
/-- min(xs, default = d), max(xs, default = d) -/
def mmDG (k : D → List D → D) : RV → RV → Option RV
  | (.list [], _), (d, f) => if plainFl f = true then some (d, .fz) else none
  | (.tuple [], _), (d, f) => if plainFl f = true then some (d, .fz) else none
  | r, (d, f) => if plainFl f = true then mmG k r else none
def rMMD (K : PySem.W.Frag) (k : D → List D → D) (x z : V) (H : Hp) (Q : VK) : Prop := ∃ (t : Bool) (p : Addr) (xs : List V) (ds : List D), x = .ref p ∧ SqB K H t p xs ∧ DpAll K H xs ds ∧ alikeB ds = true ∧ (ds = [] → Q z H) ∧ ∀ (d : D) (es : List D) (i : Nat) (v : V), ds = d :: es → xs[i]? = some v → ds[i]? = some (k d es) → Q v H
theorem pickD {pins : List (Addr × Obj)} {σ : L2.St} {H : Hp} {s : Shared} {xs : List V} {its : List Value} {ds : List D} {as : List Addr} {Q : VK} {k : D → List D → D} (I : Inv X pins σ H s) (rv : Vals xs its) (hr : ReadsAll s.heap its ds as) (al : PySem.W.AlikeAll ds) (hm : ∀ d es, ds = d :: es → k d es ∈ ds)
    (q : ∀ (d : D) (es : List D) (i : Nat) (v : V), ds = d :: es → xs[i]? = some v → ds[i]? = some (k d es) → Q v H) {d : D} {es : List D} (ed : ds = d :: es) {i : Nat} {v : Value} {h' : Heap} {tk : Nat} {bs : List Addr} (e : its.toArray[i]? = some v) (r : Reads h' v (k d es) bs) (hk : ∀ b o, s.heap.get? b = some o → h'.get? b = some o) :
    EP X pins σ Q v { s with heap := h', toks := tk } := by
  subst ed
  exact pick I rv hr al (hm d es rfl) (fun i v e1 e2 => q d es i v rfl e1 e2) e r hk
theorem crk_min (hc : X.calm = true) (hu : X.A.units + 64 < cLine) : CallRK X (.builtin "min") [Str.ofString "default"] (fun vs zs H Q => ∃ x z, vs = [x] ∧ zs = [z] ∧ rMMD X.K PySem.W.minD x z H Q) := by
  intro pins s σ H vs zs us ws Q I r rz h
  obtain ⟨x, z, rfl, rfl, t, p, xs, ds, rfl, sq, dp, al, q0, q⟩ := h
  rw [Vals.ref1 r]
  obtain ⟨u, rfl, ru⟩ := vals1 rz
  obtain ⟨ok, al⟩ := alikeB_of al
  obtain ⟨its, rv, hs⟩ := sqB_is I sq
  obtain ⟨as, hr⟩ := Dp.readsAll I _ _ _ dp rv
  have hd := (okA_of 9 _ ok).2.2
  have hm : ∀ d es, ds = d :: es → PySem.W.minD d es ∈ ds := fun d es e => by rw [e]; exact mm_mem (minD_mem d es d)
  cases t with
  | false => exact PySem.W.min_list_default (I.ok.hd hc) hs (by simpa using hr) al (roomA hu hd) (fun e h' tk hk => ⟨z, H, I.kept hk, ru, q0 e⟩) fun y ys i v h' tk bs ey e r hk => pickD I rv hr al hm q ey e r hk
  | true => exact PySem.W.min_tuple_default (I.ok.hd hc) hs (by simpa using hr) al (roomA hu hd) (fun e h' tk hk => ⟨z, H, I.kept hk, ru, q0 e⟩) fun y ys i v h' tk bs ey e r hk => pickD I rv hr al hm q ey e r hk
theorem crk_max (hc : X.calm = true) (hu : X.A.units + 64 < cLine) : CallRK X (.builtin "max") [Str.ofString "default"] (fun vs zs H Q => ∃ x z, vs = [x] ∧ zs = [z] ∧ rMMD X.K PySem.W.maxD x z H Q) := by
  intro pins s σ H vs zs us ws Q I r rz h
  obtain ⟨x, z, rfl, rfl, t, p, xs, ds, rfl, sq, dp, al, q0, q⟩ := h
  rw [Vals.ref1 r]
  obtain ⟨u, rfl, ru⟩ := vals1 rz
  obtain ⟨ok, al⟩ := alikeB_of al
  obtain ⟨its, rv, hs⟩ := sqB_is I sq
  obtain ⟨as, hr⟩ := Dp.readsAll I _ _ _ dp rv
  have hd := (okA_of 9 _ ok).2.2
  have hm : ∀ d es, ds = d :: es → PySem.W.maxD d es ∈ ds := fun d es e => by rw [e]; exact mm_mem (maxD_mem d es d)
  cases t with
  | false => exact PySem.W.max_list_default (I.ok.hd hc) hs (by simpa using hr) al (roomA hu hd) (fun e h' tk hk => ⟨z, H, I.kept hk, ru, q0 e⟩) fun y ys i v h' tk bs ey e r hk => pickD I rv hr al hm q ey e r hk
  | true => exact PySem.W.max_tuple_default (I.ok.hd hc) hs (by simpa using hr) al (roomA hu hd) (fun e h' tk hk => ⟨z, H, I.kept hk, ru, q0 e⟩) fun y ys i v h' tk bs ey e r hk => pickD I rv hr al hm q ey e r hk
theorem mmD_reads {K : PySem.W.Frag} {k : D → List D → D} {F : Addr → Prop} {H0 H : Hp} {v z : V} {a b c : RV} {Q : VK} (rv : Res K F H0 H v a) (rz : Res K F H0 H z b) (e : mmDG k a b = some c) (q : ∀ v H', Same H H' → Res K F H0 H' v c → Q v H') : rMMD K k v z H Q := by
  obtain ⟨d2, f2⟩ := b
  have nil : ∀ ds f, a = (.list ds, f) ∨ a = (.tuple ds, f) → ds = [] → rMMD K k v z H Q := fun ds f ha hd => by
    subst hd
    have e' : (if plainFl f2 = true then some ((d2, Fl.fz) : RV) else none) = some c := by rcases ha with rfl | rfl <;> exact e
    split at e'
    · rename_i hp
      cases e'
      obtain ⟨n1, n2⟩ := plain_ne hp
      have rz' := rz.frz n1 n2
      rcases ha with rfl | rfl
      · obtain ⟨p, vs, L, rfl, s, r, hl⟩ := rv.list
        cases r
        exact ⟨false, p, [], [], rfl, s, .nil, rfl, fun _ => q z H (Same.refl H) rz', fun _ _ _ _ h => nomatch h⟩
      · obtain ⟨p, vs, L, rfl, s, r, hl⟩ := rv.tuple
        cases r
        exact ⟨true, p, [], [], rfl, s, .nil, rfl, fun _ => q z H (Same.refl H) rz', fun _ _ _ _ h => nomatch h⟩
    · cases e'
  have cons : ∀ d ds f, a = (.list (d :: ds), f) ∨ a = (.tuple (d :: ds), f) → rMMD K k v z H Q := fun d ds f ha => by
    have e' : (if plainFl f2 = true then mmG k a else none) = some c := by rcases ha with rfl | rfl <;> exact e
    split at e'
    · obtain ⟨t, p, xs, d', ds', h1, h2, h3, h4, h5⟩ := mm_reads rv e' q
      refine ⟨t, p, xs, d' :: ds', h1, h2, h3, h4, (fun z => nomatch z), fun d es i v e1 e2 e3 => ?_⟩
      cases e1
      exact h5 i v e2 e3
    · cases e'
  obtain ⟨d, f⟩ := a
  have bad : (∀ ds, d ≠ .list ds) → (∀ ds, d ≠ .tuple ds) → False := fun h1 h2 => by
    have e' : (if plainFl f2 = true then mmG k (d, f) else none) = some c := by
      cases d <;> first | exact e | exact absurd rfl (h1 _) | exact absurd rfl (h2 _)
    split at e'
    · cases d <;> first | cases e' | exact absurd rfl (h1 _) | exact absurd rfl (h2 _)
    · cases e'
  cases d with
  | list ds =>
    cases ds with
    | nil => exact nil [] f (.inl rfl) rfl
    | cons d ds => exact cons d ds f (.inl rfl)
  | tuple ds =>
    cases ds with
    | nil => exact nil [] f (.inr rfl) rfl
    | cons d ds => exact cons d ds f (.inr rfl)
  | none => exact (bad (fun _ z => nomatch z) fun _ z => nomatch z).elim
  | bool _ => exact (bad (fun _ z => nomatch z) fun _ z => nomatch z).elim
  | int _ => exact (bad (fun _ z => nomatch z) fun _ z => nomatch z).elim
  | str _ => exact (bad (fun _ z => nomatch z) fun _ z => nomatch z).elim
  | dict _ => exact (bad (fun _ z => nomatch z) fun _ z => nomatch z).elim
def eMD (k : D → List D → D) (ga gb : GE) : GE := e2 (mmDG k) ga gb
theorem ve_mmD {k : D → List D → D} {x : Str} {id : String} {nm : Option Str} {kpos : Pos} (hr : CallRK X (.builtin id) [Str.ofString "default"] (fun vs zs H Q => ∃ x z, vs = [x] ∧ zs = [z] ∧ rMMD X.K k x z H Q)) (hg : Gl X x) (hm : X.mg x = none) (hv : bootBuiltins x = some (.builtin id))
    (ha : VE X a ga) (hb : VE X b gb) (hn : x ≠ "__name__" := by decide) (hdb : (x == ("__debug__" : Str)) = false := by decide) (he : backTo pos (starEach [a] X.env) = (false, eval a X.env) :: backTo pos (starEach [] X.env) := by rfl) (hs : starEach [a] X.env = (false, eval a X.env) :: starEach [] X.env := by rfl) (hpl : (backTo pos (starEach [a] X.env)).any (·.1) = false := by rfl)
    (hall : (backToKw pos (keywordEach [⟨nm, b, kpos⟩] X.env)).all (·.1.isSome) = true := by rfl) (hnone : (backToKw pos (keywordEach [⟨nm, b, kpos⟩] X.env)).any (·.1.isNone) = false := by rfl) (hks : (backToKw pos (keywordEach [⟨nm, b, kpos⟩] X.env)).filterMap (·.1) = [Str.ofString "default"] := by rfl) :
    VE X (.Call (.Name x p) [a] [⟨nm, b, kpos⟩] pos) (eMD k ga gb) :=
  PE.to (pe_callBK hr hg hm hv (va_cons ha va_nil hs) (vk_cons hb vk_nil) hn hdb he hpl hall hnone hks) fun σ H Q ⟨F, env, c, ok, e, q⟩ => by
    obtain ⟨x, e1, e⟩ := bind2 e
    obtain ⟨y, e3, e⟩ := bind2 e
    refine ⟨F, env, [x], ok, by show (ga env).bind _ = _; rw [e1]; rfl, fun vs H1 r1 => ⟨F, env, [y], ok.mono r1.same, by show (gb env).bind _ = _; rw [e3]; rfl, fun zs H2 r2 => ?_⟩⟩
    obtain ⟨v, rfl, rv⟩ := r1.one
    obtain ⟨w, rfl, rw⟩ := r2.one
    exact ⟨v, w, rfl, rfl, mmD_reads (rv.mono r2.same) (rw.back r1.same) e fun u H' s r sz => q u H' ((r1.same.trans r2.same).trans s) sz r⟩
/-! ### xs.index(k), ints -/
def ixOfG : RV → RV → Option RV
  | (.list ds, _), (.int k, _) => (intsOf ds).bind fun ns => if k ∈ ns then some (.int (ns.idxOf k : Nat), .fz) else none
  | _, _ => none
theorem mt_indexI : MtR X "list.index" (fun x xs H Q => ∃ (a : Addr) (ns : List Int) (k : Int), x = V.ref a ∧ xs = [.int k] ∧ SqL X.K H a (ns.map V.int) ∧ k ∈ ns ∧ Q (.int (ns.idxOf k : Nat)) H) := by
  intro pins s σ H x xs v us Q I rx rv h
  obtain ⟨a, ns, k, rfl, rfl, sq, hk, q⟩ := h
  cases rx
  obtain ⟨u, rfl, ru⟩ := vals1 rv
  obtain ⟨t, rfl⟩ := ru
  obtain ⟨its, r, pl, hz⟩ := I.list sq
  exact PySem.SeqAt.list_index_ints pl.isList r.ints (by simpa using hz) hk ⟨.int _, H, I.tok _, ⟨_, rfl⟩, q⟩
theorem ve_index {o : Expr} {apos cpos : Pos} (ho : VE X o ga) (hb : VE X b gb) (hbase : attributeBase o "index" X.env (eval o X.env) = eval o X.env := by rfl)
    (hfew : ((backTo cpos (starEach [b] X.env)).all (fun x => !x.1) && (backToKw cpos (keywordEach [] X.env)).all (fun x => x.1.isSome)
      && decide ([b].length + ([] : List Keyword).length + (if ([] : List Keyword).isEmpty then 0 else 1) < 30)) = true := by rfl)
    (hline : (apos.endLine == cpos.line) = true := by rfl) (hs : starEach [b] X.env = (false, eval b X.env) :: starEach [] X.env := by rfl) (hplain : (backTo cpos (starEach [] X.env)).any (·.1) = false := by rfl) : VE X (.Call (.Attribute o "index" apos) [b] [] cpos) (e2 ixOfG ga gb) :=
  PE.to (pe_bm PySem.F.plainAttrs_list PySem.F.slot_list_index PySem.F.type_list_index mt_indexI ho (va_cons hb va_nil hs) hbase hfew hline hs hplain) fun σ H Q ⟨F, env, c, ok, e, q⟩ => by
    obtain ⟨x, e1, ea⟩ := bind2 e
    obtain ⟨y, e3, eb⟩ := bind2 ea
    clear e ea
    obtain ⟨d, f⟩ := x
    obtain ⟨d2, f2⟩ := y
    cases d <;> try (cases (show (none : Option RV) = some c from eb))
    cases d2 <;> try (cases (show (none : Option RV) = some c from eb))
    rename_i ds k
    obtain ⟨ns, e4, e5⟩ := bind2 (show (intsOf ds).bind (fun ns => if k ∈ ns then some ((.int (ns.idxOf k : Nat), .fz) : RV) else none) = some c from eb)
    split at e5
    · rename_i hk
      cases e5
      cases intsOf_of e4
      refine ⟨F, env, _, ok, e1, fun v H1 s1 z1 rv => ?_⟩
      obtain ⟨p, vs, L, rfl, sq, r, hl⟩ := rv.list
      cases rpa_ints_inv r
      refine ⟨.inl ⟨rfl, _, sq⟩, F, env, [(.int k, f2)], ok.mono s1, by show (gb env).bind _ = _; rw [e3]; rfl, fun zs H2 r2 => ?_⟩
      obtain ⟨w, rfl, rw⟩ := r2.one
      exact ⟨p, ns, k, rfl, by rw [rw.int], r2.same.seq sq, hk, fun sz => q _ H2 (s1.trans r2.same) sz Res.ofInt⟩
    · cases e5
end
end Pl

set_option Elab.async false
set_option linter.all false
set_option maxRecDepth 100000
set_option maxHeartbeats 4000000
/-! Pl14: sorted(xs, key = f) for f(x) = (len(x), x) or (-len(x), x) -/
namespace Pl
open PySem PySem.Spec PyProof.Rows L2 PySem.W

/-- e gives an int, with nothing changed but new objects: by the value of the name in slot 0 -/
def ExI (X : Cx) (e : Expr) (m : Nat → Int) : Prop := ∀ (pins : List (Addr × Obj)) (s : Shared) (σ : L2.St) (H : Hp) (E : Value → Shared → Prop) (Q : Value → Shared → Prop) (a : Addr) (xs : List V), Inv X pins σ H s → σ[0]? = some (some (.ref a)) → SqT X.K H a xs →
  (∀ tk t, Q (.int (m xs.length) t) { s with toks := tk }) → wpAny (model X.prog X.w) X.A (eval e X.env) Q E s
theorem ex_name {X : Cx} {x : Str} {p : Pos} {pins : List (Addr × Obj)} {s : Shared} {σ : L2.St} {H : Hp} {E : Value → Shared → Prop} {Q : Value → Shared → Prop} {a : Addr} (I : Inv X pins σ H s) (h0 : σ[0]? = some (some (.ref a))) (hN : X.N[0]? = some x) (hl : X.env.scope.names.lookup x = some .local) (hd : (x == ("__debug__" : Str)) = false) (q : Q (.ref a) s) :
    wpAny (model X.prog X.w) X.A (eval (.Name x p) X.env) Q E s := by
  obtain ⟨m, hn, hh⟩ := I.loc
  obtain ⟨u, r, l⟩ := hh 0 x (.ref a) hN h0 (.inl hl)
  cases r
  rcases l with ⟨hk, hm⟩ | ⟨hk, _⟩
  · exact wpAny_Name (wpAny_loadName_local I.ok.kind hk hn hm q) hd
  · have hk' : X.env.scope.names.lookup x = some .cell ∨ X.env.scope.names.lookup x = some .free := hk
    rw [hl] at hk'
    rcases hk' with z | z <;> cases z
theorem ex_len {X : Cx} {x : Str} {p q pos : Pos} (hg : Gl X "len") (hm : X.mg "len" = none) (hN : X.N[0]? = some x) (hl : X.env.scope.names.lookup x = some .local) (hd : (x == ("__debug__" : Str)) = false)
    (hs : starEach [.Name x p] X.env = (false, eval (.Name x p) X.env) :: starEach [] X.env) (hpl : (backTo pos (starEach [] X.env)).any (·.1) = false) : ExI X (.Call (.Name "len" q) [.Name x p] [] pos) (fun n => (n : Int)) := by
  intro pins s σ H E Q a xs I h0 sq k
  refine wpAny_Call_Name_kw (ld_blt I hg hm bt_len ?_ (by decide) (by decide))
  refine PyProof.Rows.callWith_builtin1 ?_ hs hpl
  rw [hs]
  refine Calls.spliced_cons (ex_name I h0 hN hl hd (Calls.spliced_nil ?_))
  obtain ⟨its, rv, pl, hz⟩ := I.tuple sq
  have e := rv.length
  have hn := line63
  refine PyProof.Rows.len_tuple pl (by simp only [List.size_toArray]; omega) ?_
  have := k (s.toks + 1 + 1) (s.toks + 1)
  rw [e] at this
  exact this
theorem ex_neg {X : Cx} {e : Expr} {m : Nat → Int} {pos : Pos} (h : ExI X e m) : ExI X (.UnaryOp .USub e pos) (fun n => -m n) := by
  intro pins s σ H E Q a xs I h0 sq k
  refine UnaryOp_ (h pins s σ H E _ a xs I h0 sq fun tk t => ?_)
  exact neg_int (k _ _)
mutual
theorem reads_lf {h : Heap} : ∀ (d : D) {v : Value} {as : List Addr}, Reads h v d as → lf d = true → as = []
  | .none, _, _, r, _ => by cases r; rfl
  | .bool _, _, _, r, _ => by cases r; rfl
  | .int _, _, _, r, _ => by cases r; rfl
  | .str _, _, _, r, _ => by cases r; rfl
  | .list _, _, _, _, n => by simp [lf] at n
  | .dict _, _, _, _, n => by simp [lf] at n
  | .tuple ds, _, _, r, n => by
    rw [lf] at n
    cases r with
    | tuple _ _ _ h4 => exact readsA_lf ds h4 n
theorem readsA_lf {h : Heap} : ∀ (ds : List D) {vs : List Value} {as : List Addr}, ReadsAll h vs ds as → lfA ds = true → as = []
  | [], _, _, r, _ => by cases r; rfl
  | d :: ds, _, _, r, n => by
    rw [lfA, Bool.and_eq_true] at n
    cases r with
    | cons r1 r2 => rw [reads_lf d r1 n.1, readsA_lf ds r2 n.2]; rfl
end
theorem dp_len {K : PySem.W.Frag} {H : Hp} : ∀ (ds : List D) {vs : List V}, DpAll K H vs ds → vs.length = ds.length
  | [], _, h => by cases h; rfl
  | d :: ds, _, h => by
    cases h with
    | cons h1 h2 => simp [dp_len ds h2]
/-- the key -/
def szKey (m : Nat → Int) : D → D
  | .tuple ds => .tuple [.int (m ds.length), .tuple ds]
  | d => d
/-- f may be a key: its calls change nothing -/
structure KeyF (P : Program) (w : World) (K : PySem.W.Frag) (mg : Str → Option Value) (base : Heap) (x : Str) (m : Nat → Int) : Prop where
  ex : ∃ f : Addr, mg x = some (.ref f) ∧ ∀ (A : Around) (outer : List Env) (s : Shared) (H : Hp) (a : Addr) (xs : List V) (ds : List D), Room 1 A → Env0 P w K mg base A outer s H → SqT K H a xs → DpAll K H xs ds → lfA ds = true →
    wpAny (model P w) A (call (.ref f) [.ref a]) (KeyPure (.tuple [.int (m ds.length), .tuple ds]) s) (fun _ _ => False) s
theorem key_of {P : Program} {w : World} {K : PySem.W.Frag} {mg : Str → Option Value} {base : Heap} {x y : Str} {st : Stmt} {m : Nat → Int} {e : Expr} {p1 p2 p3 : Pos} {k : Nat} (T : Tp K mg x st) (S : FnScope [y] [y] (defScope st)) (hb : defBody st = [.Return (some (.Tuple [e, .Name y p1] k p2)) p3])
    (hbi : ∀ (kV doc pm : Value) (an : Option Addr) (cdv ct : Value) (us : List Value), us.length = 1 → bindArgs (PySem.W.fnOf x x (defArgs st) (defBody st) (defScope st) .none kV doc pm an cdv ct) ⟨us, []⟩ = pure ([y].zip us))
    (hl : (defScope st).names.lookup y = some .local) (hd : (y == ("__debug__" : Str)) = false) (hcl : (defScope st).names.all (fun z => z.2 != .cell) = true)
    (he : ∀ (f : Addr) (cdv : Value) (A : Around) (outer : List Env) (s : Shared) (H : Hp) (E : XK), ExI (cxOf CX0 P w K mg base [y] x (defScope st) f cdv A outer s H E) e m)
    (hs : ∀ env, starEach [e, .Name y p1] env = (false, eval e env) :: (false, eval (.Name y p1) env) :: []) : KeyF P w K mg base x m := by
  obtain ⟨f, fd, F, hm⟩ := T.ex
  obtain ⟨oc, od, kV, doc, pm, an, cdv, ct, osl, rfl, lk, hcd⟩ := F.ex
  refine ⟨f, hm, fun A outer s H a xs ds hr e0 sq dp hlf => ?_⟩
  have KX : K.In s.heap := e0.mod.kin.keeps fun b o e => (e0.bs b o e).1
  have lim : s.heap.NoLimit := e0.mod.nolimit.keeps fun b o e => (e0.bs b o e).1
  refine wpAny_call ?_
  refine codeAny_call_function hr.depth (KX _ _ lk) rfl S.co S.gen rfl (PySem.W.codeRec_of KX hcd) ?_
  rw [hbi kV doc pm an cdv ct [.ref a] rfl]
  refine wpAny_pure ?_
  have hkind : ∀ z ∈ [y].zip [Value.ref a], (defScope st).names.lookup z.1 = some .local ∨ ((defScope st).names.lookup z.1 = some .cell ∧ ((cellsFrom (s.heap.objs.size + 1) (defScope st).names []).lookup z.1).isSome = true) := fun z hz => by
    have : z = (y, Value.ref a) := by simpa using hz
    subst this
    exact .inl hl
  refine wpAny_newFunctionEnv_cells S.kind hkind fun env he0 s1 ic => ?_
  subst he0
  refine ⟨lim.keeps ic.toInCall.keep, codeAny_func ?_⟩
  have I : Inv (cxOf CX0 P w K mg base [y] x (defScope st) f cdv A outer s H E0) [] (L2.start [y] [V.ref a]) H s1 := inv_start S hr.hd e0 rfl (.cons rfl .nil) ic
  obtain ⟨h1, tk1, hs1, hk1⟩ := ic.done
  show wpAny _ _ (execs (defBody st) _) _ _ _
  rw [hb]
  have h0 : (L2.start [y] [V.ref a])[0]? = some (some (V.ref a)) := rfl
  refine wpAny_execs_cons (wpAny_Return_some (wpAny_Tuple_spliced ?_))
  rw [hs]
  refine Calls.spliced_cons (he f cdv A outer s H E0 [] s1 _ H _ _ a xs I h0 sq fun tk t => ?_)
  have I2 := I.tok tk
  refine Calls.spliced_cons (ex_name (p := p1) I2 h0 rfl hl hd (Calls.spliced_nil ⟨by show 2 ≤ sizeLine; decide, ?_⟩))
  have hlen : xs.length = ds.length := dp_len ds dp
  subst hs1
  obtain ⟨as, hr1⟩ := Dp.reads I (.tuple ds) (.ref a) (.ref a) (.tup sq dp) rfl
  have has : as = [] := reads_lf (.tuple ds) hr1 (by rw [lf]; exact hlf)
  subst has
  refine ⟨h1.push { cls := .type "tuple", data := .seq [Value.int (m xs.length) t, Value.ref a].toArray }, tk, rfl, fun b o q => Heap.get?_push_of_some _ (hk1 b o q), ?_⟩
  have hr2 : Reads (h1.push { cls := .type "tuple", data := .seq [Value.int (m xs.length) t, Value.ref a].toArray }) (.ref a) (.tuple ds) [] := PyProof.Rows.Reads.keeps (fun b o q => Heap.get?_push_of_some _ q) hr1
  rw [← hlen]
  exact Reads.tuple (Heap.get?_push_size _ rfl) rfl rfl (ReadsAll.cons (.int _ _) (ReadsAll.cons hr2 .nil))

def keyB (m : Nat → Int) (ds : List D) : Bool := (ds.all fun d => isTup d && lf d) && okA 9 ds && sortB (ds.map (szKey m))
def sortKG (m : Nat → Int) : RV → Option RV
  | (.list ds, _) => if keyB m ds = true ∧ ds.length ≤ 16777216 then some (.list (ds.mergeSort fun a b => leD (szKey m a) (szKey m b)), .ow) else none
  | _ => none
def rSortK (K : PySem.W.Frag) (m : Nat → Int) (x : V) (H : Hp) (Q : VK) : Prop := ∃ (p : Addr) (xs : List V) (ds : List D), x = .ref p ∧ SqL K H p xs ∧ DpAll K H xs ds ∧ xs.length = ds.length ∧ keyB m ds = true ∧ ds.length ≤ 16777216 ∧
  ∀ l, H l = none → Q (.ref l) (upd H l (.lst (((xs.zip ds).mergeSort (dataLe false (fun b : V × D => szKey m b.2))).map (·.1))))
section
variable {X : Cx}
theorem each_mem2 {pins : List (Addr × Obj)} {σ : L2.St} {H : Hp} {s : Shared} (I : Inv X pins σ H s) {xs : List V} {ds : List D} {us : List Value} (dp : DpAll X.K H xs ds) (rv : Vals xs us) : EachIs (fun v (b : V × D) => (RelV b.1 v ∧ Dp X.K H b.1 b.2) ∧ b ∈ xs.zip ds) us (xs.zip ds) := each_mem (each_of I dp rv)
theorem crk_sort {x : Str} {m : Nat → Int} {f : Addr} (hu : X.A.units + 64 < cLine) (hr : Room 2 X.A) (hf : ∀ (A : Around) (outer : List Env) (s : Shared) (H : Hp) (a : Addr) (xs : List V) (ds : List D), Room 1 A → Env0 X.prog X.w X.K X.mg X.base A outer s H → SqT X.K H a xs → DpAll X.K H xs ds → lfA ds = true →
    wpAny (model X.prog X.w) A (call (.ref f) [.ref a]) (KeyPure (.tuple [.int (m ds.length), .tuple ds]) s) (fun _ _ => False) s) :
    CallRK X (.builtin "sorted") [Str.ofString "key"] (fun vs zs H Q => ∃ x, vs = [x] ∧ zs = [.ref f] ∧ rSortK X.K m x H Q) := by
  intro pins s σ H vs zs us ws Q I r rz h
  obtain ⟨x, rfl, rfl, p, xs, ds, rfl, sq, dp, hlen, hb, hz, q⟩ := h
  rw [Vals.ref1 r, Vals.ref1 rz]
  obtain ⟨its, rv, pl, hzz⟩ := I.list sq
  unfold keyB at hb
  rw [Bool.and_eq_true, Bool.and_eq_true] at hb
  obtain ⟨⟨hb1, hb0⟩, hb2⟩ := hb
  have e := each_mem2 I dp rv
  have hds : (xs.zip ds).map (fun b : V × D => szKey m b.2) = ds.map (szKey m) := by
    have := congrArg (List.map (szKey m)) (zip_snd hlen)
    rw [List.map_map] at this
    exact this
  have hbl : (xs.zip ds).length = ds.length := by rw [List.length_zip, hlen, Nat.min_self]
  have hs2 := hb2
  unfold sortB at hs2
  rw [Bool.and_eq_true, Bool.and_eq_true] at hs2
  obtain ⟨⟨s1, s2⟩, s3⟩ := hs2
  have hal : AllAlike ((xs.zip ds).map fun b : V × D => szKey m b.2) := by
    rw [hds]
    exact fun x hx y hy => List.all_eq_true.mp (List.all_eq_true.mp s2 x hx) y hy
  have tupd : ∀ b ∈ xs.zip ds, ∃ es, b.2 = .tuple es ∧ lfA es = true := fun b hbm => by
    have hb3 : b.2 ∈ ds := (List.of_mem_zip hbm).2
    have := List.all_eq_true.mp hb1 b.2 hb3
    rw [Bool.and_eq_true] at this
    obtain ⟨es, ee⟩ := isTup_of this.1
    exact ⟨es, ee, by have h2 := this.2; rw [ee, lf] at h2; exact h2⟩
  have hsk : Sortable ((xs.zip ds).map fun b : V × D => szKey m b.2) := .inl fun d hd => by
    obtain ⟨b, hbm, rfl⟩ := List.mem_map.mp hd
    obtain ⟨es, ee, _⟩ := tupd b hbm
    rw [ee]
    exact ⟨_, _, rfl⟩
  have hdep : ∀ b, b ∈ xs.zip ds → X.A.units + 2 + (szKey m b.2).depth < cLine := fun b hbm => by
    rw [okA_all] at s1
    have hm : szKey m b.2 ∈ ds.map (szKey m) := by
      rw [← hds]
      exact List.mem_map_of_mem hbm
    have := (okD_of 9 _ (List.all_eq_true.mp s1 _ hm)).2.2
    omega
  have hI : its.length ≤ sizeLine := by rw [← rv.length]; exact hzz
  refine sorted_key_data (b := false) (fun b : V × D => szKey m b.2) pl.isList e hal hsk (by rw [hbl, sizeLine_eq]; exact hz) hdep (ksk_s1 _ _) (fun _ => ksk_l1 _ _) (fun _ => ksk_t1 _ _) ?_ ?_
  · rintro v b ⟨⟨r1, d1⟩, hbm⟩ _ h tk kp
    obtain ⟨es, ee, hlf⟩ := tupd b hbm
    obtain ⟨b1, b2⟩ := b
    simp only at ee r1 d1
    subst ee
    cases d1 with
    | tup sqt dps =>
      cases r1
      have I2 : Inv X pins σ H { s with heap := h, toks := tk } := I.kept kp
      have e0 := I2.env0
      have hr2 : Room 1 X.A.in1.in1 := ⟨hr.hd, by have := hr.dp; show X.A.depth + 3 * 1 + 5 < _; omega, by have := hr.un; show X.A.units + 1 + 1 + 16 * 1 + 200 < _; omega⟩
      have e1 : Env0 X.prog X.w X.K X.mg X.base X.A.in1.in1 X.stack { s with heap := h, toks := tk } H := e0.in1.in1
      exact hf X.A.in1.in1 X.stack _ H _ _ es hr2 e1 sqt dps hlf
  · intro out c h' tk kp hn hD hlo eo
    have eo2 := eo.mono (R' := fun v (b : V × D) => RelV b.1 v ∧ Dp X.K H b.1 b.2) fun v b z => z.1
    have rv2 := vals_each eo2
    have hlen2 : (((xs.zip ds).mergeSort (dataLe false (fun b : V × D => szKey m b.2))).map (·.1)).length ≤ sizeLine := by
      rw [List.length_map, List.length_mergeSort, hbl, sizeLine_eq]; exact hz
    exact ⟨.ref _, upd H (s.heap.objs.size + 1) (.lst (((xs.zip ds).mergeSort (dataLe false (fun b : V × D => szKey m b.2))).map (·.1))), I.laid (t' := tk) kp (Nat.le_succ _) ⟨hlen2, _, c, rv2, hD⟩, rfl, q _ (I.hok.fresh (Nat.le_succ _))⟩
variable {a : Expr} {ga : GE} {p pos kp kpos : Pos} {y : Str} {nm : Option Str}
def eSK (m : Nat → Int) (ga : GE) : GE := fun env => (ga env).bind (sortKG m)
theorem ve_sortK {m : Nat → Int} {j : Nat} (kf : KeyF X.prog X.w X.K X.mg X.base y m) (hr : Room j X.A) (hj : 2 ≤ j) (hg : Gl X "sorted") (hm : X.mg "sorted" = none) (hgy : Gl X y) (ha : VE X a ga) (hdy : (y == ("__debug__" : Str)) = false := by decide)
    (he : backTo pos (starEach [a] X.env) = (false, eval a X.env) :: backTo pos (starEach [] X.env) := by rfl) (hs : starEach [a] X.env = (false, eval a X.env) :: starEach [] X.env := by rfl) (hpl : (backTo pos (starEach [a] X.env)).any (·.1) = false := by rfl)
    (hall : (backToKw pos (keywordEach [⟨nm, .Name y kp, kpos⟩] X.env)).all (·.1.isSome) = true := by rfl) (hnone : (backToKw pos (keywordEach [⟨nm, .Name y kp, kpos⟩] X.env)).any (·.1.isNone) = false := by rfl) (hks : (backToKw pos (keywordEach [⟨nm, .Name y kp, kpos⟩] X.env)).filterMap (·.1) = [Str.ofString "key"] := by rfl) :
    VE X (.Call (.Name "sorted" p) [a] [⟨nm, .Name y kp, kpos⟩] pos) (eSK m ga) := by
  obtain ⟨f, hmy, hf⟩ := kf.ex
  refine PE.to (pe_callBK (x := "sorted") (crk_sort (x := y) hr.units (hr.mono hj) hf) hg hm bt_sorted (va_cons ha va_nil hs) (pk_cons (pe_glob (v := .ref f) hgy hmy rfl hdy) pk_nil) (by decide) (by decide) he hpl hall hnone hks) fun σ H Q ⟨F, env, c, ok, e, q⟩ => ?_
  obtain ⟨x, e1, e2⟩ := bind2 e
  refine ⟨F, env, [x], ok, by show (ga env).bind _ = _; rw [e1]; rfl, fun vs H1 r1 => ?_⟩
  obtain ⟨v, rfl, rv⟩ := r1.one
  refine ⟨v, rfl, rfl, ?_⟩
  obtain ⟨d, fl⟩ := x
  cases d <;> try (cases (show (none : Option RV) = some c from e2))
  rename_i ds
  have e' : (if keyB m ds = true ∧ ds.length ≤ 16777216 then some ((.list (ds.mergeSort fun a b => leD (szKey m a) (szKey m b)), .ow) : RV) else none) = some c := e2
  split at e'
  · rename_i hc
    cases e'
    obtain ⟨p, vs, L, rfl, s, r, hl⟩ := rv.list
    have hb := hc.1
    unfold keyB at hb
    rw [Bool.and_eq_true, Bool.and_eq_true] at hb
    refine ⟨p, vs, ds, rfl, s, r.dp _ (okA_of 9 _ hb.1.2).1, r.length, hc.1, hc.2, fun l n sz => q _ _ (r1.same.trans (same_new n)) sz ?_⟩
    have hz := zip_snd r.length
    have hm : ((vs.zip ds).mergeSort (dataLe false (fun b : V × D => szKey m b.2))).map (·.2) = ds.mergeSort fun a b => leD (szKey m a) (szKey m b) := by
      have := sort_maps (r := dataLe false (fun b : V × D => szKey m b.2)) (s := fun a b => leD (szKey m a) (szKey m b)) (fun b : V × D => b.2) (l := vs.zip ds) (fun a _ b _ => rfl)
      rw [this, hz]
    obtain ⟨L2, ra2, hl2⟩ := rpa_pairs (K := X.K) (H := H1) (G := fun b => b ∈ L) ((vs.zip ds).mergeSort (dataLe false (fun b : V × D => szKey m b.2))) fun p hp => rpa_zip r p (List.mem_mergeSort.mp hp)
    rw [hm] at ra2
    exact Res.newList n r1.same ra2 fun b hb => hl b (hl2 b hb)
  · cases e'
end
end Pl

set_option Elab.async false
set_option linter.all false
set_option maxRecDepth 100000
set_option maxHeartbeats 4000000
/-! Pl15: sorted(set(xs)), len(set(xs)) of ints -/
namespace Pl
open PySem PySem.Spec PyProof.Rows L2

set_option maxHeartbeats 8000000 in
/-- set(xs) of a list of ints (the way L2.call_set_tupI goes for a tuple) -/
theorem call_set_listI {P : Program} {w : World} {A : Around} {E : Value → Shared → Prop} {s : Shared} {l : Addr} {items : Array Value} (ns : List Int) {Q : Value → Shared → Prop} (hh : A.handled = none) (hl : s.heap.IsList l items) (hit : IntsAre items.toList ns) (hb : ns.length + 1 < scanBound)
    (h : ∀ (h' : Heap) (tk c : Nat), SetR w h' s.heap.objs.size (fun j => decide (j ∈ ns)) c → c ≤ ns.length → (∀ b o, s.heap.get? b = some o → h'.get? b = some o) → Q (.ref s.heap.objs.size) { s with heap := h', toks := tk }) :
    wpAny (model P w) A (call (.type "set") [.ref l]) Q E s := by
  have hisz : items.size = ns.length := by
    have q := IntsAre.length hit
    rw [Array.length_toList] at q
    exact q
  obtain ⟨c, tl, hmro⟩ := F.called_set.mro
  have hmade := F.called_set.made
  have hsub := F.called_set.sub
  refine wpAny_call (codeAny_of_tree ?_)
  show wpAny _ _ (callAny (.type "set") _) _ _ _
  refine wpAny_pure ⟨Code.quiet_builtin _ (by decide +kernel), codeAny_builtin F.entry_type_call ?_⟩
  rw [Around.under_plain (weight_type_call_type "set" [.ref l] []) rfl]
  have h1 := F.called_set.notType
  have h2 := F.called_set.canCreate
  have hct := F.typeCall_set_1 (.ref l)
  repeat (any_goals (first | assumption | wp_step))
  refine codeAny_mono (code_set_led1 (.ref l) (E := E) (Q₁ := fun obj s₁ => obj = .ref s.heap.objs.size ∧ s₁ = { s with heap := s.heap.push { cls := .type "set", dict := none, data := .set #[] 0 (.fresh 0 0 (!w.params.followText "set-order")) } }) ⟨rfl, rfl⟩) fun r s₁ hr => ?_
  cases r with
  | error e => exact hr
  | ok fl =>
    cases fl with
    | ret obj =>
      obtain ⟨rfl, rfl⟩ := hr
      have hS : (s.heap.push { cls := .type "set", dict := none, data := .set #[] 0 (.fresh 0 0 (!w.params.followText "set-order")) }).get? s.heap.objs.size = some { cls := .type "set", dict := none, data := .set #[] 0 (.fresh 0 0 (!w.params.followText "set-order")) } := Heap.get?_push_size _ rfl
      have hT : Shared.TypeIs { s with heap := s.heap.push { cls := .type "set", dict := none, data := .set #[] 0 (.fresh 0 0 (!w.params.followText "set-order")) } } (.ref s.heap.objs.size) "set" := ⟨_, hS, rfl⟩
      have hli := F.called_set.init.lookup
      have hbi := F.called_set.init.bind (.ref s.heap.objs.size)
      repeat (any_goals (first | assumption | wp_step))
      refine codeAny_mono (codeAny_call_builtin (R := wants (fun r s₂ => r = .none ∧ ∃ h' tk c, s₂ = { s with heap := h', toks := tk } ∧ SetR w h' s.heap.objs.size (fun j => decide (j ∈ ns)) c ∧ c ≤ ns.length ∧
          (∀ b o, s.heap.get? b = some o → h'.get? b = some o)) E) F.called_set.init.plain F.entry_set_init (check_set_init_1 hT ?_)) fun r₂ s₂ hr₂ => ?_
      · obtain ⟨ol, hol, hcl, nl, hdl⟩ := hl
        obtain ⟨ocls, odict, odata, oslots⟩ := ol
        simp only at hcl hdl
        subst hcl; subst hdl
        have hol' : (s.heap.push { cls := .type "set", dict := none, data := .set #[] 0 (.fresh 0 0 (!w.params.followText "set-order")) }).get? l = some { cls := .type "list", dict := odict, data := .seq items nl, slots := oslots } := Heap.get?_push_of_some _ hol
        have hsls := F.sub_list_set
        have hslf := F.sub_list_frozenset
        have hne : (Value.type "list" == Value.type "dict") = false := by decide
        have hl1 : (s.heap.push { cls := .type "set", dict := none, data := .set #[] 0 (.fresh 0 0 (!w.params.followText "set-order")) }).IsList l items := ⟨_, hol', rfl, nl, rfl⟩
        unfold Builtin.«set.__init__» noKeywords Builtin.Frozenset.updateFrom
        generalize hPI : pyIter = PI
        wp_walk
        subst hPI
        refine wpAny_pyIter_list hl1 ?_
        refine wpAny_bind (wpAny_runValue ?_)
        have hlS : l < s.heap.objs.size := Heap.lt_size hol
        have hh3 : A.in1.in1.in1.handled = none := by simp [hh]
        have hneI : l ≠ (s.heap.push { cls := .type "set", dict := none, data := .set #[] 0 (.fresh 0 0 (!w.params.followText "set-order")) }).objs.size := by
          rw [Heap.size_push]; exact Nat.ne_of_lt (Nat.lt_succ_of_lt hlS)
        have hSf : s.heap.objs.size ∉ [(s.heap.push { cls := .type "set", dict := none, data := .set #[] 0 (.fresh 0 0 (!w.params.followText "set-order")) }).objs.size, l] := by
          rw [Heap.size_push]; simp only [List.mem_cons, List.mem_singleton, List.not_mem_nil, or_false, not_or]
          exact ⟨Nat.ne_of_lt (Nat.lt_succ_self _), Nat.ne_of_gt hlS⟩
        have hval : ∀ (i : Nat) (v : Value), items[i]? = some v → ∃ k t, ns[i]? = some k ∧ v = .int k t := fun i v hv => by
          have hi : i < ns.length := by rw [← hisz]; exact (Array.getElem?_eq_some_iff.mp hv).1
          obtain ⟨t, e⟩ := PyProof.Rows.IntsAre.int_at hit i v (by rw [Array.getElem?_toList]; exact hv)
          refine ⟨ns[i], t, List.getElem?_eq_getElem hi, ?_⟩
          rw [e, List.getD_eq_getElem?_getD, List.getElem?_eq_getElem hi] <;> rfl
        refine set_update_ints ((Walks.list hh3 _ l hneI items).toS) s.heap.objs.size
          hSf ns hisz hb hval (items.size - 0) 0 _ (by omega) (Nat.zero_le _)
          ⟨⟨_, Heap.get?_push_size _ rfl, rfl, rfl⟩, (hl1.push _)⟩ ?hS0 ?hR
        case hS0 =>
          have hget : ((s.heap.push { cls := .type "set", dict := none, data := .set #[] 0 (.fresh 0 0 (!w.params.followText "set-order")) }).push { cls := .type "list_iterator", data := .fields #[.ref l, .int 0 0] }).get? s.heap.objs.size
              = some { cls := .type "set", dict := none, data := .set #[] 0 (.fresh 0 0 (!w.params.followText "set-order")) } := Heap.get?_push_of_some _ hS
          exact ⟨0, Nat.le_refl 0, setR_new_at hget⟩
        case hR =>
          intro s' c' hm hc' hS'
          obtain ⟨h', g2, d', tk', os'⟩ := s'
          have eg : g2 = s.gens := hm.gens
          have ed : d' = s.drawn := hm.drawn
          have eo : os' = s.os := hm.os
          subst eg; subst ed; subst eo
          show wpAny _ _ _ _ _ _
          refine wpAny_pure ?_
          show wpAny _ _ (ret Value.none) _ _ _
          rw [hisz] at hc'
          refine wpAny_pure ⟨rfl, h', tk', c', rfl, hS', hc', fun b o e => ?_⟩
          have hb0 : b < s.heap.objs.size := Heap.lt_size e
          have hb1 : b ≠ s.heap.objs.size := Nat.ne_of_lt hb0
          have hb2 : b ≠ (s.heap.push { cls := .type "set", dict := none, data := .set #[] 0 (.fresh 0 0 (!w.params.followText "set-order")) }).objs.size := by
            rw [Heap.size_push]; exact Nat.ne_of_lt (Nat.lt_succ_of_lt hb0)
          exact hm.heap b o (by simp only [List.mem_cons, List.mem_singleton, List.not_mem_nil, or_false, not_or]; exact ⟨hb1, hb2⟩) (Heap.get?_push_of_some _ (Heap.get?_push_of_some _ e))
      · cases r₂ with
        | error e => exact hr₂
        | ok fl₂ =>
          cases fl₂ with
          | ret r =>
            obtain ⟨rfl, h', tk, c', rfl, hS', hc', hk'⟩ := hr₂
            repeat (any_goals (first | assumption | wp_step))
            exact h _ _ _ hS' hc' hk'
          | _ => exact hr₂.elim
    | _ => exact hr.elim
end Pl

set_option Elab.async false
set_option linter.all false
set_option maxRecDepth 100000
set_option maxHeartbeats 4000000
/-! Pl16: sorted(set(xs)), len(set(xs)) of ints: the rules -/
namespace Pl
open PySem PySem.Spec PyProof.Rows L2

/-- into a strictly rising list -/
def insS (k : Int) : List Int → List Int
  | [] => [k]
  | x :: xs => if k < x then k :: x :: xs else if k = x then x :: xs else x :: insS k xs
def ssort : List Int → List Int
  | [] => []
  | k :: ks => insS k (ssort ks)
theorem mem_insS {k j : Int} : ∀ {xs : List Int}, j ∈ insS k xs ↔ j = k ∨ j ∈ xs
  | [] => by simp [insS]
  | x :: xs => by
    unfold insS
    split
    · simp
    · split
      · rename_i h; subst h; simp
      · rw [List.mem_cons, mem_insS, List.mem_cons]
        constructor
        · rintro (h | h | h) <;> simp [h]
        · rintro (h | h | h) <;> simp [h]
theorem mem_ssort {j : Int} : ∀ {xs : List Int}, j ∈ ssort xs ↔ j ∈ xs
  | [] => by simp [ssort]
  | x :: xs => by rw [ssort, mem_insS, mem_ssort, List.mem_cons]
theorem insS_up {k : Int} : ∀ {xs : List Int}, xs.Pairwise (· < ·) → (insS k xs).Pairwise (· < ·)
  | [], _ => by simp [insS]
  | x :: xs, h => by
    obtain ⟨h1, h2⟩ := List.pairwise_cons.mp h
    unfold insS
    split
    · rename_i c
      refine List.pairwise_cons.mpr ⟨fun y hy => ?_, h⟩
      rcases List.mem_cons.mp hy with rfl | hy
      · exact c
      · exact Int.lt_trans c (h1 y hy)
    · split
      · exact h
      · refine List.pairwise_cons.mpr ⟨fun y hy => ?_, insS_up h2⟩
        rcases mem_insS.mp hy with rfl | hy
        · omega
        · exact h1 y hy
theorem ssort_up : ∀ xs : List Int, (ssort xs).Pairwise (· < ·)
  | [] => List.Pairwise.nil
  | x :: xs => insS_up (ssort_up xs)
theorem up_unique : ∀ {xs ys : List Int}, xs.Pairwise (· < ·) → ys.Pairwise (· < ·) → (∀ k, k ∈ xs ↔ k ∈ ys) → xs = ys
  | [], [], _, _, _ => rfl
  | [], y :: ys, _, _, h => by have := (h y).mpr List.mem_cons_self; simp at this
  | x :: xs, [], _, _, h => by have := (h x).mp List.mem_cons_self; simp at this
  | x :: xs, y :: ys, hx, hy, h => by
    obtain ⟨a1, a2⟩ := List.pairwise_cons.mp hx
    obtain ⟨b1, b2⟩ := List.pairwise_cons.mp hy
    have e : x = y := by
      rcases List.mem_cons.mp ((h x).mp List.mem_cons_self) with q | q
      · exact q
      · rcases List.mem_cons.mp ((h y).mpr List.mem_cons_self) with r | r
        · exact r.symm
        · have := a1 y r; have := b1 x q; omega
    subst e
    rw [up_unique a2 b2 fun k => ?_]
    have hk := h k
    rw [List.mem_cons, List.mem_cons] at hk
    constructor
    · intro q
      rcases hk.mp (.inr q) with r | r
      · subst r; exact absurd (a1 k q) (Int.lt_irrefl k)
      · exact r
    · intro q
      rcases hk.mpr (.inr q) with r | r
      · subst r; exact absurd (b1 k q) (Int.lt_irrefl k)
      · exact r
theorem nodup_up {xs : List Int} (h : xs.Pairwise (· < ·)) : xs.Nodup := h.imp fun h => Int.ne_of_lt h
/-- the members of a set, in order, and their number -/
theorem setR_count {w : World} {h : Heap} {a : Addr} {ns : List Int} {n : Nat} (R : SetR w h a (fun j => decide (j ∈ ns)) n) : n = (ssort ns).length := by
  obtain ⟨o, es, ep, t, ho, hex, hd, g, nd, hm, hb, hf, hn, hr, hl⟩ := R
  have p : (es.toList.map keyOf).Perm (ssort ns) := (List.perm_ext_iff_of_nodup nd (nodup_up (ssort_up ns))).mpr fun k => by
    rw [← hm k, mem_ssort]; simp
  have := p.length_eq
  rw [List.length_map, Array.length_toList] at this
  omega
section
variable {X : Cx} {a : Expr} {ga : GE} {p p2 pos q : Pos}
def setInts : RV → Option (List Int)
  | (.list ds, _) => intsOf ds
  | (.tuple ds, _) => intsOf ds
  | _ => none
def ssG : RV → Option RV := fun r => (setInts r).bind fun ns => if (ssort ns).length < 64 ∧ ns.length + 1 < 4096 then some (.list ((ssort ns).map .int), .ow) else none
def lsG : RV → Option RV := fun r => (setInts r).bind fun ns => if ns.length + 1 < 4096 then some (.int ((ssort ns).length : Nat), .fz) else none
def eU (g : RV → Option RV) (ga : GE) : GE := fun env => (ga env).bind g
theorem setInts_of {K : PySem.W.Frag} {F : Addr → Prop} {H0 H : Hp} {v : V} {r : RV} {ns : List Int} (rv : Res K F H0 H v r) (e : setInts r = some ns) : ∃ l, v = .ref l ∧ (SqL K H l (ns.map V.int) ∨ SqT K H l (ns.map V.int)) := by
  obtain ⟨d, f⟩ := r
  cases d <;> try (cases (show (none : Option (List Int)) = some ns from e))
  · rename_i ds
    cases intsOf_of (show intsOf ds = some ns from e)
    obtain ⟨l, vs, L, rfl, s, ra, _⟩ := rv.list
    cases rpa_ints_inv ra
    exact ⟨l, rfl, .inl s⟩
  · rename_i ds
    cases intsOf_of (show intsOf ds = some ns from e)
    obtain ⟨l, vs, L, rfl, s, ra, _⟩ := rv.tuple
    cases rpa_ints_inv ra
    exact ⟨l, rfl, .inr s⟩
/-- set(xs) evaluated: an untracked set, where the caller wants it -/
theorem set_run {pins : List (Addr × Obj)} {σ : L2.St} {H : Hp} {s : Shared} {l : Addr} {ns : List Int} {E : Value → Shared → Prop} {Q : Value → Shared → Prop} (hc : X.calm = true) (I : Inv X pins σ H s) (sq : SqL X.K H l (ns.map V.int) ∨ SqT X.K H l (ns.map V.int)) (hb : ns.length + 1 < 4096)
    (k : ∀ (h' : Heap) (tk c : Nat), SetR X.w h' s.heap.objs.size (fun j => decide (j ∈ ns)) c → (∀ b o, s.heap.get? b = some o → h'.get? b = some o) → Inv X pins σ H { s with heap := h', toks := tk } → Q (.ref s.heap.objs.size) { s with heap := h', toks := tk }) :
    wpAny (model X.prog X.w) X.A (call (.type "set") [.ref l]) Q E s := by
  rcases sq with sq | sq
  · obtain ⟨its, r, pl, hz⟩ := I.list sq
    exact call_set_listI ns (I.ok.hd hc) pl.isList (by simpa using r.ints) (by unfold scanBound; exact hb) fun h' tk c R _ hk => k h' tk c R hk (I.kept hk)
  · obtain ⟨its, r, pl, hz⟩ := I.tuple sq
    exact call_set_tupI ns (I.ok.hd hc) pl (by simpa using r.ints) (by unfold scanBound; exact hb) fun h' tk c R _ hk => k h' tk c R hk (I.kept hk)
theorem ve_lenSet (hc : X.calm = true) (hg : Gl X "len") (hm : X.mg "len" = none) (hg2 : Gl X "set") (hm2 : X.mg "set" = none) (ha : VE X a ga)
    (na : starEach [a] X.env = (false, eval a X.env) :: starEach [] X.env := by rfl) : VE X (.Call (.Name "len" p) [.Call (.Name "set" p2) [a] [] q] [] pos) (eU lsG ga) := by
  refine ⟨fun pins s σ H Q I ⟨F, env, r, ok, e, q⟩ => ?_⟩
  obtain ⟨r0, e1, e2⟩ := bind2 e
  obtain ⟨ns, e3, e4⟩ := bind2 e2
  split at e4
  rotate_left
  · cases e4
  rename_i hb
  cases e4
  refine Call_ (ld_blt I hg hm PySem.boot_len ?_)
  refine PyProof.Rows.callWith_builtin1 (PyProof.Rows.args_cons ?_ rfl) rfl rfl
  refine Call_ (ld_blt I hg2 hm2 PyProof.Rows.boot_set ?_)
  refine PyProof.Rows.callWith_type1 (PyProof.Rows.args_cons (thn (ha.run pins s σ H (fun v H1 => Same H H1 ∧ Sz X.K H1 ∧ Res X.K F H H1 v r0) I ⟨F, env, r0, ok, e1, fun v H1 s1 z1 rv => ⟨s1, z1, rv⟩⟩) fun v s1 ⟨x, H1, I1, r1, sm, sz, rv⟩ => PyProof.Rows.args_nil ?_) na) na rfl
  obtain ⟨l, rfl, sq⟩ := setInts_of rv e3
  cases r1
  refine set_run hc I1 sq hb fun h' tk c R hk I2 => ?_
  refine PyProof.Rows.args_nil ?_
  have hn := setR_count R
  have hle : c ≤ 4096 := by obtain ⟨o, es, ep, t, ho, hex, hd, g, nd, hm, hb, hf, hn, hr, hl⟩ := R; unfold scanBound at hb; omega
  obtain ⟨o, es, ep, t, ho, hex, hd, g, nd, hm', hb', hf, hn', hr, hl⟩ := R
  refine call_len_set ho hex hd hf (by omega) ⟨.int (ssort ns).length, H1, I2.tok _, ⟨_, by rw [hn', hn]⟩, q _ H1 sm sz Res.ofInt⟩
theorem ve_sortedSet (hc : X.calm = true) (hg : Gl X "sorted") (hm : X.mg "sorted" = none) (hg2 : Gl X "set") (hm2 : X.mg "set" = none) (ha : VE X a ga)
    (na : starEach [a] X.env = (false, eval a X.env) :: starEach [] X.env := by rfl) : VE X (.Call (.Name "sorted" p) [.Call (.Name "set" p2) [a] [] q] [] pos) (eU ssG ga) := by
  refine ⟨fun pins s σ H Q I ⟨F, env, r, ok, e, q⟩ => ?_⟩
  obtain ⟨r0, e1, e2⟩ := bind2 e
  obtain ⟨ns, e3, e4⟩ := bind2 e2
  split at e4
  rotate_left
  · cases e4
  rename_i hb
  cases e4
  refine Call_ (ld_blt I hg hm bt_sorted ?_)
  refine PyProof.Rows.callWith_builtin1 (PyProof.Rows.args_cons ?_ rfl) rfl rfl
  refine Call_ (ld_blt I hg2 hm2 PyProof.Rows.boot_set ?_)
  refine PyProof.Rows.callWith_type1 (PyProof.Rows.args_cons (thn (ha.run pins s σ H (fun v H1 => Same H H1 ∧ Res X.K F H H1 v r0) I ⟨F, env, r0, ok, e1, fun v H1 s1 z1 rv => ⟨s1, rv⟩⟩) fun v s1 ⟨x, H1, I1, r1, sm, rv⟩ => PyProof.Rows.args_nil ?_) na) na rfl
  obtain ⟨l, rfl, sq⟩ := setInts_of rv e3
  cases r1
  refine set_run hc I1 sq hb.2 fun h' tk c R hk I2 => ?_
  refine PyProof.Rows.args_nil ?_
  have hn := setR_count R
  refine sorted_set R (I2.ok.hd hc) (by rw [hn]; exact hb.1) fun s' p out c2 ns' k1 k2 k3 k4 k5 k6 k7 k8 k9 => ?_
  have en : ns' = ssort ns := up_unique k7 (ssort_up ns) fun k => by rw [k8 k, mem_ssort]; simp
  subst en
  obtain ⟨hp, g2, d2, tk2, os2⟩ := s'
  cases k2
  cases k3
  have I3 : Inv X pins σ H1 { heap := h', gens := s1.gens, drawn := d2, toks := tk2, os := s1.os } := I1.call (h' := h') (g' := s1.gens) (d' := d2) (t' := tk2) (ch := []) (Un.kept hk) (I1.hok.kept hk) I1.bare (fun b z => absurd z (by simp))
  have rv2 : Vals ((ssort ns).map V.int) out.toList := vals_of_ints k6
  have hlen : ((ssort ns).map V.int).length ≤ sizeLine := by
    rw [List.length_map, sizeLine_eq]
    have := hb.1
    omega
  have k5' : hp.get? p = some (seqObj "list" out c2) := k5
  refine ⟨.ref p, upd H1 p (.lst ((ssort ns).map V.int)), I3.laid (t' := tk2) k1 k4 (show ObjOk X.prog X.w _ _ _ (.lst ((ssort ns).map V.int)) from ⟨hlen, out.toList, c2, rv2, by rw [Array.toArray_toList]; exact k5'⟩), rfl, ?_⟩
  have hn2 : H1 p = none := I3.hok.fresh k4
  have I4 : Inv X pins σ (upd H1 p (.lst ((ssort ns).map V.int))) { heap := hp, gens := s1.gens, drawn := d2, toks := tk2, os := s1.os } := I3.laid (t' := tk2) k1 k4 (show ObjOk X.prog X.w _ _ _ (.lst ((ssort ns).map V.int)) from ⟨hlen, out.toList, c2, rv2, by rw [Array.toArray_toList]; exact k5'⟩)
  exact q _ _ (sm.trans (same_new hn2)) (szs_of I4) (Res.newList hn2 sm (rpa_ints _) (by simp))
end
end Pl

set_option Elab.async false
set_option linter.all false
set_option maxRecDepth 100000
set_option maxHeartbeats 4000000
/-! Pl17: the end of a law -/
namespace Pl
open PySem PySem.Spec PyProof.Rows L2
/-- what the top has written of a def -/
theorem tp_mk {K : PySem.W.Frag} {h : Heap} {mg : Str → Option Value} {x : Str} {st : Stmt} {f : Addr} {oc : Value} {od an : Option Addr} {osl : Array (Option Value)} {kV doc pm cdv ct : Value} (X : K.In h) (G : h.Ns mainGlobals mg)
    (a : PySem.W.nsIn K mainGlobals x = some (some (.ref f))) (l : K.lookup f = some ⟨oc, od, .func (PySem.W.fnOf x x (defArgs st) (defBody st) (defScope st) .none kV doc pm an cdv ct), osl⟩)
    (c : PySem.W.codeIn K cdv x = true) (k : PySem.W.keepIn K (.ref f) = true) : Tp K mg x st := ⟨f, _, fun_mk l c k, PySem.W.mg_of X G a⟩
abbrev TpAt {K : PySem.W.Frag} {h : Heap} (X : K.In h) (mg : Str → Option Value) (x : Str) (st : Stmt) : Prop := Tp K mg x st
/-- the built-in names stand -/
theorem bl_mk {K : PySem.W.Frag} {h : Heap} {mg : Str → Option Value} (X : K.In h) (G : h.Ns mainGlobals mg) (a : ∀ x ∈ bl, PySem.W.nsIn K mainGlobals x = some none) : ∀ x ∈ bl, mg x = none := fun x hx => PySem.W.mg_none_of X G (a x hx)
/-- the law's own promise, from its function -/
theorem law_sp {K : PySem.W.Frag} {H : Hp} {a : Addr} {ns : List Int} {g : List RV → Option RV} (hg : g [(.list (ns.map .int), .sc)] = some (.bool true, .fz)) (hO : Only H) (hS : SqL K H a (ns.map V.int)) : spG K g [.ref a] H (fun v _ => v = .bl true) fun _ _ _ => False := by
  refine ⟨fun _ => False, [(.list (ns.map .int), .sc)], (.bool true, .fz), ⟨rfl, fun i r e => ?_⟩, fun b z => z.elim, hg, fun v H' s rv => rv.bool⟩
  cases i with
  | succ i => simp at e
  | zero =>
    have e' : r = (.list (ns.map .int), .sc) := by simpa using e.symm
    subst e'
    refine ⟨_, rfl, a, ns, rfl, rfl, ?_⟩
    rcases hS with (q | ⟨o, q⟩) | q
    · rcases hO a with z | ⟨o, xs, z⟩
      · rw [z] at q; cases q
      · rw [z] at q; cases q
    · exact .inl ⟨o, q⟩
    · exact .inr (.inr q)
end Pl

set_option Elab.async false
set_option linter.all false
set_option maxRecDepth 100000
set_option maxHeartbeats 4000000
/-! Br1: from the printed functions to plain Lean functions -/
namespace Pl
open PySem L2
/-- one turn of a loop -/
def turn (tg : Tg) (body : GS) (x : D) (env : En) : Option Out := (asT tg x env).bind body
theorem forGo_nil {tg : Tg} {body : GS} {ws : List Nat} {env : En} : forGo tg body ws [] env = some (.nx env) := rfl
theorem forGo_cons {tg : Tg} {body : GS} {ws : List Nat} {x : D} {xs : List D} {env : En} : forGo tg body ws (x :: xs) env = (turn tg body x env).bind fun o => match o with
    | .nx e => forGo tg body ws xs (wipeE e ws)
    | .ct e => forGo tg body ws xs (wipeE e ws)
    | .bk e => some (.nx (wipeE e ws))
    | .rt r => some (.rt r) := by
  rw [forGo, turn]
  cases asT tg x env with
  | none => rfl
  | some e =>
    show (body e).bind _ = ((body e)).bind _
    cases body e with
    | none => rfl
    | some o => cases o <;> rfl
theorem forGo_step {tg : Tg} {body : GS} {ws : List Nat} {x : D} {xs : List D} {env e : En} (h : turn tg body x env = some (.nx e)) : forGo tg body ws (x :: xs) env = forGo tg body ws xs (wipeE e ws) := by
  rw [forGo_cons, h]; rfl
theorem forGo_ret {tg : Tg} {body : GS} {ws : List Nat} {x : D} {xs : List D} {env : En} {r : RV} (h : turn tg body x env = some (.rt r)) : forGo tg body ws (x :: xs) env = some (.rt r) := by
  rw [forGo_cons, h]; rfl
theorem forGo_brk {tg : Tg} {body : GS} {ws : List Nat} {x : D} {xs : List D} {env e : En} (h : turn tg body x env = some (.bk e)) : forGo tg body ws (x :: xs) env = some (.nx (wipeE e ws)) := by
  rw [forGo_cons, h]; rfl
/-- a loop as a fold over typed items: S the states, E how they lie in the slots, I what holds of them -/
theorem forGo_fold {α S : Type} {tg : Tg} {body : GS} {ws : List Nat} (enc : α → D) (E : S → En) (step : S → α → S) (I : List α → S → Prop) :
    ∀ (ys : List α) (s : S), I ys s → (∀ y ys s, I (y :: ys) s → ∃ e, turn tg body (enc y) (E s) = some (.nx e) ∧ wipeE e ws = E (step s y) ∧ I ys (step s y)) → forGo tg body ws (ys.map enc) (E s) = some (.nx (E (ys.foldl step s)))
  | [], s, _, _ => rfl
  | y :: ys, s, h, k => by
    obtain ⟨e, h1, h2, h3⟩ := k y ys s h
    rw [List.map_cons, forGo_step h1, h2, List.foldl_cons]
    exact forGo_fold enc E step I ys _ h3 k
/-- a comprehension over typed items -/
theorem lcGo_map {α β : Type} {f : D → Option (Option D)} (enc : α → D) (enc' : β → D) (g : α → Option β) : ∀ (ys : List α), (∀ y ∈ ys, f (enc y) = some ((g y).map enc')) → lcGo f (ys.map enc) = some ((ys.filterMap g).map enc')
  | [], _ => rfl
  | y :: ys, h => by
    rw [List.map_cons, lcGo, h y List.mem_cons_self, lcGo_map enc enc' g ys fun z hz => h z (List.mem_cons_of_mem _ hz)]
    cases e : g y <;> simp [e]
/-- encodings -/
def eInts (ns : List Int) : D := .tuple (ns.map .int)
def eNats (ns : List Nat) : D := .tuple (ns.map fun n => .int (n : Nat))
end Pl

set_option Elab.async false
set_option linter.all false
set_option maxRecDepth 100000
set_option maxHeartbeats 4000000
/-! Br2: rules for simp -/
namespace Pl
open PySem L2
/- not by rfl: the kernel must not look into the functions -/
@[simp high] theorem bindS {α β : Type} {a : α} {f : α → Option β} : (some a).bind f = f a := (rfl)
@[simp high] theorem mapS {α β : Type} {a : α} {f : α → β} : (some a).map f = some (f a) := (rfl)
section
variable {d d' : D} {e : En} {f : Fl} {r x y : RV} {i j : Int} {k : Bool} {n : Nat} {o o' : Slot}
@[simp] theorem ev_0z : eVar 0 (some (d, .fz) :: e) = some (d, .fz) := (rfl)
@[simp] theorem ev_0w : eVar 0 (some (d, .ow) :: e) = some (d, .bw) := (rfl)
@[simp] theorem ev_0b : eVar 0 (some (d, .bw) :: e) = some (d, .bw) := (rfl)
@[simp] theorem ev_0s : eVar 0 (some (d, .sc) :: e) = some (d, .sc) := (rfl)
@[simp] theorem ev_s : eVar (n + 1) (o :: e) = eVar n e := (rfl)
@[simp] theorem eC_ev : eC d e = some (d, .fz) := (rfl)
@[simp] theorem e2_ev {g : RV → RV → Option RV} {ga gb : GE} : e2 g ga gb e = (ga e).bind fun x => (gb e).bind fun y => g x y := (rfl)
@[simp] theorem asB_ev : asB (.bool k, f) = some k := (rfl)
@[simp] theorem eB_ev {g : GE} : eB g e = (g e).bind asB := (rfl)
@[simp] theorem eT_ev {g : GE} : eT g e = (g e).bind truD := (rfl)
@[simp] theorem tru_b : truD (.bool k, f) = some k := (rfl)
@[simp] theorem tru_i : truD (.int i, f) = some (i != 0) := (rfl)
@[simp] theorem tru_n : truD (.none, f) = some false := (rfl)
@[simp] theorem tru_l {ds : List D} : truD (.list ds, f) = some (!ds.isEmpty) := (rfl)
@[simp] theorem tru_t {ds : List D} : truD (.tuple ds, f) = some (!ds.isEmpty) := (rfl)
@[simp] theorem bYes_ev : bYes e = some true := (rfl)
@[simp] theorem bAnd_ev {ba bb : GB} : bAnd ba bb e = (ba e).bind fun k => if k = true then bb e else some false := (rfl)
@[simp] theorem bOr_ev {ba bb : GB} : bOr ba bb e = (ba e).bind fun k => if k = true then some true else bb e := (rfl)
@[simp] theorem bNot_ev {ba : GB} : bNot ba e = (ba e).map fun k => !k := (rfl)
@[simp] theorem eAnd_ev {ga gb : GE} : eAnd ga gb e = (ga e).bind fun r => (truD r).bind fun k => if k = true then gb e else some r := (rfl)
@[simp] theorem eOr_ev {ga gb : GE} : eOr ga gb e = (ga e).bind fun r => (truD r).bind fun k => if k = true then some r else gb e := (rfl)
@[simp] theorem eNot_ev {ga : GE} : eNot ga e = (ga e).bind fun r => (truD r).map fun k => (.bool (!k), .fz) := (rfl)
@[simp] theorem neg_i : negG (.int i, f) = some (.int (-i), .fz) := (rfl)
@[simp] theorem eNeg_ev {ga : GE} : eNeg ga e = (ga e).bind negG := (rfl)
@[simp] theorem eIf_ev {bc : GB} {ga gb : GE} : eIf bc ga gb e = (bc e).bind fun k => if k = true then ga e else gb e := (rfl)
@[simp] theorem aNil_ev : aNil e = some [] := (rfl)
@[simp] theorem aCons_ev {g : GE} {t : GA} : aCons g t e = (g e).bind fun r => (t e).bind fun rs => some (r :: rs) := (rfl)
@[simp] theorem eA_ev {g : List RV → Option RV} {t : GA} : eA g t e = (t e).bind g := (rfl)
@[simp] theorem eU_ev {g : RV → Option RV} {t : GE} : eU g t e = (t e).bind g := (rfl)
@[simp] theorem one_ev {g : RV → Option RV} : one g [r] = g r := (rfl)
@[simp] theorem two_ev {g : RV → RV → Option RV} : two g [x, y] = g x y := (rfl)
@[simp] theorem add_i {f'} : addG (.int i, f) (.int j, f') = some (.int (i + j), .fz) := (rfl)
@[simp] theorem sub_i {f'} : subG (.int i, f) (.int j, f') = some (.int (i - j), .fz) := (rfl)
theorem mul_i {f'} : mulG (.int i, f) (.int j, f') = if mulC i j then some (.int (i * j), .fz) else none := (rfl)
theorem div_i {f'} : divG (.int i, f) (.int j, f') = if divC i j then some (.int (i.fdiv j), .fz) else none := (rfl)
theorem mod_i {f'} : modG (.int i, f) (.int j, f') = if j ≠ 0 then some (.int (i.fmod j), .fz) else none := (rfl)
@[simp] theorem eq_i {f'} : eqG (.int i, f) (.int j, f') = some (.bool (decide (i = j)), .fz) := by
  by_cases h : i = j <;> simp [eqG, okD, PyData.eqv, h]
@[simp] theorem ne_i {f'} : neG (.int i, f) (.int j, f') = some (.bool (!decide (i = j)), .fz) := by
  by_cases h : i = j <;> simp [neG, okD, PyData.eqv, h]
@[simp] theorem cmp_i {p : Int → Int → Bool} {f'} : cmpG p (.int i, f) (.int j, f') = some (.bool (p i j), .fz) := (rfl)
@[simp] theorem ltA_i {f'} : ltA (.int i, f) (.int j, f') = some (.bool (decide (i < j)), .fz) := (rfl)
@[simp] theorem is_n {neg : Bool} {f'} : isG neg (d, f) (.none, f') = some (.bool (neg != isNone d), .fz) := by cases d <;> rfl
@[simp] theorem isn_n : isNone .none = true := (rfl)
@[simp] theorem isn_i : isNone (.int i) = false := (rfl)
@[simp] theorem isn_b : isNone (.bool k) = false := (rfl)
@[simp] theorem isn_t {ds : List D} : isNone (.tuple ds) = false := (rfl)
@[simp] theorem isn_l {ds : List D} : isNone (.list ds) = false := (rfl)
@[simp] theorem isn_s {s : Str} : isNone (.str s) = false := (rfl)
@[simp] theorem len_l {ds : List D} : lenG (.list ds, f) = some (.int (ds.length : Nat), .fz) := (rfl)
@[simp] theorem len_t {ds : List D} : lenG (.tuple ds, f) = some (.int (ds.length : Nat), .fz) := (rfl)
theorem abs_i : absG (.int i, f) = some (.int (i.natAbs : Nat), .fz) := by
  show some (PyData.int (if i < 0 then -i else i), Fl.fz) = _
  congr 2
  congr 1
  split <;> omega
@[simp] theorem int_i : intG (.int i, f) = some (.int i, .fz) := (rfl)
@[simp] theorem ix_l {ds : List D} : ixG (.list ds, f) (.int i, f') = (atI ds i).map fun d => (d, .fz) := (rfl)
@[simp] theorem ix_t {ds : List D} {f'} : ixG (.tuple ds, f) (.int i, f') = (atI ds i).map fun d => (d, .fz) := (rfl)
@[simp] theorem sSkip_ev : sSkip e = some (.nx e) := (rfl)
@[simp] theorem sBk_ev : sBk e = some (.bk e) := (rfl)
@[simp] theorem sCt_ev : sCt e = some (.ct e) := (rfl)
/-- what behind a statement comes -/
def nxt (h : GS) : Out → Option Out
  | .nx e => h e
  | o => some o
theorem sSeq_ev {g h : GS} : sSeq g h e = (g e).bind (nxt h) := by
  unfold sSeq
  cases g e with
  | none => rfl
  | some o => cases o <;> rfl
@[simp] theorem nxt_nx {h : GS} : nxt h (.nx e) = h e := (rfl)
@[simp] theorem nxt_rt {h : GS} : nxt h (.rt r) = some (.rt r) := (rfl)
@[simp] theorem nxt_bk {h : GS} : nxt h (.bk e) = some (.bk e) := (rfl)
@[simp] theorem nxt_ct {h : GS} : nxt h (.ct e) = some (.ct e) := (rfl)
@[simp] theorem sIf_ev {c : GB} {g h : GS} : sIf c g h e = (c e).bind fun k => if k = true then g e else h e := (rfl)
@[simp] theorem ret_z : retV (d, .fz) = some (d, .fz) := (rfl)
@[simp] theorem ret_w : retV (d, .ow) = some (d, .ow) := (rfl)
@[simp] theorem sRet_ev {g : GE} : sRet g e = ((g e).bind retV).map .rt := (rfl)
@[simp] theorem sRetN_ev : sRetN e = some (.rt (.none, .fz)) := (rfl)
theorem sRetM_ev {i : Nat} : sRetM i e = match e[i]? with
  | some (some (d, .ow)) => some (.rt (d, .ow))
  | some (some (d, .fz)) => some (.rt (d, .fz))
  | _ => none := (rfl)
@[simp] theorem asg_z {b : Bool} : asgV b (d, .fz) = some (d, .fz) := (rfl)
@[simp] theorem asg_w : asgV true (d, .ow) = some (d, .ow) := (rfl)
@[simp] theorem asg_f : asgV false (d, .ow) = some (d, .fz) := (rfl)
@[simp] theorem sAsg_ev {i : Nat} {own : Bool} {g : GE} : sAsg i own g e = ((g e).bind (asgV own)).map fun r => .nx (e.set i (some r)) := (rfl)
@[simp] theorem pf_z : plainFl .fz = true := (rfl)
@[simp] theorem pf_w : plainFl .ow = true := (rfl)
@[simp] theorem pa_nil : plainAll [] = true := (rfl)
@[simp] theorem pa_z {rs : List RV} : plainAll ((d, .fz) :: rs) = plainAll rs := (rfl)
@[simp] theorem pa_w {rs : List RV} : plainAll ((d, .ow) :: rs) = plainAll rs := (rfl)
@[simp] theorem sAsgT_ev {tg : Tg} {g : GE} : sAsgT tg g e = (g e).bind fun r => if plainFl r.2 = true then (asT tg r.1 e).map .nx else none := (rfl)
@[simp] theorem asT_nm {i : Nat} : asT (.nm i) d e = some (e.set i (some (d, .fz))) := by rw [asT]
@[simp] theorem asT_tp {ts : Tgs} {ds : List D} : asT (.tp ts) (.tuple ds) e = asTs ts ds e := by rw [asT]
@[simp] theorem asT_tl {ts : Tgs} {ds : List D} : asT (.tp ts) (.list ds) e = asTs ts ds e := by rw [asT]
@[simp] theorem asTs_n : asTs .nil [] e = some e := by rw [asTs]
@[simp] theorem asTs_c {t : Tg} {ts : Tgs} {ds : List D} : asTs (.cons t ts) (d :: ds) e = (asT t d e).bind fun e => asTs ts ds e := by rw [asTs]
@[simp] theorem parE_n : parE [] [] e = some e := (rfl)
@[simp] theorem parE_c {i : Nat} {o : Bool} {ts : List (Nat × Bool)} {rs : List RV} : parE ((i, o) :: ts) (r :: rs) e = (asgV o r).bind fun r1 => parE ts rs (e.set i (some r1)) := (rfl)
@[simp] theorem sPar_ev {ts : List (Nat × Bool)} {g : GA} : sPar ts g e = ((g e).bind fun rs => parE ts rs e).map .nx := (rfl)
theorem tupG_ev {rs : List RV} (h : plainAll rs = true) (h2 : rs.length ≤ 16777216 := by decide) : tupG rs = some (.tuple (rs.map (·.1)), .fz) := if_pos ⟨h, h2⟩
@[simp] theorem tupG_1 {a f} : tupG [(a, f)] = if plainFl f then some (.tuple [a], .fz) else none := by cases f <;> rfl
@[simp] theorem tupG_2 {a b : D} : tupG [(a, .fz), (b, .fz)] = some (.tuple [a, b], .fz) := (rfl)
@[simp] theorem tupG_3 {a b c : D} : tupG [(a, .fz), (b, .fz), (c, .fz)] = some (.tuple [a, b, c], .fz) := (rfl)
@[simp] theorem lstG_0 : lstG [] = some (.list [], .ow) := (rfl)
@[simp] theorem argF_z : argF (d, .fz) = (d, .fz) := (rfl)
@[simp] theorem argF_w : argF (d, .ow) = (d, .fz) := (rfl)
@[simp] theorem argF_b : argF (d, .bw) = (d, .bw) := (rfl)
@[simp] theorem argF_s : argF (d, .sc) = (d, .sc) := (rfl)
@[simp] theorem wipeE_n : wipeE e [] = e := (rfl)
@[simp] theorem wipeE_c {v : Nat} {vs : List Nat} : wipeE e (v :: vs) = (wipeE e vs).set v none := (rfl)
/-- what a def hands back -/
def fnO : Out → Option RV
  | .nx _ => some (.none, .fz)
  | .rt r => some r
  | _ => none
@[simp] theorem fnO_nx : fnO (.nx e) = some (.none, .fz) := (rfl)
@[simp] theorem fnO_rt : fnO (.rt r) = some r := (rfl)
theorem fnG_ev {np n : Nat} {body : GS} {rs : List RV} (h : rs.length = np) : fnG np n body rs = (body (rs.map (fun r => some (argF r)) ++ List.replicate (n - np) none)).bind fnO := by
  unfold fnG
  rw [if_pos h]
  congr 1
@[simp] theorem seq_l {ds : List D} : seqOf (.list ds, .ow) = some (ds, false) := (rfl)
@[simp] theorem seq_lz {ds : List D} : seqOf (.list ds, .fz) = some (ds, false) := (rfl)
@[simp] theorem seq_lb {ds : List D} : seqOf (.list ds, .bw) = some (ds, true) := (rfl)
@[simp] theorem seq_t {ds : List D} : seqOf (.tuple ds, f) = some (ds, false) := (rfl)
@[simp] theorem seqS_ev {g : GE} : seqS g e = (g e).bind seqOf := (rfl)
@[simp] theorem aS_ev {g : List RV → Option (List D × Bool)} {t : GA} : aS g t e = (t e).bind g := (rfl)
@[simp] theorem enumG_ev : enumG [r] = (seqOf r).map fun p => (enumL p.1, p.2) := (rfl)
theorem rng1_ev {m : Nat} {f} (h : m ≤ 16777216) : rng1G [(.int (m : Nat), f)] = some (rngL 0 m, false) := by
  show (if inB (m : Int) = true ∧ (m : Int).toNat ≤ 16777216 then some (rngL 0 (m : Int).toNat, false) else none) = _
  rw [if_pos ⟨by simp only [inB, Bool.and_eq_true, decide_eq_true_eq]; omega, by omega⟩]
  rfl
theorem rng2_ev {f f'} (h1 : -16777216 ≤ i) (h2 : j ≤ 1000000000000) (h3 : i ≤ 1000000000000) (h4 : -1000000000000 ≤ j) (h5 : (j - i).toNat ≤ 16777216) : rng2G [(.int i, f), (.int j, f')] = some (rngL i (j - i).toNat, false) := by
  show (if (inB i = true ∧ inB j = true) ∧ (j - i).toNat ≤ 16777216 then some (rngL i (j - i).toNat, false) else none) = _
  rw [if_pos ⟨⟨by simp only [inB, Bool.and_eq_true, decide_eq_true_eq]; omega, by simp only [inB, Bool.and_eq_true, decide_eq_true_eq]; omega⟩, h5⟩]
theorem eLc_ev {own : List Nat} {tg : Tg} {src : Src} {tt : GB} {te : GE} {p : List D × Bool} (h : src e = some p) : eLc own tg src tt te e = (lcGo (lcF own tg tt te e) p.1).map fun ys => (.list ys, .ow) := by
  unfold eLc; rw [h]; rfl
@[simp] theorem lcF_ev {own : List Nat} {tg : Tg} {tt : GB} {te : GE} : lcF own tg tt te e d = lcT tg tt te (wipeE e own) d := (rfl)
@[simp] theorem lcT_ev {tg : Tg} {tt : GB} {te : GE} : lcT tg tt te e d = (asT tg d e).bind fun e => (tt e).bind fun b => if b = true then (te e).bind fun r => if plainFl r.2 = true then some (some r.1) else none else some none := (rfl)
theorem sum_ints {ns : List Int} : sumG (.list (ns.map .int), f) = some (.int ns.sum, .fz) := by
  show (intsOf (ns.map .int)).map _ = _
  have : ∀ ns : List Int, intsOf (ns.map .int) = some ns := fun ns => by
    induction ns with
    | nil => rfl
    | cons n ns ih => show (intsOf (ns.map .int)).map _ = _; rw [ih]; rfl
  rw [this]; rfl
theorem mulC_l (h : -(2 ^ 64) < i ∧ i < 2 ^ 64) : mulC i j = true := by
  unfold mulC
  simp only [Bool.or_eq_true, Bool.and_eq_true, decide_eq_true_eq]
  exact .inl (.inl h)
theorem mulC_r (h : -(2 ^ 64) < j ∧ j < 2 ^ 64) : mulC i j = true := by
  unfold mulC
  simp only [Bool.or_eq_true, Bool.and_eq_true, decide_eq_true_eq]
  exact .inl (.inr h)
theorem divC_n (h : j ≠ 0 ∧ j.natAbs < 1073741824) : divC i j = true := by
  unfold divC
  simp only [Bool.or_eq_true, Bool.and_eq_true, decide_eq_true_eq]
  exact .inl h
theorem mul_l {f'} (h : -(2 ^ 64) < i ∧ i < 2 ^ 64) : mulG (.int i, f) (.int j, f') = some (.int (i * j), .fz) := if_pos (mulC_l h)
theorem mul_r {f'} (h : -(2 ^ 64) < j ∧ j < 2 ^ 64) : mulG (.int i, f) (.int j, f') = some (.int (i * j), .fz) := if_pos (mulC_r h)
theorem div_n {f'} (h : j ≠ 0 ∧ j.natAbs < 1073741824) : divG (.int i, f) (.int j, f') = some (.int (i.fdiv j), .fz) := if_pos (divC_n h)
theorem mod_n {f'} (h : j ≠ 0) : modG (.int i, f) (.int j, f') = some (.int (i.fmod j), .fz) := if_pos h
end
end Pl

set_option Elab.async false
set_option linter.all false
set_option maxRecDepth 100000
set_option maxHeartbeats 4000000
/-! Br3: the helpers that every law has -/
namespace Pl
open PySem L2
/-! ### _law_like -/
def q_isint : GS := (sRet (eAnd (eIsi "int" (eVar 0)) (eNot (eIsi "bool" (eVar 0)))))
def q_like (self isint : List RV → Option RV) : GS := (sSeq (sIf (eB (e2 (isG false) (eVar 1) (eC .none))) (sRet (e2 (isG false) (eVar 0) (eC .none))) sSkip)
  (sSeq (sIf (eT (eIsi "bool" (eVar 1))) (sRet (eAnd (eIsi "bool" (eVar 0)) (e2 eqG (eVar 0) (eVar 1)))) sSkip)
  (sSeq (sIf (eT (eIsi "tuple" (eVar 1))) (sSeq (sIf (bOr (bNot (eT (eIsi "tuple" (eVar 0)))) (eB (e2 neG (eA (one lenG) (aCons (eVar 0) aNil)) (eA (one lenG) (aCons (eVar 1) aNil))))) (sRet (eC (.bool false))) sSkip)
  (sRet (eA (one (boolsG allL)) (aCons (eLc [2] (.nm 2) (aS rng1G (aCons (eA (one lenG) (aCons (eVar 1) aNil)) aNil)) bYes (eA self (aCons (e2 ixG (eVar 0) (eVar 2)) (aCons (e2 ixG (eVar 1) (eVar 2)) aNil)))) aNil)))) sSkip)
  (sSeq (sIf (eT (eIsi "str" (eVar 1))) (sRet (eAnd (eIsi "str" (eVar 0)) (e2 eqG (eVar 0) (eVar 1)))) sSkip)
  (sRet (eAnd (eA isint (aCons (eVar 0) aNil)) (e2 eqG (eVar 0) (eVar 1))))))))
/-- plain data: no list, no dict, tuples at most n deep and of at most 1000 -/
def plD : Nat → D → Bool
  | _, .none => true
  | _, .bool _ => true
  | _, .int _ => true
  | n + 1, .tuple ds => decide (ds.length ≤ 1000) && ds.all (plD n)
  | _, _ => false
def q_r (like : (List RV → Option RV) → GS) : Nat → List RV → Option RV
  | 0 => fun _ => none
  | m + 1 => fnG 2 3 (like (q_r like m))
/-- isinstance of a value -/
def isiR (T : String) : RV → Option RV
  | (.none, _) => (kitB "NoneType" T).map fun b => (.bool b, .fz)
  | (.bool _, _) => (kitB "bool" T).map fun b => (.bool b, .fz)
  | (.int _, _) => (kitB "int" T).map fun b => (.bool b, .fz)
  | (.str _, _) => (kitB "str" T).map fun b => (.bool b, .fz)
  | (.list _, _) => (kitB "list" T).map fun b => (.bool b, .fz)
  | (.tuple _, _) => (kitB "tuple" T).map fun b => (.bool b, .fz)
  | (.dict _, _) => none
@[simp] theorem eIsi_ev {T : String} {g : GE} {e : En} : eIsi T g e = (g e).bind (isiR T) := by
  unfold eIsi
  congr 1
  funext r
  obtain ⟨d, f⟩ := r
  cases d <;> rfl
theorem k1 : kitB "int" "int" = some true := by decide +kernel
theorem k2 : kitB "int" "bool" = some false := by decide +kernel
theorem k3 : kitB "int" "tuple" = some false := by decide +kernel
theorem k4 : kitB "int" "str" = some false := by decide +kernel
theorem k5 : kitB "bool" "bool" = some true := by decide +kernel
theorem k6 : kitB "tuple" "bool" = some false := by decide +kernel
theorem k7 : kitB "tuple" "tuple" = some true := by decide +kernel
@[simp] theorem isi_ii {i : Int} {f : Fl} : isiR "int" (.int i, f) = some (.bool true, .fz) := by unfold isiR; rw [k1]; rfl
@[simp] theorem isi_ib {i : Int} {f : Fl} : isiR "bool" (.int i, f) = some (.bool false, .fz) := by unfold isiR; rw [k2]; rfl
@[simp] theorem isi_it {i : Int} {f : Fl} : isiR "tuple" (.int i, f) = some (.bool false, .fz) := by unfold isiR; rw [k3]; rfl
@[simp] theorem isi_is {i : Int} {f : Fl} : isiR "str" (.int i, f) = some (.bool false, .fz) := by unfold isiR; rw [k4]; rfl
@[simp] theorem isi_bb {i : Bool} {f : Fl} : isiR "bool" (.bool i, f) = some (.bool true, .fz) := by unfold isiR; rw [k5]; rfl
@[simp] theorem isi_tb {i : List D} {f : Fl} : isiR "bool" (.tuple i, f) = some (.bool false, .fz) := by unfold isiR; rw [k6]; rfl
@[simp] theorem isi_tt {i : List D} {f : Fl} : isiR "tuple" (.tuple i, f) = some (.bool true, .fz) := by unfold isiR; rw [k7]; rfl
theorem lcGo_all {f : D → Option (Option D)} {c : D} : ∀ {xs : List D}, (∀ x ∈ xs, f x = some (some c)) → lcGo f xs = some (List.replicate xs.length c)
  | [], _ => rfl
  | x :: xs, h => by
    rw [lcGo, h x List.mem_cons_self, lcGo_all fun y hy => h y (List.mem_cons_of_mem _ hy)]
    rfl
theorem bools_rep : ∀ n, boolsOf (List.replicate n (.bool true)) = some (List.replicate n true)
  | 0 => rfl
  | n + 1 => by
    rw [List.replicate_succ]
    show (boolsOf (List.replicate n (.bool true))).map _ = _
    rw [bools_rep n]
    rfl
theorem atI_nat {α : Type} {xs : List α} {i : Nat} : atI xs (i : Nat) = xs[i]? := by
  unfold atI ixN
  by_cases h : i < xs.length
  · simp [h]
  · have : xs[i]? = none := List.getElem?_eq_none (by omega)
    rw [this]
    simp [h]
theorem isint_int {i : Int} {f : Fl} : fnG 1 1 q_isint [(.int i, f)] = some (.bool true, .fz) := by
  rw [fnG_ev (by rfl)]
  cases f <;> simp [q_isint]
theorem eqb_b {b : Bool} {f f' : Fl} : eqG (.bool b, f) (.bool b, f') = some (.bool true, .fz) := by
  cases b <;> rfl

theorem like_tup {self : List RV → Option RV} {ds : List D} (hl : ds.length ≤ 1000) (hs : ∀ x ∈ ds, self [(x, .fz), (x, .fz)] = some (.bool true, .fz)) : fnG 2 3 (q_like self (fnG 1 1 q_isint)) [(.tuple ds, .fz), (.tuple ds, .fz)] = some (.bool true, .fz) := by
  have loop : lcGo (lcF [2] (.nm 2) bYes (eA self (aCons (e2 ixG (eVar 0) (eVar 2)) (aCons (e2 ixG (eVar 1) (eVar 2)) aNil))) [some (.tuple ds, .fz), some (.tuple ds, .fz), none]) (rngL 0 ds.length) = some (List.replicate ds.length (.bool true)) := by
    have := lcGo_all (f := lcF [2] (.nm 2) bYes (eA self (aCons (e2 ixG (eVar 0) (eVar 2)) (aCons (e2 ixG (eVar 1) (eVar 2)) aNil))) [some (.tuple ds, .fz), some (.tuple ds, .fz), none]) (c := .bool true) (xs := rngL 0 ds.length) ?_
    · rw [this]; simp [rngL]
    · intro x hx
      obtain ⟨i, hi, rfl⟩ := List.mem_map.mp hx
      have hi := List.mem_range.mp hi
      have e : ds[i]? = some ds[i] := List.getElem?_eq_getElem hi
      simp [atI_nat, e, hs _ (List.getElem_mem hi)]
  rw [fnG_ev (by rfl)]
  simp [q_like, sSeq_ev, eLc_ev, rng1_ev (m := ds.length) (by omega), loop, boolsG, bools_rep, allL]
theorem like_same : ∀ (n : Nat) (d : D), plD n d = true → q_r (fun s => q_like s (fnG 1 1 q_isint)) (n + 1) [(d, .fz), (d, .fz)] = some (.bool true, .fz) := by
  intro n
  induction n with
  | zero =>
    intro d h
    cases d <;> try (cases (show false = true from h))
    all_goals (show fnG 2 3 _ _ = _; rw [fnG_ev (by rfl)]; simp [q_like, sSeq_ev, isint_int, eqb_b])
  | succ n ih =>
    intro d h
    cases d <;> try (cases (show false = true from h))
    rotate_right
    · rename_i ds
      rw [plD, Bool.and_eq_true, List.all_eq_true] at h
      exact like_tup (of_decide_eq_true h.1) fun x hx => ih x (h.2 x hx)
    all_goals (show fnG 2 3 _ _ = _; rw [fnG_ev (by rfl)]; simp [q_like, sSeq_ev, isint_int, eqb_b])
end Pl

set_option Elab.async false
set_option linter.all false
set_option maxRecDepth 100000
set_option maxHeartbeats 4000000
/-! Br4: the row of numbers that every law draws -/
namespace Pl
open PySem L2
def q_mixT : GS := (sSeq (sAsg 3 false (e2 modG (eA (one intG) (aCons (e2 addG (e2 addG (e2 mulG (eVar 2) (eC (.int 48271))) (e2 mulG (eVar 1) (eC (.int 69621)))) (eC (.int 8191))) aNil)) (eC (.int 2147483647))))
  (sSeq (sAsg 4 false (e2 modG (eA (one intG) (aCons (e2 addG (e2 addG (e2 mulG (eVar 3) (eVar 3)) (e2 divG (eVar 3) (eC (.int 7)))) (e2 mulG (eVar 1) (eC (.int 16807)))) aNil)) (eC (.int 2147483629))))
  (sSeq (sAsg 5 false (e2 modG (eA (one intG) (aCons (e2 addG (e2 addG (e2 mulG (eVar 4) (eVar 4)) (e2 divG (eVar 4) (eC (.int 11)))) (eC (.int 40692))) aNil)) (eC (.int 2147483563))))
  (sRet (e2 modG (e2 divG (eVar 5) (eC (.int 5))) (eC (.int 1000003)))))))
def q_mixed : GS := (sSeq (sAsg 2 false (eC (.int 0)))
  (sSeq (sIf (eB (e2 gtG (eA (one lenG) (aCons (eVar 0) aNil)) (eC (.int 0)))) (sAsg 2 false (e2 ixG (eVar 0) (e2 modG (eVar 1) (eA (one lenG) (aCons (eVar 0) aNil))))) sSkip)
  q_mixT))
def q_row (mixed : List RV → Option RV) : GS := (sSeq (sAsg 2 false (eC (.int 0)))
  (sSeq (sIf (bAnd (eB (e2 gtG (eA (one lenG) (aCons (eVar 0) aNil)) (eC (.int 0)))) (eB (e2 geG (e2 ixG (eVar 0) (eC (.int 0))) (e2 powG (eC (.int 10)) (eC (.int 18)))))) (sAsg 2 false (e2 ixG (eVar 0) (eC (.int 0)))) sSkip)
  (sSeq (sAsg 3 true (eA lstG aNil))
  (sSeq (sFor [4] (.nm 4) (aS rng1G (aCons (eVar 1) aNil))
   (sIf (eB (e2 gtG (eVar 2) (eC (.int 0)))) (sSeq (sApp 3 (aCons (e2 modG (eA (one intG) (aCons (eVar 2) aNil)) (eC (.int 1000))) aNil))
  (sAsg 2 false (e2 divG (eVar 2) (eC (.int 1000))))) (sApp 3 (aCons (eA mixed (aCons (eVar 0) (aCons (eVar 4) aNil))) aNil))))
  (sRetM 3)))))
theorem atI_mem {α : Type} {xs : List α} (h : xs ≠ []) {i : Int} (h0 : 0 ≤ i) (h1 : i < xs.length) : ∃ x, atI xs i = some x ∧ x ∈ xs := by
  obtain ⟨n, rfl⟩ := Int.eq_ofNat_of_zero_le h0
  have h2 : n < xs.length := by omega
  exact ⟨xs[n], by rw [atI_nat, List.getElem?_eq_getElem h2], List.getElem_mem h2⟩
theorem fmod_in (i : Int) {j : Int} (h : 0 < j) : 0 ≤ i.fmod j ∧ i.fmod j < j := ⟨Int.fmod_nonneg_of_pos _ h, Int.fmod_lt_of_pos _ h⟩
theorem mixed_ok (ns : List Int) (k : Int) : ∃ m : Int, 0 ≤ m ∧ m < 1000003 ∧ fnG 2 6 q_mixed [(.list (ns.map .int), .sc), (.int k, .fz)] = some (.int m, .fz) := by
  have key : ∀ c : Int, ∃ m : Int, 0 ≤ m ∧ m < 1000003 ∧ (q_mixT [some (.list (ns.map .int), .sc), some (.int k, .fz), some (.int c, .fz), none, none, none]).bind fnO = some (.int m, .fz) := by
    intro c
    have h1 := fmod_in (c * 48271 + k * 69621 + 8191) (j := 2147483647) (by omega)
    generalize e1 : (c * 48271 + k * 69621 + 8191).fmod 2147483647 = x1 at h1
    have h2 := fmod_in (x1 * x1 + x1.fdiv 7 + k * 16807) (j := 2147483629) (by omega)
    generalize e2 : (x1 * x1 + x1.fdiv 7 + k * 16807).fmod 2147483629 = x2 at h2
    have h3 := fmod_in (x2 * x2 + x2.fdiv 11 + 40692) (j := 2147483563) (by omega)
    generalize e3 : (x2 * x2 + x2.fdiv 11 + 40692).fmod 2147483563 = x3 at h3
    have h4 := fmod_in (x3.fdiv 5) (j := 1000003) (by omega)
    refine ⟨(x3.fdiv 5).fmod 1000003, h4.1, h4.2, ?_⟩
    simp [q_mixT, sSeq_ev, mul_r (j := 48271) (by omega), mul_r (j := 69621) (by omega), mul_r (j := 16807) (by omega), mul_r (i := x1) (j := x1) (by omega), mul_r (i := x2) (j := x2) (by omega), div_n (j := 7) (by omega), div_n (j := 11) (by omega), div_n (j := 5) (by omega), mod_n (j := 2147483647) (by omega), mod_n (j := 2147483629) (by omega), mod_n (j := 2147483563) (by omega), mod_n (j := 1000003) (by omega), e1, e2, e3]
  rw [fnG_ev (by rfl)]
  by_cases hn : ns = []
  · subst hn
    obtain ⟨m, h1, h2, h3⟩ := key 0
    refine ⟨m, h1, h2, ?_⟩
    rw [← h3]
    simp [q_mixed, sSeq_ev]
  · have hp : (0 : Int) < (ns.length : Int) := by have := List.length_pos_iff.mpr hn; omega
    have hm := fmod_in k (j := (ns.length : Int)) hp
    obtain ⟨c, hc, hc'⟩ := atI_mem (xs := (ns.map PyData.int)) (by simpa using hn) hm.1 (by simpa using hm.2)
    obtain ⟨z, _, rfl⟩ := List.mem_map.mp hc'
    obtain ⟨m, h1, h2, h3⟩ := key z
    refine ⟨m, h1, h2, ?_⟩
    rw [← h3]
    have hz : (ns.length : Int) ≠ 0 := by omega
    have hl : 0 < ns.length := by omega
    have hL : (ns.map PyData.int).length = ns.length := by simp
    generalize ns.map PyData.int = ds at *
    simp [q_mixed, sSeq_ev, hL, mod_n hz, hc, hp, hl]
/-! the row -/
@[simp] theorem sFor_no {ws : List Nat} {tg : Tg} {src : Src} {body : GS} {env : En} {xs : List D} (h : src env = some (xs, false)) : sFor ws tg src body env = forGo tg body ws xs (wipeE env ws) := by
  unfold sFor; rw [h]; rfl
theorem forGo_inv {tg : Tg} {body : GS} {ws : List Nat} {N : Nat} (P : Nat → En → Prop) : ∀ (xs : List D) (i : Nat) (env : En), i + xs.length ≤ N → P i env → (∀ x ∈ xs, ∀ i env, i < N → P i env → ∃ e, turn tg body x env = some (.nx e) ∧ P (i + 1) (wipeE e ws)) → ∃ e, forGo tg body ws xs env = some (.nx e) ∧ P (i + xs.length) e
  | [], i, env, _, h, _ => ⟨env, rfl, h⟩
  | x :: xs, i, env, hN, h, k => by
    rw [List.length_cons] at hN
    obtain ⟨e, h1, h2⟩ := k x List.mem_cons_self i env (by omega) h
    obtain ⟨e', h3, h4⟩ := forGo_inv P xs (i + 1) _ (by omega) h2 fun y hy => k y (List.mem_cons_of_mem _ hy)
    exact ⟨e', by rw [forGo_step h1, h3], by rw [List.length_cons]; rwa [show i + (xs.length + 1) = i + 1 + xs.length by omega]⟩
theorem turn_nm {i : Nat} {body : GS} {x : D} {env : En} : turn (.nm i) body x env = body (env.set i (some (x, .fz))) := by
  unfold turn; rw [asT_nm]; rfl
/-- one more at the end -/
def appR (i : Nat) (env : En) : List RV → Option Out
  | [(d, f)] => mL env i fun ds => if plainFl f = true ∧ ds.length < 16777216 then some (ds ++ [d]) else none
  | _ => none
@[simp] theorem sApp_ev {i : Nat} {t : GA} {env : En} : sApp i t env = (t env).bind (appR i env) := by
  unfold sApp appR; rfl
theorem appR_ev {i : Nat} {env : En} {ds : List D} {d : D} {f : Fl} (h : env[i]? = some (some (.list ds, .ow))) (hf : plainFl f = true) (hl : ds.length < 16777216) : appR i env [(d, f)] = some (.nx (env.set i (some (.list (ds ++ [d]), .ow)))) := by
  unfold appR mL
  rw [h]
  simp [hf, hl]
@[simp] theorem atI_0 {α : Type} {xs : List α} : atI xs 0 = xs[0]? := atI_nat (i := 0)
@[simp] theorem atI_1 {α : Type} {xs : List α} : atI xs 1 = xs[1]? := atI_nat (i := 1)
@[simp] theorem atI_2 {α : Type} {xs : List α} : atI xs 2 = xs[2]? := atI_nat (i := 2)
@[simp] theorem atI_3 {α : Type} {xs : List α} : atI xs 3 = xs[3]? := atI_nat (i := 3)
@[simp] theorem atI_4 {α : Type} {xs : List α} : atI xs 4 = xs[4]? := atI_nat (i := 4)
@[simp] theorem atI_5 {α : Type} {xs : List α} : atI xs 5 = xs[5]? := atI_nat (i := 5)
@[simp] theorem atI_6 {α : Type} {xs : List α} : atI xs 6 = xs[6]? := atI_nat (i := 6)
@[simp] theorem atI_7 {α : Type} {xs : List α} : atI xs 7 = xs[7]? := atI_nat (i := 7)
@[simp] theorem atI_8 {α : Type} {xs : List α} : atI xs 8 = xs[8]? := atI_nat (i := 8)
@[simp] theorem atI_9 {α : Type} {xs : List α} : atI xs 9 = xs[9]? := atI_nat (i := 9)
@[simp] theorem atI_10 {α : Type} {xs : List α} : atI xs 10 = xs[10]? := atI_nat (i := 10)
@[simp] theorem atI_11 {α : Type} {xs : List α} : atI xs 11 = xs[11]? := atI_nat (i := 11)
@[simp] theorem atI_12 {α : Type} {xs : List α} : atI xs 12 = xs[12]? := atI_nat (i := 12)
@[simp] theorem atI_13 {α : Type} {xs : List α} : atI xs 13 = xs[13]? := atI_nat (i := 13)
@[simp] theorem atI_14 {α : Type} {xs : List α} : atI xs 14 = xs[14]? := atI_nat (i := 14)
@[simp] theorem atI_15 {α : Type} {xs : List α} : atI xs 15 = xs[15]? := atI_nat (i := 15)
@[simp] theorem atI_16 {α : Type} {xs : List α} : atI xs 16 = xs[16]? := atI_nat (i := 16)
@[simp] theorem atI_17 {α : Type} {xs : List α} : atI xs 17 = xs[17]? := atI_nat (i := 17)
@[simp] theorem atI_18 {α : Type} {xs : List α} : atI xs 18 = xs[18]? := atI_nat (i := 18)
@[simp] theorem atI_19 {α : Type} {xs : List α} : atI xs 19 = xs[19]? := atI_nat (i := 19)
@[simp] theorem atI_20 {α : Type} {xs : List α} : atI xs 20 = xs[20]? := atI_nat (i := 20)
@[simp] theorem atI_21 {α : Type} {xs : List α} : atI xs 21 = xs[21]? := atI_nat (i := 21)
@[simp] theorem atI_22 {α : Type} {xs : List α} : atI xs 22 = xs[22]? := atI_nat (i := 22)
@[simp] theorem atI_23 {α : Type} {xs : List α} : atI xs 23 = xs[23]? := atI_nat (i := 23)
@[simp] theorem atI_24 {α : Type} {xs : List α} : atI xs 24 = xs[24]? := atI_nat (i := 24)
@[simp] theorem atI_25 {α : Type} {xs : List α} : atI xs 25 = xs[25]? := atI_nat (i := 25)
@[simp] theorem atI_26 {α : Type} {xs : List α} : atI xs 26 = xs[26]? := atI_nat (i := 26)
@[simp] theorem atI_27 {α : Type} {xs : List α} : atI xs 27 = xs[27]? := atI_nat (i := 27)
@[simp] theorem atI_28 {α : Type} {xs : List α} : atI xs 28 = xs[28]? := atI_nat (i := 28)
@[simp] theorem atI_29 {α : Type} {xs : List α} : atI xs 29 = xs[29]? := atI_nat (i := 29)
@[simp] theorem atI_30 {α : Type} {xs : List α} : atI xs 30 = xs[30]? := atI_nat (i := 30)
@[simp] theorem atI_31 {α : Type} {xs : List α} : atI xs 31 = xs[31]? := atI_nat (i := 31)
@[simp] theorem atI_32 {α : Type} {xs : List α} : atI xs 32 = xs[32]? := atI_nat (i := 32)
@[simp] theorem atI_33 {α : Type} {xs : List α} : atI xs 33 = xs[33]? := atI_nat (i := 33)
@[simp] theorem atI_34 {α : Type} {xs : List α} : atI xs 34 = xs[34]? := atI_nat (i := 34)
@[simp] theorem atI_35 {α : Type} {xs : List α} : atI xs 35 = xs[35]? := atI_nat (i := 35)
@[simp] theorem atI_36 {α : Type} {xs : List α} : atI xs 36 = xs[36]? := atI_nat (i := 36)
@[simp] theorem atI_37 {α : Type} {xs : List α} : atI xs 37 = xs[37]? := atI_nat (i := 37)
@[simp] theorem atI_38 {α : Type} {xs : List α} : atI xs 38 = xs[38]? := atI_nat (i := 38)
@[simp] theorem atI_39 {α : Type} {xs : List α} : atI xs 39 = xs[39]? := atI_nat (i := 39)
@[simp] theorem atI_40 {α : Type} {xs : List α} : atI xs 40 = xs[40]? := atI_nat (i := 40)
@[simp] theorem atI_41 {α : Type} {xs : List α} : atI xs 41 = xs[41]? := atI_nat (i := 41)
@[simp] theorem atI_42 {α : Type} {xs : List α} : atI xs 42 = xs[42]? := atI_nat (i := 42)
@[simp] theorem atI_43 {α : Type} {xs : List α} : atI xs 43 = xs[43]? := atI_nat (i := 43)
@[simp] theorem atI_44 {α : Type} {xs : List α} : atI xs 44 = xs[44]? := atI_nat (i := 44)
@[simp] theorem atI_45 {α : Type} {xs : List α} : atI xs 45 = xs[45]? := atI_nat (i := 45)
@[simp] theorem atI_46 {α : Type} {xs : List α} : atI xs 46 = xs[46]? := atI_nat (i := 46)
@[simp] theorem atI_47 {α : Type} {xs : List α} : atI xs 47 = xs[47]? := atI_nat (i := 47)
@[simp] theorem atI_48 {α : Type} {xs : List α} : atI xs 48 = xs[48]? := atI_nat (i := 48)
@[simp] theorem atI_49 {α : Type} {xs : List α} : atI xs 49 = xs[49]? := atI_nat (i := 49)
@[simp] theorem atI_50 {α : Type} {xs : List α} : atI xs 50 = xs[50]? := atI_nat (i := 50)
@[simp] theorem atI_51 {α : Type} {xs : List α} : atI xs 51 = xs[51]? := atI_nat (i := 51)
@[simp] theorem atI_52 {α : Type} {xs : List α} : atI xs 52 = xs[52]? := atI_nat (i := 52)
@[simp] theorem atI_53 {α : Type} {xs : List α} : atI xs 53 = xs[53]? := atI_nat (i := 53)
@[simp] theorem atI_54 {α : Type} {xs : List α} : atI xs 54 = xs[54]? := atI_nat (i := 54)
@[simp] theorem atI_55 {α : Type} {xs : List α} : atI xs 55 = xs[55]? := atI_nat (i := 55)
@[simp] theorem atI_56 {α : Type} {xs : List α} : atI xs 56 = xs[56]? := atI_nat (i := 56)
@[simp] theorem atI_57 {α : Type} {xs : List α} : atI xs 57 = xs[57]? := atI_nat (i := 57)
@[simp] theorem atI_58 {α : Type} {xs : List α} : atI xs 58 = xs[58]? := atI_nat (i := 58)
@[simp] theorem atI_59 {α : Type} {xs : List α} : atI xs 59 = xs[59]? := atI_nat (i := 59)
@[simp] theorem atI_60 {α : Type} {xs : List α} : atI xs 60 = xs[60]? := atI_nat (i := 60)
@[simp] theorem atI_61 {α : Type} {xs : List α} : atI xs 61 = xs[61]? := atI_nat (i := 61)
@[simp] theorem atI_62 {α : Type} {xs : List α} : atI xs 62 = xs[62]? := atI_nat (i := 62)
@[simp] theorem atI_63 {α : Type} {xs : List α} : atI xs 63 = xs[63]? := atI_nat (i := 63)
theorem mL_ev {i : Nat} {env : En} {ds : List D} {f : List D → Option (List D)} (h : env[i]? = some (some (.list ds, .ow))) : mL env i f = (f ds).map fun es => .nx (env.set i (some (.list es, .ow))) := by
  unfold mL; rw [h]
theorem rngL_length {lo : Int} {n : Nat} : (rngL lo n).length = n := by simp [rngL]
def q_rowT (mixed : List RV → Option RV) : GS := (sIf (eB (e2 gtG (eVar 2) (eC (.int 0)))) (sSeq (sApp 3 (aCons (e2 modG (eA (one intG) (aCons (eVar 2) aNil)) (eC (.int 1000))) aNil))
  (sAsg 2 false (e2 divG (eVar 2) (eC (.int 1000))))) (sApp 3 (aCons (eA mixed (aCons (eVar 0) (aCons (eVar 4) aNil))) aNil)))
def q_rowU (mixed : List RV → Option RV) : GS := sSeq (sAsg 3 true (eA lstG aNil)) (sSeq (sFor [4] (.nm 4) (aS rng1G (aCons (eVar 1) aNil)) (q_rowT mixed)) (sRetM 3))
theorem row_ok {mixed : List RV → Option RV} {ns : List Int} {m : Nat} (hm : m ≤ 1000) (hmix : ∀ k : Int, ∃ x : Int, mixed [(.list (ns.map .int), .sc), (.int k, .fz)] = some (.int x, .fz)) :
    ∃ row : List Int, row.length = m ∧ fnG 2 5 (q_row mixed) [(.list (ns.map .int), .sc), (.int (m : Nat), .fz)] = some (.list (row.map .int), .ow) := by
  rw [fnG_ev (by rfl)]
  have hr : ∀ big : Int, ∃ row : List Int, row.length = m ∧ (q_rowU mixed [some (.list (ns.map .int), .sc), some (.int (m : Nat), .fz), some (.int big, .fz), none, none]).bind fnO = some (.list (row.map .int), .ow) := by
    intro big
    obtain ⟨e, h1, row, big', h2, rfl⟩ := forGo_inv (N := m) (tg := .nm 4) (ws := [4]) (body := q_rowT mixed)
      (fun i e => ∃ (row : List Int) (big : Int), row.length = i ∧ e = [some (.list (ns.map .int), .sc), some (.int (m : Nat), .fz), some (.int big, .fz), some (.list (row.map .int), .ow), none])
      (rngL 0 m) 0 [some (.list (ns.map .int), .sc), some (.int (m : Nat), .fz), some (.int big, .fz), some (.list [], .ow), none] (by rw [rngL_length]; omega) ⟨[], big, rfl, rfl⟩ (by
        rintro x hx i env hi ⟨row, big, hl, rfl⟩
        obtain ⟨k, hk, rfl⟩ := List.mem_map.mp hx
        obtain ⟨z, hz⟩ := hmix (0 + (k : Nat))
        rw [turn_nm]
        by_cases hb : 0 < big
        · refine ⟨[some (.list (ns.map .int), .sc), some (.int (m : Nat), .fz), some (.int (big.fdiv 1000), .fz), some (.list ((row ++ [big.fmod 1000]).map .int), .ow), some (.int (0 + (k : Nat)), .fz)], ?_, row ++ [big.fmod 1000], big.fdiv 1000, by simp [hl], by simp⟩
          have hlt : (row.map PyData.int).length < 16777216 := by simp; omega
          simp [q_rowT, sSeq_ev, hb, mod_n (j := 1000) (by omega), div_n (j := 1000) (by omega), appR_ev (ds := row.map PyData.int), show row.length < 16777216 by omega]
        · refine ⟨[some (.list (ns.map .int), .sc), some (.int (m : Nat), .fz), some (.int big, .fz), some (.list ((row ++ [z]).map .int), .ow), some (.int (0 + (k : Nat)), .fz)], ?_, row ++ [z], big, by simp [hl], by simp⟩
          simp only [Int.zero_add] at hz
          simp [q_rowT, sSeq_ev, hb, hz, appR_ev (ds := row.map PyData.int), show row.length < 16777216 by omega])
    refine ⟨row, by rw [h2, rngL_length]; omega, ?_⟩
    simp [q_rowU, sSeq_ev, rng1_ev (m := m) (by omega), sFor_no (xs := rngL 0 m), h1, sRetM_ev]
  by_cases hn : ns = []
  · subst hn
    obtain ⟨row, h1, h2⟩ := hr 0
    refine ⟨row, h1, ?_⟩
    rw [← h2, show q_row mixed = sSeq _ (sSeq _ (q_rowU mixed)) from rfl]
    simp [sSeq_ev]
  · obtain ⟨n, ns', rfl⟩ := List.exists_cons_of_ne_nil hn
    have hp : powG (.int 10, .fz) (.int 18, .fz) = some (.int 1000000000000000000, .fz) := by
      show (if powC 10 18 = true then some (PyData.int (10 ^ (18 : Int).toNat), Fl.fz) else none) = _
      rw [if_pos (by decide)]
      rfl
    by_cases hb : 1000000000000000000 ≤ n
    · obtain ⟨row, h1, h2⟩ := hr n
      refine ⟨row, h1, ?_⟩
      rw [← h2, show q_row mixed = sSeq _ (sSeq _ (q_rowU mixed)) from rfl]
      simp [sSeq_ev, hp, hb, atI_nat]
    · obtain ⟨row, h1, h2⟩ := hr 0
      refine ⟨row, h1, ?_⟩
      rw [← h2, show q_row mixed = sSeq _ (sSeq _ (q_rowU mixed)) from rfl]
      simp [sSeq_ev, hp, hb, atI_nat]
end Pl

set_option Elab.async false
set_option linter.all false
set_option maxRecDepth 100000
set_option maxHeartbeats 4000000
/-! Br5: least, greatest, sorted of data of one shape -/
namespace Pl
open PySem L2
theorem lcGo_tot {α : Type} {f : D → Option (Option D)} (enc : α → D) (h : α → D) : ∀ (ys : List α), (∀ y ∈ ys, f (enc y) = some (some (h y))) → lcGo f (ys.map enc) = some (ys.map h)
  | [], _ => rfl
  | y :: ys, k => by
    rw [List.map_cons, lcGo, k y List.mem_cons_self, lcGo_tot enc h ys fun z hz => k z (List.mem_cons_of_mem _ hz)]
    rfl
/-- shapes -/
inductive Sh | i | t (l : List Sh)
mutual
def hasSh : Sh → D → Bool
  | .i, .int _ => true
  | .t l, .tuple ds => hasShA l ds
  | _, _ => false
def hasShA : List Sh → List D → Bool
  | [], [] => true
  | s :: l, d :: ds => hasSh s d && hasShA l ds
  | _, _ => false
end
def Sh.isT : Sh → Bool
  | .t _ => true
  | _ => false
mutual
def Sh.dp : Sh → Nat
  | .i => 0
  | .t l => Sh.dpA l + 1
def Sh.dpA : List Sh → Nat
  | [] => 0
  | s :: l => max (Sh.dp s) (Sh.dpA l)
end
mutual
theorem sh_alike : ∀ (s : Sh) (x y : D), hasSh s x = true → hasSh s y = true → PySem.W.alike x y = true
  | .i, x, y, h, k => by
    cases x <;> simp [hasSh] at h
    cases y <;> simp [hasSh] at k
    simp [PySem.W.alike]
  | .t l, x, y, h, k => by
    cases x <;> simp [hasSh] at h
    cases y <;> simp [hasSh] at k
    simp only [PySem.W.alike]
    exact sh_alikeA l _ _ h k
theorem sh_alikeA : ∀ (l : List Sh) (xs ys : List D), hasShA l xs = true → hasShA l ys = true → PySem.W.alikeAll xs ys = true
  | [], xs, ys, h, k => by
    cases xs <;> simp [hasShA] at h
    simp [PySem.W.alikeAll]
  | s :: l, xs, ys, h, k => by
    cases xs <;> simp [hasShA] at h
    cases ys <;> simp [hasShA] at k
    simp only [PySem.W.alikeAll, Bool.and_eq_true]
    exact ⟨sh_alike s _ _ h.1 k.1, sh_alikeA l _ _ h.2 k.2⟩
end
mutual
theorem sh_ok : ∀ (s : Sh) (n : Nat) (x : D), hasSh s x = true → s.dp ≤ n → okD n x = true
  | .i, n, x, h, _ => by
    cases x <;> simp [hasSh] at h
    cases n <;> rfl
  | .t l, 0, x, h, k => by simp [Sh.dp] at k
  | .t l, n + 1, x, h, k => by
    cases x <;> simp [hasSh] at h
    rw [okD]
    exact sh_okA l n _ h (by simp [Sh.dp] at k; exact k)
theorem sh_okA : ∀ (l : List Sh) (n : Nat) (xs : List D), hasShA l xs = true → Sh.dpA l ≤ n → okA n xs = true
  | [], n, xs, h, _ => by
    cases xs <;> simp [hasShA] at h
    simp [okA]
  | s :: l, n, xs, h, k => by
    cases xs <;> simp [hasShA] at h
    simp only [Sh.dpA] at k
    rw [okA, Bool.and_eq_true]
    exact ⟨sh_ok s n _ h.1 (by omega), sh_okA l n _ h.2 (by omega)⟩
end
theorem sh_none {s : Sh} {x : D} (h : hasSh s x = true) : isNone x = false := by
  cases x <;> first | rfl | (cases s <;> simp [hasSh] at h)
theorem sh_tup {s : Sh} {x : D} (h : hasSh s x = true) : isTup x = s.isT := by
  cases s <;> cases x <;> simp [hasSh] at h <;> rfl
theorem okA_mk {n : Nat} : ∀ {ds : List D}, (∀ d ∈ ds, okD n d = true) → okA n ds = true
  | [], _ => by simp [okA]
  | d :: ds, h => by rw [okA, Bool.and_eq_true]; exact ⟨h d List.mem_cons_self, okA_mk fun x hx => h x (List.mem_cons_of_mem _ hx)⟩
theorem alikeB_sh {s : Sh} {ds : List D} (hs : s.dp ≤ 9) (h : ∀ d ∈ ds, hasSh s d = true) : alikeB ds = true := by
  unfold alikeB
  simp only [Bool.and_eq_true, List.all_eq_true]
  exact ⟨⟨okA_mk fun d hd => sh_ok s 9 d (h d hd) hs, fun x hx y hy => sh_alike s x y (h x hx) (h y hy)⟩, fun x hx => by rw [sh_none (h x hx)]; rfl⟩
theorem sortB_sh {s : Sh} {ds : List D} (hs : s.dp ≤ 9) (h : ∀ d ∈ ds, hasSh s d = true) : sortB ds = true := by
  unfold sortB
  simp only [Bool.and_eq_true, List.all_eq_true, Bool.or_eq_true]
  refine ⟨⟨okA_mk fun d hd => sh_ok s 9 d (h d hd) hs, fun x hx y hy => sh_alike s x y (h x hx) (h y hy)⟩, ?_⟩
  cases e : s.isT with
  | true => exact .inl fun d hd => by rw [sh_tup (h d hd), e]
  | false => exact .inr fun d hd => by rw [sh_none (h d hd), sh_tup (h d hd), e]; exact ⟨rfl, rfl⟩
theorem minA_sh {s : Sh} {d : D} {ds : List D} {f : Fl} (hs : s.dp ≤ 9) (h : ∀ x ∈ d :: ds, hasSh s x = true) : minA [(.list (d :: ds), f)] = some (PySem.W.minD d ds, .fz) := by
  show ((none : Option RV).or (none.or (mmG PySem.W.minD (.list (d :: ds), f)))) = _
  show (if alikeB (d :: ds) = true then some (PySem.W.minD d ds, Fl.fz) else none) = _
  rw [if_pos (alikeB_sh hs h)]
theorem maxA_sh {s : Sh} {d : D} {ds : List D} {f : Fl} (hs : s.dp ≤ 9) (h : ∀ x ∈ d :: ds, hasSh s x = true) : maxA [(.list (d :: ds), f)] = some (PySem.W.maxD d ds, .fz) := by
  show ((none : Option RV).or (mmG PySem.W.maxD (.list (d :: ds), f))) = _
  show (if alikeB (d :: ds) = true then some (PySem.W.maxD d ds, Fl.fz) else none) = _
  rw [if_pos (alikeB_sh hs h)]
theorem minA_ints {n : Int} {ns : List Int} {f : Fl} : minA [(.list (.int n :: ns.map .int), f)] = some (.int (ns.foldl min n), .fz) := by
  rw [minA_sh (s := .i) (by decide) (by
    intro x hx
    rcases List.mem_cons.mp hx with rfl | hx
    · rfl
    · obtain ⟨k, _, rfl⟩ := List.mem_map.mp hx; rfl), PySem.W.minD_ints]
theorem maxA_ints {n : Int} {ns : List Int} {f : Fl} : maxA [(.list (.int n :: ns.map .int), f)] = some (.int (ns.foldl max n), .fz) := by
  rw [maxA_sh (s := .i) (by decide) (by
    intro x hx
    rcases List.mem_cons.mp hx with rfl | hx
    · rfl
    · obtain ⟨k, _, rfl⟩ := List.mem_map.mp hx; rfl), PySem.W.maxD_ints]
theorem sortG_sh {s : Sh} {ds : List D} {f : Fl} (hs : s.dp ≤ 9) (h : ∀ x ∈ ds, hasSh s x = true) (hl : ds.length ≤ 16777216) : sortG (.list ds, f) = some (.list (ds.mergeSort leD), .ow) := by
  show (if sortB ds = true ∧ ds.length ≤ 16777216 then some (PyData.list (ds.mergeSort leD), Fl.ow) else none) = _
  rw [if_pos ⟨sortB_sh hs h, hl⟩]
mutual
def Sh.wd : Sh → Bool
  | .i => true
  | .t l => decide (l.length ≤ 1000) && Sh.wdA l
def Sh.wdA : List Sh → Bool
  | [] => true
  | s :: l => Sh.wd s && Sh.wdA l
end
theorem shA_len : ∀ {l : List Sh} {xs : List D}, hasShA l xs = true → xs.length = l.length
  | [], xs, h => by cases xs <;> simp [hasShA] at h; rfl
  | s :: l, xs, h => by
    cases xs <;> simp [hasShA] at h
    simp [shA_len h.2]
mutual
theorem sh_pl : ∀ (s : Sh) (n : Nat) (x : D), hasSh s x = true → s.dp ≤ n → s.wd = true → plD n x = true
  | .i, n, x, h, _, _ => by
    cases x <;> simp [hasSh] at h
    cases n <;> rfl
  | .t l, 0, x, h, k, _ => by simp [Sh.dp] at k
  | .t l, n + 1, x, h, k, w => by
    cases x <;> simp [hasSh] at h
    simp only [Sh.wd, Bool.and_eq_true, decide_eq_true_eq] at w
    rw [plD, Bool.and_eq_true, List.all_eq_true]
    exact ⟨decide_eq_true (by rw [shA_len h]; exact w.1), sh_plA l n _ h (by simp [Sh.dp] at k; exact k) w.2⟩
theorem sh_plA : ∀ (l : List Sh) (n : Nat) (xs : List D), hasShA l xs = true → Sh.dpA l ≤ n → Sh.wdA l = true → ∀ x ∈ xs, plD n x = true
  | [], n, xs, h, _, _ => by
    cases xs <;> simp [hasShA] at h
    simp
  | s :: l, n, xs, h, k, w => by
    cases xs <;> simp [hasShA] at h
    simp only [Sh.dpA] at k
    simp only [Sh.wdA, Bool.and_eq_true] at w
    intro x hx
    rcases List.mem_cons.mp hx with rfl | hx
    · exact sh_pl s n _ h.1 (by omega) w.1
    · exact sh_plA l n _ h.2 (by omega) w.2 x hx
end
end Pl

set_option Elab.async false
set_option linter.all false
set_option maxRecDepth 100000
set_option maxHeartbeats 4000000
namespace Lk46
open PySem PySem.Spec PyProof.Rows L2 Pl

def topS (i : Nat) : Stmt := PySem.Challenge.pw_gasheld_k46_whole_tests_mains.main.body.getD i (.Pass ⟨0, 0, 0, 0⟩)

variable {P : Program} {w : World} {K : PySem.W.Frag} {mg : Str → Option Value} {base : Heap}

/-! ### divisor -/
abbrev s_divisor : Stmt := topS 1
theorem S_divisor : FnScope ["first", "second"] ["first", "second"] (defScope s_divisor) := ⟨rfl, rfl, rfl, by decide +kernel, rfl, by decide +kernel, by decide +kernel⟩
def g_divisor : GS := (sSeq (sPar [(0, false), (1, false)] (aCons (eA (one absG) (aCons (eVar 0) aNil)) (aCons (eA (one absG) (aCons (eVar 1) aNil)) aNil)))
  (sSeq (sWhile [] (eB (e2 gtG (eVar 1) (eC (.int 0))))
   (sPar [(0, false), (1, false)] (aCons (eVar 1) (aCons (e2 modG (eVar 0) (eVar 1)) aNil))))
  (sRet (eVar 0))))
def f_divisor : List RV → Option RV := fnG 2 2 g_divisor
theorem o_divisor (T : Tp K mg "divisor" s_divisor) (B : ∀ x ∈ bl, mg x = none)    : Cl P w K mg base 1 "divisor" f_divisor :=
  have S := S_divisor
  cl_of T S rfl rfl (by decide) (fun _ _ _ _ _ _ us hl => match us, hl with | [_, _], _ => rfl) fun f cdv A outer s H E hr =>
  (vss_cons (vs_par2 rfl S.nd (va_cons (ve_callB callF_abs (by rfl) (B "abs" (by decide)) bt_abs (va_cons (ve_var 0) va_nil)) (va_cons (ve_callB callF_abs (by rfl) (B "abs" (by decide)) bt_abs (va_cons (ve_var 1) va_nil)) va_nil)))
  (vss_cons (vs_while [] PassesOwn.never (vb_cmp opF_gt (ve_var 1) ve_int)
   (vss_one (vs_par2 rfl S.nd (va_cons (ve_var 1) (va_cons (ve_op opF_mod (ve_var 0) (ve_var 1)) va_nil)))))
  (vss_one (vs_ret (ve_var 0)))))

/-! ### lowest -/
abbrev s_lowest : Stmt := topS 2
theorem S_lowest : FnScope ["a", "b", "common"] ["a", "b"] (defScope s_lowest) := ⟨rfl, rfl, rfl, by decide +kernel, rfl, by decide +kernel, by decide +kernel⟩
def g_lowest : GS := (sSeq (sAsg 2 false (eIf (eB (e2 gtG (eVar 1) (eC (.int 0)))) (eA f_divisor (aCons (eVar 0) (aCons (eVar 1) aNil))) (eNeg (eA f_divisor (aCons (eVar 0) (aCons (eVar 1) aNil))))))
  (sRet (eA tupG (aCons (e2 divG (eVar 0) (eVar 2)) (aCons (e2 divG (eVar 1) (eVar 2)) aNil)))))
def f_lowest : List RV → Option RV := fnG 2 3 g_lowest
theorem o_lowest (T : Tp K mg "lowest" s_lowest) (B : ∀ x ∈ bl, mg x = none) (c_divisor : Cl P w K mg base 1 "divisor" f_divisor)   : Cl P w K mg base 2 "lowest" f_lowest :=
  have S := S_lowest
  cl_of T S rfl rfl (by decide) (fun _ _ _ _ _ _ us hl => match us, hl with | [_, _], _ => rfl) fun f cdv A outer s H E hr =>
  (vss_cons (vs_asg 2 false S.nd (ve_if (vb_cmp opF_gt (ve_var 1) ve_int) (ve_call c_divisor hr (by decide) (by rfl) (va_cons (ve_var 0) (va_cons (ve_var 1) va_nil))) (ve_neg (ve_call c_divisor hr (by decide) (by rfl) (va_cons (ve_var 0) (va_cons (ve_var 1) va_nil))))))
  (vss_one (vs_ret (ve_tup (va_cons (ve_op opF_div (ve_var 0) (ve_var 2)) (va_cons (ve_op opF_div (ve_var 1) (ve_var 2)) va_nil))))))

/-! ### minus -/
abbrev s_minus : Stmt := topS 3
theorem S_minus : FnScope ["first", "second"] ["first", "second"] (defScope s_minus) := ⟨rfl, rfl, rfl, by decide +kernel, rfl, by decide +kernel, by decide +kernel⟩
def g_minus : GS := (sRet (eA f_lowest (aCons (e2 subG (e2 mulG (e2 ixG (eVar 0) (eC (.int 0))) (e2 ixG (eVar 1) (eC (.int 1)))) (e2 mulG (e2 ixG (eVar 1) (eC (.int 0))) (e2 ixG (eVar 0) (eC (.int 1))))) (aCons (e2 mulG (e2 ixG (eVar 0) (eC (.int 1))) (e2 ixG (eVar 1) (eC (.int 1)))) aNil))))
def f_minus : List RV → Option RV := fnG 2 2 g_minus
theorem o_minus (T : Tp K mg "minus" s_minus) (B : ∀ x ∈ bl, mg x = none) (c_lowest : Cl P w K mg base 2 "lowest" f_lowest)   : Cl P w K mg base 3 "minus" f_minus :=
  have S := S_minus
  cl_of T S rfl rfl (by decide) (fun _ _ _ _ _ _ us hl => match us, hl with | [_, _], _ => rfl) fun f cdv A outer s H E hr =>
  (vss_one (vs_ret (ve_call c_lowest hr (by decide) (by rfl) (va_cons (ve_op opF_sub (ve_op opF_mul (ve_ix (ve_var 0) ve_int) (ve_ix (ve_var 1) ve_int)) (ve_op opF_mul (ve_ix (ve_var 1) ve_int) (ve_ix (ve_var 0) ve_int))) (va_cons (ve_op opF_mul (ve_ix (ve_var 0) ve_int) (ve_ix (ve_var 1) ve_int)) va_nil)))))

/-! ### times -/
abbrev s_times : Stmt := topS 4
theorem S_times : FnScope ["first", "second"] ["first", "second"] (defScope s_times) := ⟨rfl, rfl, rfl, by decide +kernel, rfl, by decide +kernel, by decide +kernel⟩
def g_times : GS := (sRet (eA f_lowest (aCons (e2 mulG (e2 ixG (eVar 0) (eC (.int 0))) (e2 ixG (eVar 1) (eC (.int 0)))) (aCons (e2 mulG (e2 ixG (eVar 0) (eC (.int 1))) (e2 ixG (eVar 1) (eC (.int 1)))) aNil))))
def f_times : List RV → Option RV := fnG 2 2 g_times
theorem o_times (T : Tp K mg "times" s_times) (B : ∀ x ∈ bl, mg x = none) (c_lowest : Cl P w K mg base 2 "lowest" f_lowest)   : Cl P w K mg base 3 "times" f_times :=
  have S := S_times
  cl_of T S rfl rfl (by decide) (fun _ _ _ _ _ _ us hl => match us, hl with | [_, _], _ => rfl) fun f cdv A outer s H E hr =>
  (vss_one (vs_ret (ve_call c_lowest hr (by decide) (by rfl) (va_cons (ve_op opF_mul (ve_ix (ve_var 0) ve_int) (ve_ix (ve_var 1) ve_int)) (va_cons (ve_op opF_mul (ve_ix (ve_var 0) ve_int) (ve_ix (ve_var 1) ve_int)) va_nil)))))

/-! ### is_less -/
abbrev s_is_less : Stmt := topS 5
theorem S_is_less : FnScope ["first", "second"] ["first", "second"] (defScope s_is_less) := ⟨rfl, rfl, rfl, by decide +kernel, rfl, by decide +kernel, by decide +kernel⟩
def g_is_less : GS := (sRet (e2 ltA (e2 mulG (e2 ixG (eVar 0) (eC (.int 0))) (e2 ixG (eVar 1) (eC (.int 1)))) (e2 mulG (e2 ixG (eVar 1) (eC (.int 0))) (e2 ixG (eVar 0) (eC (.int 1))))))
def f_is_less : List RV → Option RV := fnG 2 2 g_is_less
theorem o_is_less (T : Tp K mg "is_less" s_is_less) (B : ∀ x ∈ bl, mg x = none)    : Cl P w K mg base 1 "is_less" f_is_less :=
  have S := S_is_less
  cl_of T S rfl rfl (by decide) (fun _ _ _ _ _ _ us hl => match us, hl with | [_, _], _ => rfl) fun f cdv A outer s H E hr =>
  (vss_one (vs_ret (ve_cmp (opF_ltA hr.units) (ve_op opF_mul (ve_ix (ve_var 0) ve_int) (ve_ix (ve_var 1) ve_int)) (ve_op opF_mul (ve_ix (ve_var 1) ve_int) (ve_ix (ve_var 0) ve_int)))))

/-! ### house_ways -/
abbrev s_house_ways : Stmt := topS 7
theorem S_house_ways : FnScope ["houses", "y", "house"] ["houses", "y"] (defScope s_house_ways) := ⟨rfl, rfl, rfl, by decide +kernel, rfl, by decide +kernel, by decide +kernel⟩
def g_house_ways : GS := (sRet (eA (one sumG) (aCons (eLc [2] (.nm 2) (seqS (eVar 0)) bYes (eA (one absG) (aCons (e2 subG (e2 ixG (eVar 2) (eC (.int 1))) (eVar 1)) aNil))) aNil)))
def f_house_ways : List RV → Option RV := fnG 2 3 g_house_ways
theorem o_house_ways (T : Tp K mg "house_ways" s_house_ways) (B : ∀ x ∈ bl, mg x = none)    : Cl P w K mg base 1 "house_ways" f_house_ways :=
  have S := S_house_ways
  cl_of T S rfl rfl (by decide) (fun _ _ _ _ _ _ us hl => match us, hl with | [_, _], _ => rfl) fun f cdv A outer s H E hr =>
  (vss_one (vs_ret (ve_callB (callF_sum rfl) (by rfl) (B "sum" (by decide)) bt_sum (va_cons (ve_lc rfl S.nd (vi_seq (ve_var 0)) (blkOk_by (own := [("house", 2)]) (by kernel_rfl)) (by decide) (fun _ _ _ _ _ => (vg_name 2 S.nd)) (fun _ _ _ _ _ => vts_nil) (fun _ _ _ _ _ => (ve_callB callF_abs (by rfl) (B "abs" (by decide)) bt_abs (va_cons (ve_op opF_sub (ve_ix (ve_var 2) ve_int) (ve_var 1)) va_nil)))) va_nil))))

/-! ### best_main -/
abbrev s_best_main : Stmt := topS 8
theorem S_best_main : FnScope ["houses", "house"] ["houses"] (defScope s_best_main) := ⟨rfl, rfl, rfl, by decide +kernel, rfl, by decide +kernel, by decide +kernel⟩
def g_best_main : GS := (sRet (e2 ixG (eA (one sortG) (aCons (eLc [1] (.nm 1) (seqS (eVar 0)) bYes (e2 ixG (eVar 1) (eC (.int 1)))) aNil)) (e2 divG (e2 subG (eA (one lenG) (aCons (eVar 0) aNil)) (eC (.int 1))) (eC (.int 2)))))
def f_best_main : List RV → Option RV := fnG 1 2 g_best_main
theorem o_best_main (T : Tp K mg "best_main" s_best_main) (B : ∀ x ∈ bl, mg x = none)    : Cl P w K mg base 1 "best_main" f_best_main :=
  have S := S_best_main
  cl_of T S rfl rfl (by decide) (fun _ _ _ _ _ _ us hl => match us, hl with | [_], _ => rfl) fun f cdv A outer s H E hr =>
  (vss_one (vs_ret (ve_ix (ve_callB (callF_sorted hr.units) (by rfl) (B "sorted" (by decide)) bt_sorted (va_cons (ve_lc rfl S.nd (vi_seq (ve_var 0)) (blkOk_by (own := [("house", 1)]) (by kernel_rfl)) (by decide) (fun _ _ _ _ _ => (vg_name 1 S.nd)) (fun _ _ _ _ _ => vts_nil) (fun _ _ _ _ _ => (ve_ix (ve_var 1) ve_int))) va_nil)) (ve_op opF_div (ve_op opF_sub (ve_callB callF_len (by rfl) (B "len" (by decide)) bt_len (va_cons (ve_var 0) va_nil)) ve_int) ve_int))))

/-! ### main_bounds -/
abbrev s_main_bounds : Stmt := topS 9
theorem S_main_bounds : FnScope ["houses", "row", "house"] ["houses"] (defScope s_main_bounds) := ⟨rfl, rfl, rfl, by decide +kernel, rfl, by decide +kernel, by decide +kernel⟩
def g_main_bounds_1 : GS := (sRet (eA tupG (aCons (e2 ixG (eVar 1) (e2 divG (e2 subG (eA (one lenG) (aCons (eVar 1) aNil)) (eC (.int 1))) (eC (.int 2)))) (aCons (e2 ixG (eVar 1) (e2 divG (eA (one lenG) (aCons (eVar 1) aNil)) (eC (.int 2)))) aNil))))
def g_main_bounds : GS := (sSeq (sAsg 1 false (eA (one sortG) (aCons (eLc [2] (.nm 2) (seqS (eVar 0)) bYes (e2 ixG (eVar 2) (eC (.int 1)))) aNil)))
  g_main_bounds_1)
def f_main_bounds : List RV → Option RV := fnG 1 3 g_main_bounds
theorem o_main_bounds (T : Tp K mg "main_bounds" s_main_bounds) (B : ∀ x ∈ bl, mg x = none)    : Cl P w K mg base 1 "main_bounds" f_main_bounds :=
  have S := S_main_bounds
  cl_of T S rfl rfl (by decide) (fun _ _ _ _ _ _ us hl => match us, hl with | [_], _ => rfl) fun f cdv A outer s H E hr =>
  (vss_cons (vs_asg 1 false S.nd (ve_callB (callF_sorted hr.units) (by rfl) (B "sorted" (by decide)) bt_sorted (va_cons (ve_lc rfl S.nd (vi_seq (ve_var 0)) (blkOk_by (own := [("house", 2)]) (by kernel_rfl)) (by decide) (fun _ _ _ _ _ => (vg_name 2 S.nd)) (fun _ _ _ _ _ => vts_nil) (fun _ _ _ _ _ => (ve_ix (ve_var 2) ve_int))) va_nil)))
  (vss_one (vs_ret (ve_tup (va_cons (ve_ix (ve_var 1) (ve_op opF_div (ve_op opF_sub (ve_callB callF_len (by rfl) (B "len" (by decide)) bt_len (va_cons (ve_var 1) va_nil)) ve_int) ve_int)) (va_cons (ve_ix (ve_var 1) (ve_op opF_div (ve_callB callF_len (by rfl) (B "len" (by decide)) bt_len (va_cons (ve_var 1) va_nil)) ve_int)) va_nil))))))

/-! ### mains_two -/
abbrev s_mains_two : Stmt := topS 10
theorem S_mains_two : FnScope ["houses", "rows", "one", "other", "house"] ["houses"] (defScope s_mains_two) := ⟨rfl, rfl, rfl, by decide +kernel, rfl, by decide +kernel, by decide +kernel⟩
def g_mains_two_1 : GS := (sRet (eA minA (aCons (eLc2 [2, 3] [3] (.nm 2) (seqS (eVar 1)) bYes (.nm 3) (seqS (eVar 1)) (eB (e2 leG (eVar 2) (eVar 3))) (eA tupG (aCons (eA (one sumG) (aCons (eLc [4] (.nm 4) (seqS (eVar 0)) bYes (eA minA (aCons (eA (one absG) (aCons (e2 subG (e2 ixG (eVar 4) (eC (.int 1))) (eVar 2)) aNil)) (aCons (eA (one absG) (aCons (e2 subG (e2 ixG (eVar 4) (eC (.int 1))) (eVar 3)) aNil)) aNil)))) aNil)) (aCons (eA tupG (aCons (eVar 2) (aCons (eVar 3) aNil))) aNil)))) aNil)))
def g_mains_two : GS := (sSeq (sAsg 1 false (eU ssG (eLc [4] (.nm 4) (seqS (eVar 0)) bYes (e2 ixG (eVar 4) (eC (.int 1))))))
  g_mains_two_1)
def f_mains_two : List RV → Option RV := fnG 1 5 g_mains_two
theorem o_mains_two (T : Tp K mg "mains_two" s_mains_two) (B : ∀ x ∈ bl, mg x = none)    : Cl P w K mg base 1 "mains_two" f_mains_two :=
  have S := S_mains_two
  cl_of T S rfl rfl (by decide) (fun _ _ _ _ _ _ us hl => match us, hl with | [_], _ => rfl) fun f cdv A outer s H E hr =>
  (vss_cons (vs_asg 1 false S.nd (ve_sortedSet rfl (by rfl) (B "sorted" (by decide)) (by rfl) (B "set" (by decide)) (ve_lc rfl S.nd (vi_seq (ve_var 0)) (blkOk_by (own := [("house", 4)]) (by kernel_rfl)) (by decide) (fun _ _ _ _ _ => (vg_name 4 S.nd)) (fun _ _ _ _ _ => vts_nil) (fun _ _ _ _ _ => (ve_ix (ve_var 4) ve_int)))))
  (vss_one (vs_ret (ve_callB (callF_minA rfl hr.units) (by rfl) (B "min" (by decide)) bt_min (va_cons (ve_lc2 rfl S.nd (vi_seq (ve_var 1)) (blkOk_by (own := [("one", 2), ("other", 3)]) (by kernel_rfl)) (own1 := [3]) (by decide) (by decide) (by decide) (fun _ _ _ _ _ => (vg_name 2 S.nd)) (fun _ _ _ _ _ => vts_nil) (fun _ _ _ _ _ => (vi_seq (ve_var 1))) (fun _ _ _ _ _ => (vg_name 3 S.nd)) (fun _ _ _ _ _ => (vts_one (vb_cmp opF_le (ve_var 2) (ve_var 3)))) (fun _ _ _ _ _ => (ve_tup (va_cons (ve_callB (callF_sum rfl) (by rfl) (B "sum" (by decide)) bt_sum (va_cons (ve_lc rfl S.nd (vi_seq (ve_var 0)) (blkOk_by (own := [("house", 4)]) (by kernel_rfl)) (by decide) (fun _ _ _ _ _ => (vg_name 4 S.nd)) (fun _ _ _ _ _ => vts_nil) (fun _ _ _ _ _ => (ve_callB (callF_minA rfl hr.units) (by rfl) (B "min" (by decide)) bt_min (va_cons (ve_callB callF_abs (by rfl) (B "abs" (by decide)) bt_abs (va_cons (ve_op opF_sub (ve_ix (ve_var 4) ve_int) (ve_var 2)) va_nil)) (va_cons (ve_callB callF_abs (by rfl) (B "abs" (by decide)) bt_abs (va_cons (ve_op opF_sub (ve_ix (ve_var 4) ve_int) (ve_var 3)) va_nil)) va_nil))))) va_nil)) (va_cons (ve_tup (va_cons (ve_var 2) (va_cons (ve_var 3) va_nil))) va_nil))))) va_nil)))))

/-! ### row_ends -/
abbrev s_row_ends : Stmt := topS 11
theorem S_row_ends : FnScope ["houses", "house"] ["houses"] (defScope s_row_ends) := ⟨rfl, rfl, rfl, by decide +kernel, rfl, by decide +kernel, by decide +kernel⟩
def g_row_ends : GS := (sRet (eA tupG (aCons (eA minA (aCons (eLc [1] (.nm 1) (seqS (eVar 0)) bYes (e2 ixG (eVar 1) (eC (.int 0)))) aNil)) (aCons (eA maxA (aCons (eLc [1] (.nm 1) (seqS (eVar 0)) bYes (e2 ixG (eVar 1) (eC (.int 0)))) aNil)) aNil))))
def f_row_ends : List RV → Option RV := fnG 1 2 g_row_ends
theorem o_row_ends (T : Tp K mg "row_ends" s_row_ends) (B : ∀ x ∈ bl, mg x = none)    : Cl P w K mg base 1 "row_ends" f_row_ends :=
  have S := S_row_ends
  cl_of T S rfl rfl (by decide) (fun _ _ _ _ _ _ us hl => match us, hl with | [_], _ => rfl) fun f cdv A outer s H E hr =>
  (vss_one (vs_ret (ve_tup (va_cons (ve_callB (callF_minA rfl hr.units) (by rfl) (B "min" (by decide)) bt_min (va_cons (ve_lc rfl S.nd (vi_seq (ve_var 0)) (blkOk_by (own := [("house", 1)]) (by kernel_rfl)) (by decide) (fun _ _ _ _ _ => (vg_name 1 S.nd)) (fun _ _ _ _ _ => vts_nil) (fun _ _ _ _ _ => (ve_ix (ve_var 1) ve_int))) va_nil)) (va_cons (ve_callB (callF_maxA rfl hr.units) (by rfl) (B "max" (by decide)) bt_max (va_cons (ve_lc rfl S.nd (vi_seq (ve_var 0)) (blkOk_by (own := [("house", 1)]) (by kernel_rfl)) (by decide) (fun _ _ _ _ _ => (vg_name 1 S.nd)) (fun _ _ _ _ _ => vts_nil) (fun _ _ _ _ _ => (ve_ix (ve_var 1) ve_int))) va_nil)) va_nil)))))

/-! ### main_cost -/
abbrev s_main_cost : Stmt := topS 12
theorem S_main_cost : FnScope ["houses", "y", "cost", "first", "last"] ["houses", "y", "cost"] (defScope s_main_cost) := ⟨rfl, rfl, rfl, by decide +kernel, rfl, by decide +kernel, by decide +kernel⟩
def g_main_cost : GS := (sSeq (sAsgT (.tp (.cons (.nm 3) (.cons (.nm 4) .nil))) (eA f_row_ends (aCons (eVar 0) aNil)))
  (sRet (e2 addG (e2 subG (eVar 4) (eVar 3)) (e2 mulG (eVar 2) (eA f_house_ways (aCons (eVar 0) (aCons (eVar 1) aNil)))))))
def f_main_cost : List RV → Option RV := fnG 3 5 g_main_cost
theorem o_main_cost (T : Tp K mg "main_cost" s_main_cost) (B : ∀ x ∈ bl, mg x = none) (c_row_ends : Cl P w K mg base 1 "row_ends" f_row_ends) (c_house_ways : Cl P w K mg base 1 "house_ways" f_house_ways)   : Cl P w K mg base 2 "main_cost" f_main_cost :=
  have S := S_main_cost
  cl_of T S rfl rfl (by decide) (fun _ _ _ _ _ _ us hl => match us, hl with | [_, _, _], _ => rfl) fun f cdv A outer s H E hr =>
  (vss_cons (vs_asgT (ve_call c_row_ends hr (by decide) (by rfl) (va_cons (ve_var 0) va_nil)) (vg_tup rfl (vgs_cons (vg_name 3 S.nd) (vgs_cons (vg_name 4 S.nd) vgs_nil))))
  (vss_one (vs_ret (ve_op opF_add (ve_op opF_sub (ve_var 4) (ve_var 3)) (ve_op opF_mul (ve_var 2) (ve_call c_house_ways hr (by decide) (by rfl) (va_cons (ve_var 0) (va_cons (ve_var 1) va_nil))))))))

/-! ### least_main -/
abbrev s_least_main : Stmt := topS 13
theorem S_least_main : FnScope ["houses", "cost", "y"] ["houses", "cost"] (defScope s_least_main) := ⟨rfl, rfl, rfl, by decide +kernel, rfl, by decide +kernel, by decide +kernel⟩
def g_least_main : GS := (sSeq (sAsg 2 false (eA f_best_main (aCons (eVar 0) aNil)))
  (sRet (eA tupG (aCons (eA f_main_cost (aCons (eVar 0) (aCons (eVar 2) (aCons (eVar 1) aNil)))) (aCons (eVar 2) aNil)))))
def f_least_main : List RV → Option RV := fnG 2 3 g_least_main
theorem o_least_main (T : Tp K mg "least_main" s_least_main) (B : ∀ x ∈ bl, mg x = none) (c_best_main : Cl P w K mg base 1 "best_main" f_best_main) (c_main_cost : Cl P w K mg base 2 "main_cost" f_main_cost)   : Cl P w K mg base 3 "least_main" f_least_main :=
  have S := S_least_main
  cl_of T S rfl rfl (by decide) (fun _ _ _ _ _ _ us hl => match us, hl with | [_, _], _ => rfl) fun f cdv A outer s H E hr =>
  (vss_cons (vs_asg 2 false S.nd (ve_call c_best_main hr (by decide) (by rfl) (va_cons (ve_var 0) va_nil)))
  (vss_one (vs_ret (ve_tup (va_cons (ve_call c_main_cost hr (by decide) (by rfl) (va_cons (ve_var 0) (va_cons (ve_var 2) (va_cons (ve_var 1) va_nil)))) (va_cons (ve_var 2) va_nil))))))

/-! ### way_of -/
abbrev s_way_of : Stmt := topS 15
theorem S_way_of : FnScope ["one", "other"] ["one", "other"] (defScope s_way_of) := ⟨rfl, rfl, rfl, by decide +kernel, rfl, by decide +kernel, by decide +kernel⟩
def g_way_of : GS := (sRet (e2 addG (eA (one absG) (aCons (e2 subG (e2 ixG (eVar 0) (eC (.int 0))) (e2 ixG (eVar 1) (eC (.int 0)))) aNil)) (eA (one absG) (aCons (e2 subG (e2 ixG (eVar 0) (eC (.int 1))) (e2 ixG (eVar 1) (eC (.int 1)))) aNil))))
def f_way_of : List RV → Option RV := fnG 2 2 g_way_of
theorem o_way_of (T : Tp K mg "way_of" s_way_of) (B : ∀ x ∈ bl, mg x = none)    : Cl P w K mg base 1 "way_of" f_way_of :=
  have S := S_way_of
  cl_of T S rfl rfl (by decide) (fun _ _ _ _ _ _ us hl => match us, hl with | [_, _], _ => rfl) fun f cdv A outer s H E hr =>
  (vss_one (vs_ret (ve_op opF_add (ve_callB callF_abs (by rfl) (B "abs" (by decide)) bt_abs (va_cons (ve_op opF_sub (ve_ix (ve_var 0) ve_int) (ve_ix (ve_var 1) ve_int)) va_nil)) (ve_callB callF_abs (by rfl) (B "abs" (by decide)) bt_abs (va_cons (ve_op opF_sub (ve_ix (ve_var 0) ve_int) (ve_ix (ve_var 1) ve_int)) va_nil)))))

/-! ### least_tree_of -/
abbrev s_least_tree_of : Stmt := topS 16
theorem S_least_tree_of : FnScope ["places", "pairs", "names", "found", "way", "i", "j", "old", "new", "name"] ["places"] (defScope s_least_tree_of) := ⟨rfl, rfl, rfl, by decide +kernel, rfl, by decide +kernel, by decide +kernel⟩
def g_least_tree_of_1 : GS := (sFg [7, 8] (sIf (eB (e2 neG (e2 ixG (eVar 2) (eVar 5)) (e2 ixG (eVar 2) (eVar 6)))) (sSeq (sPar [(7, false), (8, false)] (aCons (e2 ixG (eVar 2) (eVar 6)) (aCons (e2 ixG (eVar 2) (eVar 5)) aNil)))
  (sSeq (sAsg 2 false (eLc [9] (.nm 9) (seqS (eVar 2)) bYes (eIf (eB (e2 eqG (eVar 9) (eVar 7))) (eVar 8) (eVar 9))))
  (sApp 3 (aCons (eA tupG (aCons (eVar 5) (aCons (eVar 6) aNil))) aNil)))) sSkip))
def g_least_tree_of_2 : GS := (sSeq (sFor [4, 5, 6, 7, 8] (.tp (.cons (.nm 4) (.cons (.tp (.cons (.nm 5) (.cons (.nm 6) .nil))) .nil))) (seqS (eVar 1))
   g_least_tree_of_1)
  (sRet (eA (one tupleG) (aCons (eA (one sortG) (aCons (eVar 3) aNil)) aNil))))
def g_least_tree_of_3 : GS := (sSeq (sAsg 1 false (eA (one sortG) (aCons (eLc2 [5, 6] [6] (.nm 5) (aS rng1G (aCons (eA (one lenG) (aCons (eVar 0) aNil)) aNil)) bYes (.nm 6) (aS rng2G (aCons (e2 addG (eVar 5) (eC (.int 1))) (aCons (eA (one lenG) (aCons (eVar 0) aNil)) aNil))) bYes (eA tupG (aCons (eA f_way_of (aCons (e2 ixG (eVar 0) (eVar 5)) (aCons (e2 ixG (eVar 0) (eVar 6)) aNil))) (aCons (eA tupG (aCons (eVar 5) (aCons (eVar 6) aNil))) aNil)))) aNil)))
  g_least_tree_of_2)
def g_least_tree_of : GS := (sSeq (sPar [(2, false), (3, true)] (aCons (eLR true rng1G (aCons (eA (one lenG) (aCons (eVar 0) aNil)) aNil)) (aCons (eA lstG aNil) aNil)))
  g_least_tree_of_3)
def f_least_tree_of : List RV → Option RV := fnG 1 10 g_least_tree_of
theorem o_least_tree_of (T : Tp K mg "least_tree_of" s_least_tree_of) (B : ∀ x ∈ bl, mg x = none) (c_way_of : Cl P w K mg base 1 "way_of" f_way_of)   : Cl P w K mg base 2 "least_tree_of" f_least_tree_of :=
  have S := S_least_tree_of
  cl_of T S rfl rfl (by decide) (fun _ _ _ _ _ _ us hl => match us, hl with | [_], _ => rfl) fun f cdv A outer s H E hr =>
  (vss_cons (vs_par2 rfl S.nd (va_cons (ve_listR1 rfl (by rfl) (B "list" (by decide)) (by rfl) (B "range" (by decide)) (ve_callB callF_len (by rfl) (B "len" (by decide)) bt_len (va_cons (ve_var 0) va_nil))) (va_cons (ve_lst va_nil) va_nil)))
  (vss_cons (vs_asg 1 false S.nd (ve_callB (callF_sorted hr.units) (by rfl) (B "sorted" (by decide)) bt_sorted (va_cons (ve_lc2 rfl S.nd (vi_range1 (by rfl) (B "range" (by decide)) (va_cons (ve_callB callF_len (by rfl) (B "len" (by decide)) bt_len (va_cons (ve_var 0) va_nil)) va_nil)) (blkOk_by (own := [("i", 5), ("j", 6)]) (by kernel_rfl)) (own1 := [6]) (by decide) (by decide) (by decide) (fun _ _ _ _ _ => (vg_name 5 S.nd)) (fun _ _ _ _ _ => vts_nil) (fun _ _ _ _ _ => (vi_range2 (by rfl) (B "range" (by decide)) (va_cons (ve_op opF_add (ve_var 5) ve_int) (va_cons (ve_callB callF_len (by rfl) (B "len" (by decide)) bt_len (va_cons (ve_var 0) va_nil)) va_nil)))) (fun _ _ _ _ _ => (vg_name 6 S.nd)) (fun _ _ _ _ _ => vts_nil) (fun _ _ _ _ _ => (ve_tup (va_cons (ve_call c_way_of hr (by decide) (by rfl) (va_cons (ve_ix (ve_var 0) (ve_var 5)) (va_cons (ve_ix (ve_var 0) (ve_var 6)) va_nil))) (va_cons (ve_tup (va_cons (ve_var 5) (va_cons (ve_var 6) va_nil))) va_nil))))) va_nil)))
  (vss_cons (vs_for [4, 5, 6, 7, 8] PassesOwn.never rfl (vi_seq (ve_var 1)) (vg_tup rfl (vgs_cons (vg_name 4 S.nd) (vgs_cons (vg_tup rfl (vgs_cons (vg_name 5 S.nd) (vgs_cons (vg_name 6 S.nd) vgs_nil))) vgs_nil)))
   (vss_one (vs_fg [7, 8] (vs_if (vb_cmp (opF_ne hr.units) (ve_ix (ve_var 2) (ve_var 5)) (ve_ix (ve_var 2) (ve_var 6))) (vss_cons (vs_parN rfl (va_cons (ve_ix (ve_var 2) (ve_var 6)) (va_cons (ve_ix (ve_var 2) (ve_var 5)) va_nil)) (pgn_cons (pgn_name 7 S.nd) (pgn_cons (pgn_name 8 S.nd) pgn_nil)))
  (vss_cons (vs_asgLc 2 false rfl S.nd (vi_seq (ve_var 2)) (blkOk_by (own := [("name", 9)]) (by kernel_rfl)) (by decide) (fun _ _ _ _ _ => (vg_name 9 S.nd)) (fun _ _ _ _ _ => vts_nil) (fun _ _ _ _ _ => (ve_if (vb_cmp (opF_eq hr.units) (ve_var 9) (ve_var 7)) (ve_var 8) (ve_var 9))))
  (vss_one (vs_app 3 (va_cons (ve_tup (va_cons (ve_var 5) (va_cons (ve_var 6) va_nil))) va_nil))))) vss_nil))))
  (vss_one (vs_ret (ve_callTy callF_tuple (by rfl) (B "tuple" (by decide)) bt_tuple (va_cons (ve_callB (callF_sorted hr.units) (by rfl) (B "sorted" (by decide)) bt_sorted (va_cons (ve_var 3) va_nil)) va_nil)))))))

/-! ### sum_of_ways -/
abbrev s_sum_of_ways : Stmt := topS 17
theorem S_sum_of_ways : FnScope ["places", "pairs", "i", "j"] ["places", "pairs"] (defScope s_sum_of_ways) := ⟨rfl, rfl, rfl, by decide +kernel, rfl, by decide +kernel, by decide +kernel⟩
def g_sum_of_ways : GS := (sRet (eA (one sumG) (aCons (eLc [2, 3] (.tp (.cons (.nm 2) (.cons (.nm 3) .nil))) (seqS (eVar 1)) bYes (eA f_way_of (aCons (e2 ixG (eVar 0) (eVar 2)) (aCons (e2 ixG (eVar 0) (eVar 3)) aNil)))) aNil)))
def f_sum_of_ways : List RV → Option RV := fnG 2 4 g_sum_of_ways
theorem o_sum_of_ways (T : Tp K mg "sum_of_ways" s_sum_of_ways) (B : ∀ x ∈ bl, mg x = none) (c_way_of : Cl P w K mg base 1 "way_of" f_way_of)   : Cl P w K mg base 2 "sum_of_ways" f_sum_of_ways :=
  have S := S_sum_of_ways
  cl_of T S rfl rfl (by decide) (fun _ _ _ _ _ _ us hl => match us, hl with | [_, _], _ => rfl) fun f cdv A outer s H E hr =>
  (vss_one (vs_ret (ve_callB (callF_sum rfl) (by rfl) (B "sum" (by decide)) bt_sum (va_cons (ve_lc rfl S.nd (vi_seq (ve_var 1)) (blkOk_by (own := [("i", 2), ("j", 3)]) (by kernel_rfl)) (by decide) (fun _ _ _ _ _ => (vg_tup rfl (vgs_cons (vg_name 2 S.nd) (vgs_cons (vg_name 3 S.nd) vgs_nil)))) (fun _ _ _ _ _ => vts_nil) (fun _ _ _ _ _ => (ve_call c_way_of hr (by decide) (by rfl) (va_cons (ve_ix (ve_var 0) (ve_var 2)) (va_cons (ve_ix (ve_var 0) (ve_var 3)) va_nil))))) va_nil))))

/-! ### best_point -/
abbrev s_best_point : Stmt := topS 18
theorem S_best_point : FnScope ["one", "other", "third", "side", "place"] ["one", "other", "third"] (defScope s_best_point) := ⟨rfl, rfl, rfl, by decide +kernel, rfl, by decide +kernel, by decide +kernel⟩
def g_best_point : GS := (sRet (eA (one tupleG) (aCons (eLc [3] (.nm 3) (seqS (eA tupG (aCons (eC (.int 0)) (aCons (eC (.int 1)) aNil)))) bYes (e2 ixG (eA (one sortG) (aCons (eLc [4] (.nm 4) (seqS (eA tupG (aCons (eVar 0) (aCons (eVar 1) (aCons (eVar 2) aNil))))) bYes (e2 ixG (eVar 4) (eVar 3))) aNil)) (eC (.int 1)))) aNil)))
def f_best_point : List RV → Option RV := fnG 3 5 g_best_point
theorem o_best_point (T : Tp K mg "best_point" s_best_point) (B : ∀ x ∈ bl, mg x = none)    : Cl P w K mg base 1 "best_point" f_best_point :=
  have S := S_best_point
  cl_of T S rfl rfl (by decide) (fun _ _ _ _ _ _ us hl => match us, hl with | [_, _, _], _ => rfl) fun f cdv A outer s H E hr =>
  (vss_one (vs_ret (ve_callTy callF_tuple (by rfl) (B "tuple" (by decide)) bt_tuple (va_cons (ve_lc rfl S.nd (vi_seq (ve_tup (va_cons ve_int (va_cons ve_int va_nil)))) (blkOk_by (own := [("side", 3)]) (by kernel_rfl)) (by decide) (fun _ _ _ _ _ => (vg_name 3 S.nd)) (fun _ _ _ _ _ => vts_nil) (fun _ _ _ _ _ => (ve_ix (ve_callB (callF_sorted hr.units) (by rfl) (B "sorted" (by decide)) bt_sorted (va_cons (ve_lc rfl S.nd (vi_seq (ve_tup (va_cons (ve_var 0) (va_cons (ve_var 1) (va_cons (ve_var 2) va_nil))))) (blkOk_by (own := [("place", 4)]) (by kernel_rfl)) (by decide) (fun _ _ _ _ _ => (vg_name 4 S.nd)) (fun _ _ _ _ _ => vts_nil) (fun _ _ _ _ _ => (ve_ix (ve_var 4) (ve_var 3)))) va_nil)) ve_int))) va_nil))))

/-! ### star_sum -/
abbrev s_star_sum : Stmt := topS 19
theorem S_star_sum : FnScope ["places", "index", "place", "other"] ["places"] (defScope s_star_sum) := ⟨rfl, rfl, rfl, by decide +kernel, rfl, by decide +kernel, by decide +kernel⟩
def g_star_sum : GS := (sRet (eA minA (aCons (eLc [1, 2] (.tp (.cons (.nm 1) (.cons (.nm 2) .nil))) (aS enumG (aCons (eVar 0) aNil)) bYes (eA tupG (aCons (eA (one sumG) (aCons (eLc [3] (.nm 3) (seqS (eVar 0)) bYes (eA f_way_of (aCons (eVar 2) (aCons (eVar 3) aNil)))) aNil)) (aCons (eVar 1) aNil)))) aNil)))
def f_star_sum : List RV → Option RV := fnG 1 4 g_star_sum
theorem o_star_sum (T : Tp K mg "star_sum" s_star_sum) (B : ∀ x ∈ bl, mg x = none) (c_way_of : Cl P w K mg base 1 "way_of" f_way_of)   : Cl P w K mg base 2 "star_sum" f_star_sum :=
  have S := S_star_sum
  cl_of T S rfl rfl (by decide) (fun _ _ _ _ _ _ us hl => match us, hl with | [_], _ => rfl) fun f cdv A outer s H E hr =>
  (vss_one (vs_ret (ve_callB (callF_minA rfl hr.units) (by rfl) (B "min" (by decide)) bt_min (va_cons (ve_lc rfl S.nd (vi_enum (by rfl) (B "enumerate" (by decide)) (va_cons (ve_var 0) va_nil)) (blkOk_by (own := [("index", 1), ("place", 2)]) (by kernel_rfl)) (by decide) (fun _ _ _ _ _ => (vg_tup rfl (vgs_cons (vg_name 1 S.nd) (vgs_cons (vg_name 2 S.nd) vgs_nil)))) (fun _ _ _ _ _ => vts_nil) (fun _ _ _ _ _ => (ve_tup (va_cons (ve_callB (callF_sum rfl) (by rfl) (B "sum" (by decide)) bt_sum (va_cons (ve_lc rfl S.nd (vi_seq (ve_var 0)) (blkOk_by (own := [("other", 3)]) (by kernel_rfl)) (by decide) (fun _ _ _ _ _ => (vg_name 3 S.nd)) (fun _ _ _ _ _ => vts_nil) (fun _ _ _ _ _ => (ve_call c_way_of hr (by decide) (by rfl) (va_cons (ve_var 2) (va_cons (ve_var 3) va_nil))))) va_nil)) (va_cons (ve_var 1) va_nil))))) va_nil))))

/-! ### whole -/
abbrev s_whole : Stmt := topS 21
theorem S_whole : FnScope ["number"] ["number"] (defScope s_whole) := ⟨rfl, rfl, rfl, by decide +kernel, rfl, by decide +kernel, by decide +kernel⟩
def g_whole : GS := (sRet (eA tupG (aCons (eVar 0) (aCons (eC (.int 1)) aNil))))
def f_whole : List RV → Option RV := fnG 1 1 g_whole
theorem o_whole (T : Tp K mg "whole" s_whole) (B : ∀ x ∈ bl, mg x = none)    : Cl P w K mg base 1 "whole" f_whole :=
  have S := S_whole
  cl_of T S rfl rfl (by decide) (fun _ _ _ _ _ _ us hl => match us, hl with | [_], _ => rfl) fun f cdv A outer s H E hr =>
  (vss_one (vs_ret (ve_tup (va_cons (ve_var 0) (va_cons ve_int va_nil)))))

/-! ### fallen_by -/
abbrev s_fallen_by : Stmt := topS 23
theorem S_fallen_by : FnScope ["pressure", "warmth", "later", "warmer"] ["pressure", "warmth", "later", "warmer"] (defScope s_fallen_by) := ⟨rfl, rfl, rfl, by decide +kernel, rfl, by decide +kernel, by decide +kernel⟩
def g_fallen_by : GS := (sRet (eA f_minus (aCons (eA f_times (aCons (eA f_whole (aCons (eVar 0) aNil)) (aCons (eA f_lowest (aCons (eVar 3) (aCons (eVar 1) aNil))) aNil))) (aCons (eA f_whole (aCons (eVar 2) aNil)) aNil))))
def f_fallen_by : List RV → Option RV := fnG 4 4 g_fallen_by
theorem o_fallen_by (T : Tp K mg "fallen_by" s_fallen_by) (B : ∀ x ∈ bl, mg x = none) (c_minus : Cl P w K mg base 3 "minus" f_minus) (c_whole : Cl P w K mg base 1 "whole" f_whole) (c_times : Cl P w K mg base 3 "times" f_times) (c_lowest : Cl P w K mg base 2 "lowest" f_lowest)   : Cl P w K mg base 4 "fallen_by" f_fallen_by :=
  have S := S_fallen_by
  cl_of T S rfl rfl (by decide) (fun _ _ _ _ _ _ us hl => match us, hl with | [_, _, _, _], _ => rfl) fun f cdv A outer s H E hr =>
  (vss_one (vs_ret (ve_call c_minus hr (by decide) (by rfl) (va_cons (ve_call c_times hr (by decide) (by rfl) (va_cons (ve_call c_whole hr (by decide) (by rfl) (va_cons (ve_var 0) va_nil)) (va_cons (ve_call c_lowest hr (by decide) (by rfl) (va_cons (ve_var 3) (va_cons (ve_var 1) va_nil))) va_nil))) (va_cons (ve_call c_whole hr (by decide) (by rfl) (va_cons (ve_var 2) va_nil)) va_nil)))))

/-! ### is_tight -/
abbrev s_is_tight : Stmt := topS 24
theorem S_is_tight : FnScope ["pressure", "warmth", "later", "warmer", "bound"] ["pressure", "warmth", "later", "warmer", "bound"] (defScope s_is_tight) := ⟨rfl, rfl, rfl, by decide +kernel, rfl, by decide +kernel, by decide +kernel⟩
def g_is_tight : GS := (sRet (eNot (eA f_is_less (aCons (eA f_whole (aCons (eVar 4) aNil)) (aCons (eA f_fallen_by (aCons (eVar 0) (aCons (eVar 1) (aCons (eVar 2) (aCons (eVar 3) aNil))))) aNil)))))
def f_is_tight : List RV → Option RV := fnG 5 5 g_is_tight
theorem o_is_tight (T : Tp K mg "is_tight" s_is_tight) (B : ∀ x ∈ bl, mg x = none) (c_is_less : Cl P w K mg base 1 "is_less" f_is_less) (c_fallen_by : Cl P w K mg base 4 "fallen_by" f_fallen_by) (c_whole : Cl P w K mg base 1 "whole" f_whole)   : Cl P w K mg base 5 "is_tight" f_is_tight :=
  have S := S_is_tight
  cl_of T S rfl rfl (by decide) (fun _ _ _ _ _ _ us hl => match us, hl with | [_, _, _, _, _], _ => rfl) fun f cdv A outer s H E hr =>
  (vss_one (vs_ret (ve_not (ve_call c_is_less hr (by decide) (by rfl) (va_cons (ve_call c_whole hr (by decide) (by rfl) (va_cons (ve_var 4) va_nil)) (va_cons (ve_call c_fallen_by hr (by decide) (by rfl) (va_cons (ve_var 0) (va_cons (ve_var 1) (va_cons (ve_var 2) (va_cons (ve_var 3) va_nil))))) va_nil))))))

/-! ### tight_range -/
abbrev s_tight_range : Stmt := topS 25
theorem S_tight_range : FnScope ["pressure", "warmth", "later", "warmer", "e", "low"] ["pressure", "warmth", "later", "warmer", "e"] (defScope s_tight_range) := ⟨rfl, rfl, rfl, by decide +kernel, rfl, by decide +kernel, by decide +kernel⟩
def g_tight_range : GS := (sSeq (sAsg 5 false (eA f_fallen_by (aCons (e2 subG (eVar 0) (eVar 4)) (aCons (eVar 1) (aCons (e2 addG (eVar 2) (eVar 4)) (aCons (eVar 3) aNil))))))
  (sRet (eA tupG (aCons (eVar 5) (aCons (eA f_fallen_by (aCons (e2 addG (eVar 0) (eVar 4)) (aCons (eVar 1) (aCons (e2 subG (eVar 2) (eVar 4)) (aCons (eVar 3) aNil))))) aNil)))))
def f_tight_range : List RV → Option RV := fnG 5 6 g_tight_range
theorem o_tight_range (T : Tp K mg "tight_range" s_tight_range) (B : ∀ x ∈ bl, mg x = none) (c_fallen_by : Cl P w K mg base 4 "fallen_by" f_fallen_by)   : Cl P w K mg base 5 "tight_range" f_tight_range :=
  have S := S_tight_range
  cl_of T S rfl rfl (by decide) (fun _ _ _ _ _ _ us hl => match us, hl with | [_, _, _, _, _], _ => rfl) fun f cdv A outer s H E hr =>
  (vss_cons (vs_asg 5 false S.nd (ve_call c_fallen_by hr (by decide) (by rfl) (va_cons (ve_op opF_sub (ve_var 0) (ve_var 4)) (va_cons (ve_var 1) (va_cons (ve_op opF_add (ve_var 2) (ve_var 4)) (va_cons (ve_var 3) va_nil))))))
  (vss_one (vs_ret (ve_tup (va_cons (ve_var 5) (va_cons (ve_call c_fallen_by hr (by decide) (by rfl) (va_cons (ve_op opF_add (ve_var 0) (ve_var 4)) (va_cons (ve_var 1) (va_cons (ve_op opF_sub (ve_var 2) (ve_var 4)) (va_cons (ve_var 3) va_nil))))) va_nil))))))

/-! ### surely_tight -/
abbrev s_surely_tight : Stmt := topS 26
theorem S_surely_tight : FnScope ["pressure", "warmth", "later", "warmer", "e", "bound"] ["pressure", "warmth", "later", "warmer", "e", "bound"] (defScope s_surely_tight) := ⟨rfl, rfl, rfl, by decide +kernel, rfl, by decide +kernel, by decide +kernel⟩
def g_surely_tight : GS := (sRet (eNot (eA f_is_less (aCons (eA f_whole (aCons (eVar 5) aNil)) (aCons (e2 ixG (eA f_tight_range (aCons (eVar 0) (aCons (eVar 1) (aCons (eVar 2) (aCons (eVar 3) (aCons (eVar 4) aNil)))))) (eC (.int 1))) aNil)))))
def f_surely_tight : List RV → Option RV := fnG 6 6 g_surely_tight
theorem o_surely_tight (T : Tp K mg "surely_tight" s_surely_tight) (B : ∀ x ∈ bl, mg x = none) (c_is_less : Cl P w K mg base 1 "is_less" f_is_less) (c_tight_range : Cl P w K mg base 5 "tight_range" f_tight_range) (c_whole : Cl P w K mg base 1 "whole" f_whole)   : Cl P w K mg base 6 "surely_tight" f_surely_tight :=
  have S := S_surely_tight
  cl_of T S rfl rfl (by decide) (fun _ _ _ _ _ _ us hl => match us, hl with | [_, _, _, _, _, _], _ => rfl) fun f cdv A outer s H E hr =>
  (vss_one (vs_ret (ve_not (ve_call c_is_less hr (by decide) (by rfl) (va_cons (ve_call c_whole hr (by decide) (by rfl) (va_cons (ve_var 5) va_nil)) (va_cons (ve_ix (ve_call c_tight_range hr (by decide) (by rfl) (va_cons (ve_var 0) (va_cons (ve_var 1) (va_cons (ve_var 2) (va_cons (ve_var 3) (va_cons (ve_var 4) va_nil)))))) ve_int) va_nil))))))

/-! ### surely_leaky -/
abbrev s_surely_leaky : Stmt := topS 27
theorem S_surely_leaky : FnScope ["pressure", "warmth", "later", "warmer", "e", "bound"] ["pressure", "warmth", "later", "warmer", "e", "bound"] (defScope s_surely_leaky) := ⟨rfl, rfl, rfl, by decide +kernel, rfl, by decide +kernel, by decide +kernel⟩
def g_surely_leaky : GS := (sRet (eA f_is_less (aCons (eA f_whole (aCons (eVar 5) aNil)) (aCons (e2 ixG (eA f_tight_range (aCons (eVar 0) (aCons (eVar 1) (aCons (eVar 2) (aCons (eVar 3) (aCons (eVar 4) aNil)))))) (eC (.int 0))) aNil))))
def f_surely_leaky : List RV → Option RV := fnG 6 6 g_surely_leaky
theorem o_surely_leaky (T : Tp K mg "surely_leaky" s_surely_leaky) (B : ∀ x ∈ bl, mg x = none) (c_is_less : Cl P w K mg base 1 "is_less" f_is_less) (c_tight_range : Cl P w K mg base 5 "tight_range" f_tight_range) (c_whole : Cl P w K mg base 1 "whole" f_whole)   : Cl P w K mg base 6 "surely_leaky" f_surely_leaky :=
  have S := S_surely_leaky
  cl_of T S rfl rfl (by decide) (fun _ _ _ _ _ _ us hl => match us, hl with | [_, _, _, _, _, _], _ => rfl) fun f cdv A outer s H E hr =>
  (vss_one (vs_ret (ve_call c_is_less hr (by decide) (by rfl) (va_cons (ve_call c_whole hr (by decide) (by rfl) (va_cons (ve_var 5) va_nil)) (va_cons (ve_ix (ve_call c_tight_range hr (by decide) (by rfl) (va_cons (ve_var 0) (va_cons (ve_var 1) (va_cons (ve_var 2) (va_cons (ve_var 3) (va_cons (ve_var 4) va_nil)))))) ve_int) va_nil)))))

/-! ### hours_for -/
abbrev s_hours_for : Stmt := topS 28
theorem S_hours_for : FnScope ["leak", "e"] ["leak", "e"] (defScope s_hours_for) := ⟨rfl, rfl, rfl, by decide +kernel, rfl, by decide +kernel, by decide +kernel⟩
def g_hours_for : GS := (sRet (eIf (eB (e2 eqG (eVar 0) (eC (.int 0)))) (eC .none) (e2 addG (e2 divG (e2 mulG (eC (.int 2)) (e2 mulG (eC (.int 2)) (eVar 1))) (eVar 0)) (eC (.int 1)))))
def f_hours_for : List RV → Option RV := fnG 2 2 g_hours_for
theorem o_hours_for (T : Tp K mg "hours_for" s_hours_for) (B : ∀ x ∈ bl, mg x = none)    : Cl P w K mg base 1 "hours_for" f_hours_for :=
  have S := S_hours_for
  cl_of T S rfl rfl (by decide) (fun _ _ _ _ _ _ us hl => match us, hl with | [_, _], _ => rfl) fun f cdv A outer s H E hr =>
  (vss_one (vs_ret (ve_if (vb_cmp (opF_eq hr.units) (ve_var 0) ve_int) ve_none (ve_op opF_add (ve_op opF_div (ve_op opF_mul ve_int (ve_op opF_mul ve_int (ve_var 1))) (ve_var 0)) ve_int))))

/-! ### _law_mixed -/
abbrev s__law_mixed : Stmt := topS 30
theorem S__law_mixed : FnScope ["script", "k", "cell", "first", "second", "third"] ["script", "k"] (defScope s__law_mixed) := ⟨rfl, rfl, rfl, by decide +kernel, rfl, by decide +kernel, by decide +kernel⟩
def g__law_mixed_1 : GS := (sSeq (sAsg 5 false (e2 modG (eA (one intG) (aCons (e2 addG (e2 addG (e2 mulG (eVar 4) (eVar 4)) (e2 divG (eVar 4) (eC (.int 11)))) (eC (.int 40692))) aNil)) (eC (.int 2147483563))))
  (sRet (e2 modG (e2 divG (eVar 5) (eC (.int 5))) (eC (.int 1000003)))))
def g__law_mixed_2 : GS := (sSeq (sAsg 4 false (e2 modG (eA (one intG) (aCons (e2 addG (e2 addG (e2 mulG (eVar 3) (eVar 3)) (e2 divG (eVar 3) (eC (.int 7)))) (e2 mulG (eVar 1) (eC (.int 16807)))) aNil)) (eC (.int 2147483629))))
  g__law_mixed_1)
def g__law_mixed_3 : GS := (sSeq (sAsg 3 false (e2 modG (eA (one intG) (aCons (e2 addG (e2 addG (e2 mulG (eVar 2) (eC (.int 48271))) (e2 mulG (eVar 1) (eC (.int 69621)))) (eC (.int 8191))) aNil)) (eC (.int 2147483647))))
  g__law_mixed_2)
def g__law_mixed : GS := (sSeq (sAsg 2 false (eC (.int 0)))
  (sSeq (sIf (eB (e2 gtG (eA (one lenG) (aCons (eVar 0) aNil)) (eC (.int 0)))) (sAsg 2 false (e2 ixG (eVar 0) (e2 modG (eVar 1) (eA (one lenG) (aCons (eVar 0) aNil))))) sSkip)
  g__law_mixed_3))
def f__law_mixed : List RV → Option RV := fnG 2 6 g__law_mixed
theorem o__law_mixed (T : Tp K mg "_law_mixed" s__law_mixed) (B : ∀ x ∈ bl, mg x = none)    : Cl P w K mg base 1 "_law_mixed" f__law_mixed :=
  have S := S__law_mixed
  cl_of T S rfl rfl (by decide) (fun _ _ _ _ _ _ us hl => match us, hl with | [_, _], _ => rfl) fun f cdv A outer s H E hr =>
  (vss_cons (vs_asg 2 false S.nd ve_int)
  (vss_cons (vs_if (vb_cmp opF_gt (ve_callB callF_len (by rfl) (B "len" (by decide)) bt_len (va_cons (ve_var 0) va_nil)) ve_int) (vss_one (vs_asg 2 false S.nd (ve_ix (ve_var 0) (ve_op opF_mod (ve_var 1) (ve_callB callF_len (by rfl) (B "len" (by decide)) bt_len (va_cons (ve_var 0) va_nil)))))) vss_nil)
  (vss_cons (vs_asg 3 false S.nd (ve_op opF_mod (ve_callTy callF_int (by rfl) (B "int" (by decide)) bt_int (va_cons (ve_op opF_add (ve_op opF_add (ve_op opF_mul (ve_var 2) ve_int) (ve_op opF_mul (ve_var 1) ve_int)) ve_int) va_nil)) ve_int))
  (vss_cons (vs_asg 4 false S.nd (ve_op opF_mod (ve_callTy callF_int (by rfl) (B "int" (by decide)) bt_int (va_cons (ve_op opF_add (ve_op opF_add (ve_op opF_mul (ve_var 3) (ve_var 3)) (ve_op opF_div (ve_var 3) ve_int)) (ve_op opF_mul (ve_var 1) ve_int)) va_nil)) ve_int))
  (vss_cons (vs_asg 5 false S.nd (ve_op opF_mod (ve_callTy callF_int (by rfl) (B "int" (by decide)) bt_int (va_cons (ve_op opF_add (ve_op opF_add (ve_op opF_mul (ve_var 4) (ve_var 4)) (ve_op opF_div (ve_var 4) ve_int)) ve_int) va_nil)) ve_int))
  (vss_one (vs_ret (ve_op opF_mod (ve_op opF_div (ve_var 5) ve_int) ve_int))))))))

/-! ### _law_row -/
abbrev s__law_row : Stmt := topS 31
theorem S__law_row : FnScope ["script", "many", "big", "row", "k"] ["script", "many"] (defScope s__law_row) := ⟨rfl, rfl, rfl, by decide +kernel, rfl, by decide +kernel, by decide +kernel⟩
def g__law_row_1 : GS := (sIf (eB (e2 gtG (eVar 2) (eC (.int 0)))) (sSeq (sApp 3 (aCons (e2 modG (eA (one intG) (aCons (eVar 2) aNil)) (eC (.int 1000))) aNil))
  (sAsg 2 false (e2 divG (eVar 2) (eC (.int 1000))))) (sApp 3 (aCons (eA f__law_mixed (aCons (eVar 0) (aCons (eVar 4) aNil))) aNil)))
def g__law_row_2 : GS := (sSeq (sIf (bAnd (eB (e2 gtG (eA (one lenG) (aCons (eVar 0) aNil)) (eC (.int 0)))) (eB (e2 geG (e2 ixG (eVar 0) (eC (.int 0))) (e2 powG (eC (.int 10)) (eC (.int 18)))))) (sAsg 2 false (e2 ixG (eVar 0) (eC (.int 0)))) sSkip)
  (sSeq (sAsg 3 true (eA lstG aNil))
  (sSeq (sFor [4] (.nm 4) (aS rng1G (aCons (eVar 1) aNil))
   g__law_row_1)
  (sRetM 3))))
def g__law_row : GS := (sSeq (sAsg 2 false (eC (.int 0)))
  g__law_row_2)
def f__law_row : List RV → Option RV := fnG 2 5 g__law_row
theorem o__law_row (T : Tp K mg "_law_row" s__law_row) (B : ∀ x ∈ bl, mg x = none) (c__law_mixed : Cl P w K mg base 1 "_law_mixed" f__law_mixed)   : Cl P w K mg base 2 "_law_row" f__law_row :=
  have S := S__law_row
  cl_of T S rfl rfl (by decide) (fun _ _ _ _ _ _ us hl => match us, hl with | [_, _], _ => rfl) fun f cdv A outer s H E hr =>
  (vss_cons (vs_asg 2 false S.nd ve_int)
  (vss_cons (vs_if (vb_w (vw_and (vb_cmp opF_gt (ve_callB callF_len (by rfl) (B "len" (by decide)) bt_len (va_cons (ve_var 0) va_nil)) ve_int) (vw_one (vb_cmp opF_ge (ve_ix (ve_var 0) ve_int) (ve_op opF_pow ve_int ve_int))))) (vss_one (vs_asg 2 false S.nd (ve_ix (ve_var 0) ve_int))) vss_nil)
  (vss_cons (vs_asg 3 true S.nd (ve_lst va_nil))
  (vss_cons (vs_for [4] PassesOwn.never rfl (vi_range1 (by rfl) (B "range" (by decide)) (va_cons (ve_var 1) va_nil)) (vg_name 4 S.nd)
   (vss_one (vs_if (vb_cmp opF_gt (ve_var 2) ve_int) (vss_cons (vs_app 3 (va_cons (ve_op opF_mod (ve_callTy callF_int (by rfl) (B "int" (by decide)) bt_int (va_cons (ve_var 2) va_nil)) ve_int) va_nil))
  (vss_one (vs_asg 2 false S.nd (ve_op opF_div (ve_var 2) ve_int)))) (vss_one (vs_app 3 (va_cons (ve_call c__law_mixed hr (by decide) (by rfl) (va_cons (ve_var 0) (va_cons (ve_var 4) va_nil))) va_nil))))))
  (vss_one (vs_retM 3))))))

/-! ### _law_is_int -/
abbrev s__law_is_int : Stmt := topS 32
theorem S__law_is_int : FnScope ["value"] ["value"] (defScope s__law_is_int) := ⟨rfl, rfl, rfl, by decide +kernel, rfl, by decide +kernel, by decide +kernel⟩
def g__law_is_int : GS := (sRet (eAnd (eIsi "int" (eVar 0)) (eNot (eIsi "bool" (eVar 0)))))
def f__law_is_int : List RV → Option RV := fnG 1 1 g__law_is_int
theorem o__law_is_int (T : Tp K mg "_law_is_int" s__law_is_int) (B : ∀ x ∈ bl, mg x = none)    : Cl P w K mg base 1 "_law_is_int" f__law_is_int :=
  have S := S__law_is_int
  cl_of T S rfl rfl (by decide) (fun _ _ _ _ _ _ us hl => match us, hl with | [_], _ => rfl) fun f cdv A outer s H E hr =>
  (vss_one (vs_ret (ve_and (ve_isi "int" (ve_var 0) (by rfl) (B "isinstance" (by decide)) (by rfl) (B "int" (by decide)) bt_int) (ve_one (ve_not (ve_isi "bool" (ve_var 0) (by rfl) (B "isinstance" (by decide)) (by rfl) (B "bool" (by decide)) bt_bool))))))

/-! ### _law_like -/
abbrev s__law_like : Stmt := topS 33
theorem S__law_like : FnScope ["value", "due", "k"] ["value", "due"] (defScope s__law_like) := ⟨rfl, rfl, rfl, by decide +kernel, rfl, by decide +kernel, by decide +kernel⟩
def g__law_like_1 (self : List RV → Option RV) : GS := (sRet (eA (one (boolsG allL)) (aCons (eLc [2] (.nm 2) (aS rng1G (aCons (eA (one lenG) (aCons (eVar 1) aNil)) aNil)) bYes (eA self (aCons (e2 ixG (eVar 0) (eVar 2)) (aCons (e2 ixG (eVar 1) (eVar 2)) aNil)))) aNil)))
def g__law_like_2 (self : List RV → Option RV) : GS := (sSeq (sIf (eT (eIsi "tuple" (eVar 1))) (sSeq (sIf (bOr (bNot (eT (eIsi "tuple" (eVar 0)))) (eB (e2 neG (eA (one lenG) (aCons (eVar 0) aNil)) (eA (one lenG) (aCons (eVar 1) aNil))))) (sRet (eC (.bool false))) sSkip)
  (g__law_like_1 self)) sSkip)
  (sSeq (sIf (eT (eIsi "str" (eVar 1))) (sRet (eAnd (eIsi "str" (eVar 0)) (e2 eqG (eVar 0) (eVar 1)))) sSkip)
  (sRet (eAnd (eA f__law_is_int (aCons (eVar 0) aNil)) (e2 eqG (eVar 0) (eVar 1))))))
def g__law_like (self : List RV → Option RV) : GS := (sSeq (sIf (eB (e2 (isG false) (eVar 1) (eC .none))) (sRet (e2 (isG false) (eVar 0) (eC .none))) sSkip)
  (sSeq (sIf (eT (eIsi "bool" (eVar 1))) (sRet (eAnd (eIsi "bool" (eVar 0)) (e2 eqG (eVar 0) (eVar 1)))) sSkip)
  (g__law_like_2 self)))
def r__law_like : Nat → List RV → Option RV
  | 0 => fun _ => none
  | m + 1 => fnG 2 3 (g__law_like (r__law_like m))
def f__law_like : List RV → Option RV := r__law_like 6
theorem o__law_like (T : Tp K mg "_law_like" s__law_like) (B : ∀ x ∈ bl, mg x = none) (c__law_is_int : Cl P w K mg base 1 "_law_is_int" f__law_is_int)   : Cl P w K mg base 7 "_law_like" f__law_like := by
  have S := S__law_like
  have step : ∀ m : Nat, Cl P w K mg base (1 + m) "_law_like" (r__law_like m) := fun m => by
    induction m with
    | zero => exact cl_none (ps := ["value", "due"]) T (fun _ _ _ _ _ _ us hl => match us, hl with | [_, _], _ => rfl)
    | succ m c__law_like =>
      exact cl_of T S rfl rfl (by decide) (fun _ _ _ _ _ _ us hl => match us, hl with | [_, _], _ => rfl) fun f cdv A outer s H E hr =>
  (vss_cons (vs_if (vb_cmp opF_is (ve_var 1) ve_none) (vss_one (vs_ret (ve_cmp opF_is (ve_var 0) ve_none))) vss_nil)
  (vss_cons (vs_if (vb_tru (ve_isi "bool" (ve_var 1) (by rfl) (B "isinstance" (by decide)) (by rfl) (B "bool" (by decide)) bt_bool)) (vss_one (vs_ret (ve_and (ve_isi "bool" (ve_var 0) (by rfl) (B "isinstance" (by decide)) (by rfl) (B "bool" (by decide)) bt_bool) (ve_one (ve_cmp (opF_eq hr.units) (ve_var 0) (ve_var 1)))))) vss_nil)
  (vss_cons (vs_if (vb_tru (ve_isi "tuple" (ve_var 1) (by rfl) (B "isinstance" (by decide)) (by rfl) (B "tuple" (by decide)) bt_tuple)) (vss_cons (vs_if (vb_w (vw_or (vb_not (vb_tru (ve_isi "tuple" (ve_var 0) (by rfl) (B "isinstance" (by decide)) (by rfl) (B "tuple" (by decide)) bt_tuple))) (vw_one (vb_cmp (opF_ne hr.units) (ve_callB callF_len (by rfl) (B "len" (by decide)) bt_len (va_cons (ve_var 0) va_nil)) (ve_callB callF_len (by rfl) (B "len" (by decide)) bt_len (va_cons (ve_var 1) va_nil)))))) (vss_one (vs_ret ve_bool)) vss_nil)
  (vss_one (vs_ret (ve_callB (callF_all rfl) (by rfl) (B "all" (by decide)) bt_all (va_cons (ve_lc rfl S.nd (vi_range1 (by rfl) (B "range" (by decide)) (va_cons (ve_callB callF_len (by rfl) (B "len" (by decide)) bt_len (va_cons (ve_var 1) va_nil)) va_nil)) (blkOk_by (own := [("k", 2)]) (by kernel_rfl)) (by decide) (fun _ _ _ _ _ => (vg_name 2 S.nd)) (fun _ _ _ _ _ => vts_nil) (fun _ _ _ _ _ => (ve_call c__law_like hr (Nat.le_refl _) (by rfl) (va_cons (ve_ix (ve_var 0) (ve_var 2)) (va_cons (ve_ix (ve_var 1) (ve_var 2)) va_nil))))) va_nil))))) vss_nil)
  (vss_cons (vs_if (vb_tru (ve_isi "str" (ve_var 1) (by rfl) (B "isinstance" (by decide)) (by rfl) (B "str" (by decide)) bt_str)) (vss_one (vs_ret (ve_and (ve_isi "str" (ve_var 0) (by rfl) (B "isinstance" (by decide)) (by rfl) (B "str" (by decide)) bt_str) (ve_one (ve_cmp (opF_eq hr.units) (ve_var 0) (ve_var 1)))))) vss_nil)
  (vss_one (vs_ret (ve_and (ve_call c__law_is_int hr (Nat.le_trans (show 1 ≤ 1 by decide) (Nat.le_add_right 1 m)) (by rfl) (va_cons (ve_var 0) va_nil)) (ve_one (ve_cmp (opF_eq hr.units) (ve_var 0) (ve_var 1))))))))))
  exact step 6

/-! ### _law_common -/
abbrev s__law_common : Stmt := topS 34
theorem S__law_common : FnScope ["first", "second"] ["first", "second"] (defScope s__law_common) := ⟨rfl, rfl, rfl, by decide +kernel, rfl, by decide +kernel, by decide +kernel⟩
def g__law_common : GS := (sSeq (sPar [(0, false), (1, false)] (aCons (eA (one absG) (aCons (eVar 0) aNil)) (aCons (eA (one absG) (aCons (eVar 1) aNil)) aNil)))
  (sSeq (sWhile [] (eB (e2 gtG (eVar 1) (eC (.int 0))))
   (sPar [(0, false), (1, false)] (aCons (eVar 1) (aCons (e2 modG (eA (one intG) (aCons (eVar 0) aNil)) (eVar 1)) aNil))))
  (sRet (eVar 0))))
def f__law_common : List RV → Option RV := fnG 2 2 g__law_common
theorem o__law_common (T : Tp K mg "_law_common" s__law_common) (B : ∀ x ∈ bl, mg x = none)    : Cl P w K mg base 1 "_law_common" f__law_common :=
  have S := S__law_common
  cl_of T S rfl rfl (by decide) (fun _ _ _ _ _ _ us hl => match us, hl with | [_, _], _ => rfl) fun f cdv A outer s H E hr =>
  (vss_cons (vs_par2 rfl S.nd (va_cons (ve_callB callF_abs (by rfl) (B "abs" (by decide)) bt_abs (va_cons (ve_var 0) va_nil)) (va_cons (ve_callB callF_abs (by rfl) (B "abs" (by decide)) bt_abs (va_cons (ve_var 1) va_nil)) va_nil)))
  (vss_cons (vs_while [] PassesOwn.never (vb_cmp opF_gt (ve_var 1) ve_int)
   (vss_one (vs_par2 rfl S.nd (va_cons (ve_var 1) (va_cons (ve_op opF_mod (ve_callTy callF_int (by rfl) (B "int" (by decide)) bt_int (va_cons (ve_var 0) va_nil)) (ve_var 1)) va_nil)))))
  (vss_one (vs_ret (ve_var 0)))))

/-! ### _law_ratio -/
abbrev s__law_ratio : Stmt := topS 35
theorem S__law_ratio : FnScope ["a", "b", "shared"] ["a", "b"] (defScope s__law_ratio) := ⟨rfl, rfl, rfl, by decide +kernel, rfl, by decide +kernel, by decide +kernel⟩
def g__law_ratio : GS := (sSeq (sAsg 2 false (eA f__law_common (aCons (eVar 0) (aCons (eVar 1) aNil))))
  (sSeq (sIf (eB (e2 ltA (eVar 1) (eC (.int 0)))) (sAsg 2 false (eNeg (eVar 2))) sSkip)
  (sRet (eA tupG (aCons (e2 divG (eVar 0) (eVar 2)) (aCons (e2 divG (eVar 1) (eVar 2)) aNil))))))
def f__law_ratio : List RV → Option RV := fnG 2 3 g__law_ratio
theorem o__law_ratio (T : Tp K mg "_law_ratio" s__law_ratio) (B : ∀ x ∈ bl, mg x = none) (c__law_common : Cl P w K mg base 1 "_law_common" f__law_common)   : Cl P w K mg base 2 "_law_ratio" f__law_ratio :=
  have S := S__law_ratio
  cl_of T S rfl rfl (by decide) (fun _ _ _ _ _ _ us hl => match us, hl with | [_, _], _ => rfl) fun f cdv A outer s H E hr =>
  (vss_cons (vs_asg 2 false S.nd (ve_call c__law_common hr (by decide) (by rfl) (va_cons (ve_var 0) (va_cons (ve_var 1) va_nil))))
  (vss_cons (vs_if (vb_cmp (opF_ltA hr.units) (ve_var 1) ve_int) (vss_one (vs_asg 2 false S.nd (ve_neg (ve_var 2)))) vss_nil)
  (vss_one (vs_ret (ve_tup (va_cons (ve_op opF_div (ve_var 0) (ve_var 2)) (va_cons (ve_op opF_div (ve_var 1) (ve_var 2)) va_nil)))))))

/-! ### _law_tests -/
abbrev s__law_tests : Stmt := topS 36
theorem S__law_tests : FnScope ["row", "falls", "part", "more", "hours", "pressure", "warmth", "later", "warmer", "e", "low", "fall", "high", "leak", "wrong", "least", "surely", "leaky", "a", "b", "hour"] ["row"] (defScope s__law_tests) := ⟨rfl, rfl, rfl, by decide +kernel, rfl, by decide +kernel, by decide +kernel⟩
def g__law_tests_1 : GS := (sIf (bNot (eT (eA f__law_like (aCons (eA f_surely_leaky (aCons (eVar 5) (aCons (eVar 6) (aCons (eVar 7) (aCons (eVar 8) (aCons (eVar 9) (aCons (eVar 17) aNil))))))) (aCons (e2 eqG (eVar 3) (eC (.int 1))) aNil))))) (sRet (eC (.bool false))) sSkip)
def g__law_tests_2 : GS := (sSeq (sIf (bNot (eT (eA f__law_like (aCons (eA f_surely_tight (aCons (eVar 5) (aCons (eVar 6) (aCons (eVar 7) (aCons (eVar 8) (aCons (eVar 9) (aCons (eVar 16) aNil))))))) (aCons (e2 eqG (eVar 3) (eC (.int 0))) aNil))))) (sRet (eC (.bool false))) sSkip)
  g__law_tests_1)
def g__law_tests_3 : GS := (sSeq (sIf (bNot (eT (eA f__law_like (aCons (eA f_is_tight (aCons (eVar 5) (aCons (eVar 6) (aCons (eVar 7) (aCons (eVar 8) (aCons (eVar 15) aNil)))))) (aCons (e2 eqG (eVar 3) (eC (.int 0))) aNil))))) (sRet (eC (.bool false))) sSkip)
  g__law_tests_2)
def g__law_tests_4 : GS := (sSeq (sAsgT (.tp (.cons (.nm 15) (.cons (.nm 16) (.cons (.nm 17) .nil)))) (eLc [18, 19] (.tp (.cons (.nm 18) (.cons (.nm 19) .nil))) (seqS (eA tupG (aCons (eVar 11) (aCons (eVar 12) (aCons (eVar 10) aNil))))) bYes (e2 subG (eNeg (e2 divG (eNeg (eVar 18)) (eVar 19))) (eVar 3))))
  g__law_tests_3)
def g__law_tests_5 : GS := (sSeq (sIf (eB (e2 gtG (eVar 13) (eC (.int 0)))) (sAsg 4 false (e2 ixG (e2 addG (eLc [20] (.nm 20) (aS rng2G (aCons (eC (.int 1)) (aCons (eC (.int 122)) aNil))) (eB (e2 gtG (e2 mulG (eVar 13) (eVar 20)) (e2 mulG (eC (.int 4)) (eVar 14)))) (eVar 20)) (eA lstG (aCons (eC .none) aNil))) (eC (.int 0)))) sSkip)
  (sRet (eA f__law_like (aCons (eA f_hours_for (aCons (eVar 13) (aCons (eVar 14) aNil))) (aCons (eVar 4) aNil)))))
def g__law_tests_6 : GS := (sSeq (sPar [(13, false), (14, false)] (aCons (e2 modG (eA (one intG) (aCons (e2 ixG (eVar 0) (eC (.int 6))) aNil)) (eC (.int 10))) (aCons (e2 modG (eA (one intG) (aCons (e2 ixG (eVar 0) (eC (.int 7))) aNil)) (eC (.int 31))) aNil)))
  (sSeq (sAsg 4 false (eC .none))
  g__law_tests_5))
def g__law_tests_7 : GS := (sSeq (sIf (bNot (eT (eA f__law_like (aCons (eA f_tight_range (aCons (eVar 5) (aCons (eVar 6) (aCons (eVar 7) (aCons (eVar 8) (aCons (eVar 9) aNil)))))) (aCons (eA tupG (aCons (eVar 10) (aCons (eVar 12) aNil))) aNil))))) (sRet (eC (.bool false))) sSkip)
  (sSeq (sFor [3, 15, 16, 17] (.nm 3) (seqS (eA tupG (aCons (eC (.int 0)) (aCons (eC (.int 1)) aNil))))
   g__law_tests_4)
  g__law_tests_6))
def g__law_tests_8 : GS := (sSeq (sIf (bNot (eT (eA f__law_like (aCons (eA f_fallen_by (aCons (eVar 5) (aCons (eVar 6) (aCons (eVar 7) (aCons (eVar 8) aNil))))) (aCons (eVar 11) aNil))))) (sRet (eC (.bool false))) sSkip)
  g__law_tests_7)
def g__law_tests_9 : GS := (sSeq (sFor [2] (.nm 2) (seqS (eA tupG (aCons (eNeg (eVar 9)) (aCons (eC (.int 0)) (aCons (eVar 9) aNil)))))
   (sApp 1 (aCons (eA f__law_ratio (aCons (e2 subG (e2 mulG (e2 addG (eVar 5) (eVar 2)) (eVar 8)) (e2 mulG (e2 subG (eVar 7) (eVar 2)) (eVar 6))) (aCons (eVar 6) aNil))) aNil)))
  (sSeq (sPre 1 (sAsgT (.tp (.cons (.nm 10) (.cons (.nm 11) (.cons (.nm 12) .nil)))) (eVar 1)))
  g__law_tests_8))
def g__law_tests_10 : GS := (sSeq (sIf (eB (e2 eqG (e2 modG (eA (one intG) (aCons (e2 ixG (eVar 0) (eC (.int 5))) aNil)) (eC (.int 2))) (eC (.int 0)))) (sPar [(7, false), (8, false)] (aCons (eA maxA (aCons (eC (.int 0)) (aCons (e2 subG (eVar 5) (e2 modG (eA (one intG) (aCons (e2 ixG (eVar 0) (eC (.int 2))) aNil)) (eC (.int 9)))) aNil))) (aCons (eA maxA (aCons (eC (.int 1)) (aCons (e2 subG (eVar 6) (e2 modG (eA (one intG) (aCons (e2 ixG (eVar 0) (eC (.int 3))) aNil)) (eC (.int 3)))) aNil))) aNil))) sSkip)
  (sSeq (sAsg 1 true (eA lstG aNil))
  g__law_tests_9))
def g__law_tests_11 : GS := (sSeq (sPar [(8, false), (9, false)] (aCons (e2 addG (eC (.int 1)) (e2 modG (eA (one intG) (aCons (e2 ixG (eVar 0) (eC (.int 3))) aNil)) (eC (.int 60)))) (aCons (e2 modG (eA (one intG) (aCons (e2 ixG (eVar 0) (eC (.int 4))) aNil)) (eC (.int 6))) aNil)))
  g__law_tests_10)
def g__law_tests : GS := (sSeq (sPar [(5, false), (6, false), (7, false)] (aCons (e2 modG (eA (one intG) (aCons (e2 ixG (eVar 0) (eC (.int 0))) aNil)) (eC (.int 401))) (aCons (e2 addG (eC (.int 1)) (e2 modG (eA (one intG) (aCons (e2 ixG (eVar 0) (eC (.int 1))) aNil)) (eC (.int 60)))) (aCons (e2 modG (eA (one intG) (aCons (e2 ixG (eVar 0) (eC (.int 2))) aNil)) (eC (.int 401))) aNil))))
  g__law_tests_11)
def f__law_tests : List RV → Option RV := fnG 1 21 g__law_tests
theorem o__law_tests (T : Tp K mg "_law_tests" s__law_tests) (B : ∀ x ∈ bl, mg x = none) (c__law_ratio : Cl P w K mg base 2 "_law_ratio" f__law_ratio) (c__law_like : Cl P w K mg base 7 "_law_like" f__law_like) (c_fallen_by : Cl P w K mg base 4 "fallen_by" f_fallen_by) (c_tight_range : Cl P w K mg base 5 "tight_range" f_tight_range) (c_is_tight : Cl P w K mg base 5 "is_tight" f_is_tight) (c_surely_tight : Cl P w K mg base 6 "surely_tight" f_surely_tight) (c_surely_leaky : Cl P w K mg base 6 "surely_leaky" f_surely_leaky) (c_hours_for : Cl P w K mg base 1 "hours_for" f_hours_for)   : Cl P w K mg base 8 "_law_tests" f__law_tests :=
  have S := S__law_tests
  cl_of T S rfl rfl (by decide) (fun _ _ _ _ _ _ us hl => match us, hl with | [_], _ => rfl) fun f cdv A outer s H E hr =>
  (vss_cons (vs_par3 rfl S.nd (va_cons (ve_op opF_mod (ve_callTy callF_int (by rfl) (B "int" (by decide)) bt_int (va_cons (ve_ix (ve_var 0) ve_int) va_nil)) ve_int) (va_cons (ve_op opF_add ve_int (ve_op opF_mod (ve_callTy callF_int (by rfl) (B "int" (by decide)) bt_int (va_cons (ve_ix (ve_var 0) ve_int) va_nil)) ve_int)) (va_cons (ve_op opF_mod (ve_callTy callF_int (by rfl) (B "int" (by decide)) bt_int (va_cons (ve_ix (ve_var 0) ve_int) va_nil)) ve_int) va_nil))))
  (vss_cons (vs_par2 rfl S.nd (va_cons (ve_op opF_add ve_int (ve_op opF_mod (ve_callTy callF_int (by rfl) (B "int" (by decide)) bt_int (va_cons (ve_ix (ve_var 0) ve_int) va_nil)) ve_int)) (va_cons (ve_op opF_mod (ve_callTy callF_int (by rfl) (B "int" (by decide)) bt_int (va_cons (ve_ix (ve_var 0) ve_int) va_nil)) ve_int) va_nil)))
  (vss_cons (vs_if (vb_cmp (opF_eq hr.units) (ve_op opF_mod (ve_callTy callF_int (by rfl) (B "int" (by decide)) bt_int (va_cons (ve_ix (ve_var 0) ve_int) va_nil)) ve_int) ve_int) (vss_one (vs_par2 rfl S.nd (va_cons (ve_callB (callF_maxA rfl hr.units) (by rfl) (B "max" (by decide)) bt_max (va_cons ve_int (va_cons (ve_op opF_sub (ve_var 5) (ve_op opF_mod (ve_callTy callF_int (by rfl) (B "int" (by decide)) bt_int (va_cons (ve_ix (ve_var 0) ve_int) va_nil)) ve_int)) va_nil))) (va_cons (ve_callB (callF_maxA rfl hr.units) (by rfl) (B "max" (by decide)) bt_max (va_cons ve_int (va_cons (ve_op opF_sub (ve_var 6) (ve_op opF_mod (ve_callTy callF_int (by rfl) (B "int" (by decide)) bt_int (va_cons (ve_ix (ve_var 0) ve_int) va_nil)) ve_int)) va_nil))) va_nil)))) vss_nil)
  (vss_cons (vs_asg 1 true S.nd (ve_lst va_nil))
  (vss_cons (vs_for [2] PassesOwn.never rfl (vi_seq (ve_tup (va_cons (ve_neg (ve_var 9)) (va_cons ve_int (va_cons (ve_var 9) va_nil))))) (vg_name 2 S.nd)
   (vss_one (vs_app 1 (va_cons (ve_call c__law_ratio hr (by decide) (by rfl) (va_cons (ve_op opF_sub (ve_op opF_mul (ve_op opF_add (ve_var 5) (ve_var 2)) (ve_var 8)) (ve_op opF_mul (ve_op opF_sub (ve_var 7) (ve_var 2)) (ve_var 6))) (va_cons (ve_var 6) va_nil))) va_nil))))
  (vss_cons (vs_pre 1 (vs_asgT (ve_var 1) (vg_tup rfl (vgs_cons (vg_name 10 S.nd) (vgs_cons (vg_name 11 S.nd) (vgs_cons (vg_name 12 S.nd) vgs_nil))))))
  (vss_cons (vs_if (vb_not (vb_tru (ve_call c__law_like hr (by decide) (by rfl) (va_cons (ve_call c_fallen_by hr (by decide) (by rfl) (va_cons (ve_var 5) (va_cons (ve_var 6) (va_cons (ve_var 7) (va_cons (ve_var 8) va_nil))))) (va_cons (ve_var 11) va_nil))))) (vss_one (vs_ret ve_bool)) vss_nil)
  (vss_cons (vs_if (vb_not (vb_tru (ve_call c__law_like hr (by decide) (by rfl) (va_cons (ve_call c_tight_range hr (by decide) (by rfl) (va_cons (ve_var 5) (va_cons (ve_var 6) (va_cons (ve_var 7) (va_cons (ve_var 8) (va_cons (ve_var 9) va_nil)))))) (va_cons (ve_tup (va_cons (ve_var 10) (va_cons (ve_var 12) va_nil))) va_nil))))) (vss_one (vs_ret ve_bool)) vss_nil)
  (vss_cons (vs_for [3, 15, 16, 17] PassesOwn.never rfl (vi_seq (ve_tup (va_cons ve_int (va_cons ve_int va_nil)))) (vg_name 3 S.nd)
   (vss_cons (vs_asgT (ve_lc rfl S.nd (vi_seq (ve_tup (va_cons (ve_var 11) (va_cons (ve_var 12) (va_cons (ve_var 10) va_nil))))) (blkOk_by (own := [("a", 18), ("b", 19)]) (by kernel_rfl)) (by decide) (fun _ _ _ _ _ => (vg_tup rfl (vgs_cons (vg_name 18 S.nd) (vgs_cons (vg_name 19 S.nd) vgs_nil)))) (fun _ _ _ _ _ => vts_nil) (fun _ _ _ _ _ => (ve_op opF_sub (ve_neg (ve_op opF_div (ve_neg (ve_var 18)) (ve_var 19))) (ve_var 3)))) (vg_tup rfl (vgs_cons (vg_name 15 S.nd) (vgs_cons (vg_name 16 S.nd) (vgs_cons (vg_name 17 S.nd) vgs_nil)))))
  (vss_cons (vs_if (vb_not (vb_tru (ve_call c__law_like hr (by decide) (by rfl) (va_cons (ve_call c_is_tight hr (by decide) (by rfl) (va_cons (ve_var 5) (va_cons (ve_var 6) (va_cons (ve_var 7) (va_cons (ve_var 8) (va_cons (ve_var 15) va_nil)))))) (va_cons (ve_cmp (opF_eq hr.units) (ve_var 3) ve_int) va_nil))))) (vss_one (vs_ret ve_bool)) vss_nil)
  (vss_cons (vs_if (vb_not (vb_tru (ve_call c__law_like hr (by decide) (by rfl) (va_cons (ve_call c_surely_tight hr (by decide) (by rfl) (va_cons (ve_var 5) (va_cons (ve_var 6) (va_cons (ve_var 7) (va_cons (ve_var 8) (va_cons (ve_var 9) (va_cons (ve_var 16) va_nil))))))) (va_cons (ve_cmp (opF_eq hr.units) (ve_var 3) ve_int) va_nil))))) (vss_one (vs_ret ve_bool)) vss_nil)
  (vss_one (vs_if (vb_not (vb_tru (ve_call c__law_like hr (by decide) (by rfl) (va_cons (ve_call c_surely_leaky hr (by decide) (by rfl) (va_cons (ve_var 5) (va_cons (ve_var 6) (va_cons (ve_var 7) (va_cons (ve_var 8) (va_cons (ve_var 9) (va_cons (ve_var 17) va_nil))))))) (va_cons (ve_cmp (opF_eq hr.units) (ve_var 3) ve_int) va_nil))))) (vss_one (vs_ret ve_bool)) vss_nil))))))
  (vss_cons (vs_parN rfl (va_cons (ve_op opF_mod (ve_callTy callF_int (by rfl) (B "int" (by decide)) bt_int (va_cons (ve_ix (ve_var 0) ve_int) va_nil)) ve_int) (va_cons (ve_op opF_mod (ve_callTy callF_int (by rfl) (B "int" (by decide)) bt_int (va_cons (ve_ix (ve_var 0) ve_int) va_nil)) ve_int) va_nil)) (pgn_cons (pgn_name 13 S.nd) (pgn_cons (pgn_name 14 S.nd) pgn_nil)))
  (vss_cons (vs_asg 4 false S.nd ve_none)
  (vss_cons (vs_if (vb_cmp opF_gt (ve_var 13) ve_int) (vss_one (vs_asg 4 false S.nd (ve_ix (ve_op opF_add (ve_lc rfl S.nd (vi_range2 (by rfl) (B "range" (by decide)) (va_cons ve_int (va_cons ve_int va_nil))) (blkOk_by (own := [("hour", 20)]) (by kernel_rfl)) (by decide) (fun _ _ _ _ _ => (vg_name 20 S.nd)) (fun _ _ _ _ _ => (vts_one (vb_cmp opF_gt (ve_op opF_mul (ve_var 13) (ve_var 20)) (ve_op opF_mul ve_int (ve_var 14))))) (fun _ _ _ _ _ => (ve_var 20))) (ve_lst (va_cons ve_none va_nil))) ve_int))) vss_nil)
  (vss_one (vs_ret (ve_call c__law_like hr (by decide) (by rfl) (va_cons (ve_call c_hours_for hr (by decide) (by rfl) (va_cons (ve_var 13) (va_cons (ve_var 14) va_nil))) (va_cons (ve_var 4) va_nil)))))))))))))))))

/-! ### _law_sum_at -/
abbrev s__law_sum_at : Stmt := topS 37
theorem S__law_sum_at : FnScope ["houses", "y", "house"] ["houses", "y"] (defScope s__law_sum_at) := ⟨rfl, rfl, rfl, by decide +kernel, rfl, by decide +kernel, by decide +kernel⟩
def g__law_sum_at : GS := (sRet (eA (one sumG) (aCons (eLc [2] (.nm 2) (seqS (eVar 0)) bYes (eA (one absG) (aCons (e2 subG (e2 ixG (eVar 2) (eC (.int 1))) (eVar 1)) aNil))) aNil)))
def f__law_sum_at : List RV → Option RV := fnG 2 3 g__law_sum_at
theorem o__law_sum_at (T : Tp K mg "_law_sum_at" s__law_sum_at) (B : ∀ x ∈ bl, mg x = none)    : Cl P w K mg base 1 "_law_sum_at" f__law_sum_at :=
  have S := S__law_sum_at
  cl_of T S rfl rfl (by decide) (fun _ _ _ _ _ _ us hl => match us, hl with | [_, _], _ => rfl) fun f cdv A outer s H E hr =>
  (vss_one (vs_ret (ve_callB (callF_sum rfl) (by rfl) (B "sum" (by decide)) bt_sum (va_cons (ve_lc rfl S.nd (vi_seq (ve_var 0)) (blkOk_by (own := [("house", 2)]) (by kernel_rfl)) (by decide) (fun _ _ _ _ _ => (vg_name 2 S.nd)) (fun _ _ _ _ _ => vts_nil) (fun _ _ _ _ _ => (ve_callB callF_abs (by rfl) (B "abs" (by decide)) bt_abs (va_cons (ve_op opF_sub (ve_ix (ve_var 2) ve_int) (ve_var 1)) va_nil)))) va_nil))))

/-! ### _law_pair -/
abbrev s__law_pair : Stmt := topS 38
theorem S__law_pair : FnScope ["houses", "ys", "keys", "one", "two", "house"] ["houses", "ys"] (defScope s__law_pair) := ⟨rfl, rfl, rfl, by decide +kernel, rfl, by decide +kernel, by decide +kernel⟩
def g__law_pair_1 : GS := (sIf (eB (e2 leG (eVar 3) (eVar 4))) (sApp 2 (aCons (eA tupG (aCons (eA (one sumG) (aCons (eLc [5] (.nm 5) (seqS (eVar 0)) bYes (eA minA (aCons (eA (one absG) (aCons (e2 subG (e2 ixG (eVar 5) (eC (.int 1))) (eVar 3)) aNil)) (aCons (eA (one absG) (aCons (e2 subG (e2 ixG (eVar 5) (eC (.int 1))) (eVar 4)) aNil)) aNil)))) aNil)) (aCons (eA tupG (aCons (eVar 3) (aCons (eVar 4) aNil))) aNil))) aNil)) sSkip)
def g__law_pair : GS := (sSeq (sAsg 2 true (eA lstG aNil))
  (sSeq (sFor [3, 4] (.nm 3) (seqS (eVar 1))
   (sFor [4] (.nm 4) (seqS (eVar 1))
   g__law_pair_1))
  (sRet (eA minA (aCons (eVar 2) aNil)))))
def f__law_pair : List RV → Option RV := fnG 2 6 g__law_pair
theorem o__law_pair (T : Tp K mg "_law_pair" s__law_pair) (B : ∀ x ∈ bl, mg x = none)    : Cl P w K mg base 1 "_law_pair" f__law_pair :=
  have S := S__law_pair
  cl_of T S rfl rfl (by decide) (fun _ _ _ _ _ _ us hl => match us, hl with | [_, _], _ => rfl) fun f cdv A outer s H E hr =>
  (vss_cons (vs_asg 2 true S.nd (ve_lst va_nil))
  (vss_cons (vs_for [3, 4] PassesOwn.never rfl (vi_seq (ve_var 1)) (vg_name 3 S.nd)
   (vss_one (vs_for [4] PassesOwn.never rfl (vi_seq (ve_var 1)) (vg_name 4 S.nd)
   (vss_one (vs_if (vb_cmp opF_le (ve_var 3) (ve_var 4)) (vss_one (vs_app 2 (va_cons (ve_tup (va_cons (ve_callB (callF_sum rfl) (by rfl) (B "sum" (by decide)) bt_sum (va_cons (ve_lc rfl S.nd (vi_seq (ve_var 0)) (blkOk_by (own := [("house", 5)]) (by kernel_rfl)) (by decide) (fun _ _ _ _ _ => (vg_name 5 S.nd)) (fun _ _ _ _ _ => vts_nil) (fun _ _ _ _ _ => (ve_callB (callF_minA rfl hr.units) (by rfl) (B "min" (by decide)) bt_min (va_cons (ve_callB callF_abs (by rfl) (B "abs" (by decide)) bt_abs (va_cons (ve_op opF_sub (ve_ix (ve_var 5) ve_int) (ve_var 3)) va_nil)) (va_cons (ve_callB callF_abs (by rfl) (B "abs" (by decide)) bt_abs (va_cons (ve_op opF_sub (ve_ix (ve_var 5) ve_int) (ve_var 4)) va_nil)) va_nil))))) va_nil)) (va_cons (ve_tup (va_cons (ve_var 3) (va_cons (ve_var 4) va_nil))) va_nil))) va_nil))) vss_nil)))))
  (vss_one (vs_ret (ve_callB (callF_minA rfl hr.units) (by rfl) (B "min" (by decide)) bt_min (va_cons (ve_var 2) va_nil))))))

/-! ### _law_mains -/
abbrev s__law_mains : Stmt := topS 39
theorem S__law_mains : FnScope ["houses", "cost", "y", "sums", "least", "good", "length", "spot", "xs", "ys", "total", "one", "house"] ["houses", "cost", "y"] (defScope s__law_mains) := ⟨rfl, rfl, rfl, by decide +kernel, rfl, by decide +kernel, by decide +kernel⟩
def g__law_mains_1 : GS := (sIf (bNot (eT (eA f__law_like (aCons (eA f_main_cost (aCons (eVar 0) (aCons (eVar 7) (aCons (eVar 1) aNil)))) (aCons (e2 addG (eVar 6) (e2 mulG (eVar 1) (eVar 10))) aNil))))) (sRet (eC (.bool false))) sSkip)
def g__law_mains_2 : GS := (sSeq (sAsg 10 false (eA f__law_sum_at (aCons (eVar 0) (aCons (eVar 7) aNil))))
  (sSeq (sIf (bNot (eT (eA f__law_like (aCons (eA f_house_ways (aCons (eVar 0) (aCons (eVar 7) aNil))) (aCons (eVar 10) aNil))))) (sRet (eC (.bool false))) sSkip)
  g__law_mains_1))
def g__law_mains_3 : GS := (sSeq (sIf (bAnd (eB (e2 gtG (eVar 1) (eC (.int 0)))) (bNot (eT (eA f__law_like (aCons (eA f_least_main (aCons (eVar 0) (aCons (eVar 1) aNil))) (aCons (eA tupG (aCons (e2 addG (eVar 6) (e2 mulG (eVar 1) (eVar 4))) (aCons (e2 ixG (eVar 5) (eC (.int 0))) aNil))) aNil)))))) (sRet (eC (.bool false))) sSkip)
  (sRet (eA f__law_like (aCons (eA f_mains_two (aCons (eVar 0) aNil)) (aCons (eA f__law_pair (aCons (eVar 0) (aCons (eVar 9) aNil))) aNil)))))
def g__law_mains_4 : GS := (sSeq (sIf (bNot (eT (eA f__law_like (aCons (eA f_row_ends (aCons (eVar 0) aNil)) (aCons (eA tupG (aCons (eA minA (aCons (eVar 8) aNil)) (aCons (eA maxA (aCons (eVar 8) aNil)) aNil))) aNil))))) (sRet (eC (.bool false))) sSkip)
  g__law_mains_3)
def g__law_mains_5 : GS := (sSeq (sIf (bNot (eT (eA f__law_like (aCons (eA f_main_bounds (aCons (eVar 0) aNil)) (aCons (eA tupG (aCons (e2 ixG (eVar 5) (eC (.int 0))) (aCons (e2 ixG (eVar 5) (e2 subG (eA (one lenG) (aCons (eVar 5) aNil)) (eC (.int 1)))) aNil))) aNil))))) (sRet (eC (.bool false))) sSkip)
  g__law_mains_4)
def g__law_mains_6 : GS := (sSeq (sFor [7, 10] (.nm 7) (seqS (eA tupG (aCons (eVar 2) (aCons (e2 ixG (eVar 9) (eC (.int 0))) (aCons (e2 ixG (eVar 9) (e2 subG (eA (one lenG) (aCons (eVar 9) aNil)) (eC (.int 1)))) (aCons (e2 ixG (eVar 5) (eC (.int 0))) aNil))))))
   g__law_mains_2)
  (sSeq (sIf (bNot (eT (eA f__law_like (aCons (eA f_best_main (aCons (eVar 0) aNil)) (aCons (e2 ixG (eVar 5) (eC (.int 0))) aNil))))) (sRet (eC (.bool false))) sSkip)
  g__law_mains_5))
def g__law_mains_7 : GS := (sSeq (sAsg 5 false (eLc [10, 11] (.tp (.cons (.nm 10) (.cons (.nm 11) .nil))) (seqS (eVar 3)) (eB (e2 eqG (eVar 10) (eVar 4))) (eVar 11)))
  (sSeq (sAsg 6 false (e2 subG (eA maxA (aCons (eVar 8) aNil)) (eA minA (aCons (eVar 8) aNil))))
  g__law_mains_6))
def g__law_mains_8 : GS := (sSeq (sAsg 3 false (eLc [11] (.nm 11) (aS rng2G (aCons (e2 ixG (eVar 9) (eC (.int 0))) (aCons (e2 addG (e2 ixG (eVar 9) (e2 subG (eA (one lenG) (aCons (eVar 9) aNil)) (eC (.int 1)))) (eC (.int 1))) aNil))) bYes (eA tupG (aCons (eA f__law_sum_at (aCons (eVar 0) (aCons (eVar 11) aNil))) (aCons (eVar 11) aNil)))))
  (sSeq (sAsg 4 false (e2 ixG (eA minA (aCons (eVar 3) aNil)) (eC (.int 0))))
  g__law_mains_7))
def g__law_mains : GS := (sSeq (sPar [(8, false), (9, false)] (aCons (eLc [12] (.nm 12) (seqS (eVar 0)) bYes (e2 ixG (eVar 12) (eC (.int 0)))) (aCons (eU ssG (eLc [12] (.nm 12) (seqS (eVar 0)) bYes (e2 ixG (eVar 12) (eC (.int 1))))) aNil)))
  g__law_mains_8)
def f__law_mains : List RV → Option RV := fnG 3 13 g__law_mains
theorem o__law_mains (T : Tp K mg "_law_mains" s__law_mains) (B : ∀ x ∈ bl, mg x = none) (c__law_sum_at : Cl P w K mg base 1 "_law_sum_at" f__law_sum_at) (c__law_like : Cl P w K mg base 7 "_law_like" f__law_like) (c_house_ways : Cl P w K mg base 1 "house_ways" f_house_ways) (c_main_cost : Cl P w K mg base 2 "main_cost" f_main_cost) (c_best_main : Cl P w K mg base 1 "best_main" f_best_main) (c_main_bounds : Cl P w K mg base 1 "main_bounds" f_main_bounds) (c_row_ends : Cl P w K mg base 1 "row_ends" f_row_ends) (c_least_main : Cl P w K mg base 3 "least_main" f_least_main) (c__law_pair : Cl P w K mg base 1 "_law_pair" f__law_pair) (c_mains_two : Cl P w K mg base 1 "mains_two" f_mains_two)   : Cl P w K mg base 8 "_law_mains" f__law_mains :=
  have S := S__law_mains
  cl_of T S rfl rfl (by decide) (fun _ _ _ _ _ _ us hl => match us, hl with | [_, _, _], _ => rfl) fun f cdv A outer s H E hr =>
  (vss_cons (vs_par2 rfl S.nd (va_cons (ve_lc rfl S.nd (vi_seq (ve_var 0)) (blkOk_by (own := [("house", 12)]) (by kernel_rfl)) (by decide) (fun _ _ _ _ _ => (vg_name 12 S.nd)) (fun _ _ _ _ _ => vts_nil) (fun _ _ _ _ _ => (ve_ix (ve_var 12) ve_int))) (va_cons (ve_sortedSet rfl (by rfl) (B "sorted" (by decide)) (by rfl) (B "set" (by decide)) (ve_lc rfl S.nd (vi_seq (ve_var 0)) (blkOk_by (own := [("house", 12)]) (by kernel_rfl)) (by decide) (fun _ _ _ _ _ => (vg_name 12 S.nd)) (fun _ _ _ _ _ => vts_nil) (fun _ _ _ _ _ => (ve_ix (ve_var 12) ve_int)))) va_nil)))
  (vss_cons (vs_asgLc 3 false rfl S.nd (vi_range2 (by rfl) (B "range" (by decide)) (va_cons (ve_ix (ve_var 9) ve_int) (va_cons (ve_op opF_add (ve_ix (ve_var 9) (ve_op opF_sub (ve_callB callF_len (by rfl) (B "len" (by decide)) bt_len (va_cons (ve_var 9) va_nil)) ve_int)) ve_int) va_nil))) (blkOk_by (own := [("one", 11)]) (by kernel_rfl)) (by decide) (fun _ _ _ _ _ => (vg_name 11 S.nd)) (fun _ _ _ _ _ => vts_nil) (fun _ _ _ _ _ => (ve_tup (va_cons (ve_call c__law_sum_at hr (by decide) (by rfl) (va_cons (ve_var 0) (va_cons (ve_var 11) va_nil))) (va_cons (ve_var 11) va_nil)))))
  (vss_cons (vs_asg 4 false S.nd (ve_ix (ve_callB (callF_minA rfl hr.units) (by rfl) (B "min" (by decide)) bt_min (va_cons (ve_var 3) va_nil)) ve_int))
  (vss_cons (vs_asgLc 5 false rfl S.nd (vi_seq (ve_var 3)) (blkOk_by (own := [("total", 10), ("one", 11)]) (by kernel_rfl)) (by decide) (fun _ _ _ _ _ => (vg_tup rfl (vgs_cons (vg_name 10 S.nd) (vgs_cons (vg_name 11 S.nd) vgs_nil)))) (fun _ _ _ _ _ => (vts_one (vb_cmp (opF_eq hr.units) (ve_var 10) (ve_var 4)))) (fun _ _ _ _ _ => (ve_var 11)))
  (vss_cons (vs_asg 6 false S.nd (ve_op opF_sub (ve_callB (callF_maxA rfl hr.units) (by rfl) (B "max" (by decide)) bt_max (va_cons (ve_var 8) va_nil)) (ve_callB (callF_minA rfl hr.units) (by rfl) (B "min" (by decide)) bt_min (va_cons (ve_var 8) va_nil))))
  (vss_cons (vs_for [7, 10] PassesOwn.never rfl (vi_seq (ve_tup (va_cons (ve_var 2) (va_cons (ve_ix (ve_var 9) ve_int) (va_cons (ve_ix (ve_var 9) (ve_op opF_sub (ve_callB callF_len (by rfl) (B "len" (by decide)) bt_len (va_cons (ve_var 9) va_nil)) ve_int)) (va_cons (ve_ix (ve_var 5) ve_int) va_nil)))))) (vg_name 7 S.nd)
   (vss_cons (vs_asg 10 false S.nd (ve_call c__law_sum_at hr (by decide) (by rfl) (va_cons (ve_var 0) (va_cons (ve_var 7) va_nil))))
  (vss_cons (vs_if (vb_not (vb_tru (ve_call c__law_like hr (by decide) (by rfl) (va_cons (ve_call c_house_ways hr (by decide) (by rfl) (va_cons (ve_var 0) (va_cons (ve_var 7) va_nil))) (va_cons (ve_var 10) va_nil))))) (vss_one (vs_ret ve_bool)) vss_nil)
  (vss_one (vs_if (vb_not (vb_tru (ve_call c__law_like hr (by decide) (by rfl) (va_cons (ve_call c_main_cost hr (by decide) (by rfl) (va_cons (ve_var 0) (va_cons (ve_var 7) (va_cons (ve_var 1) va_nil)))) (va_cons (ve_op opF_add (ve_var 6) (ve_op opF_mul (ve_var 1) (ve_var 10))) va_nil))))) (vss_one (vs_ret ve_bool)) vss_nil)))))
  (vss_cons (vs_if (vb_not (vb_tru (ve_call c__law_like hr (by decide) (by rfl) (va_cons (ve_call c_best_main hr (by decide) (by rfl) (va_cons (ve_var 0) va_nil)) (va_cons (ve_ix (ve_var 5) ve_int) va_nil))))) (vss_one (vs_ret ve_bool)) vss_nil)
  (vss_cons (vs_if (vb_not (vb_tru (ve_call c__law_like hr (by decide) (by rfl) (va_cons (ve_call c_main_bounds hr (by decide) (by rfl) (va_cons (ve_var 0) va_nil)) (va_cons (ve_tup (va_cons (ve_ix (ve_var 5) ve_int) (va_cons (ve_ix (ve_var 5) (ve_op opF_sub (ve_callB callF_len (by rfl) (B "len" (by decide)) bt_len (va_cons (ve_var 5) va_nil)) ve_int)) va_nil))) va_nil))))) (vss_one (vs_ret ve_bool)) vss_nil)
  (vss_cons (vs_if (vb_not (vb_tru (ve_call c__law_like hr (by decide) (by rfl) (va_cons (ve_call c_row_ends hr (by decide) (by rfl) (va_cons (ve_var 0) va_nil)) (va_cons (ve_tup (va_cons (ve_callB (callF_minA rfl hr.units) (by rfl) (B "min" (by decide)) bt_min (va_cons (ve_var 8) va_nil)) (va_cons (ve_callB (callF_maxA rfl hr.units) (by rfl) (B "max" (by decide)) bt_max (va_cons (ve_var 8) va_nil)) va_nil))) va_nil))))) (vss_one (vs_ret ve_bool)) vss_nil)
  (vss_cons (vs_if (vb_w (vw_and (vb_cmp opF_gt (ve_var 1) ve_int) (vw_one (vb_not (vb_tru (ve_call c__law_like hr (by decide) (by rfl) (va_cons (ve_call c_least_main hr (by decide) (by rfl) (va_cons (ve_var 0) (va_cons (ve_var 1) va_nil))) (va_cons (ve_tup (va_cons (ve_op opF_add (ve_var 6) (ve_op opF_mul (ve_var 1) (ve_var 4))) (va_cons (ve_ix (ve_var 5) ve_int) va_nil))) va_nil)))))))) (vss_one (vs_ret ve_bool)) vss_nil)
  (vss_one (vs_ret (ve_call c__law_like hr (by decide) (by rfl) (va_cons (ve_call c_mains_two hr (by decide) (by rfl) (va_cons (ve_var 0) va_nil)) (va_cons (ve_call c__law_pair hr (by decide) (by rfl) (va_cons (ve_var 0) (va_cons (ve_var 9) va_nil))) va_nil)))))))))))))))

/-! ### _law_places -/
abbrev s__law_places : Stmt := topS 40
theorem S__law_places : FnScope ["houses", "three", "sums", "k", "point", "street", "ys", "x", "y", "house", "one"] ["houses", "three"] (defScope s__law_places) := ⟨rfl, rfl, rfl, by decide +kernel, rfl, by decide +kernel, by decide +kernel⟩
def g__law_places_1 : GS := (sApp 2 (aCons (eA tupG (aCons (eA (one sumG) (aCons (eLc [9] (.nm 9) (seqS (eVar 0)) bYes (e2 addG (eA (one absG) (aCons (e2 subG (e2 ixG (eVar 9) (eC (.int 0))) (eVar 7)) aNil)) (eA (one absG) (aCons (e2 subG (e2 ixG (eVar 9) (eC (.int 1))) (eVar 8)) aNil)))) aNil)) (aCons (eVar 3) aNil))) aNil))
def g__law_places_2 : GS := (sRet (eA f__law_like (aCons (eA f_sum_of_ways (aCons (eVar 5) (aCons (eA f_least_tree_of (aCons (eVar 5) aNil)) aNil))) (aCons (e2 subG (eA maxA (aCons (eVar 6) aNil)) (eA minA (aCons (eVar 6) aNil))) aNil))))
def g__law_places_3 : GS := (sSeq (sAsg 5 false (eA (one tupleG) (aCons (eLc [9] (.nm 9) (seqS (eVar 0)) bYes (eA tupG (aCons (e2 ixG (e2 ixG (eVar 1) (eC (.int 0))) (eC (.int 0))) (aCons (e2 ixG (eVar 9) (eC (.int 1))) aNil)))) aNil)))
  (sSeq (sAsg 6 false (eLc [9] (.nm 9) (seqS (eVar 0)) bYes (e2 ixG (eVar 9) (eC (.int 1)))))
  g__law_places_2))
def g__law_places_4 : GS := (sSeq (sIf (bNot (eT (eA f__law_like (aCons (eA f_best_point (aCons (e2 ixG (eVar 1) (eC (.int 0))) (aCons (e2 ixG (eVar 1) (eC (.int 1))) (aCons (e2 ixG (eVar 1) (eC (.int 2))) aNil)))) (aCons (eVar 4) aNil))))) (sRet (eC (.bool false))) sSkip)
  (sSeq (sIf (bNot (eT (eA f__law_like (aCons (eA f_best_main (aCons (eVar 1) aNil)) (aCons (e2 ixG (eVar 4) (eC (.int 1))) aNil))))) (sRet (eC (.bool false))) sSkip)
  g__law_places_3))
def g__law_places_5 : GS := (sSeq (sAsg 4 false (eA tupG (aCons (e2 ixG (eA (one sortG) (aCons (eLc [10] (.nm 10) (seqS (eVar 1)) bYes (e2 ixG (eVar 10) (eC (.int 0)))) aNil)) (eC (.int 1))) (aCons (e2 ixG (eA (one sortG) (aCons (eLc [10] (.nm 10) (seqS (eVar 1)) bYes (e2 ixG (eVar 10) (eC (.int 1)))) aNil)) (eC (.int 1))) aNil))))
  g__law_places_4)
def g__law_places_6 : GS := (sSeq (sFor [3, 7, 8] (.nm 3) (aS rng1G (aCons (eA (one lenG) (aCons (eVar 0) aNil)) aNil))
   (sSeq (sAsgT (.tp (.cons (.nm 7) (.cons (.nm 8) .nil))) (e2 ixG (eVar 0) (eVar 3)))
  g__law_places_1))
  (sSeq (sIf (bNot (eT (eA f__law_like (aCons (eA f_star_sum (aCons (eVar 0) aNil)) (aCons (eA minA (aCons (eVar 2) aNil)) aNil))))) (sRet (eC (.bool false))) sSkip)
  g__law_places_5))
def g__law_places : GS := (sSeq (sAsg 2 true (eA lstG aNil))
  g__law_places_6)
def f__law_places : List RV → Option RV := fnG 2 11 g__law_places
theorem o__law_places (T : Tp K mg "_law_places" s__law_places) (B : ∀ x ∈ bl, mg x = none) (c__law_like : Cl P w K mg base 7 "_law_like" f__law_like) (c_star_sum : Cl P w K mg base 2 "star_sum" f_star_sum) (c_best_point : Cl P w K mg base 1 "best_point" f_best_point) (c_best_main : Cl P w K mg base 1 "best_main" f_best_main) (c_sum_of_ways : Cl P w K mg base 2 "sum_of_ways" f_sum_of_ways) (c_least_tree_of : Cl P w K mg base 2 "least_tree_of" f_least_tree_of)   : Cl P w K mg base 8 "_law_places" f__law_places :=
  have S := S__law_places
  cl_of T S rfl rfl (by decide) (fun _ _ _ _ _ _ us hl => match us, hl with | [_, _], _ => rfl) fun f cdv A outer s H E hr =>
  (vss_cons (vs_asg 2 true S.nd (ve_lst va_nil))
  (vss_cons (vs_for [3, 7, 8] PassesOwn.never rfl (vi_range1 (by rfl) (B "range" (by decide)) (va_cons (ve_callB callF_len (by rfl) (B "len" (by decide)) bt_len (va_cons (ve_var 0) va_nil)) va_nil)) (vg_name 3 S.nd)
   (vss_cons (vs_asgT (ve_ix (ve_var 0) (ve_var 3)) (vg_tup rfl (vgs_cons (vg_name 7 S.nd) (vgs_cons (vg_name 8 S.nd) vgs_nil))))
  (vss_one (vs_app 2 (va_cons (ve_tup (va_cons (ve_callB (callF_sum rfl) (by rfl) (B "sum" (by decide)) bt_sum (va_cons (ve_lc rfl S.nd (vi_seq (ve_var 0)) (blkOk_by (own := [("house", 9)]) (by kernel_rfl)) (by decide) (fun _ _ _ _ _ => (vg_name 9 S.nd)) (fun _ _ _ _ _ => vts_nil) (fun _ _ _ _ _ => (ve_op opF_add (ve_callB callF_abs (by rfl) (B "abs" (by decide)) bt_abs (va_cons (ve_op opF_sub (ve_ix (ve_var 9) ve_int) (ve_var 7)) va_nil)) (ve_callB callF_abs (by rfl) (B "abs" (by decide)) bt_abs (va_cons (ve_op opF_sub (ve_ix (ve_var 9) ve_int) (ve_var 8)) va_nil))))) va_nil)) (va_cons (ve_var 3) va_nil))) va_nil)))))
  (vss_cons (vs_if (vb_not (vb_tru (ve_call c__law_like hr (by decide) (by rfl) (va_cons (ve_call c_star_sum hr (by decide) (by rfl) (va_cons (ve_var 0) va_nil)) (va_cons (ve_callB (callF_minA rfl hr.units) (by rfl) (B "min" (by decide)) bt_min (va_cons (ve_var 2) va_nil)) va_nil))))) (vss_one (vs_ret ve_bool)) vss_nil)
  (vss_cons (vs_asg 4 false S.nd (ve_tup (va_cons (ve_ix (ve_callB (callF_sorted hr.units) (by rfl) (B "sorted" (by decide)) bt_sorted (va_cons (ve_lc rfl S.nd (vi_seq (ve_var 1)) (blkOk_by (own := [("one", 10)]) (by kernel_rfl)) (by decide) (fun _ _ _ _ _ => (vg_name 10 S.nd)) (fun _ _ _ _ _ => vts_nil) (fun _ _ _ _ _ => (ve_ix (ve_var 10) ve_int))) va_nil)) ve_int) (va_cons (ve_ix (ve_callB (callF_sorted hr.units) (by rfl) (B "sorted" (by decide)) bt_sorted (va_cons (ve_lc rfl S.nd (vi_seq (ve_var 1)) (blkOk_by (own := [("one", 10)]) (by kernel_rfl)) (by decide) (fun _ _ _ _ _ => (vg_name 10 S.nd)) (fun _ _ _ _ _ => vts_nil) (fun _ _ _ _ _ => (ve_ix (ve_var 10) ve_int))) va_nil)) ve_int) va_nil))))
  (vss_cons (vs_if (vb_not (vb_tru (ve_call c__law_like hr (by decide) (by rfl) (va_cons (ve_call c_best_point hr (by decide) (by rfl) (va_cons (ve_ix (ve_var 1) ve_int) (va_cons (ve_ix (ve_var 1) ve_int) (va_cons (ve_ix (ve_var 1) ve_int) va_nil)))) (va_cons (ve_var 4) va_nil))))) (vss_one (vs_ret ve_bool)) vss_nil)
  (vss_cons (vs_if (vb_not (vb_tru (ve_call c__law_like hr (by decide) (by rfl) (va_cons (ve_call c_best_main hr (by decide) (by rfl) (va_cons (ve_var 1) va_nil)) (va_cons (ve_ix (ve_var 4) ve_int) va_nil))))) (vss_one (vs_ret ve_bool)) vss_nil)
  (vss_cons (vs_asg 5 false S.nd (ve_callTy callF_tuple (by rfl) (B "tuple" (by decide)) bt_tuple (va_cons (ve_lc rfl S.nd (vi_seq (ve_var 0)) (blkOk_by (own := [("house", 9)]) (by kernel_rfl)) (by decide) (fun _ _ _ _ _ => (vg_name 9 S.nd)) (fun _ _ _ _ _ => vts_nil) (fun _ _ _ _ _ => (ve_tup (va_cons (ve_ix (ve_ix (ve_var 1) ve_int) ve_int) (va_cons (ve_ix (ve_var 9) ve_int) va_nil))))) va_nil)))
  (vss_cons (vs_asgLc 6 false rfl S.nd (vi_seq (ve_var 0)) (blkOk_by (own := [("house", 9)]) (by kernel_rfl)) (by decide) (fun _ _ _ _ _ => (vg_name 9 S.nd)) (fun _ _ _ _ _ => vts_nil) (fun _ _ _ _ _ => (ve_ix (ve_var 9) ve_int)))
  (vss_one (vs_ret (ve_call c__law_like hr (by decide) (by rfl) (va_cons (ve_call c_sum_of_ways hr (by decide) (by rfl) (va_cons (ve_var 5) (va_cons (ve_call c_least_tree_of hr (by decide) (by rfl) (va_cons (ve_var 5) va_nil)) va_nil))) (va_cons (ve_op opF_sub (ve_callB (callF_maxA rfl hr.units) (by rfl) (B "max" (by decide)) bt_max (va_cons (ve_var 6) va_nil)) (ve_callB (callF_minA rfl hr.units) (by rfl) (B "min" (by decide)) bt_min (va_cons (ve_var 6) va_nil))) va_nil)))))))))))))

/-! ### law -/
abbrev s_law : Stmt := topS 41
theorem S_law : FnScope ["script", "row", "k", "houses", "size", "places"] ["script"] (defScope s_law) := ⟨rfl, rfl, rfl, by decide +kernel, rfl, by decide +kernel, by decide +kernel⟩
def g_law_1 : GS := (sApp 5 (aCons (eA tupG (aCons (e2 subG (e2 modG (eA (one intG) (aCons (e2 ixG (eVar 1) (e2 addG (eC (.int 11)) (eVar 2))) aNil)) (e2 addG (e2 mulG (eC (.int 2)) (eVar 4)) (eC (.int 1)))) (eVar 4)) (aCons (e2 subG (e2 modG (eA (one intG) (aCons (e2 ixG (eVar 1) (e2 addG (eC (.int 26)) (eVar 2))) aNil)) (e2 addG (e2 mulG (eC (.int 2)) (eVar 4)) (eC (.int 1)))) (eVar 4)) aNil))) aNil))
def g_law_2 : GS := (sSeq (sIf (bNot (eT (eA f__law_mains (aCons (eVar 3) (aCons (e2 modG (eA (one intG) (aCons (e2 ixG (eVar 1) (eC (.int 42))) aNil)) (eC (.int 6))) (aCons (e2 subG (e2 modG (eA (one intG) (aCons (e2 ixG (eVar 1) (eC (.int 43))) aNil)) (e2 addG (e2 mulG (eC (.int 2)) (eVar 4)) (eC (.int 1)))) (eVar 4)) aNil)))))) (sRet (eC (.bool false))) sSkip)
  (sRet (eA f__law_places (aCons (eVar 3) (aCons (eA (one tupleG) (aCons (eSl (eVar 5) (oSome (eC (.int 12))) oNone) aNil)) aNil)))))
def g_law_3 : GS := (sSeq (sAsg 3 false (eA (one tupleG) (aCons (eSl (eVar 5) oNone (oSome (e2 addG (eC (.int 1)) (e2 modG (eA (one intG) (aCons (e2 ixG (eVar 1) (eC (.int 41))) aNil)) (eC (.int 12)))))) aNil)))
  g_law_2)
def g_law_4 : GS := (sSeq (sPar [(4, false), (5, true)] (aCons (e2 ixG (eA tupG (aCons (eC (.int 40)) (aCons (eC (.int 4)) aNil))) (e2 modG (eA (one intG) (aCons (e2 ixG (eVar 1) (eC (.int 10))) aNil)) (eC (.int 2)))) (aCons (eA lstG aNil) aNil)))
  (sSeq (sFor [2] (.nm 2) (aS rng1G (aCons (eC (.int 15)) aNil))
   g_law_1)
  g_law_3))
def g_law : GS := (sSeq (sAsg 1 false (eA f__law_row (aCons (eVar 0) (aCons (eC (.int 45)) aNil))))
  (sSeq (sIf (bNot (eT (eA f__law_tests (aCons (eVar 1) aNil)))) (sRet (eC (.bool false))) sSkip)
  g_law_4))
def f_law : List RV → Option RV := fnG 1 6 g_law
theorem o_law (T : Tp K mg "law" s_law) (B : ∀ x ∈ bl, mg x = none) (c__law_row : Cl P w K mg base 2 "_law_row" f__law_row) (c__law_tests : Cl P w K mg base 8 "_law_tests" f__law_tests) (c__law_mains : Cl P w K mg base 8 "_law_mains" f__law_mains) (c__law_places : Cl P w K mg base 8 "_law_places" f__law_places)   : Cl P w K mg base 9 "law" f_law :=
  have S := S_law
  cl_of T S rfl rfl (by decide) (fun _ _ _ _ _ _ us hl => match us, hl with | [_], _ => rfl) fun f cdv A outer s H E hr =>
  (vss_cons (vs_asg 1 false S.nd (ve_call c__law_row hr (by decide) (by rfl) (va_cons (ve_var 0) (va_cons ve_int va_nil))))
  (vss_cons (vs_if (vb_not (vb_tru (ve_call c__law_tests hr (by decide) (by rfl) (va_cons (ve_var 1) va_nil)))) (vss_one (vs_ret ve_bool)) vss_nil)
  (vss_cons (vs_par2 rfl S.nd (va_cons (ve_ix (ve_tup (va_cons ve_int (va_cons ve_int va_nil))) (ve_op opF_mod (ve_callTy callF_int (by rfl) (B "int" (by decide)) bt_int (va_cons (ve_ix (ve_var 1) ve_int) va_nil)) ve_int)) (va_cons (ve_lst va_nil) va_nil)))
  (vss_cons (vs_for [2] PassesOwn.never rfl (vi_range1 (by rfl) (B "range" (by decide)) (va_cons ve_int va_nil)) (vg_name 2 S.nd)
   (vss_one (vs_app 5 (va_cons (ve_tup (va_cons (ve_op opF_sub (ve_op opF_mod (ve_callTy callF_int (by rfl) (B "int" (by decide)) bt_int (va_cons (ve_ix (ve_var 1) (ve_op opF_add ve_int (ve_var 2))) va_nil)) (ve_op opF_add (ve_op opF_mul ve_int (ve_var 4)) ve_int)) (ve_var 4)) (va_cons (ve_op opF_sub (ve_op opF_mod (ve_callTy callF_int (by rfl) (B "int" (by decide)) bt_int (va_cons (ve_ix (ve_var 1) (ve_op opF_add ve_int (ve_var 2))) va_nil)) (ve_op opF_add (ve_op opF_mul ve_int (ve_var 4)) ve_int)) (ve_var 4)) va_nil))) va_nil))))
  (vss_cons (vs_asg 3 false S.nd (ve_callTy callF_tuple (by rfl) (B "tuple" (by decide)) bt_tuple (va_cons (ve_slice (ve_var 5) vo_none (vo_some (ve_op opF_add ve_int (ve_op opF_mod (ve_callTy callF_int (by rfl) (B "int" (by decide)) bt_int (va_cons (ve_ix (ve_var 1) ve_int) va_nil)) ve_int)))) va_nil)))
  (vss_cons (vs_if (vb_not (vb_tru (ve_call c__law_mains hr (by decide) (by rfl) (va_cons (ve_var 3) (va_cons (ve_op opF_mod (ve_callTy callF_int (by rfl) (B "int" (by decide)) bt_int (va_cons (ve_ix (ve_var 1) ve_int) va_nil)) ve_int) (va_cons (ve_op opF_sub (ve_op opF_mod (ve_callTy callF_int (by rfl) (B "int" (by decide)) bt_int (va_cons (ve_ix (ve_var 1) ve_int) va_nil)) (ve_op opF_add (ve_op opF_mul ve_int (ve_var 4)) ve_int)) (ve_var 4)) va_nil)))))) (vss_one (vs_ret ve_bool)) vss_nil)
  (vss_one (vs_ret (ve_call c__law_places hr (by decide) (by rfl) (va_cons (ve_var 3) (va_cons (ve_callTy callF_tuple (by rfl) (B "tuple" (by decide)) bt_tuple (va_cons (ve_slice (ve_var 5) (vo_some ve_int) vo_none) va_nil)) va_nil)))))))))))

/-! ### the law, all its defs joined -/
theorem l_law {f : Addr} {fd : FuncData} (F : Fun K "law" "law" s_law f fd) (B : ∀ x ∈ bl, mg x = none) (c__law_row : Cl P w K mg base 2 "_law_row" f__law_row) (c__law_tests : Cl P w K mg base 8 "_law_tests" f__law_tests) (c__law_mains : Cl P w K mg base 8 "_law_mains" f__law_mains) (c__law_places : Cl P w K mg base 8 "_law_places" f__law_places) : FnOk P w K mg base CX0 9 f fd ["script"] (spG K f_law) :=
  have S := S_law
  fn_ok F S rfl rfl (by decide) fun cdv A outer s H E hr =>
  (vss_cons (vs_asg 1 false S.nd (ve_call c__law_row hr (by decide) (by rfl) (va_cons (ve_var 0) (va_cons ve_int va_nil))))
  (vss_cons (vs_if (vb_not (vb_tru (ve_call c__law_tests hr (by decide) (by rfl) (va_cons (ve_var 1) va_nil)))) (vss_one (vs_ret ve_bool)) vss_nil)
  (vss_cons (vs_par2 rfl S.nd (va_cons (ve_ix (ve_tup (va_cons ve_int (va_cons ve_int va_nil))) (ve_op opF_mod (ve_callTy callF_int (by rfl) (B "int" (by decide)) bt_int (va_cons (ve_ix (ve_var 1) ve_int) va_nil)) ve_int)) (va_cons (ve_lst va_nil) va_nil)))
  (vss_cons (vs_for [2] PassesOwn.never rfl (vi_range1 (by rfl) (B "range" (by decide)) (va_cons ve_int va_nil)) (vg_name 2 S.nd)
   (vss_one (vs_app 5 (va_cons (ve_tup (va_cons (ve_op opF_sub (ve_op opF_mod (ve_callTy callF_int (by rfl) (B "int" (by decide)) bt_int (va_cons (ve_ix (ve_var 1) (ve_op opF_add ve_int (ve_var 2))) va_nil)) (ve_op opF_add (ve_op opF_mul ve_int (ve_var 4)) ve_int)) (ve_var 4)) (va_cons (ve_op opF_sub (ve_op opF_mod (ve_callTy callF_int (by rfl) (B "int" (by decide)) bt_int (va_cons (ve_ix (ve_var 1) (ve_op opF_add ve_int (ve_var 2))) va_nil)) (ve_op opF_add (ve_op opF_mul ve_int (ve_var 4)) ve_int)) (ve_var 4)) va_nil))) va_nil))))
  (vss_cons (vs_asg 3 false S.nd (ve_callTy callF_tuple (by rfl) (B "tuple" (by decide)) bt_tuple (va_cons (ve_slice (ve_var 5) vo_none (vo_some (ve_op opF_add ve_int (ve_op opF_mod (ve_callTy callF_int (by rfl) (B "int" (by decide)) bt_int (va_cons (ve_ix (ve_var 1) ve_int) va_nil)) ve_int)))) va_nil)))
  (vss_cons (vs_if (vb_not (vb_tru (ve_call c__law_mains hr (by decide) (by rfl) (va_cons (ve_var 3) (va_cons (ve_op opF_mod (ve_callTy callF_int (by rfl) (B "int" (by decide)) bt_int (va_cons (ve_ix (ve_var 1) ve_int) va_nil)) ve_int) (va_cons (ve_op opF_sub (ve_op opF_mod (ve_callTy callF_int (by rfl) (B "int" (by decide)) bt_int (va_cons (ve_ix (ve_var 1) ve_int) va_nil)) (ve_op opF_add (ve_op opF_mul ve_int (ve_var 4)) ve_int)) (ve_var 4)) va_nil)))))) (vss_one (vs_ret ve_bool)) vss_nil)
  (vss_one (vs_ret (ve_call c__law_places hr (by decide) (by rfl) (va_cons (ve_var 3) (va_cons (ve_callTy callF_tuple (by rfl) (B "tuple" (by decide)) bt_tuple (va_cons (ve_slice (ve_var 5) (vo_some ve_int) vo_none) va_nil)) va_nil)))))))))))

theorem all_ok {f : Addr} {fd : FuncData} (F : Fun K "law" "law" s_law f fd) (B : ∀ x ∈ bl, mg x = none) (t__law_mixed : Tp K mg "_law_mixed" s__law_mixed) (t__law_row : Tp K mg "_law_row" s__law_row) (t__law_common : Tp K mg "_law_common" s__law_common) (t__law_ratio : Tp K mg "_law_ratio" s__law_ratio) (t__law_is_int : Tp K mg "_law_is_int" s__law_is_int) (t__law_like : Tp K mg "_law_like" s__law_like) (t_divisor : Tp K mg "divisor" s_divisor) (t_lowest : Tp K mg "lowest" s_lowest) (t_minus : Tp K mg "minus" s_minus) (t_whole : Tp K mg "whole" s_whole) (t_times : Tp K mg "times" s_times) (t_fallen_by : Tp K mg "fallen_by" s_fallen_by) (t_tight_range : Tp K mg "tight_range" s_tight_range) (t_is_less : Tp K mg "is_less" s_is_less) (t_is_tight : Tp K mg "is_tight" s_is_tight) (t_surely_tight : Tp K mg "surely_tight" s_surely_tight) (t_surely_leaky : Tp K mg "surely_leaky" s_surely_leaky) (t_hours_for : Tp K mg "hours_for" s_hours_for) (t__law_tests : Tp K mg "_law_tests" s__law_tests) (t__law_sum_at : Tp K mg "_law_sum_at" s__law_sum_at) (t_house_ways : Tp K mg "house_ways" s_house_ways) (t_row_ends : Tp K mg "row_ends" s_row_ends) (t_main_cost : Tp K mg "main_cost" s_main_cost) (t_best_main : Tp K mg "best_main" s_best_main) (t_main_bounds : Tp K mg "main_bounds" s_main_bounds) (t_least_main : Tp K mg "least_main" s_least_main) (t__law_pair : Tp K mg "_law_pair" s__law_pair) (t_mains_two : Tp K mg "mains_two" s_mains_two) (t__law_mains : Tp K mg "_law_mains" s__law_mains) (t_way_of : Tp K mg "way_of" s_way_of) (t_star_sum : Tp K mg "star_sum" s_star_sum) (t_best_point : Tp K mg "best_point" s_best_point) (t_sum_of_ways : Tp K mg "sum_of_ways" s_sum_of_ways) (t_least_tree_of : Tp K mg "least_tree_of" s_least_tree_of) (t__law_places : Tp K mg "_law_places" s__law_places) : FnOk P w K mg base CX0 9 f fd ["script"] (spG K f_law) := by
  have c__law_mixed := o__law_mixed (P := P) (w := w) (base := base) t__law_mixed B  
  have c__law_row := o__law_row (P := P) (w := w) (base := base) t__law_row B c__law_mixed 
  have c__law_common := o__law_common (P := P) (w := w) (base := base) t__law_common B  
  have c__law_ratio := o__law_ratio (P := P) (w := w) (base := base) t__law_ratio B c__law_common 
  have c__law_is_int := o__law_is_int (P := P) (w := w) (base := base) t__law_is_int B  
  have c__law_like := o__law_like (P := P) (w := w) (base := base) t__law_like B c__law_is_int 
  have c_divisor := o_divisor (P := P) (w := w) (base := base) t_divisor B  
  have c_lowest := o_lowest (P := P) (w := w) (base := base) t_lowest B c_divisor 
  have c_minus := o_minus (P := P) (w := w) (base := base) t_minus B c_lowest 
  have c_whole := o_whole (P := P) (w := w) (base := base) t_whole B  
  have c_times := o_times (P := P) (w := w) (base := base) t_times B c_lowest 
  have c_fallen_by := o_fallen_by (P := P) (w := w) (base := base) t_fallen_by B c_minus c_whole c_times c_lowest 
  have c_tight_range := o_tight_range (P := P) (w := w) (base := base) t_tight_range B c_fallen_by 
  have c_is_less := o_is_less (P := P) (w := w) (base := base) t_is_less B  
  have c_is_tight := o_is_tight (P := P) (w := w) (base := base) t_is_tight B c_is_less c_fallen_by c_whole 
  have c_surely_tight := o_surely_tight (P := P) (w := w) (base := base) t_surely_tight B c_is_less c_tight_range c_whole 
  have c_surely_leaky := o_surely_leaky (P := P) (w := w) (base := base) t_surely_leaky B c_is_less c_tight_range c_whole 
  have c_hours_for := o_hours_for (P := P) (w := w) (base := base) t_hours_for B  
  have c__law_tests := o__law_tests (P := P) (w := w) (base := base) t__law_tests B c__law_ratio c__law_like c_fallen_by c_tight_range c_is_tight c_surely_tight c_surely_leaky c_hours_for 
  have c__law_sum_at := o__law_sum_at (P := P) (w := w) (base := base) t__law_sum_at B  
  have c_house_ways := o_house_ways (P := P) (w := w) (base := base) t_house_ways B  
  have c_row_ends := o_row_ends (P := P) (w := w) (base := base) t_row_ends B  
  have c_main_cost := o_main_cost (P := P) (w := w) (base := base) t_main_cost B c_row_ends c_house_ways 
  have c_best_main := o_best_main (P := P) (w := w) (base := base) t_best_main B  
  have c_main_bounds := o_main_bounds (P := P) (w := w) (base := base) t_main_bounds B  
  have c_least_main := o_least_main (P := P) (w := w) (base := base) t_least_main B c_best_main c_main_cost 
  have c__law_pair := o__law_pair (P := P) (w := w) (base := base) t__law_pair B  
  have c_mains_two := o_mains_two (P := P) (w := w) (base := base) t_mains_two B  
  have c__law_mains := o__law_mains (P := P) (w := w) (base := base) t__law_mains B c__law_sum_at c__law_like c_house_ways c_main_cost c_best_main c_main_bounds c_row_ends c_least_main c__law_pair c_mains_two 
  have c_way_of := o_way_of (P := P) (w := w) (base := base) t_way_of B  
  have c_star_sum := o_star_sum (P := P) (w := w) (base := base) t_star_sum B c_way_of 
  have c_best_point := o_best_point (P := P) (w := w) (base := base) t_best_point B  
  have c_sum_of_ways := o_sum_of_ways (P := P) (w := w) (base := base) t_sum_of_ways B c_way_of 
  have c_least_tree_of := o_least_tree_of (P := P) (w := w) (base := base) t_least_tree_of B c_way_of 
  have c__law_places := o__law_places (P := P) (w := w) (base := base) t__law_places B c__law_like c_star_sum c_best_point c_best_main c_sum_of_ways c_least_tree_of 
  exact l_law F B c__law_row c__law_tests c__law_mains c__law_places
end Lk46

set_option Elab.async false
set_option linter.all false
set_option maxRecDepth 100000
set_option maxHeartbeats 4000000
namespace Pl
open PySem L2
/-- a loop with a falling measure -/
theorem whileN_inv {S : Type} {c : GB} {body : GS} {ws : List Nat} (E : S → En) (μ : S → Nat) (I : S → Prop) (cond : S → Bool) (step : S → S) (hc : ∀ s, I s → c (E s) = some (cond s))
    (hb : ∀ s, I s → cond s = true → I (step s) ∧ μ (step s) < μ s ∧ ∃ e, body (E s) = some (.nx e) ∧ wipeE e ws = E (step s)) : ∀ (n : Nat) (s : S), μ s < n → I s → ∃ s', I s' ∧ cond s' = false ∧ whileN c body ws n (E s) = some (.nx (E s'))
  | 0, s, h, _ => absurd h (Nat.not_lt_zero _)
  | n + 1, s, h, i => by
    rw [whileN, hc s i]
    cases e : cond s with
    | false => exact ⟨s, i, e, by rw [bindS]; exact if_neg Bool.false_ne_true⟩
    | true =>
      obtain ⟨i', hm, e1, h1, h2⟩ := hb s i e
      obtain ⟨s', j1, j2, j3⟩ := whileN_inv E μ I cond step hc hb n (step s) (by omega) i'
      refine ⟨s', j1, j2, ?_⟩
      rw [bindS, if_pos rfl, h1, bindS, ← j3]
      show whileN c body ws n (wipeE e1 ws) = _
      rw [h2]
end Pl
namespace Lk46
open PySem PySem.Spec PyProof.Rows L2 Pl
abbrev I (i : Int) : RV := (.int i, .fz)
theorem gcd_while (m : Nat) : ∀ a b : Nat, b < m → b < 1000000 → ∃ a' : Nat, a' = Nat.gcd a b ∧ whileN (eB (e2 gtG (eVar 1) (eC (.int 0)))) (sPar [(0, false), (1, false)] (aCons (eVar 1) (aCons (e2 modG (eVar 0) (eVar 1)) aNil))) [] m [some (I a), some (I b)] = some (.nx [some (I (a' : Nat)), some (I 0)]) := by
  intro a b h1 h2
  obtain ⟨⟨a', b'⟩, ⟨j1, _⟩, j2, j3⟩ := whileN_inv (S := Nat × Nat) (c := eB (e2 gtG (eVar 1) (eC (.int 0)))) (body := sPar [(0, false), (1, false)] (aCons (eVar 1) (aCons (e2 modG (eVar 0) (eVar 1)) aNil))) (ws := []) (fun s => [some (I s.1), some (I s.2)]) (fun s => s.2) (fun s => Nat.gcd s.1 s.2 = Nat.gcd a b ∧ s.2 < 1000000) (fun s => decide (0 < s.2)) (fun s => (s.2, s.1 % s.2))
    (fun s i => by simp) (fun s i hc => by
      have hp : 0 < s.2 := of_decide_eq_true hc
      have hm := Nat.mod_lt s.1 hp
      refine ⟨⟨?_, by show s.1 % s.2 < _; omega⟩, hm, _, by simp [mod_n (j := (s.2 : Int)) (by omega)]; rfl, ?_⟩
      · show Nat.gcd s.2 (s.1 % s.2) = _
        rw [← i.1, Nat.gcd_comm s.1 s.2, Nat.gcd_rec s.2 s.1, Nat.gcd_comm]
      · simp [Int.fmod_eq_emod_of_nonneg]) m (a, b) h1 ⟨rfl, h2⟩
  have hb : b' = 0 := by have := of_decide_eq_false j2; simp at this; exact this
  subst hb
  exact ⟨a', by rw [← j1]; simp, by simpa using j3⟩
theorem gcd_while2 (m : Nat) : ∀ a b : Nat, b < m → b < 1000000 → ∃ a' : Nat, a' = Nat.gcd a b ∧ whileN (eB (e2 gtG (eVar 1) (eC (.int 0)))) (sPar [(0, false), (1, false)] (aCons (eVar 1) (aCons (e2 modG (eA (one intG) (aCons (eVar 0) aNil)) (eVar 1)) aNil))) [] m [some (I a), some (I b)] = some (.nx [some (I (a' : Nat)), some (I 0)]) := by
  intro a b h1 h2
  obtain ⟨⟨a', b'⟩, ⟨j1, _⟩, j2, j3⟩ := whileN_inv (S := Nat × Nat) (c := eB (e2 gtG (eVar 1) (eC (.int 0)))) (body := sPar [(0, false), (1, false)] (aCons (eVar 1) (aCons (e2 modG (eA (one intG) (aCons (eVar 0) aNil)) (eVar 1)) aNil))) (ws := []) (fun s => [some (I s.1), some (I s.2)]) (fun s => s.2) (fun s => Nat.gcd s.1 s.2 = Nat.gcd a b ∧ s.2 < 1000000) (fun s => decide (0 < s.2)) (fun s => (s.2, s.1 % s.2))
    (fun s i => by simp) (fun s i hc => by
      have hp : 0 < s.2 := of_decide_eq_true hc
      have hm := Nat.mod_lt s.1 hp
      refine ⟨⟨?_, by show s.1 % s.2 < _; omega⟩, hm, _, by simp [mod_n (j := (s.2 : Int)) (by omega)]; rfl, ?_⟩
      · show Nat.gcd s.2 (s.1 % s.2) = _
        rw [← i.1, Nat.gcd_comm s.1 s.2, Nat.gcd_rec s.2 s.1, Nat.gcd_comm]
      · simp [Int.fmod_eq_emod_of_nonneg]) m (a, b) h1 ⟨rfl, h2⟩
  have hb : b' = 0 := by have := of_decide_eq_false j2; simp at this; exact this
  subst hb
  exact ⟨a', by rw [← j1]; simp, by simpa using j3⟩
theorem b_divisor (a b : Int) (h : b.natAbs < 1000000) : f_divisor [I a, I b] = some (I (Int.gcd a b : Nat)) := by
  obtain ⟨g, rfl, hg⟩ := gcd_while fuel a.natAbs b.natAbs (by unfold fuel; omega) h
  unfold f_divisor
  rw [fnG_ev (by rfl)]
  simp only [Int.gcd_eq_natAbs_gcd_natAbs]
  generalize a.natAbs.gcd b.natAbs = g at *
  simp [g_divisor, sSeq_ev, abs_i, sWhile, hg]
theorem b_common (a b : Int) (h : b.natAbs < 1000000) : f__law_common [I a, I b] = some (I (Int.gcd a b : Nat)) := by
  obtain ⟨g, rfl, hg⟩ := gcd_while2 fuel a.natAbs b.natAbs (by unfold fuel; omega) h
  unfold f__law_common
  rw [fnG_ev (by rfl)]
  simp only [Int.gcd_eq_natAbs_gcd_natAbs]
  generalize a.natAbs.gcd b.natAbs = g at *
  simp [g__law_common, sSeq_ev, abs_i, sWhile, hg]
theorem le_mulP {g z : Int} (h : 0 < g) (hz : 0 < z) : z ≤ g * z := by
  have := Int.mul_le_mul_of_nonneg_right (show 1 ≤ g by omega) (show 0 ≤ z by omega)
  omega
theorem pos_mulP {g z : Int} (h : 0 < g * z) (hg : 0 < g) : 0 < z := Int.lt_of_mul_lt_mul_left (a := g) (by omega) (by omega)
theorem mul_small {x y : Int} (h1 : 0 < x) (h2 : x < 1000) (h3 : 0 < y) (h4 : y < 1000) : x * y < 1000000 := by
  have := Int.mul_le_mul (show x ≤ 999 by omega) (show y ≤ 999 by omega) (by omega) (by omega)
  omega
/-- lowest terms -/
def low (a b : Int) : Int × Int := (a / (Int.gcd a b : Nat), b / (Int.gcd a b : Nat))
abbrev eP (p : Int × Int) : D := .tuple [.int p.1, .int p.2]
theorem gcd_pos {a b : Int} (h : 0 < b) : 0 < Int.gcd a b := Int.gcd_pos_of_ne_zero_right _ (by omega)
theorem gcd_le {a b : Int} (h : 0 < b) : (Int.gcd a b : Int) ≤ b := Int.le_of_dvd h (Int.gcd_dvd_right ..)
theorem low_spec {a b : Int} (h : 0 < b) : ∃ g : Int, 0 < g ∧ a = g * (low a b).1 ∧ b = g * (low a b).2 :=
  ⟨Int.gcd a b, by have := gcd_pos (a := a) h; omega, (Int.mul_ediv_cancel' (Int.gcd_dvd_left ..)).symm, (Int.mul_ediv_cancel' (Int.gcd_dvd_right ..)).symm⟩
theorem low_pos {a b : Int} (h : 0 < b) : 0 < (low a b).2 := by
  obtain ⟨g, h1, _, h2⟩ := low_spec (a := a) h
  rw [h2] at h
  exact pos_mulP h h1
theorem low_le {a b : Int} (h : 0 < b) : (low a b).2 ≤ b := by
  obtain ⟨g, h1, _, h2⟩ := low_spec (a := a) h
  have := low_pos (a := a) h
  generalize (low a b).2 = z at *
  subst h2
  exact le_mulP h1 this
theorem low_scale {k a b : Int} (h : 0 < k) (hb : 0 < b) : low (k * a) (k * b) = low a b := by
  have hg := gcd_pos (a := a) hb
  have e : (Int.gcd (k * a) (k * b) : Int) = k * (Int.gcd a b : Nat) := by
    rw [Int.gcd_mul_left, Int.natCast_mul]
    congr 1
    omega
  unfold low
  rw [e, Int.mul_ediv_mul_of_pos _ _ h, Int.mul_ediv_mul_of_pos _ _ h]
theorem fdiv_gcd {a b c : Int} (h : 0 < b) : c.fdiv (Int.gcd a b : Nat) = c / (Int.gcd a b : Nat) := Int.fdiv_eq_ediv_of_nonneg _ (by omega)
theorem b_lowest (a b : Int) (h : 0 < b) (h2 : b < 1000000) : f_lowest [I a, I b] = some (eP (low a b), .fz) := by
  have hg := gcd_pos (a := a) h
  have hl := gcd_le (a := a) h
  unfold f_lowest
  rw [fnG_ev (by rfl)]
  simp [g_lowest, sSeq_ev, h, b_divisor a b (by omega), div_n (j := (Int.gcd a b : Int)) (by omega), fdiv_gcd h, low]
theorem b_ratio (a b : Int) (h : 0 < b) (h2 : b < 1000000) : f__law_ratio [I a, I b] = some (eP (low a b), .fz) := by
  have hg := gcd_pos (a := a) h
  have hl := gcd_le (a := a) h
  unfold f__law_ratio
  rw [fnG_ev (by rfl)]
  simp [g__law_ratio, sSeq_ev, show ¬ b < 0 by omega, b_common a b (by omega), div_n (j := (Int.gcd a b : Int)) (by omega), fdiv_gcd h, low]
theorem b_minus (p q : Int × Int) (h1 : 0 < p.2) (h2 : p.2 < 1000) (h3 : 0 < q.2) (h4 : q.2 < 1000) : f_minus [(eP p, .fz), (eP q, .fz)] = some (eP (low (p.1 * q.2 - q.1 * p.2) (p.2 * q.2)), .fz) := by
  have := Int.mul_pos h1 h3
  have hs := mul_small h1 h2 h3 h4
  unfold f_minus
  rw [fnG_ev (by rfl)]
  simp [g_minus, mul_r (i := p.1) (j := q.2) (by omega), mul_r (i := q.1) (j := p.2) (by omega), mul_r (i := p.2) (j := q.2) (by omega), b_lowest _ _ this hs]
theorem b_times (p q : Int × Int) (h1 : 0 < p.2) (h2 : p.2 < 1000) (h3 : 0 < q.2) (h4 : q.2 < 1000) (h5 : -100000 < q.1 ∧ q.1 < 100000) : f_times [(eP p, .fz), (eP q, .fz)] = some (eP (low (p.1 * q.1) (p.2 * q.2)), .fz) := by
  have := Int.mul_pos h1 h3
  have hs := mul_small h1 h2 h3 h4
  unfold f_times
  rw [fnG_ev (by rfl)]
  simp [g_times, mul_r (i := p.1) (j := q.1) (by omega), mul_r (i := p.2) (j := q.2) (by omega), b_lowest _ _ this hs]
theorem b_whole (a : Int) : f_whole [I a] = some (eP (a, 1), .fz) := by
  unfold f_whole
  rw [fnG_ev (by rfl)]
  simp [g_whole]
theorem b_is_less (p q : Int × Int) (h1 : 0 < p.2) (h2 : p.2 < 1000) (h3 : 0 < q.2) (h4 : q.2 < 1000) : f_is_less [(eP p, .fz), (eP q, .fz)] = some (.bool (decide (p.1 * q.2 < q.1 * p.2)), .fz) := by
  unfold f_is_less
  rw [fnG_ev (by rfl)]
  simp [g_is_less, mul_r (i := p.1) (j := q.2) (by omega), mul_r (i := q.1) (j := p.2) (by omega)]
/-- what a fall is -/
def fall (p w l m : Int) : Int × Int := low (p * m - l * w) w
theorem fall_eq {p w l m : Int} (hw : 0 < w) : low ((low (p * (low m w).1) (low m w).2).1 * 1 - l * (low (p * (low m w).1) (low m w).2).2) ((low (p * (low m w).1) (low m w).2).2 * 1) = fall p w l m := by
  obtain ⟨g, g1, g2, g3⟩ := low_spec (a := m) hw
  have h0 := low_pos (a := m) hw
  generalize low m w = q at *
  obtain ⟨h, h1, h2, h3⟩ := low_spec (a := p * q.1) h0
  have h4 := low_pos (a := p * q.1) h0
  generalize low (p * q.1) q.2 = r at *
  rw [Int.mul_one, Int.mul_one, ← low_scale h1 h4, Int.mul_sub, ← h2, ← h3, ← low_scale g1 h0, ← g3]
  unfold fall
  congr 1
  rw [Int.mul_sub, Int.mul_left_comm h l r.2, ← h3, Int.mul_left_comm g p q.1, ← g2, Int.mul_left_comm g l q.2, ← g3]
theorem b_fallen (p w l m : Int) (hw : 0 < w) (hw2 : w ≤ 60) (hm : 0 < m) (hm2 : m ≤ 60) : f_fallen_by [I p, I w, I l, I m] = some (eP (fall p w l m), .fz) := by
  have h0 := low_pos (a := m) hw
  have h1 := low_le (a := m) hw
  have h2 := low_pos (a := p * (low m w).1) h0
  have h3 := low_le (a := p * (low m w).1) h0
  have h4 : -100000 < (low m w).1 ∧ (low m w).1 < 100000 := by
    obtain ⟨g, g1, g2, g3⟩ := low_spec (a := m) hw
    have hz : 0 < (low m w).1 := pos_mulP (by omega) g1
    have := le_mulP g1 hz
    omega
  unfold f_fallen_by
  rw [fnG_ev (by rfl)]
  have e1 := b_times (p, 1) (low m w) (by simp) (by simp) h0 (by omega) h4
  have e2 := b_minus (low (p * (low m w).1) (low m w).2) (l, 1) h2 (by omega) (by simp) (by simp)
  simp only [Int.one_mul] at e1
  simp [g_fallen_by, b_whole, b_lowest m w hw (by omega), e1, e2]
  have e3 := fall_eq (p := p) (l := l) (m := m) hw
  simp only [Int.mul_one] at e3
  rw [e3]; exact ⟨rfl, rfl⟩
end Lk46

set_option Elab.async false
set_option linter.all false
set_option maxRecDepth 100000
set_option maxHeartbeats 4000000
namespace Lk46
open PySem PySem.Spec PyProof.Rows L2 Pl
theorem fall_pos {p w l m : Int} (hw : 0 < w) : 0 < (fall p w l m).2 := low_pos hw
theorem fall_le {p w l m : Int} (hw : 0 < w) : (fall p w l m).2 ≤ w := low_le hw
section
variable {p w l m : Int} (hw : 0 < w) (hw2 : w ≤ 60) (hm : 0 < m) (hm2 : m ≤ 60)
include hw hw2 hm hm2
theorem b_is_tight (c : Int) : f_is_tight [I p, I w, I l, I m, I c] = some (.bool (!decide (c * (fall p w l m).2 < (fall p w l m).1)), .fz) := by
  have h1 := fall_pos (p := p) (l := l) (m := m) hw
  have h2 := fall_le (p := p) (l := l) (m := m) hw
  have e := b_is_less (c, 1) (fall p w l m) (by simp) (by simp) h1 (by omega)
  simp only [Int.mul_one] at e
  unfold f_is_tight
  rw [fnG_ev (by rfl)]
  simp [g_is_tight, b_whole, b_fallen p w l m hw hw2 hm hm2, e]
theorem b_tight_range (e : Int) : f_tight_range [I p, I w, I l, I m, I e] = some (.tuple [eP (fall (p - e) w (l + e) m), eP (fall (p + e) w (l - e) m)], .fz) := by
  unfold f_tight_range
  rw [fnG_ev (by rfl)]
  simp [g_tight_range, sSeq_ev, b_fallen _ w _ m hw hw2 hm hm2]
theorem b_surely_tight (e c : Int) : f_surely_tight [I p, I w, I l, I m, I e, I c] = some (.bool (!decide (c * (fall (p + e) w (l - e) m).2 < (fall (p + e) w (l - e) m).1)), .fz) := by
  have h1 := fall_pos (p := p + e) (l := l - e) (m := m) hw
  have h2 := fall_le (p := p + e) (l := l - e) (m := m) hw
  have e1 := b_is_less (c, 1) (fall (p + e) w (l - e) m) (by simp) (by simp) h1 (by omega)
  simp only [Int.mul_one] at e1
  unfold f_surely_tight
  rw [fnG_ev (by rfl)]
  simp [g_surely_tight, b_whole, b_tight_range hw hw2 hm hm2, e1]
theorem b_surely_leaky (e c : Int) : f_surely_leaky [I p, I w, I l, I m, I e, I c] = some (.bool (decide (c * (fall (p - e) w (l + e) m).2 < (fall (p - e) w (l + e) m).1)), .fz) := by
  have h1 := fall_pos (p := p - e) (l := l + e) (m := m) hw
  have h2 := fall_le (p := p - e) (l := l + e) (m := m) hw
  have e1 := b_is_less (c, 1) (fall (p - e) w (l + e) m) (by simp) (by simp) h1 (by omega)
  simp only [Int.mul_one] at e1
  unfold f_surely_leaky
  rw [fnG_ev (by rfl)]
  simp [g_surely_leaky, b_whole, b_tight_range hw hw2 hm hm2, e1]
end
theorem b_hours_for (l e : Int) (h1 : 0 ≤ l) (h2 : l < 10) : f_hours_for [I l, I e] = some (if l = 0 then .none else .int ((4 * e).fdiv l + 1), .fz) := by
  unfold f_hours_for
  rw [fnG_ev (by rfl)]
  by_cases h : l = 0
  · simp [g_hours_for, h]
  · simp [g_hours_for, h, mul_l (i := 2) (by omega), div_n (j := l) (by omega)]
    rw [show (2 : Int) * (2 * e) = 4 * e by omega]
/-! _law_like -/
theorem like_eq (d : D) (h : plD 5 d = true) : f__law_like [(d, .fz), (d, .fz)] = some (.bool true, .fz) := by
  have e : ∀ m, r__law_like m = q_r (fun s => q_like s (fnG 1 1 q_isint)) m := fun m => by
    induction m with
    | zero => rfl
    | succ m ih => show fnG 2 3 (g__law_like (r__law_like m)) = fnG 2 3 _; rw [ih]; rfl
  show r__law_like 6 _ = _
  rw [e]
  exact like_same 5 d h
theorem like_i (i : Int) : f__law_like [(.int i, .fz), (.int i, .fz)] = some (.bool true, .fz) := like_eq _ rfl
theorem like_b (i : Bool) : f__law_like [(.bool i, .fz), (.bool i, .fz)] = some (.bool true, .fz) := like_eq _ rfl
theorem like_p (p : Int × Int) : f__law_like [(eP p, .fz), (eP p, .fz)] = some (.bool true, .fz) := like_eq _ rfl
theorem like_ix (a b : Int) : f__law_like [(.tuple [.int a, .int b], .fz), (.tuple [.int a, .int b], .fz)] = some (.bool true, .fz) := like_eq _ rfl
theorem row_law (ns : List Int) (m : Nat) (hm : m ≤ 1000) : ∃ row : List Int, row.length = m ∧ f__law_row [(.list (ns.map .int), .sc), I (m : Nat)] = some (.list (row.map .int), .ow) :=
  row_ok (mixed := f__law_mixed) hm fun k => by
    obtain ⟨z, _, _, h⟩ := mixed_ok ns k
    exact ⟨z, h⟩
/-! the tests -/
theorem ceil_up {a b c : Int} (hb : 0 < b) : a ≤ -((-a).fdiv b) * b := by
  have := Int.mul_fdiv_add_fmod (-a) b
  have h := fmod_in (-a) hb
  rw [Int.neg_mul, Int.mul_comm]
  omega
theorem ceil_dn {a b : Int} (hb : 0 < b) : (-((-a).fdiv b) - 1) * b < a := by
  have := Int.mul_fdiv_add_fmod (-a) b
  have h := fmod_in (-a) hb
  rw [Int.sub_mul, Int.neg_mul, Int.mul_comm ((-a).fdiv b) b]
  omega
@[simp] theorem maxA_i {i j : Int} {f f' : Fl} : maxA [(.int i, f), (.int j, f')] = some (.int (maxI i j), .fz) := (rfl)
@[simp] theorem minA_i {i j : Int} {f f' : Fl} : minA [(.int i, f), (.int j, f')] = some (.int (minI i j), .fz) := (rfl)
theorem first_over {l c : Int} {n : Nat} (h1 : 0 < l) (h3 : 0 ≤ c) (h4 : c.fdiv l < n) : ∃ ys, (List.range n).filterMap (fun i : Nat => if c < l * (1 + (i : Int)) then some (1 + (i : Int)) else none) = (c.fdiv l + 1) :: ys := by
  have hd := Int.mul_fdiv_add_fmod c l
  have hm := fmod_in c h1
  have h0 : 0 ≤ c.fdiv l := Int.fdiv_nonneg h3 (by omega)
  obtain ⟨k, hk⟩ := Int.eq_ofNat_of_zero_le h0
  rw [hk] at hd h4 h0 ⊢
  obtain ⟨b, hb⟩ : ∃ b, n = k + (b + 1) := ⟨n - k - 1, by omega⟩
  rw [hb, List.range_add, List.filterMap_append, List.range_succ_eq_map, List.map_cons, List.filterMap_cons]
  have hz : (List.range k).filterMap (fun i : Nat => if c < l * (1 + (i : Int)) then some (1 + (i : Int)) else none) = [] := by
    rw [List.filterMap_eq_nil_iff]
    intro i hi
    have hi := List.mem_range.mp hi
    have := Int.mul_le_mul_of_nonneg_left (show (1 + (i : Int)) ≤ k by omega) (show 0 ≤ l by omega)
    exact if_neg (by omega)
  rw [hz]
  have hc : c < l * (1 + ((k + 0 : Nat) : Int)) := by
    rw [Int.mul_add]
    simp only [Nat.add_zero, Int.mul_one]
    omega
  simp only [if_pos hc]
  exact ⟨_, by rw [List.nil_append]; congr 1; omega⟩
theorem b_tests5 {ds : List D} {l e : Int} (h1 : 0 ≤ l) (h2 : l < 10) (h3 : 0 ≤ e) (h4 : e < 31) (s0 s1 s2 s3 s5 s6 s7 s8 s9 s10 s11 s12 s15 s16 s17 s18 s19 s20 : Slot) :
   (g__law_tests_5 [s0, s1, s2, s3, some (.none, .fz), s5, s6, s7, s8, s9, s10, s11, s12, some (I l), some (I e), s15, s16, s17, s18, s19, s20]) = some (.rt (.bool true, .fz)) := by
  have hh := b_hours_for l e h1 h2
  by_cases hl : l = 0
  · subst hl
    have : f__law_like [(.none, .fz), (.none, .fz)] = some (.bool true, .fz) := like_eq _ rfl
    simp [g__law_tests_5, sSeq_ev, hh, this]
  · obtain ⟨ys, hy⟩ := first_over (l := l) (c := 4 * e) (n := 121) (by omega) (by omega) (by
      have hd := Int.mul_fdiv_add_fmod (4 * e) l
      have hm := fmod_in (4 * e) (show 0 < l by omega)
      by_cases hc : (4 * e).fdiv l < (121 : Nat)
      · exact hc
      · have := Int.mul_le_mul_of_nonneg_right (show 1 ≤ l by omega) (show 0 ≤ (4 * e).fdiv l by omega)
        omega)
    have loop := lcGo_map (f := lcF [20] (.nm 20) (eB (e2 gtG (e2 mulG (eVar 13) (eVar 20)) (e2 mulG (eC (.int 4)) (eVar 14)))) (eVar 20) [s0, s1, s2, s3, some (.none, .fz), s5, s6, s7, s8, s9, s10, s11, s12, some (I l), some (I e), s15, s16, s17, s18, s19, s20]) (fun i : Nat => PyData.int (1 + (i : Int))) PyData.int (fun i : Nat => if 4 * e < l * (1 + (i : Int)) then some (1 + (i : Int)) else none) (List.range 121) (by
      intro i _
      by_cases hc : 4 * e < l * (1 + (i : Int))
      · simp [mul_l (i := l) (by omega), mul_l (i := 4) (by omega), hc]
      · simp [mul_l (i := l) (by omega), mul_l (i := 4) (by omega), hc])
    rw [hy] at loop
    have hr := rng2_ev (i := 1) (j := 122) (f := .fz) (f' := .fz) (by omega) (by omega) (by omega) (by omega) (by omega)
    have hr' : rngL 1 (122 - 1 : Int).toNat = (List.range 121).map (fun i : Nat => PyData.int (1 + (i : Int))) := rfl
    rw [hr'] at hr
    have lk := like_i ((4 * e).fdiv l + 1)
    simp only [hl, if_false] at hh
    have hadd : ∀ xs : List D, addG (.list xs, .ow) (.list [.none], .ow) = if xs.length + 1 ≤ 16777216 then some (.list (xs ++ [.none]), .ow) else none := fun xs => by
      simp [addG, isSc]
    have hlen : ys.length ≤ 121 := by
      have := congrArg List.length hy
      have h5 := List.length_filterMap_le (fun i : Nat => if 4 * e < l * (1 + (i : Int)) then some (1 + (i : Int)) else none) (List.range 121)
      rw [this] at h5
      simp at h5
      omega
    simp [g__law_tests_5, sSeq_ev, show 0 < l by omega, eLc_ev, hr, loop, hadd, lstG, hh, lk, show ys.length ≤ 16777214 by omega]
theorem b_tests6 {ds : List D} {r6 r7 : Int} (h6 : ds[6]? = some (.int r6)) (h7 : ds[7]? = some (.int r7)) (s1 s2 s3 s4 s5 s6 s7 s8 s9 s10 s11 s12 s13 s14 s15 s16 s17 s18 s19 s20 : Slot) :
   (g__law_tests_6 [some (.list ds, .fz), s1, s2, s3, s4, s5, s6, s7, s8, s9, s10, s11, s12, s13, s14, s15, s16, s17, s18, s19, s20]) = some (.rt (.bool true, .fz)) := by
  have m6 := fmod_in r6 (j := 10) (by omega)
  have m7 := fmod_in r7 (j := 31) (by omega)
  have := b_tests5 (ds := ds) m6.1 m6.2 m7.1 m7.2
  simp [g__law_tests_6, sSeq_ev, h6, h7, mod_n (j := 10) (by omega), mod_n (j := 31) (by omega), this]
theorem b_tests4 {ds : List D} {p w l m e k : Int} (hw : 0 < w) (hw2 : w ≤ 60) (hm : 0 < m) (hm2 : m ≤ 60) (hk : k = 0 ∨ k = 1) (s1 s2 s4 s13 s14 s15 s16 s17 s18 s19 s20 : Slot) :
   ∃ z15 z16 z17, (g__law_tests_4 [some (.list ds, .fz), s1, s2, some (I k), s4, some (I p), some (I w), some (I l), some (I m), some (I e), some (eP (fall (p - e) w (l + e) m), .fz), some (eP (fall p w l m), .fz), some (eP (fall (p + e) w (l - e) m), .fz), s13, s14, s15, s16, s17, s18, s19, s20]) = some (.nx [some (.list ds, .fz), s1, s2, some (I k), s4, some (I p), some (I w), some (I l), some (I m), some (I e), some (eP (fall (p - e) w (l + e) m), .fz), some (eP (fall p w l m), .fz), some (eP (fall (p + e) w (l - e) m), .fz), s13, s14, z15, z16, z17, s18, s19, s20]) := by
  have a1 := fall_pos (p := p) (l := l) (m := m) hw
  have a2 := fall_le (p := p) (l := l) (m := m) hw
  have b1 := fall_pos (p := p - e) (l := l + e) (m := m) hw
  have b2 := fall_le (p := p - e) (l := l + e) (m := m) hw
  have c1 := fall_pos (p := p + e) (l := l - e) (m := m) hw
  have c2 := fall_le (p := p + e) (l := l - e) (m := m) hw
  have i1 := b_is_tight (p := p) (l := l) hw hw2 hm hm2
  have i2 := b_surely_tight (p := p) (l := l) hw hw2 hm hm2 e
  have i3 := b_surely_leaky (p := p) (l := l) hw hw2 hm hm2 e
  generalize fall (p - e) w (l + e) m = x at *
  generalize fall p w l m = y at *
  generalize fall (p + e) w (l - e) m = z at *
  have y1 := ceil_up (a := y.1) a1 (c := 0)
  have y2 := ceil_dn (a := y.1) a1
  have x1 := ceil_up (a := x.1) b1 (c := 0)
  have x2 := ceil_dn (a := x.1) b1
  have z1 := ceil_up (a := z.1) c1 (c := 0)
  have z2 := ceil_dn (a := z.1) c1
  refine ⟨some (I (-((-y.1).fdiv y.2) - k)), some (I (-((-z.1).fdiv z.2) - k)), some (I (-((-x.1).fdiv x.2) - k)), ?_⟩
  have t3 := like_b true
  have t4 := like_b false
  rcases hk with rfl | rfl
  · have d1 : ¬ (-((-y.1).fdiv y.2) * y.2 < y.1) := by omega
    have d2 : ¬ (-((-z.1).fdiv z.2) * z.2 < z.1) := by omega
    have d3 : ¬ (-((-x.1).fdiv x.2) * x.2 < x.1) := by omega
    simp [g__law_tests_4, sSeq_ev, eLc_ev, lcGo, div_n (j := y.2) (by omega), div_n (j := x.2) (by omega), div_n (j := z.2) (by omega), g__law_tests_3, g__law_tests_2, g__law_tests_1, i1, i2, i3, d1, d2, d3, t3, t4]
  · simp [g__law_tests_4, sSeq_ev, eLc_ev, lcGo, div_n (j := y.2) (by omega), div_n (j := x.2) (by omega), div_n (j := z.2) (by omega), g__law_tests_3, g__law_tests_2, g__law_tests_1, i1, i2, i3, y2, x2, z2, t3, t4]
theorem b_tests7 {ds : List D} {r6 r7 p w l m e : Int} (h6 : ds[6]? = some (.int r6)) (h7 : ds[7]? = some (.int r7)) (hw : 0 < w) (hw2 : w ≤ 60) (hm : 0 < m) (hm2 : m ≤ 60) (s1 s2 s3 s4 s13 s14 s15 s16 s17 s18 s19 s20 : Slot) :
   g__law_tests_7 [some (.list ds, .fz), s1, s2, s3, s4, some (I p), some (I w), some (I l), some (I m), some (I e), some (eP (fall (p - e) w (l + e) m), .fz), some (eP (fall p w l m), .fz), some (eP (fall (p + e) w (l - e) m), .fz), s13, s14, s15, s16, s17, s18, s19, s20] = some (.rt (.bool true, .fz)) := by
  have i1 := b_tight_range (p := p) (l := l) hw hw2 hm hm2 e
  have t1 : f__law_like [(.tuple [eP (fall (p - e) w (l + e) m), eP (fall (p + e) w (l - e) m)], .fz), (.tuple [eP (fall (p - e) w (l + e) m), eP (fall (p + e) w (l - e) m)], .fz)] = some (.bool true, .fz) := like_eq _ rfl
  obtain ⟨u15, u16, u17, hu⟩ := b_tests4 (ds := ds) (p := p) (w := w) (l := l) (m := m) (e := e) (k := 0) hw hw2 hm hm2 (.inl rfl) s1 s2 s4 s13 s14 none none none s18 s19 s20
  obtain ⟨v15, v16, v17, hv⟩ := b_tests4 (ds := ds) (p := p) (w := w) (l := l) (m := m) (e := e) (k := 1) hw hw2 hm hm2 (.inr rfl) s1 s2 s4 s13 s14 none none none s18 s19 s20
  have h9 := b_tests6 h6 h7
  generalize fall (p - e) w (l + e) m = x at *
  generalize fall p w l m = y at *
  generalize fall (p + e) w (l - e) m = z at *
  simp [g__law_tests_7, sSeq_ev, i1, t1, forGo_cons, turn_nm, hu, hv, h9, forGo_nil]
theorem b_tests9 {ds : List D} {r6 r7 p w l m e : Int} (h6 : ds[6]? = some (.int r6)) (h7 : ds[7]? = some (.int r7)) (hw : 0 < w) (hw2 : w ≤ 60) (hm : 0 < m) (hm2 : m ≤ 60) (s2 s3 s4 s10 s11 s12 s13 s14 s15 s16 s17 s18 s19 s20 : Slot) :
   g__law_tests_9 [some (.list ds, .fz), some (.list [], .ow), s2, s3, s4, some (I p), some (I w), some (I l), some (I m), some (I e), s10, s11, s12, s13, s14, s15, s16, s17, s18, s19, s20] = some (.rt (.bool true, .fz)) := by
  have i1 := b_fallen p w l m hw hw2 hm hm2
  have r1 := b_ratio ((p - e) * m - (l + e) * w) w hw (by omega)
  have r2 := b_ratio (p * m - l * w) w hw (by omega)
  have r3 := b_ratio ((p + e) * m - (l - e) * w) w hw (by omega)
  have q1 : low ((p - e) * m - (l + e) * w) w = fall (p - e) w (l + e) m := rfl
  have q2 : low (p * m - l * w) w = fall p w l m := rfl
  have q3 : low ((p + e) * m - (l - e) * w) w = fall (p + e) w (l - e) m := rfl
  rw [q1] at r1
  rw [q2] at r2
  rw [q3] at r3
  have h9 := b_tests7 (p := p) (l := l) (e := e) h6 h7 hw hw2 hm hm2
  generalize fall (p - e) w (l + e) m = x at *
  generalize fall p w l m = y at *
  generalize fall (p + e) w (l - e) m = z at *
  have t1 := like_p y
  simp [g__law_tests_9, g__law_tests_8, sPre, fzS, sSeq_ev, forGo_cons, turn_nm, forGo_nil, appR_ev (ds := []), appR_ev (ds := [eP x]), appR_ev (ds := [eP x, eP y]), Int.add_neg_eq_sub, r1, r2, r3, mul_r (j := m) (by omega), mul_r (j := w) (by omega), i1, t1, h9]
theorem b_tests (row : List Int) (h : row.length = 45) : f__law_tests [(.list (row.map .int), .fz)] = some (.bool true, .fz) := by
  unfold f__law_tests
  rw [fnG_ev (by rfl)]
  have hr : ∀ k : Nat, k < 45 → ∃ z : Int, (row.map PyData.int)[k]? = some (.int z) := fun k hk => ⟨row[k], by simp [h, hk]⟩
  obtain ⟨r0, h0⟩ := hr 0 (by omega)
  obtain ⟨r1, h1⟩ := hr 1 (by omega)
  obtain ⟨r2, h2⟩ := hr 2 (by omega)
  obtain ⟨r3, h3⟩ := hr 3 (by omega)
  obtain ⟨r4, h4⟩ := hr 4 (by omega)
  obtain ⟨r5, h5⟩ := hr 5 (by omega)
  obtain ⟨r6, h6⟩ := hr 6 (by omega)
  obtain ⟨r7, h7⟩ := hr 7 (by omega)
  generalize row.map PyData.int = ds at *
  have m0 := fmod_in r0 (j := 401) (by omega)
  have m1 := fmod_in r1 (j := 60) (by omega)
  have m3 := fmod_in r3 (j := 60) (by omega)
  have m3' := fmod_in r3 (j := 3) (by omega)
  have key : ∀ p w l m e : Int, 0 < w → w ≤ 60 → 0 < m → m ≤ 60 → _ := fun p w l m e a b c d => b_tests9 (ds := ds) (p := p) (w := w) (l := l) (m := m) (e := e) h6 h7 a b c d
  have k1 := key (r0.fmod 401) (1 + r1.fmod 60) (maxI 0 (r0.fmod 401 - r2.fmod 9)) (maxI 1 (1 + r1.fmod 60 - r3.fmod 3)) (r4.fmod 6) (by omega) (by omega) (by unfold maxI; split <;> omega) (by unfold maxI; split <;> omega)
  have k2 := key (r0.fmod 401) (1 + r1.fmod 60) (r2.fmod 401) (1 + r3.fmod 60) (r4.fmod 6) (by omega) (by omega) (by omega) (by omega)
  by_cases hc : r5.fmod 2 = 0
  · simp [g__law_tests, g__law_tests_11, g__law_tests_10, sSeq_ev, h0, h1, h2, h3, h4, h5, hc, mod_n (j := 401) (by omega), mod_n (j := 60) (by omega), mod_n (j := 6) (by omega), mod_n (j := 2) (by omega), mod_n (j := 9) (by omega), mod_n (j := 3) (by omega), k1]
  · simp [g__law_tests, g__law_tests_11, g__law_tests_10, sSeq_ev, h0, h1, h2, h3, h4, h5, hc, mod_n (j := 401) (by omega), mod_n (j := 60) (by omega), mod_n (j := 6) (by omega), mod_n (j := 2) (by omega), mod_n (j := 9) (by omega), mod_n (j := 3) (by omega), k2]
end Lk46

set_option Elab.async false
set_option linter.all false
set_option maxRecDepth 100000
set_option maxHeartbeats 4000000
namespace Lk46
open PySem PySem.Spec PyProof.Rows L2 Pl
/-- sum of distances -/
def ways (ys : List Int) (y : Int) : Int := (ys.map fun h => ((h - y).natAbs : Int)).sum
abbrev Hs := List (Int × Int)
def ysOf (hs : Hs) : List Int := hs.map (·.2)
def xsOf (hs : Hs) : List Int := hs.map (·.1)
theorem b_house_ways (hs : Hs) (y : Int) : f_house_ways [(.tuple (hs.map eP), .fz), I y] = some (I (ways (ysOf hs) y)) := by
  unfold f_house_ways
  rw [fnG_ev (by rfl)]
  have loop := lcGo_tot (f := lcF [2] (.nm 2) bYes (eA (one absG) (aCons (e2 subG (e2 ixG (eVar 2) (eC (.int 1))) (eVar 1)) aNil)) [some (.tuple (hs.map eP), .fz), some (I y), none]) eP (fun h => .int ((h.2 - y).natAbs : Nat)) hs (by
    intro h _
    simp [abs_i])
  have e : hs.map (fun h => PyData.int ((h.2 - y).natAbs : Nat)) = ((ysOf hs).map fun h => ((h - y).natAbs : Int)).map .int := by
    simp [ysOf, List.map_map]
  rw [e] at loop
  simp [g_house_ways, eLc_ev, loop, sum_ints, ways, -List.map_map]
theorem b_sum_at (hs : Hs) (y : Int) : f__law_sum_at [(.tuple (hs.map eP), .fz), I y] = some (I (ways (ysOf hs) y)) := b_house_ways hs y
/-! sorted ints -/
def sortI (ns : List Int) : List Int := ns.mergeSort fun a b => decide (a ≤ b)
theorem leD_int (a b : Int) : leD (.int a) (.int b) = decide (a ≤ b) := by
  unfold leD
  rw [PySem.W.dataLt_int]
  by_cases h : a ≤ b
  · simp [h]
  · simp [h]; omega
theorem sort_ints (ns : List Int) : (ns.map PyData.int).mergeSort leD = (sortI ns).map .int := by
  unfold sortI
  rw [List.map_mergeSort]
  intro a _ b _
  exact (leD_int a b).symm
theorem sortG_ints {ns : List Int} {f : Fl} (h : ns.length ≤ 1000) : sortG (.list (ns.map .int), f) = some (.list ((sortI ns).map .int), .ow) := by
  rw [sortG_sh (s := .i) (by decide) (by
    intro x hx
    obtain ⟨k, _, rfl⟩ := List.mem_map.mp hx; rfl) (by simp; omega), sort_ints]
theorem sortI_length (ns : List Int) : (sortI ns).length = ns.length := List.length_mergeSort ..
theorem half1 {n : Nat} (h : 0 < n) : ((n : Int) - 1).fdiv 2 = (((n - 1) / 2 : Nat) : Int) := by
  rw [Int.fdiv_eq_ediv_of_nonneg _ (by omega)]; omega
theorem half0 {n : Nat} : (n : Int).fdiv 2 = ((n / 2 : Nat) : Int) := by
  rw [Int.fdiv_eq_ediv_of_nonneg _ (by omega)]; omega
theorem lc_y (i : Nat) {own : List Nat} {e : En} (hs : Hs) (h : ∀ x : D, eVar i ((wipeE e own).set i (some (x, .fz))) = some (x, .fz)) : lcGo (lcF own (.nm i) bYes (e2 ixG (eVar i) (eC (.int 1))) e) (hs.map eP) = some ((ysOf hs).map .int) := by
  have := lcGo_tot (f := lcF own (.nm i) bYes (e2 ixG (eVar i) (eC (.int 1))) e) eP (fun p => .int p.2) hs (fun p _ => by simp [h])
  rw [this, ysOf, List.map_map]; rfl
theorem lc_x (i : Nat) {own : List Nat} {e : En} (hs : Hs) (h : ∀ x : D, eVar i ((wipeE e own).set i (some (x, .fz))) = some (x, .fz)) : lcGo (lcF own (.nm i) bYes (e2 ixG (eVar i) (eC (.int 0))) e) (hs.map eP) = some ((xsOf hs).map .int) := by
  have := lcGo_tot (f := lcF own (.nm i) bYes (e2 ixG (eVar i) (eC (.int 0))) e) eP (fun p => .int p.1) hs (fun p _ => by simp [h])
  rw [this, xsOf, List.map_map]; rfl
def med (ys : List Int) : Int := (sortI ys).getD ((ys.length - 1) / 2) 0
def medU (ys : List Int) : Int := (sortI ys).getD (ys.length / 2) 0
theorem get_ints {ns : List Int} {k : Nat} (h : k < ns.length) : (ns.map PyData.int)[k]? = some (.int (ns.getD k 0)) := by simp [h]
theorem ysOf_len (hs : Hs) : (ysOf hs).length = hs.length := by simp [ysOf]
theorem xsOf_len (hs : Hs) : (xsOf hs).length = hs.length := by simp [xsOf]
theorem b_best_main (hs : Hs) (h0 : 0 < hs.length) (h1 : hs.length ≤ 1000) : f_best_main [(.tuple (hs.map eP), .fz)] = some (I (med (ysOf hs))) := by
  unfold f_best_main
  rw [fnG_ev (by rfl)]
  have l := lc_y 1 (own := [1]) (e := [some (.tuple (hs.map eP), .fz), none]) hs (fun x => by simp)
  have g := get_ints (ns := sortI (ysOf hs)) (k := ((ysOf hs).length - 1) / 2) (by rw [sortI_length, ysOf_len]; omega)
  have hy := ysOf_len hs
  have s := sortG_ints (ns := ysOf hs) (f := .ow) (by omega)
  rw [hy] at g
  have gi : atI ((sortI (ysOf hs)).map PyData.int) (((hs.length : Int) - 1).fdiv 2) = some (.int (med (ysOf hs))) := by
    rw [half1 h0, Pl.atI_nat, g, med, hy]
  simp [g_best_main, eLc_ev, l, s, div_n (j := 2) (by omega), gi, -List.map_map]
theorem b_main_bounds (hs : Hs) (h0 : 0 < hs.length) (h1 : hs.length ≤ 1000) : f_main_bounds [(.tuple (hs.map eP), .fz)] = some (eP (med (ysOf hs), medU (ysOf hs)), .fz) := by
  unfold f_main_bounds
  rw [fnG_ev (by rfl)]
  have l := lc_y 2 (own := [2]) (e := [some (.tuple (hs.map eP), .fz), none, none]) hs (fun x => by simp)
  have hy := ysOf_len hs
  have g := get_ints (ns := sortI (ysOf hs)) (k := ((ysOf hs).length - 1) / 2) (by rw [sortI_length, hy]; omega)
  have g2 := get_ints (ns := sortI (ysOf hs)) (k := (ysOf hs).length / 2) (by rw [sortI_length, hy]; omega)
  have s := sortG_ints (ns := ysOf hs) (f := .ow) (by omega)
  have sl := sortI_length (ysOf hs)
  rw [hy] at g g2 sl
  have gi : atI ((sortI (ysOf hs)).map PyData.int) (((hs.length : Int) - 1).fdiv 2) = some (.int (med (ysOf hs))) := by
    rw [half1 h0, Pl.atI_nat, g, med, hy]
  have gj : atI ((sortI (ysOf hs)).map PyData.int) ((hs.length : Int).fdiv 2) = some (.int (medU (ysOf hs))) := by
    rw [half0, Pl.atI_nat, g2, medU, hy]
  simp [g_main_bounds, g_main_bounds_1, sSeq_ev, eLc_ev, l, s, div_n (j := 2) (by omega), gi, gj, sl, -List.map_map]
def minI' (ns : List Int) : Int := match ns with
  | [] => 0
  | n :: ns => ns.foldl min n
def maxI' (ns : List Int) : Int := match ns with
  | [] => 0
  | n :: ns => ns.foldl max n
theorem minA_l {ns : List Int} {f : Fl} (h : ns ≠ []) : minA [(.list (ns.map .int), f)] = some (I (minI' ns)) := by
  cases ns with
  | nil => exact absurd rfl h
  | cons n ns => exact minA_ints
theorem maxA_l {ns : List Int} {f : Fl} (h : ns ≠ []) : maxA [(.list (ns.map .int), f)] = some (I (maxI' ns)) := by
  cases ns with
  | nil => exact absurd rfl h
  | cons n ns => exact maxA_ints
theorem b_row_ends (hs : Hs) (h0 : 0 < hs.length) : f_row_ends [(.tuple (hs.map eP), .fz)] = some (eP (minI' (xsOf hs), maxI' (xsOf hs)), .fz) := by
  unfold f_row_ends
  rw [fnG_ev (by rfl)]
  have l := lc_x 1 (own := [1]) (e := [some (.tuple (hs.map eP), .fz), none]) hs (fun x => by simp)
  have hn : xsOf hs ≠ [] := by
    intro z
    have := xsOf_len hs
    rw [z] at this; simp at this; omega
  simp [g_row_ends, eLc_ev, l, minA_l hn, maxA_l hn, -List.map_map]
def costOf (hs : Hs) (y c : Int) : Int := maxI' (xsOf hs) - minI' (xsOf hs) + c * ways (ysOf hs) y
theorem b_main_cost (hs : Hs) (y c : Int) (h0 : 0 < hs.length) (hc : 0 ≤ c ∧ c < 6) : f_main_cost [(.tuple (hs.map eP), .fz), I y, I c] = some (I (costOf hs y c)) := by
  unfold f_main_cost
  rw [fnG_ev (by rfl)]
  simp [g_main_cost, sSeq_ev, b_row_ends hs h0, b_house_ways, mul_l (i := c) (by omega), costOf]
theorem b_least_main (hs : Hs) (c : Int) (h0 : 0 < hs.length) (h1 : hs.length ≤ 1000) (hc : 0 ≤ c ∧ c < 6) : f_least_main [(.tuple (hs.map eP), .fz), I c] = some (eP (costOf hs (med (ysOf hs)) c, med (ysOf hs)), .fz) := by
  unfold f_least_main
  rw [fnG_ev (by rfl)]
  simp [g_least_main, sSeq_ev, b_best_main hs h0 h1, b_main_cost hs _ c h0 hc]
end Lk46

set_option Elab.async false
set_option linter.all false
set_option maxRecDepth 100000
set_option maxHeartbeats 4000000
namespace Pl
open PySem L2
theorem ccat_map {α : Type} {f : D → Option (List D)} (enc : α → D) (h : α → List D) : ∀ (ys : List α), (∀ y ∈ ys, f (enc y) = some (h y)) → ccat f (ys.map enc) = some (ys.flatMap h)
  | [], _ => rfl
  | y :: ys, k => by
    rw [List.map_cons, ccat, k y List.mem_cons_self, ccat_map enc h ys fun z hz => k z (List.mem_cons_of_mem _ hz)]
    rfl
theorem eLc2_ev {own own1 : List Nat} {tg : Tg} {src : Src} {tt : GB} {tg1 : Tg} {src1 : Src} {tt1 : GB} {te : GE} {e : En} {p : List D × Bool} {ys : List D} (h : src e = some p) (h2 : ccat (lc2F own own1 tg tt src1 tg1 tt1 te e) p.1 = some ys) (h3 : ys.length ≤ 16777216) : eLc2 own own1 tg src tt tg1 src1 tt1 te e = some (.list ys, .ow) := by
  unfold eLc2
  rw [h, bindS, h2, bindS, if_pos h3]
theorem lcGo_fm {α : Type} {f : D → Option (Option D)} (enc : α → D) (g : α → Option D) (ys : List α) (h : ∀ y ∈ ys, f (enc y) = some (g y)) : lcGo f (ys.map enc) = some (ys.filterMap g) := by
  have := lcGo_map (f := f) enc id g ys fun y hy => by rw [h y hy]; simp
  simpa using this
end Pl
namespace Lk46
open PySem PySem.Spec PyProof.Rows L2 Pl
/-- the sum of ways to the nearer one -/
def near (ys : List Int) (a b : Int) : Int := (ys.map fun y => minI ((y - a).natAbs : Int) ((y - b).natAbs : Int)).sum
def keyP (ys : List Int) (a b : Int) : D := .tuple [.int (near ys a b), .tuple [.int a, .int b]]
theorem lc_near (i a b : Nat) {own : List Nat} {e : En} (hs : Hs) {p q : Int} (h : ∀ x : D, eVar i ((wipeE e own).set i (some (x, .fz))) = some (x, .fz)) (ha : ∀ x : D, eVar a ((wipeE e own).set i (some (x, .fz))) = some (I p)) (hb : ∀ x : D, eVar b ((wipeE e own).set i (some (x, .fz))) = some (I q)) :
    lcGo (lcF own (.nm i) bYes (eA minA (aCons (eA (one absG) (aCons (e2 subG (e2 ixG (eVar i) (eC (.int 1))) (eVar a)) aNil)) (aCons (eA (one absG) (aCons (e2 subG (e2 ixG (eVar i) (eC (.int 1))) (eVar b)) aNil)) aNil))) e) (hs.map eP) = some (((ysOf hs).map fun y => minI ((y - p).natAbs : Int) ((y - q).natAbs : Int)).map .int) := by
  rw [lcGo_tot (f := lcF own (.nm i) bYes (eA minA (aCons (eA (one absG) (aCons (e2 subG (e2 ixG (eVar i) (eC (.int 1))) (eVar a)) aNil)) (aCons (eA (one absG) (aCons (e2 subG (e2 ixG (eVar i) (eC (.int 1))) (eVar b)) aNil)) aNil))) e) eP (fun r => .int (minI ((r.2 - p).natAbs : Int) ((r.2 - q).natAbs : Int))) hs (fun r _ => by simp [h, ha, hb, abs_i])]
  simp [ysOf]
def keysP (ys rows : List Int) : List D := rows.flatMap fun a => rows.filterMap fun b => if a ≤ b then some (keyP ys a b) else none
theorem keys_len (ys rows : List Int) (h : rows.length ≤ 63) : (keysP ys rows).length ≤ 16777216 := by
  have : ∀ (l rows : List Int), (l.flatMap fun a => rows.filterMap fun b => if a ≤ b then some (keyP ys a b) else none).length ≤ l.length * rows.length := fun l rows => by
    induction l with
    | nil => simp
    | cons x xs ih =>
      rw [List.flatMap_cons, List.length_append, List.length_cons, Nat.succ_mul]
      have := List.length_filterMap_le (fun b => if x ≤ b then some (keyP ys x b) else none) rows
      omega
  have h2 := this rows rows
  have := Nat.mul_le_mul h h
  unfold keysP
  omega
theorem keys_sh {ys rows : List Int} : ∀ x ∈ keysP ys rows, hasSh (.t [.i, .t [.i, .i]]) x = true := by
  intro x hx
  obtain ⟨a, _, hx⟩ := List.mem_flatMap.mp hx
  obtain ⟨b, _, hx⟩ := List.mem_filterMap.mp hx
  split at hx
  · cases hx; simp [keyP, hasSh, hasShA]
  · cases hx
theorem keys_ne {ys rows : List Int} (h : rows ≠ []) : keysP ys rows ≠ [] := by
  obtain ⟨a, as, rfl⟩ := List.exists_cons_of_ne_nil h
  unfold keysP
  simp
def bestP (ys rows : List Int) : D := match keysP ys rows with
  | [] => .none
  | d :: ds => PySem.W.minD d ds
theorem minA_keys {ys rows : List Int} {f : Fl} (h : rows ≠ []) : minA [(.list (keysP ys rows), f)] = some (bestP ys rows, .fz) ∧ plD 5 (bestP ys rows) = true := by
  have h1 := keys_ne (ys := ys) h
  have h2 := keys_sh (ys := ys) (rows := rows)
  unfold bestP
  cases e : keysP ys rows with
  | nil => exact absurd e h1
  | cons d ds =>
    rw [e] at h2
    refine ⟨minA_sh (s := .t [.i, .t [.i, .i]]) (by decide) h2, ?_⟩
    have hm : hasSh (.t [.i, .t [.i, .i]]) (PySem.W.minD d ds) = true := (Pl.minD_mem d ds d).elim (fun z => by rw [z]; exact h2 d List.mem_cons_self) fun z => h2 _ (List.mem_cons_of_mem _ z)
    exact sh_pl _ 5 _ hm (by decide) (by decide)
theorem setI {ns : List Int} {f : Fl} : setInts (.list (ns.map .int), f) = some ns := by
  show intsOf (ns.map .int) = some ns
  induction ns with
  | nil => rfl
  | cons n ns ih => show (intsOf (ns.map .int)).map _ = _; rw [ih]; rfl
theorem insS_len (k : Int) : ∀ xs : List Int, (insS k xs).length ≤ xs.length + 1
  | [] => by simp [insS]
  | x :: xs => by
    unfold insS
    split
    · simp
    · split
      · simp
      · have := insS_len k xs; simp; omega
theorem ssort_len : ∀ xs : List Int, (ssort xs).length ≤ xs.length
  | [] => by simp [ssort]
  | x :: xs => by rw [ssort]; have := insS_len x (ssort xs); have := ssort_len xs; simp; omega
theorem ssort_ne {xs : List Int} (h : xs ≠ []) : ssort xs ≠ [] := by
  obtain ⟨a, as, rfl⟩ := List.exists_cons_of_ne_nil h
  intro z
  have : a ∈ ssort (a :: as) := mem_ssort.mpr List.mem_cons_self
  rw [z] at this
  cases this
theorem ssG_ints {ns : List Int} {f : Fl} (h : ns.length ≤ 63) : ssG (.list (ns.map .int), f) = some (.list ((ssort ns).map .int), .ow) := by
  unfold ssG
  have := ssort_len ns
  rw [setI, bindS, if_pos (by omega)]
theorem b_mains_two (hs : Hs) (h0 : 0 < hs.length) (h1 : hs.length ≤ 63) : f_mains_two [(.tuple (hs.map eP), .fz)] = some (bestP (ysOf hs) (ssort (ysOf hs)), .fz) := by
  unfold f_mains_two
  rw [fnG_ev (by rfl)]
  have hy := ysOf_len hs
  have hn : ssort (ysOf hs) ≠ [] := ssort_ne (by intro z; rw [z] at hy; simp at hy; omega)
  have l := lc_y 4 (own := [4]) (e := [some (.tuple (hs.map eP), .fz), none, none, none, none]) hs (fun x => by simp)
  have hl := ssort_len (ysOf hs)
  have s := ssG_ints (ns := ysOf hs) (f := .ow) (by omega)
  generalize ssort (ysOf hs) = rows at *
  have c := ccat_map (f := lc2F [2, 3] [3] (.nm 2) bYes (seqS (eVar 1)) (.nm 3) (eB (e2 leG (eVar 2) (eVar 3))) (eA tupG (aCons (eA (one sumG) (aCons (eLc [4] (.nm 4) (seqS (eVar 0)) bYes (eA minA (aCons (eA (one absG) (aCons (e2 subG (e2 ixG (eVar 4) (eC (.int 1))) (eVar 2)) aNil)) (aCons (eA (one absG) (aCons (e2 subG (e2 ixG (eVar 4) (eC (.int 1))) (eVar 3)) aNil)) aNil)))) aNil)) (aCons (eA tupG (aCons (eVar 2) (aCons (eVar 3) aNil))) aNil))) [some (.tuple (hs.map eP), .fz), some (.list (rows.map .int), .fz), none, none, none]) PyData.int (fun a => rows.filterMap fun b => if a ≤ b then some (keyP (ysOf hs) a b) else none) rows (by
    intro a _
    unfold lc2F
    have inner := lcGo_fm (f := lcT (.nm 3) (eB (e2 leG (eVar 2) (eVar 3))) (eA tupG (aCons (eA (one sumG) (aCons (eLc [4] (.nm 4) (seqS (eVar 0)) bYes (eA minA (aCons (eA (one absG) (aCons (e2 subG (e2 ixG (eVar 4) (eC (.int 1))) (eVar 2)) aNil)) (aCons (eA (one absG) (aCons (e2 subG (e2 ixG (eVar 4) (eC (.int 1))) (eVar 3)) aNil)) aNil)))) aNil)) (aCons (eA tupG (aCons (eVar 2) (aCons (eVar 3) aNil))) aNil))) [some (.tuple (hs.map eP), .fz), some (.list (rows.map .int), .fz), some (I a), none, none]) PyData.int (fun b => if a ≤ b then some (keyP (ysOf hs) a b) else none) rows (by
      intro b _
      by_cases hab : a ≤ b
      · have ln := lc_near 4 2 3 (own := [4]) (e := [some (.tuple (hs.map eP), .fz), some (.list (rows.map .int), .fz), some (I a), some (I b), none]) hs (p := a) (q := b) (fun x => by simp) (fun x => by simp) (fun x => by simp)
        simp [hab, eLc_ev, ln, sum_ints, keyP, near, -List.map_map]
      · simp [hab])
    simp [inner])
  have c' := eLc2_ev (own := [2, 3]) (own1 := [3]) (tg := .nm 2) (src := seqS (eVar 1)) (tt := bYes) (tg1 := .nm 3) (src1 := seqS (eVar 1)) (e := [some (.tuple (hs.map eP), .fz), some (.list (rows.map .int), .fz), none, none, none]) (p := (rows.map .int, false)) (by simp) c (keys_len _ _ (by omega))
  have hm := (minA_keys (ys := ysOf hs) (f := .ow) hn).1
  unfold keysP at hm
  simp [g_mains_two, g_mains_two_1, sSeq_ev, eLc_ev, l, s, c', hm, -List.map_map]
end Lk46

set_option Elab.async false
set_option linter.all false
set_option maxRecDepth 100000
set_option maxHeartbeats 4000000
namespace Pl
open PySem L2
/-- a loop that puts more at the end of a list -/
theorem forGo_app {α : Type} {tg : Tg} {body : GS} {ws : List Nat} (enc : α → D) (E : List D → En) (g : α → List D) (m N : Nat) (hg : ∀ y, (g y).length ≤ m) :
    ∀ (ys : List α) (acc : List D), acc.length + ys.length * m ≤ N → (∀ y ∈ ys, ∀ acc : List D, acc.length + m ≤ N → ∃ e, turn tg body (enc y) (E acc) = some (.nx e) ∧ wipeE e ws = E (acc ++ g y)) → forGo tg body ws (ys.map enc) (E acc) = some (.nx (E (acc ++ ys.flatMap g)))
  | [], acc, _, _ => by simp [forGo_nil]
  | y :: ys, acc, h, k => by
    rw [List.length_cons, Nat.succ_mul] at h
    obtain ⟨e, h1, h2⟩ := k y List.mem_cons_self acc (by omega)
    have hl := hg y
    rw [List.map_cons, forGo_step h1, h2, forGo_app enc E g m N hg ys _ (by rw [List.length_append]; omega) fun z hz => k z (List.mem_cons_of_mem _ hz)]
    simp [List.flatMap_cons]
theorem flatMap_toList {α : Type} (f : α → Option D) : ∀ ys : List α, (ys.flatMap fun y => (f y).toList) = ys.filterMap f
  | [] => rfl
  | y :: ys => by
    rw [List.flatMap_cons, flatMap_toList f ys, List.filterMap_cons]
    cases f y <;> rfl
end Pl
namespace Lk46
open PySem PySem.Spec PyProof.Rows L2 Pl
theorem b_law_pair (hs : Hs) (rows : List Int) (h1 : rows.length ≤ 63) (hn : rows ≠ []) : f__law_pair [(.tuple (hs.map eP), .fz), (.list (rows.map .int), .fz)] = some (bestP (ysOf hs) rows, .fz) := by
  unfold f__law_pair
  rw [fnG_ev (by rfl)]
  have inner : ∀ (a : Int) (acc : List D), acc.length + 63 ≤ 5000 → forGo (.nm 4) g__law_pair_1 [4] (rows.map .int) [some (.tuple (hs.map eP), .fz), some (.list (rows.map .int), .fz), some (.list acc, .ow), some (I a), none, none] = some (.nx [some (.tuple (hs.map eP), .fz), some (.list (rows.map .int), .fz), some (.list (acc ++ rows.filterMap fun b => if a ≤ b then some (keyP (ysOf hs) a b) else none), .ow), some (I a), none, none]) := fun a acc ha => by
    have := forGo_app (tg := .nm 4) (body := g__law_pair_1) (ws := [4]) PyData.int (fun acc => [some (.tuple (hs.map eP), .fz), some (.list (rows.map .int), .fz), some (.list acc, .ow), some (I a), none, none]) (fun b => (if a ≤ b then some (keyP (ysOf hs) a b) else none).toList) 1 5000 (fun y => by split <;> simp) rows acc (by omega) (by
      intro b _ acc hacc
      rw [turn_nm]
      by_cases hab : a ≤ b
      · have ln := lc_near 5 3 4 (own := [5]) (e := [some (.tuple (hs.map eP), .fz), some (.list (rows.map .int), .fz), some (.list acc, .ow), some (I a), some (I b), none]) hs (p := a) (q := b) (fun x => by simp) (fun x => by simp) (fun x => by simp)
        refine ⟨[some (.tuple (hs.map eP), .fz), some (.list (rows.map .int), .fz), some (.list (acc ++ [keyP (ysOf hs) a b]), .ow), some (I a), some (I b), none], ?_, by simp [hab]⟩
        simp [g__law_pair_1, hab, eLc_ev, ln, sum_ints, keyP, near, appR_ev (ds := acc), show acc.length < 16777216 by omega, -List.map_map]
      · refine ⟨[some (.tuple (hs.map eP), .fz), some (.list (rows.map .int), .fz), some (.list acc, .ow), some (I a), some (I b), none], ?_, by simp [hab]⟩
        simp [g__law_pair_1, hab])
    rw [flatMap_toList] at this
    exact this
  have outer := forGo_app (tg := .nm 3) (body := sFor [4] (.nm 4) (seqS (eVar 1)) g__law_pair_1) (ws := [3, 4]) PyData.int (fun acc => [some (.tuple (hs.map eP), .fz), some (.list (rows.map .int), .fz), some (.list acc, .ow), none, none, none]) (fun a => rows.filterMap fun b => if a ≤ b then some (keyP (ysOf hs) a b) else none) 63 5000 (fun y => by
      have := List.length_filterMap_le (fun b => if y ≤ b then some (keyP (ysOf hs) y b) else none) rows
      omega) rows [] (by simp; omega) (by
      intro a _ acc hacc
      rw [turn_nm]
      refine ⟨[some (.tuple (hs.map eP), .fz), some (.list (rows.map .int), .fz), some (.list (acc ++ rows.filterMap fun b => if a ≤ b then some (keyP (ysOf hs) a b) else none), .ow), some (I a), none, none], ?_, by simp⟩
      have := inner a acc hacc
      simp [sFor_no (xs := rows.map PyData.int), this])
  have hm := (minA_keys (ys := ysOf hs) (f := .bw) hn).1
  unfold keysP at hm
  simp [g__law_pair, sSeq_ev, sFor_no (xs := rows.map PyData.int), outer, hm]
end Lk46

set_option Elab.async false
set_option linter.all false
namespace Lk46
open PySem
/-! plain: the medians are the least places -/
theorem sortI_perm (ns : List Int) : (sortI ns).Perm ns := List.mergeSort_perm ..
theorem sortI_up (ns : List Int) : (sortI ns).Pairwise (· ≤ ·) := by
  have := List.pairwise_mergeSort (le := fun a b : Int => decide (a ≤ b)) (fun a b c h k => by simp at *; omega) (fun a b => by simp; omega) ns
  exact this.imp fun h => of_decide_eq_true h
def cnt (ys : List Int) (y : Int) : Nat := ys.countP fun h => decide (h ≤ y)
theorem cnt_perm {xs ys : List Int} (h : xs.Perm ys) (y : Int) : cnt xs y = cnt ys y := h.countP_eq _
theorem ways_succ (ys : List Int) (y : Int) : ways ys (y + 1) = ways ys y + 2 * (cnt ys y : Int) - ys.length := by
  unfold ways cnt
  induction ys with
  | nil => simp
  | cons h hs ih =>
    rw [List.map_cons, List.sum_cons, List.map_cons, List.sum_cons, List.countP_cons, List.length_cons, ih]
    by_cases c : h ≤ y
    · simp [c]; omega
    · simp [c]; omega
theorem cnt_low {s : List Int} {y : Int} {k : Nat} (h : s.Pairwise (· ≤ ·)) (hk : k < s.length) (hy : y < s[k]) : cnt s y ≤ k := by
  unfold cnt
  rw [← List.take_append_drop k s, List.countP_append]
  have h1 := List.countP_le_length (p := fun h => decide (h ≤ y)) (l := s.take k)
  have h2 : (s.drop k).countP (fun h => decide (h ≤ y)) = 0 := by
    rw [List.countP_eq_zero]
    intro a ha
    obtain ⟨i, hi, rfl⟩ := List.mem_iff_getElem.mp ha
    rw [List.getElem_drop]
    have : s[k] ≤ s[k + i]'(by simp at hi; omega) := by
      by_cases h0 : i = 0
      · subst h0; exact Int.le_refl _
      · exact List.pairwise_iff_getElem.mp h k (k + i) hk (by simp at hi; omega) (by omega)
    simp; omega
  rw [List.length_take] at h1
  omega
theorem cnt_high {s : List Int} {y : Int} {k : Nat} (h : s.Pairwise (· ≤ ·)) (hk : k < s.length) (hy : s[k] ≤ y) : k + 1 ≤ cnt s y := by
  unfold cnt
  rw [← List.take_append_drop (k + 1) s, List.countP_append]
  have h2 : (s.take (k + 1)).countP (fun h => decide (h ≤ y)) = (s.take (k + 1)).length := by
    rw [List.countP_eq_length]
    intro a ha
    obtain ⟨i, hi, rfl⟩ := List.mem_iff_getElem.mp ha
    rw [List.getElem_take]
    have : s[i]'(by simp at hi; omega) ≤ s[k] := by
      by_cases h0 : i = k
      · subst h0; exact Int.le_refl _
      · exact List.pairwise_iff_getElem.mp h i k (by simp at hi; omega) hk (by simp at hi; omega)
    simp; omega
  rw [h2, List.length_take]
  omega
section
variable {ys : List Int} (h0 : 0 < ys.length)
include h0
theorem med_get : ∃ h, med ys = (sortI ys)[(ys.length - 1) / 2]'h := ⟨by rw [sortI_length]; omega, by unfold med; rw [List.getD_eq_getElem?_getD, List.getElem?_eq_getElem (by rw [sortI_length]; omega)]; rfl⟩
theorem medU_get : ∃ h, medU ys = (sortI ys)[ys.length / 2]'h := ⟨by rw [sortI_length]; omega, by unfold medU; rw [List.getD_eq_getElem?_getD, List.getElem?_eq_getElem (by rw [sortI_length]; omega)]; rfl⟩
theorem med_le : med ys ≤ medU ys := by
  obtain ⟨h1, e1⟩ := med_get h0
  obtain ⟨h2, e2⟩ := medU_get h0
  rw [e1, e2]
  by_cases h : (ys.length - 1) / 2 = ys.length / 2
  · simp only [h]; exact Int.le_refl _
  · exact List.pairwise_iff_getElem.mp (sortI_up ys) _ _ h1 h2 (by omega)
theorem fall_lo {y : Int} (h : y < med ys) : ways ys (y + 1) < ways ys y := by
  obtain ⟨h1, e1⟩ := med_get h0
  rw [e1] at h
  have := cnt_low (sortI_up ys) h1 h
  rw [cnt_perm (sortI_perm ys)] at this
  rw [ways_succ]; omega
theorem flat_mid {y : Int} (h : med ys ≤ y) (k : y < medU ys) : ways ys (y + 1) = ways ys y := by
  obtain ⟨h1, e1⟩ := med_get h0
  obtain ⟨h2, e2⟩ := medU_get h0
  rw [e1] at h
  rw [e2] at k
  have a := cnt_low (sortI_up ys) h2 k
  have b := cnt_high (sortI_up ys) h1 h
  rw [cnt_perm (sortI_perm ys)] at a b
  rw [ways_succ]; omega
theorem rise_hi {y : Int} (h : medU ys ≤ y) : ways ys y < ways ys (y + 1) := by
  obtain ⟨h2, e2⟩ := medU_get h0
  rw [e2] at h
  have b := cnt_high (sortI_up ys) h2 h
  rw [cnt_perm (sortI_perm ys)] at b
  rw [ways_succ]; omega
theorem ways_below : ∀ (n : Nat) (y : Int), y + (n + 1 : Nat) = med ys → ways ys (med ys) < ways ys y
  | 0, y, h => by have := fall_lo h0 (y := y) (by omega); rw [← h]; simpa using this
  | n + 1, y, h => by
    have a := fall_lo h0 (y := y) (by omega)
    have b := ways_below n (y + 1) (by omega)
    omega
theorem ways_mid : ∀ (n : Nat), med ys + n ≤ medU ys → ways ys (med ys + n) = ways ys (med ys)
  | 0, _ => by simp
  | n + 1, h => by
    have a := flat_mid h0 (y := med ys + n) (by omega) (by omega)
    have b := ways_mid n (by omega)
    rw [← b, ← a]; congr 1; omega
theorem ways_above : ∀ (n : Nat), ways ys (medU ys) < ways ys (medU ys + (n + 1 : Nat))
  | 0 => rise_hi h0 (Int.le_refl _)
  | n + 1 => by
    have a := rise_hi h0 (y := medU ys + (n + 1 : Nat)) (by omega)
    have b := ways_above n
    have e : medU ys + ((n + 1 : Nat) : Int) + 1 = medU ys + (n + 1 + 1 : Nat) := by omega
    rw [e] at a; omega
/-- where the sum is least -/
theorem ways_least (y : Int) : ways ys (med ys) ≤ ways ys y ∧ (ways ys y = ways ys (med ys) ↔ med ys ≤ y ∧ y ≤ medU ys) := by
  have hm := med_le h0
  have eU : ways ys (medU ys) = ways ys (med ys) := by
    have := ways_mid h0 (medU ys - med ys).toNat (by omega)
    rw [show med ys + ((medU ys - med ys).toNat : Int) = medU ys by omega] at this
    exact this
  by_cases h1 : y < med ys
  · have := ways_below h0 (med ys - y - 1).toNat y (by omega)
    exact ⟨by omega, by omega, by omega⟩
  · by_cases h2 : y ≤ medU ys
    · have := ways_mid h0 (y - med ys).toNat (by omega)
      rw [show med ys + ((y - med ys).toNat : Int) = y by omega] at this
      exact ⟨by omega, by omega, by omega⟩
    · have := ways_above h0 (y - medU ys - 1).toNat
      rw [show medU ys + (((y - medU ys - 1).toNat + 1 : Nat) : Int) = y by omega] at this
      exact ⟨by omega, by omega, by omega⟩
end
end Lk46

set_option Elab.async false
set_option linter.all false
set_option maxRecDepth 100000
set_option maxHeartbeats 4000000
namespace Lk46
open PySem PySem.Spec PyProof.Rows L2 Pl
/-! ranges -/
def rI (a : Int) (n : Nat) : List Int := (List.range n).map fun i : Nat => a + (i : Int)
theorem rI_len {a : Int} {n : Nat} : (rI a n).length = n := by simp [rI]
theorem rI_add (a : Int) (n m : Nat) : rI a (n + m) = rI a n ++ rI (a + n) m := by
  unfold rI
  rw [List.range_add, List.map_append, List.map_map]
  congr 1
  apply List.map_congr_left
  intro i _
  show a + ((n + i : Nat) : Int) = a + n + i
  omega
theorem rI_mem {a z : Int} {n : Nat} : z ∈ rI a n ↔ a ≤ z ∧ z < a + n := by
  unfold rI
  rw [List.mem_map]
  constructor
  · rintro ⟨i, hi, rfl⟩
    have := List.mem_range.mp hi
    omega
  · rintro ⟨h1, h2⟩
    exact ⟨(z - a).toNat, List.mem_range.mpr (by omega), by omega⟩
theorem rngL_rI (a : Int) (n : Nat) : rngL a n = (rI a n).map .int := by unfold rngL rI; rw [List.map_map]; rfl
/-- the middle of a range -/
theorem rI_filter {a lo hi : Int} {n : Nat} {p : Int → Bool} (h1 : a ≤ lo) (h2 : lo ≤ hi) (h3 : hi < a + n) (hp : ∀ z, p z = true ↔ lo ≤ z ∧ z ≤ hi) : (rI a n).filter p = rI lo (hi + 1 - lo).toNat := by
  have e : n = (lo - a).toNat + ((hi + 1 - lo).toNat + (a + n - hi - 1).toNat) := by omega
  rw [e, rI_add, rI_add, List.filter_append, List.filter_append]
  have e1 : a + ((lo - a).toNat : Int) = lo := by omega
  rw [e1]
  have f1 : (rI a (lo - a).toNat).filter p = [] := by
    rw [List.filter_eq_nil_iff]
    intro z hz hq
    have := rI_mem.mp hz
    have := (hp z).mp hq
    omega
  have f2 : (rI lo (hi + 1 - lo).toNat).filter p = rI lo (hi + 1 - lo).toNat := by
    rw [List.filter_eq_self]
    intro z hz
    have := rI_mem.mp hz
    exact (hp z).mpr (by omega)
  have f3 : (rI (lo + ((hi + 1 - lo).toNat : Int)) (a + n - hi - 1).toNat).filter p = [] := by
    rw [List.filter_eq_nil_iff]
    intro z hz hq
    have := rI_mem.mp hz
    have := (hp z).mp hq
    omega
  rw [f1, f2, f3]; simp
/-! least pair -/
theorem minD_pairs : ∀ (ps : List (Int × Int)) (p : Int × Int), ∃ q, q ∈ p :: ps ∧ PySem.W.minD (eP p) (ps.map eP) = eP q ∧ ∀ r ∈ p :: ps, q.1 ≤ r.1
  | [], p => ⟨p, by simp, rfl, by simp⟩
  | x :: xs, p => by
    have e : PySem.W.minD (eP p) ((x :: xs).map eP) = PySem.W.minD (if PySem.W.dataLt (eP x) (eP p) then eP x else eP p) (xs.map eP) := rfl
    rw [e, PySem.W.dataLt_ii]
    by_cases c : x.1 < p.1 ∨ (x.1 = p.1 ∧ x.2 < p.2)
    · rw [if_pos (decide_eq_true c)]
      obtain ⟨q, h1, h2, h3⟩ := minD_pairs xs x
      refine ⟨q, List.mem_cons_of_mem _ h1, h2, fun r hr => ?_⟩
      rcases List.mem_cons.mp hr with rfl | hr
      · have := h3 x List.mem_cons_self; omega
      · exact h3 r hr
    · rw [if_neg (by simpa using c)]
      obtain ⟨q, h1, h2, h3⟩ := minD_pairs xs p
      refine ⟨q, ?_, h2, fun r hr => ?_⟩
      · rcases List.mem_cons.mp h1 with rfl | h1
        · exact List.mem_cons_self
        · exact List.mem_cons_of_mem _ (List.mem_cons_of_mem _ h1)
      · rcases List.mem_cons.mp hr with rfl | hr
        · exact h3 r List.mem_cons_self
        · rcases List.mem_cons.mp hr with rfl | hr
          · have := h3 p List.mem_cons_self; omega
          · exact h3 r (List.mem_cons_of_mem _ hr)
theorem pairs_sh {ps : List (Int × Int)} : ∀ x ∈ ps.map eP, hasSh (.t [.i, .i]) x = true := by
  intro x hx
  obtain ⟨q, _, rfl⟩ := List.mem_map.mp hx
  simp [hasSh, hasShA]
/-- the least of the pairs (sum, place) -/
theorem minA_pairs {ps : List (Int × Int)} {f : Fl} (h : ps ≠ []) : ∃ q, q ∈ ps ∧ minA [(.list (ps.map eP), f)] = some (eP q, .fz) ∧ ∀ r ∈ ps, q.1 ≤ r.1 := by
  obtain ⟨p, qs, rfl⟩ := List.exists_cons_of_ne_nil h
  obtain ⟨q, h1, h2, h3⟩ := minD_pairs qs p
  refine ⟨q, h1, ?_, h3⟩
  have := minA_sh (s := .t [.i, .i]) (d := eP p) (ds := qs.map eP) (f := f) (by decide) (by simpa using pairs_sh (ps := p :: qs))
  rw [List.map_cons, this, h2]
/-! the ends of the sorted ones -/
theorem ends {ys : List Int} {z : Int} (hz : z ∈ ys) : ∃ a b, (ssort ys)[0]? = some a ∧ (ssort ys)[(ssort ys).length - 1]? = some b ∧ a ≤ z ∧ z ≤ b ∧ a ∈ ys ∧ b ∈ ys := by
  have hm := mem_ssort.mpr hz
  have hu := ssort_up (xs := ys)
  have hl : 0 < (ssort ys).length := List.length_pos_of_mem hm
  refine ⟨(ssort ys)[0], (ssort ys)[(ssort ys).length - 1], List.getElem?_eq_getElem _, List.getElem?_eq_getElem _, ?_, ?_, mem_ssort.mp (List.getElem_mem _), mem_ssort.mp (List.getElem_mem _)⟩
  · obtain ⟨i, hi, rfl⟩ := List.mem_iff_getElem.mp hm
    by_cases h : i = 0
    · subst h; exact Int.le_refl _
    · exact Int.le_of_lt (List.pairwise_iff_getElem.mp hu 0 i hl hi (by omega))
  · obtain ⟨i, hi, rfl⟩ := List.mem_iff_getElem.mp hm
    by_cases h : i = (ssort ys).length - 1
    · subst h; exact Int.le_refl _
    · exact Int.le_of_lt (List.pairwise_iff_getElem.mp hu i _ hi (by omega) (by omega))
theorem med_mem {ys : List Int} (h0 : 0 < ys.length) : med ys ∈ ys ∧ medU ys ∈ ys := by
  obtain ⟨h1, e1⟩ := med_get h0
  obtain ⟨h2, e2⟩ := medU_get h0
  exact ⟨by rw [e1]; exact (sortI_perm ys).mem_iff.mp (List.getElem_mem _), by rw [e2]; exact (sortI_perm ys).mem_iff.mp (List.getElem_mem _)⟩
end Lk46

set_option Elab.async false
set_option linter.all false
set_option maxRecDepth 100000
set_option maxHeartbeats 4000000
namespace Lk46
open PySem PySem.Spec PyProof.Rows L2 Pl
theorem rI_first {a : Int} {n : Nat} (h : 0 < n) : ((rI a n).map PyData.int)[0]? = some (.int a) := by
  simp [rI, h]
theorem rI_last {a : Int} {n : Nat} (h : 0 < n) : ((rI a n).map PyData.int)[n - 1]? = some (.int (a + (n - 1 : Nat))) := by
  simp [rI, show n - 1 < n by omega]
theorem last_ix {α : Type} {xs : List α} (h : 0 < xs.length) : atI xs ((xs.length : Int) - 1) = xs[xs.length - 1]? := by
  rw [show ((xs.length : Int) - 1) = ((xs.length - 1 : Nat) : Int) by omega, Pl.atI_nat]
theorem b_law_mains3 (hs : Hs) (c y lst w lo : Int) (good : List D) (s3 s7 s10 s11 s12 : Slot) (h0 : 0 < hs.length) (h1 : hs.length ≤ 63) (hc : 0 ≤ c ∧ c < 6) (hg : good[0]? = some (.int (med (ysOf hs)))) :
    g__law_mains_3 [some (.tuple (hs.map eP), .fz), some (I c), some (I y), s3, some (I (ways (ysOf hs) (med (ysOf hs)))), some (.list good, .fz), some (I (maxI' (xsOf hs) - minI' (xsOf hs))), s7, some (.list ((xsOf hs).map .int), .fz), some (.list ((ssort (ysOf hs)).map .int), .fz), s10, s11, s12] = some (.rt (.bool true, .fz)) := by
  have hy := ysOf_len hs
  have hn : ysOf hs ≠ [] := by intro z; rw [z] at hy; simp at hy; omega
  have l1 := b_least_main hs c h0 (by omega) hc
  have l2 := b_mains_two hs h0 h1
  have l3 := b_law_pair hs (ssort (ysOf hs)) (by have := ssort_len (ysOf hs); omega) (ssort_ne hn)
  have t1 := like_p (costOf hs (med (ysOf hs)) c, med (ysOf hs))
  have t2 := like_eq _ (minA_keys (ys := ysOf hs) (f := .fz) (ssort_ne hn)).2
  simp only [costOf] at l1 t1
  by_cases hp : 0 < c
  · simp [g__law_mains_3, sSeq_ev, hp, l1, l2, l3, hg, t1, t2, mul_l (i := c) (by omega)]
  · simp [g__law_mains_3, sSeq_ev, hp, l2, l3, t2]
theorem b_law_mains6 (hs : Hs) (c y a b : Int) (good : List D) (s3 s7 s10 s11 s12 : Slot) (h0 : 0 < hs.length) (h1 : hs.length ≤ 63) (hc : 0 ≤ c ∧ c < 6) (hg0 : 0 < good.length) (hg : good[0]? = some (.int (med (ysOf hs)))) (hg2 : good[good.length - 1]? = some (.int (medU (ysOf hs))))
    (ha : (ssort (ysOf hs))[0]? = some a) (hb : (ssort (ysOf hs))[(ssort (ysOf hs)).length - 1]? = some b) (hl : 0 < (ssort (ysOf hs)).length) :
    g__law_mains_6 [some (.tuple (hs.map eP), .fz), some (I c), some (I y), s3, some (I (ways (ysOf hs) (med (ysOf hs)))), some (.list good, .fz), some (I (maxI' (xsOf hs) - minI' (xsOf hs))), s7, some (.list ((xsOf hs).map .int), .fz), some (.list ((ssort (ysOf hs)).map .int), .fz), s10, s11, s12] = some (.rt (.bool true, .fz)) := by
  have hy := ysOf_len hs
  have hx := xsOf_len hs
  have hn : xsOf hs ≠ [] := by intro z; rw [z] at hx; simp at hx; omega
  have turn1 : ∀ z : Int, ∀ s10 : Slot, g__law_mains_2 [some (.tuple (hs.map eP), .fz), some (I c), some (I y), s3, some (I (ways (ysOf hs) (med (ysOf hs)))), some (.list good, .fz), some (I (maxI' (xsOf hs) - minI' (xsOf hs))), some (I z), some (.list ((xsOf hs).map .int), .fz), some (.list ((ssort (ysOf hs)).map .int), .fz), s10, s11, s12] = some (.nx [some (.tuple (hs.map eP), .fz), some (I c), some (I y), s3, some (I (ways (ysOf hs) (med (ysOf hs)))), some (.list good, .fz), some (I (maxI' (xsOf hs) - minI' (xsOf hs))), some (I z), some (.list ((xsOf hs).map .int), .fz), some (.list ((ssort (ysOf hs)).map .int), .fz), some (I (ways (ysOf hs) z)), s11, s12]) := fun z s10 => by
    have t1 := like_i (ways (ysOf hs) z)
    have t2 := like_i (costOf hs z c)
    have l1 := b_main_cost hs z c h0 hc
    simp only [costOf] at t2 l1
    simp [g__law_mains_2, g__law_mains_1, sSeq_ev, b_sum_at, b_house_ways, t1, t2, l1, mul_l (i := c) (by omega)]
  have ea : ((ssort (ysOf hs)).map PyData.int)[0]? = some (.int a) := by rw [List.getElem?_map, ha]; rfl
  have eb : atI ((ssort (ysOf hs)).map PyData.int) (((ssort (ysOf hs)).length : Int) - 1) = some (.int b) := by
    have := last_ix (xs := (ssort (ysOf hs)).map PyData.int) (by simpa using hl)
    rw [List.length_map] at this
    rw [this, List.getElem?_map, hb]; rfl
  have eg := (last_ix (xs := good) hg0).trans hg2
  have m1 := b_best_main hs h0 (by omega)
  have m2 := b_main_bounds hs h0 (by omega)
  have m3 := b_row_ends hs h0
  have t1 := like_i (med (ysOf hs))
  have t2 := like_p (med (ysOf hs), medU (ysOf hs))
  have t3 := like_p (minI' (xsOf hs), maxI' (xsOf hs))
  have fin := fun s3 s7 s10 s11 s12 => b_law_mains3 hs c y 0 0 0 good s3 s7 s10 s11 s12 h0 h1 hc hg
  have tupG_4 : ∀ a b c d : D, tupG [(a, .fz), (b, .fz), (c, .fz), (d, .fz)] = some (.tuple [a, b, c, d], .fz) := fun _ _ _ _ => rfl
  simp [g__law_mains_6, g__law_mains_5, g__law_mains_4, sSeq_ev, ea, eb, hg, eg, tupG_4, forGo_cons, forGo_nil, turn_nm, turn1, m1, m2, m3, t1, t2, t3, minA_l hn, maxA_l hn, fin, -List.getElem?_map]
end Lk46

set_option Elab.async false
set_option linter.all false
set_option maxRecDepth 100000
set_option maxHeartbeats 4000000
namespace Lk46
open PySem PySem.Spec PyProof.Rows L2 Pl
theorem b_law_mains (hs : Hs) (c y : Int) (h0 : 0 < hs.length) (h1 : hs.length ≤ 63) (hc : 0 ≤ c ∧ c < 6) (hr : ∀ p ∈ hs, -1000 ≤ p.2 ∧ p.2 ≤ 1000) : f__law_mains [(.tuple (hs.map eP), .fz), I c, I y] = some (.bool true, .fz) := by
  unfold f__law_mains
  rw [fnG_ev (by rfl)]
  have hy := ysOf_len hs
  have hx := xsOf_len hs
  have hn : xsOf hs ≠ [] := by intro z; rw [z] at hx; simp at hx; omega
  have hy0 : 0 < (ysOf hs).length := by omega
  obtain ⟨z, hz⟩ : ∃ z, z ∈ ysOf hs := List.exists_mem_of_length_pos hy0
  obtain ⟨a, b, ha, hb, az, zb, ma, mb⟩ := ends hz
  have bd : ∀ x ∈ ysOf hs, a ≤ x ∧ x ≤ b := fun x hx => by
    obtain ⟨a', b', ha', hb', h1, h2, _⟩ := ends hx
    rw [ha] at ha'; cases ha'; rw [hb] at hb'; cases hb'; exact ⟨h1, h2⟩
  have mm := med_mem hy0
  have ml := med_le hy0
  have b1 := bd _ mm.1
  have b2 := bd _ mm.2
  have rr : ∀ x ∈ ysOf hs, -1000 ≤ x ∧ x ≤ 1000 := fun x hx => by
    obtain ⟨p, hp, rfl⟩ := List.mem_map.mp hx
    exact hr p hp
  have ra := rr a ma
  have rb := rr b mb
  have hl : 0 < (ssort (ysOf hs)).length := List.length_pos_of_mem (mem_ssort.mpr hz)
  have hsl := ssort_len (ysOf hs)
  have lx := lc_x 12 (own := [12]) (e := [some (.tuple (hs.map eP), .fz), some (I c), some (I y), none, none, none, none, none, none, none, none, none, none]) hs (fun x => by simp)
  have ly := lc_y 12 (own := [12]) (e := [some (.tuple (hs.map eP), .fz), some (I c), some (I y), none, none, none, none, none, none, none, none, none, none]) hs (fun x => by simp)
  have ss := ssG_ints (ns := ysOf hs) (f := .ow) (by omega)
  have ea : ((ssort (ysOf hs)).map PyData.int)[0]? = some (.int a) := by rw [List.getElem?_map, ha]; rfl
  have eb : atI ((ssort (ysOf hs)).map PyData.int) (((ssort (ysOf hs)).length : Int) - 1) = some (.int b) := by
    have := last_ix (xs := (ssort (ysOf hs)).map PyData.int) (by simpa using hl)
    rw [List.length_map] at this
    rw [this, List.getElem?_map, hb]; rfl
  have rg := rng2_ev (i := a) (j := b + 1) (f := .fz) (f' := .fz) (by omega) (by omega) (by omega) (by omega) (by omega)
  rw [rngL_rI] at rg
  have hn1 : 0 < (b + 1 - a).toNat := by omega
  have hab : a + ((b + 1 - a).toNat : Int) = b + 1 := by omega
  have hmem : ∀ w : Int, w ∈ rI a (b + 1 - a).toNat ↔ a ≤ w ∧ w < b + 1 := fun w => by rw [rI_mem, hab]
  generalize hk : (b + 1 - a).toNat = n at *
  obtain ⟨q, q1, q2, q3⟩ := minA_pairs (ps := (rI a n).map fun w => (ways (ysOf hs) w, w)) (f := .fz) (by intro w; have := congrArg List.length w; simp [rI_len] at this; omega)
  have least : q.1 = ways (ysOf hs) (med (ysOf hs)) := by
    obtain ⟨w, hw, rfl⟩ := List.mem_map.mp q1
    have l1 := (ways_least hy0 w).1
    have l2 := q3 (ways (ysOf hs) (med (ysOf hs)), med (ysOf hs)) (List.mem_map.mpr ⟨_, (hmem _).mpr (by omega), rfl⟩)
    show ways (ysOf hs) w = _
    have l3 : ways (ysOf hs) w ≤ ways (ysOf hs) (med (ysOf hs)) := l2
    omega
  have e0 : ((rI a n).map PyData.int).map id = (rI a n).map PyData.int := by simp
  have sums := lcGo_tot (f := lcF [11] (.nm 11) bYes (eA tupG (aCons (eA f__law_sum_at (aCons (eVar 0) (aCons (eVar 11) aNil))) (aCons (eVar 11) aNil))) [some (.tuple (hs.map eP), .fz), some (I c), some (I y), none, none, none, none, none, some (.list ((xsOf hs).map .int), .fz), some (.list ((ssort (ysOf hs)).map .int), .fz), none, none, none]) PyData.int (fun w => eP (ways (ysOf hs) w, w)) (rI a n) (by
    intro w _
    simp [b_sum_at])
  have e1 : ((rI a n).map fun w => eP (ways (ysOf hs) w, w)) = ((rI a n).map fun w => (ways (ysOf hs) w, w)).map eP := by rw [List.map_map]; rfl
  rw [e1] at sums
  have goods := lcGo_map (f := lcF [10, 11] (.tp (.cons (.nm 10) (.cons (.nm 11) .nil))) (eB (e2 eqG (eVar 10) (eVar 4))) (eVar 11) [some (.tuple (hs.map eP), .fz), some (I c), some (I y), some (.list (((rI a n).map fun w => (ways (ysOf hs) w, w)).map eP), .fz), some (I q.1), none, none, none, some (.list ((xsOf hs).map .int), .fz), some (.list ((ssort (ysOf hs)).map .int), .fz), none, none, none]) eP PyData.int (fun p => if p.1 = q.1 then some p.2 else none) ((rI a n).map fun w => (ways (ysOf hs) w, w)) (by
    intro p _
    by_cases hp : p.1 = q.1 <;> simp [hp])
  have good : ((rI a n).map fun w => (ways (ysOf hs) w, w)).filterMap (fun p => if p.1 = q.1 then some p.2 else none) = rI (med (ysOf hs)) (medU (ysOf hs) + 1 - med (ysOf hs)).toNat := by
    rw [List.filterMap_map, ← rI_filter (a := a) (n := n) (p := fun w => decide (ways (ysOf hs) w = q.1)) (by omega) ml (by omega) (fun w => by rw [decide_eq_true_eq, least]; exact (ways_least hy0 w).2), ← List.filterMap_eq_filter]
    congr 1
    funext w
    show (if ways (ysOf hs) w = q.1 then some w else none) = _
    by_cases hp : ways (ysOf hs) w = q.1 <;> simp [hp, Option.guard]
  rw [good] at goods
  have k1 : 0 < (medU (ysOf hs) + 1 - med (ysOf hs)).toNat := by omega
  have g1 := rI_first (a := med (ysOf hs)) k1
  have g2 := rI_last (a := med (ysOf hs)) k1
  have k2 : med (ysOf hs) + (((medU (ysOf hs) + 1 - med (ysOf hs)).toNat - 1 : Nat) : Int) = medU (ysOf hs) := by omega
  rw [k2] at g2
  have fin := b_law_mains6 hs c y a b ((rI (med (ysOf hs)) (medU (ysOf hs) + 1 - med (ysOf hs)).toNat).map .int) (some (.list (((rI a n).map fun w => (ways (ysOf hs) w, w)).map eP), .fz)) none none none none h0 h1 hc (by rw [List.length_map, rI_len]; exact k1) g1 (by rw [List.length_map, rI_len]; exact g2) ha hb hl
  rw [least] at goods
  simp [g__law_mains, g__law_mains_8, g__law_mains_7, sSeq_ev, eLc_ev, lx, ly, ss, ea, eb, rg, sums, q2, least, goods, minA_l hn, maxA_l hn, fin, -List.map_map, -List.getElem?_map]
end Lk46

set_option Elab.async false
set_option linter.all false
set_option maxRecDepth 100000
set_option maxHeartbeats 4000000
namespace Lk46
open PySem PySem.Spec PyProof.Rows L2 Pl
def wayI (p q : Int × Int) : Int := ((p.1 - q.1).natAbs : Int) + ((p.2 - q.2).natAbs : Int)
theorem b_way_of (p q : Int × Int) : f_way_of [(eP p, .fz), (eP q, .fz)] = some (I (wayI p q)) := by
  unfold f_way_of
  rw [fnG_ev (by rfl)]
  simp [g_way_of, abs_i, wayI]
abbrev eN (p : Nat × Nat) : D := .tuple [.int p.1, .int p.2]
abbrev e3 (t : Int × Nat × Nat) : D := .tuple [.int t.1, .tuple [.int t.2.1, .int t.2.2]]
def pt (ps : Hs) (i : Nat) : Int × Int := ps.getD i (0, 0)
theorem ix_pt {ps : Hs} {i : Nat} (h : i < ps.length) : atI (ps.map eP) (i : Nat) = some (eP (pt ps i)) := by
  rw [Pl.atI_nat]; simp [pt, h]
theorem ix_nm {ns : List Int} {i : Nat} (h : i < ns.length) : atI (ns.map PyData.int) (i : Nat) = some (.int (ns.getD i 0)) := by
  rw [Pl.atI_nat]; simp [h]
def prs (ps : Hs) : List (Int × Nat × Nat) := (List.range ps.length).flatMap fun i => (List.range' (i + 1) (ps.length - (i + 1))).map fun j => (wayI (pt ps i) (pt ps j), i, j)
def le3 (a b : Int × Nat × Nat) : Bool := leD (e3 a) (e3 b)
def leN (a b : Nat × Nat) : Bool := leD (eN a) (eN b)
def kst (st : List Int × List (Nat × Nat)) (t : Int × Nat × Nat) : List Int × List (Nat × Nat) :=
  if st.1.getD t.2.1 0 = st.1.getD t.2.2 0 then st else (st.1.map fun n => if n = st.1.getD t.2.2 0 then st.1.getD t.2.1 0 else n, st.2 ++ [(t.2.1, t.2.2)])
def kru (ps : Hs) : List Int × List (Nat × Nat) := ((prs ps).mergeSort le3).foldl kst ((List.range ps.length).map (fun i : Nat => (i : Int)), [])
theorem prs_mem {ps : Hs} {t : Int × Nat × Nat} : t ∈ prs ps ↔ t.2.1 < t.2.2 ∧ t.2.2 < ps.length ∧ t.1 = wayI (pt ps t.2.1) (pt ps t.2.2) := by
  obtain ⟨w, i, j⟩ := t
  unfold prs
  simp only [List.mem_flatMap, List.mem_range, List.mem_map, List.mem_range'_1, Prod.mk.injEq]
  constructor
  · rintro ⟨i', h1, j', h2, rfl, rfl, rfl⟩
    exact ⟨by omega, by omega, rfl⟩
  · rintro ⟨h1, h2, rfl⟩
    exact ⟨i, by omega, j, by omega, rfl, rfl, rfl⟩
theorem prs_len {ps : Hs} (h : ps.length ≤ 63) : (prs ps).length ≤ 3969 := by
  have : ∀ l : List Nat, (l.flatMap fun i => (List.range' (i + 1) (ps.length - (i + 1))).map fun j => (wayI (pt ps i) (pt ps j), i, j)).length ≤ l.length * 63 := fun l => by
    induction l with
    | nil => simp
    | cons x xs ih => rw [List.flatMap_cons, List.length_append, List.length_cons, Nat.succ_mul, List.length_map, List.length_range']; omega
  have h2 := this (List.range ps.length)
  rw [List.length_range] at h2
  unfold prs
  omega
theorem rngL_nat (m : Nat) : rngL 0 m = (List.range m).map fun i : Nat => PyData.int (i : Nat) := by
  unfold rngL
  apply List.map_congr_left
  intro i _
  simp
theorem rngL_nat' (i m : Nat) : rngL ((i : Int) + 1) m = (List.range' (i + 1) m).map fun i : Nat => PyData.int (i : Nat) := by
  unfold rngL
  rw [List.range'_eq_map_range, List.map_map]
  apply List.map_congr_left
  intro k _
  show PyData.int ((i : Int) + 1 + k) = PyData.int ((i + 1 + k : Nat) : Int)
  rw [show (i : Int) + 1 + k = ((i + 1 + k : Nat) : Int) by omega]
theorem b_least_tree_of (ps : Hs) (h : ps.length ≤ 63) : f_least_tree_of [(.tuple (ps.map eP), .fz)] = some (.tuple ((((kru ps).2.mergeSort leN)).map eN), .fz) := by
  unfold f_least_tree_of
  rw [fnG_ev (by rfl)]
  have r1 := rng1_ev (m := ps.length) (f := .fz) (by omega)
  rw [rngL_nat] at r1
  have rows := ccat_map (f := lc2F [5, 6] [6] (.nm 5) bYes (aS rng2G (aCons (e2 addG (eVar 5) (eC (.int 1))) (aCons (eA (one lenG) (aCons (eVar 0) aNil)) aNil))) (.nm 6) bYes (eA tupG (aCons (eA f_way_of (aCons (e2 ixG (eVar 0) (eVar 5)) (aCons (e2 ixG (eVar 0) (eVar 6)) aNil))) (aCons (eA tupG (aCons (eVar 5) (aCons (eVar 6) aNil))) aNil))) [some (.tuple (ps.map eP), .fz), none, some (.list ((List.range ps.length).map fun i : Nat => PyData.int (i : Nat)), .fz), some (.list [], .ow), none, none, none, none, none, none]) (fun i : Nat => PyData.int (i : Nat)) (fun i => (List.range' (i + 1) (ps.length - (i + 1))).map fun j => e3 (wayI (pt ps i) (pt ps j), i, j)) (List.range ps.length) (by
    intro i hi
    have hi := List.mem_range.mp hi
    unfold lc2F
    have r2 := rng2_ev (i := (i : Int) + 1) (j := (ps.length : Int)) (f := .fz) (f' := .fz) (by omega) (by omega) (by omega) (by omega) (by omega)
    have en : ((ps.length : Int) - ((i : Int) + 1)).toNat = ps.length - (i + 1) := by omega
    rw [en, rngL_nat'] at r2
    have inner := lcGo_tot (f := lcT (.nm 6) bYes (eA tupG (aCons (eA f_way_of (aCons (e2 ixG (eVar 0) (eVar 5)) (aCons (e2 ixG (eVar 0) (eVar 6)) aNil))) (aCons (eA tupG (aCons (eVar 5) (aCons (eVar 6) aNil))) aNil))) [some (.tuple (ps.map eP), .fz), none, some (.list ((List.range ps.length).map fun i : Nat => PyData.int (i : Nat)), .fz), some (.list [], .ow), none, some (.int (i : Nat), .fz), none, none, none, none]) (fun i : Nat => PyData.int (i : Nat)) (fun j => e3 (wayI (pt ps i) (pt ps j), i, j)) (List.range' (i + 1) (ps.length - (i + 1))) (by
      intro j hj
      rw [List.mem_range'_1] at hj
      simp [ix_pt hi, ix_pt (show j < ps.length by omega), b_way_of])
    simp [r2, inner])
  have hp := prs_len h
  have e1 : ((List.range ps.length).flatMap fun i => (List.range' (i + 1) (ps.length - (i + 1))).map fun j => e3 (wayI (pt ps i) (pt ps j), i, j)) = (prs ps).map e3 := by
    unfold prs
    have : (fun i => ((List.range' (i + 1) (ps.length - (i + 1))).map fun j => (wayI (pt ps i) (pt ps j), i, j)).map e3) = fun i => (List.range' (i + 1) (ps.length - (i + 1))).map fun j => e3 (wayI (pt ps i) (pt ps j), i, j) := funext fun i => by rw [List.map_map]; rfl
    rw [List.map_flatMap, this]
  rw [e1] at rows
  have c' := eLc2_ev (own := [5, 6]) (own1 := [6]) (tg := .nm 5) (src := aS rng1G (aCons (eA (one lenG) (aCons (eVar 0) aNil)) aNil)) (tt := bYes) (tg1 := .nm 6) (src1 := aS rng2G (aCons (e2 addG (eVar 5) (eC (.int 1))) (aCons (eA (one lenG) (aCons (eVar 0) aNil)) aNil))) (e := [some (.tuple (ps.map eP), .fz), none, some (.list ((List.range ps.length).map fun i : Nat => PyData.int (i : Nat)), .fz), some (.list [], .ow), none, none, none, none, none, none]) (p := ((List.range ps.length).map (fun i : Nat => PyData.int (i : Nat)), false)) (by simp [r1]) rows (by rw [List.length_map]; omega)
  have s1 := sortG_sh (s := .t [.i, .t [.i, .i]]) (ds := (prs ps).map e3) (f := .ow) (by decide) (by
    intro x hx
    obtain ⟨t, _, rfl⟩ := List.mem_map.mp hx
    simp [hasSh, hasShA]) (by rw [List.length_map]; omega)
  have s2 : ((prs ps).map e3).mergeSort leD = ((prs ps).mergeSort le3).map e3 := by
    rw [List.map_mergeSort]
    intro a _ b _; rfl
  rw [s2] at s1
  have sl : ((prs ps).mergeSort le3).length ≤ 3969 := by rw [List.length_mergeSort]; exact hp
  have sm : ∀ t ∈ (prs ps).mergeSort le3, t.2.1 < ps.length ∧ t.2.2 < ps.length := fun t ht => by
    have := prs_mem.mp ((List.mergeSort_perm _ _).mem_iff.mp ht)
    omega
  have hk : (kru ps).2.length ≤ 16777216 := by
    unfold kru
    have : ∀ (ts : List (Int × Nat × Nat)) (st : List Int × List (Nat × Nat)), (ts.foldl kst st).2.length ≤ st.2.length + ts.length := fun ts => by
      induction ts with
      | nil => intro st; simp
      | cons t ts ih =>
        intro st
        rw [List.foldl_cons]
        have := ih (kst st t)
        have h2 : (kst st t).2.length ≤ st.2.length + 1 := by unfold kst; split <;> simp
        rw [List.length_cons]; omega
    have := this ((prs ps).mergeSort le3) ((List.range ps.length).map (fun i : Nat => (i : Int)), [])
    simp only [List.length_nil] at this
    omega
  have loop := forGo_fold (tg := .tp (.cons (.nm 4) (.cons (.tp (.cons (.nm 5) (.cons (.nm 6) .nil))) .nil))) (body := g_least_tree_of_1) (ws := [4, 5, 6, 7, 8]) e3 (fun st : List Int × List (Nat × Nat) => [some (.tuple (ps.map eP), .fz), some (.list (((prs ps).mergeSort le3).map e3), .fz), some (.list (st.1.map PyData.int), .fz), some (.list (st.2.map eN), .ow), none, none, none, none, none, none]) kst (fun ts st => st.1.length = ps.length ∧ st.2.length + ts.length ≤ 3969 ∧ ∀ t ∈ ts, t.2.1 < ps.length ∧ t.2.2 < ps.length) ((prs ps).mergeSort le3) ((List.range ps.length).map (fun i : Nat => (i : Int)), []) ⟨by simp, by simp only [List.length_nil]; omega, sm⟩ (by
    rintro ⟨w, i, j⟩ ts ⟨ns, fo⟩ ⟨h1, h2, h3⟩
    simp only at h1 h2
    have hij := h3 _ List.mem_cons_self
    simp only at hij
    have x1 := ix_nm (ns := ns) (i := i) (by omega)
    have x2 := ix_nm (ns := ns) (i := j) (by omega)
    rw [List.length_cons] at h2
    by_cases hc : ns.getD i 0 = ns.getD j 0
    · refine ⟨[some (.tuple (ps.map eP), .fz), some (.list (((prs ps).mergeSort le3).map e3), .fz), some (.list (ns.map PyData.int), .fz), some (.list (fo.map eN), .ow), some (I w), some (.int (i : Nat), .fz), some (.int (j : Nat), .fz), none, none, none], ?_, ?_, ?_⟩
      · simp [turn, g_least_tree_of_1, sFg, fgO, x1, x2, hc, -List.getD_eq_getElem?_getD]
      · simp [kst, hc, -List.getD_eq_getElem?_getD]
      · simp only [kst, if_pos hc]
        exact ⟨h1, by omega, fun t ht => h3 t (List.mem_cons_of_mem _ ht)⟩
    · have l := lcGo_tot (f := lcF [9] (.nm 9) bYes (eIf (eB (e2 eqG (eVar 9) (eVar 7))) (eVar 8) (eVar 9)) [some (.tuple (ps.map eP), .fz), some (.list (((prs ps).mergeSort le3).map e3), .fz), some (.list (ns.map PyData.int), .fz), some (.list (fo.map eN), .ow), some (I w), some (.int (i : Nat), .fz), some (.int (j : Nat), .fz), some (I (ns.getD j 0)), some (I (ns.getD i 0)), none]) PyData.int (fun n => PyData.int (if n = ns.getD j 0 then ns.getD i 0 else n)) ns (by
        intro n _
        by_cases hn : n = ns.getD j 0 <;> simp [hn, -List.getD_eq_getElem?_getD])
      have el : ns.map (fun n => PyData.int (if n = ns.getD j 0 then ns.getD i 0 else n)) = (ns.map fun n => if n = ns.getD j 0 then ns.getD i 0 else n).map PyData.int := by rw [List.map_map]; rfl
      rw [el] at l
      have hk2 : kst (ns, fo) (w, i, j) = (ns.map fun n => if n = ns.getD j 0 then ns.getD i 0 else n, fo ++ [(i, j)]) := if_neg hc
      rw [hk2]
      generalize ns.getD j 0 = nj at *
      generalize ns.getD i 0 = ni at *
      refine ⟨[some (.tuple (ps.map eP), .fz), some (.list (((prs ps).mergeSort le3).map e3), .fz), some (.list ((ns.map fun n => if n = nj then ni else n).map PyData.int), .fz), some (.list ((fo ++ [(i, j)]).map eN), .ow), some (I w), some (.int (i : Nat), .fz), some (.int (j : Nat), .fz), none, none, none], ?_, ?_, ?_⟩
      · simp [turn, g_least_tree_of_1, sFg, fgO, x1, x2, hc, sSeq_ev, eLc_ev, l, appR_ev (ds := fo.map eN), show fo.length < 16777216 by omega, -List.map_map]
      · rfl
      · exact ⟨by simpa using h1, by simp only [List.length_append, List.length_singleton]; omega, fun t ht => h3 t (List.mem_cons_of_mem _ ht)⟩)
  have s3 := sortG_sh (s := .t [.i, .i]) (ds := (kru ps).2.map eN) (f := .bw) (by decide) (by
    intro x hx
    obtain ⟨t, _, rfl⟩ := List.mem_map.mp hx
    simp [hasSh, hasShA]) (by rw [List.length_map]; exact hk)
  have s4 : ((kru ps).2.map eN).mergeSort leD = ((kru ps).2.mergeSort leN).map eN := by
    rw [List.map_mergeSort]
    intro a _ b _; rfl
  rw [s4] at s3
  have lr : (eLR true rng1G (aCons (eA (one lenG) (aCons (eVar 0) aNil)) aNil)) [some (.tuple (ps.map eP), .fz), none, none, none, none, none, none, none, none, none] = some (.list ((List.range ps.length).map fun i : Nat => PyData.int (i : Nat)), .ow) := by
    simp [eLR, r1]
  have e0 : ((List.range ps.length).map (fun i : Nat => (i : Int))).map PyData.int = (List.range ps.length).map fun i : Nat => PyData.int (i : Nat) := by rw [List.map_map]; rfl
  simp only [e0, List.map_nil] at loop
  have tup : ∀ ds : List D, tupleG (.list ds, .ow) = some (.tuple ds, .fz) := fun _ => rfl
  unfold kru at s3 ⊢
  simp [g_least_tree_of, g_least_tree_of_3, g_least_tree_of_2, sSeq_ev, lr, c', s1, sFor_no (xs := ((prs ps).mergeSort le3).map e3), loop, s3, tup, -List.map_map]
end Lk46

set_option Elab.async false
set_option linter.all false
set_option maxHeartbeats 4000000
namespace Lk46
open PySem
/-! plain: the least tree of places on one line -/
section
variable (y : Nat → Int) (n : Nat)
def crs (s : Int) (e : Nat × Nat) : Bool := decide (y e.1 ≤ s ∧ s < y e.2) || decide (y e.2 ≤ s ∧ s < y e.1)
structure KI (dn : List (Int × Nat × Nat)) (st : List Int × List (Nat × Nat)) : Prop where
  len : st.1.length = n
  jn : ∀ t ∈ dn, st.1.getD t.2.1 0 = st.1.getD t.2.2 0
  way : ∀ p q, p < n → q < n → st.1.getD p 0 = st.1.getD q 0 → p = q ∨ ∀ s, crs y s (p, q) = true → ∃ e ∈ st.2, crs y s e = true
  fo : ∀ e ∈ st.2, e.1 < n ∧ e.2 < n ∧ st.1.getD e.1 0 = st.1.getD e.2 0 ∧ ∃ t ∈ dn, t.2 = e
  one : ∀ s, st.2.countP (crs y s) ≤ 1
theorem getD_map {f : Int → Int} {ns : List Int} {i : Nat} (h : i < ns.length) : (ns.map f).getD i 0 = f (ns.getD i 0) := by
  simp [h]
theorem ki_step {n : Nat} {L dn ts : List (Int × Nat × Nat)} {t : Int × Nat × Nat} {st : List Int × List (Nat × Nat)} (eL : L = dn ++ t :: ts) (hL : L.Pairwise fun a b => a.1 ≤ b.1) (hm : ∀ i j, i < j → j < n → (((y i - y j).natAbs : Int), i, j) ∈ L)
    (hw : ∀ t ∈ L, t.1 = ((y t.2.1 - y t.2.2).natAbs : Int) ∧ t.2.1 < t.2.2 ∧ t.2.2 < n) (k : KI y n dn st) : KI y n (dn ++ [t]) (kst st t) := by
  obtain ⟨w, i, j⟩ := t
  obtain ⟨ns, fo⟩ := st
  have wt := hw (w, i, j) (by rw [eL]; simp)
  simp only at wt
  obtain ⟨rfl, hij, hj⟩ := wt
  have k1 := k.len
  simp only at k1
  -- near ones are joined
  have near : ∀ p q, p < n → q < n → ((y p - y q).natAbs : Int) < ((y i - y j).natAbs : Int) → ns.getD p 0 = ns.getD q 0 := by
    have aux : ∀ p q, p < q → q < n → ((y p - y q).natAbs : Int) < ((y i - y j).natAbs : Int) → ns.getD p 0 = ns.getD q 0 := fun p q hpq hq hd => by
      have m := hm p q hpq hq
      rw [eL, List.mem_append] at m
      rcases m with m | m
      · exact k.jn _ m
      · exfalso
        rw [eL] at hL
        have h2 := (List.pairwise_append.mp hL).2.1
        rcases List.mem_cons.mp m with m | m
        · have := congrArg Prod.fst m
          simp only at this
          omega
        · have := (List.pairwise_cons.mp h2).1 _ m
          simp only at this
          omega
    intro p q hp hq hd
    rcases Nat.lt_trichotomy p q with h | h | h
    · exact aux p q h hq hd
    · rw [h]
    · refine (aux q p h hp ?_).symm
      omega
  unfold kst
  simp only
  by_cases hc : ns.getD i 0 = ns.getD j 0
  · rw [if_pos hc]
    refine ⟨k1, fun t ht => ?_, k.way, fun e he => ?_, k.one⟩
    · rcases List.mem_append.mp ht with ht | ht
      · exact k.jn t ht
      · rw [List.mem_singleton] at ht; subst ht; exact hc
    · obtain ⟨a, b, c, t, d, f⟩ := k.fo e he
      exact ⟨a, b, c, t, List.mem_append.mpr (.inl d), f⟩
  · rw [if_neg hc]
    have g : ∀ p, p < n → (ns.map fun m => if m = ns.getD j 0 then ns.getD i 0 else m).getD p 0 = if ns.getD p 0 = ns.getD j 0 then ns.getD i 0 else ns.getD p 0 := fun p hp => getD_map (by omega)
    have gi := g i (by omega)
    have gj := g j hj
    rw [if_neg hc] at gi
    rw [if_pos rfl] at gj
    have keep : ∀ p q, p < n → q < n → ns.getD p 0 = ns.getD q 0 → (ns.map fun m => if m = ns.getD j 0 then ns.getD i 0 else m).getD p 0 = (ns.map fun m => if m = ns.getD j 0 then ns.getD i 0 else m).getD q 0 := fun p q hp hq h => by rw [g p hp, g q hq, h]
    refine ⟨by simpa using k1, fun t ht => ?_, fun p q hp hq h => ?_, fun e he => ?_, fun s => ?_⟩
    · rcases List.mem_append.mp ht with ht | ht
      · have := hw t (by rw [eL]; exact List.mem_append.mpr (.inl ht))
        exact keep _ _ (by omega) (by omega) (k.jn t ht)
      · rw [List.mem_singleton] at ht; subst ht; exact gi.trans gj.symm
    · simp only at h
      rw [g p hp, g q hq] at h
      have old : ∀ p q, p < n → q < n → ns.getD p 0 = ns.getD q 0 → ∀ s, crs y s (p, q) = true → ∃ e ∈ fo ++ [(i, j)], crs y s e = true := fun p q hp hq h s hs => by
        rcases k.way p q hp hq h with h | h
        · subst h; simp [crs] at hs; omega
        · obtain ⟨e, e1, e2⟩ := h s hs
          exact ⟨e, List.mem_append.mpr (.inl e1), e2⟩
      -- through the new one
      have thr : ∀ p q, p < n → q < n → ns.getD p 0 = ns.getD i 0 → ns.getD q 0 = ns.getD j 0 → ∀ s, crs y s (p, q) = true → ∃ e ∈ fo ++ [(i, j)], crs y s e = true := fun p q hp hq h1 h2 s hs => by
        by_cases c1 : crs y s (p, i) = true
        · exact old p i hp (by omega) h1 s c1
        · by_cases c2 : crs y s (j, q) = true
          · exact old j q hj hq h2.symm s c2
          · refine ⟨(i, j), by simp, ?_⟩
            simp only [crs, Bool.or_eq_true, decide_eq_true_eq] at *
            omega
      by_cases hp' : ns.getD p 0 = ns.getD j 0
      · by_cases hq' : ns.getD q 0 = ns.getD j 0
        · exact .inr (old p q hp hq (hp'.trans hq'.symm))
        · rw [if_pos hp', if_neg hq'] at h
          refine .inr fun s hs => thr q p hq hp h.symm hp' s ?_
          simp only [crs, Bool.or_eq_true, decide_eq_true_eq] at *
          omega
      · by_cases hq' : ns.getD q 0 = ns.getD j 0
        · rw [if_neg hp', if_pos hq'] at h
          exact .inr (thr p q hp hq h hq')
        · rw [if_neg hp', if_neg hq'] at h
          exact .inr (old p q hp hq h)
    · rcases List.mem_append.mp he with he | he
      · obtain ⟨a, b, c, t, d, f⟩ := k.fo e he
        exact ⟨a, b, keep _ _ a b c, t, List.mem_append.mpr (.inl d), f⟩
      · rw [List.mem_singleton] at he; subst he
        exact ⟨by simp only; omega, hj, gi.trans gj.symm, _, List.mem_append.mpr (.inr (List.mem_singleton.mpr rfl)), rfl⟩
    · have h1 := k.one s
      simp only [List.countP_append, List.countP_singleton]
      simp only at h1
      by_cases cs : crs y s (i, j) = true
      · rw [if_pos cs]
        suffices h0 : fo.countP (crs y s) = 0 by omega
        rw [List.countP_eq_zero]
        intro e he ce
        obtain ⟨a, b, c, t, d, f⟩ := k.fo e he
        obtain ⟨p, q⟩ := e
        have tw := hw t (by rw [eL]; exact List.mem_append.mpr (.inl d))
        rw [f] at tw
        have le : t.1 ≤ ((y i - y j).natAbs : Int) := by
          rw [eL] at hL
          exact (List.pairwise_append.mp hL).2.2 t d _ List.mem_cons_self
        simp only at a b c tw
        simp only [crs, Bool.or_eq_true, decide_eq_true_eq] at cs ce
        apply hc
        have nij := near p i a (by omega)
        have njj := near q j b hj
        have nij' := near p j a hj
        have njj' := near q i b (by omega)
        rcases cs with cs | cs <;> rcases ce with ce | ce
        · rw [← nij (by omega), ← njj (by omega)]; exact c
        · rw [← nij' (by omega), ← njj' (by omega)]; exact c.symm
        · rw [← nij' (by omega), ← njj' (by omega)]; exact c.symm
        · rw [← nij (by omega), ← njj (by omega)]; exact c
      · rw [if_neg cs]; omega
theorem ki_all {n : Nat} {L : List (Int × Nat × Nat)} (hL : L.Pairwise fun a b => a.1 ≤ b.1) (hm : ∀ i j, i < j → j < n → (((y i - y j).natAbs : Int), i, j) ∈ L)
    (hw : ∀ t ∈ L, t.1 = ((y t.2.1 - y t.2.2).natAbs : Int) ∧ t.2.1 < t.2.2 ∧ t.2.2 < n) : ∀ (ts dn : List (Int × Nat × Nat)) (st : List Int × List (Nat × Nat)), L = dn ++ ts → KI y n dn st → KI y n L (ts.foldl kst st)
  | [], dn, st, e, k => by rw [e, List.append_nil]; exact k
  | t :: ts, dn, st, e, k => by
    rw [List.foldl_cons]
    exact ki_all hL hm hw ts (dn ++ [t]) _ (by rw [e]; simp) (ki_step y e hL hm hw k)
theorem crs_count {lo : Int} {m : Nat} {e : Nat × Nat} (h1 : lo ≤ y e.1) (h2 : y e.1 ≤ lo + m) (h3 : lo ≤ y e.2) (h4 : y e.2 ≤ lo + m) : (((rI lo m).countP fun s => crs y s e : Nat) : Int) = ((y e.1 - y e.2).natAbs : Int) := by
  have aux : ∀ a b : Int, lo ≤ a → a < b → b ≤ lo + m → ∀ p : Int → Bool, (∀ z, p z = true ↔ a ≤ z ∧ z < b) → (((rI lo m).countP p : Nat) : Int) = b - a := fun a b h1 h2 h3 p hp => by
    rw [List.countP_eq_length_filter, rI_filter (lo := a) (hi := b - 1) (p := p) h1 (by omega) (by omega) (fun z => by rw [hp]; omega), rI_len]
    omega
  rcases Int.lt_trichotomy (y e.1) (y e.2) with h | h | h
  · rw [aux (y e.1) (y e.2) h1 h h4 _ (fun z => by simp only [crs, Bool.or_eq_true, decide_eq_true_eq]; omega)]; omega
  · rw [h, Int.sub_self]
    have : (rI lo m).countP (fun s => crs y s e) = 0 := by
      rw [List.countP_eq_zero]
      intro s _ hs
      simp only [crs, Bool.or_eq_true, decide_eq_true_eq] at hs
      omega
    rw [this]; rfl
  · rw [aux (y e.2) (y e.1) h3 h h2 _ (fun z => by simp only [crs, Bool.or_eq_true, decide_eq_true_eq]; omega)]; omega
theorem dbl (rs : List Int) : ∀ fo : List (Nat × Nat), (fo.map fun e => ((rs.countP fun s => crs y s e : Nat) : Int)).sum = (rs.map fun s => ((fo.countP (crs y s) : Nat) : Int)).sum
  | [] => by
    simp only [List.map_nil, List.sum_nil, List.countP_nil]
    induction rs with
    | nil => rfl
    | cons r rs ih => rw [List.map_cons, List.sum_cons, ← ih]; rfl
  | e :: fo => by
    rw [List.map_cons, List.sum_cons, dbl rs fo]
    clear dbl
    induction rs with
    | nil => rfl
    | cons r rs ih =>
      rw [List.map_cons, List.sum_cons, List.map_cons, List.sum_cons, ← ih, List.countP_cons, List.countP_cons]
      by_cases c : crs y r e = true <;> simp [c] <;> omega
theorem ones (rs : List Int) {f : Int → Int} (h : ∀ r ∈ rs, f r = 1) : (rs.map f).sum = rs.length := by
  induction rs with
  | nil => rfl
  | cons r rs ih =>
    rw [List.map_cons, List.sum_cons, ih fun x hx => h x (List.mem_cons_of_mem _ hx), h r List.mem_cons_self, List.length_cons]
    omega
theorem kru_line {n a b : Nat} {L : List (Int × Nat × Nat)} (hL : L.Pairwise fun a b => a.1 ≤ b.1) (hm : ∀ i j, i < j → j < n → (((y i - y j).natAbs : Int), i, j) ∈ L)
    (hw : ∀ t ∈ L, t.1 = ((y t.2.1 - y t.2.2).natAbs : Int) ∧ t.2.1 < t.2.2 ∧ t.2.2 < n) (ha : a < n) (hb : b < n) (hab : ∀ i, i < n → y a ≤ y i ∧ y i ≤ y b) :
    ((L.foldl kst ((List.range n).map (fun i : Nat => (i : Int)), [])).2.map fun e => ((y e.1 - y e.2).natAbs : Int)).sum = y b - y a := by
  have k := ki_all y hL hm hw L [] ((List.range n).map (fun i : Nat => (i : Int)), []) rfl ⟨by simp, by simp, fun p q hp hq h => .inl (by
    simp [hp, hq] at h
    omega), by simp, by simp⟩
  generalize L.foldl kst ((List.range n).map (fun i : Nat => (i : Int)), []) = st at *
  have eb := hab b hb
  have e1 : y a + ((y b - y a).toNat : Int) = y b := by omega
  have s1 : (st.2.map fun e => ((y e.1 - y e.2).natAbs : Int)) = st.2.map fun e => (((rI (y a) (y b - y a).toNat).countP fun s => crs y s e : Nat) : Int) := by
    apply List.map_congr_left
    intro e he
    obtain ⟨h1, h2, _⟩ := k.fo e he
    have r1 := hab _ h1
    have r2 := hab _ h2
    exact (crs_count y (by omega) (by omega) (by omega) (by omega)).symm
  rw [s1, dbl, ones, rI_len]
  · omega
  · intro s hs
    have hs := rI_mem.mp hs
    have h1 := k.one s
    have h2 : 0 < st.2.countP (crs y s) := by
      rw [List.countP_pos_iff]
      have all : ∀ i j, i < j → j < n → st.1.getD i 0 = st.1.getD j 0 := fun i j h1 h2 => k.jn _ (hm i j h1 h2)
      have eq : st.1.getD a 0 = st.1.getD b 0 := by
        rcases Nat.lt_trichotomy a b with h | h | h
        · exact all a b h hb
        · rw [h]
        · exact (all b a h ha).symm
      rcases k.way a b ha hb eq with h | h
      · subst h; omega
      · exact h s (by simp only [crs, Bool.or_eq_true, decide_eq_true_eq]; omega)
    omega
end
end Lk46

set_option Elab.async false
set_option linter.all false
set_option maxRecDepth 100000
set_option maxHeartbeats 4000000
namespace Pl
open PySem L2
def minL (ds : List D) : D := match ds with
  | [] => .none
  | d :: ds => PySem.W.minD d ds
theorem minA_L {s : Sh} {ds : List D} {f : Fl} (hs : s.dp ≤ 4) (hw : s.wd = true) (hn : ds ≠ []) (h : ∀ x ∈ ds, hasSh s x = true) : minA [(.list ds, f)] = some (minL ds, .fz) ∧ plD 5 (minL ds) = true := by
  obtain ⟨d, es, rfl⟩ := List.exists_cons_of_ne_nil hn
  refine ⟨minA_sh (s := s) (by omega) h, ?_⟩
  have hm : hasSh s (PySem.W.minD d es) = true := (Pl.minD_mem d es d).elim (fun z => by rw [z]; exact h d List.mem_cons_self) fun z => h _ (List.mem_cons_of_mem _ z)
  exact sh_pl _ 5 _ hm (by omega) hw
end Pl
namespace Lk46
open PySem PySem.Spec PyProof.Rows L2 Pl
theorem enum_pt (ps : Hs) : enumL (ps.map eP) = (List.range ps.length).map fun i : Nat => PyData.tuple [.int (i : Nat), eP (pt ps i)] := by
  apply List.ext_getElem?
  intro i
  by_cases h : i < ps.length
  · simp [enumL, pt, h]
  · simp [enumL, h]
def starI (ps : Hs) (p : Int × Int) : Int := (ps.map fun q => wayI p q).sum
def stars (ps : Hs) : List D := (List.range ps.length).map fun k : Nat => PyData.tuple [.int (starI ps (pt ps k)), .int (k : Nat)]
theorem stars_min {ps : Hs} {f : Fl} (h : 0 < ps.length) : minA [(.list (stars ps), f)] = some (minL (stars ps), .fz) ∧ plD 5 (minL (stars ps)) = true := minA_L (s := .t [.i, .i]) (by decide) (by decide) (by
  intro z
  have : ps.length = 0 := by simpa [stars] using congrArg List.length z
  omega) (by
  intro x hx
  obtain ⟨k, _, rfl⟩ := List.mem_map.mp hx
  simp [hasSh, hasShA])
theorem b_star_sum (ps : Hs) (h : 0 < ps.length) : f_star_sum [(.tuple (ps.map eP), .fz)] = some (minL (stars ps), .fz) := by
  unfold f_star_sum
  rw [fnG_ev (by rfl)]
  have loop := lcGo_tot (f := lcF [1, 2] (.tp (.cons (.nm 1) (.cons (.nm 2) .nil))) bYes (eA tupG (aCons (eA (one sumG) (aCons (eLc [3] (.nm 3) (seqS (eVar 0)) bYes (eA f_way_of (aCons (eVar 2) (aCons (eVar 3) aNil)))) aNil)) (aCons (eVar 1) aNil))) [some (.tuple (ps.map eP), .fz), none, none, none]) (fun i : Nat => PyData.tuple [.int (i : Nat), eP (pt ps i)]) (fun k => PyData.tuple [.int (starI ps (pt ps k)), .int (k : Nat)]) (List.range ps.length) (by
    intro k _
    have inner := lcGo_tot (f := lcF [3] (.nm 3) bYes (eA f_way_of (aCons (eVar 2) (aCons (eVar 3) aNil))) [some (.tuple (ps.map eP), .fz), some (.int (k : Nat), .fz), some (eP (pt ps k), .fz), none]) eP (fun q => .int (wayI (pt ps k) q)) ps (by
      intro q _
      have := b_way_of (pt ps k) q
      simp [this])
    have e : ps.map (fun q => PyData.int (wayI (pt ps k) q)) = (ps.map fun q => wayI (pt ps k) q).map .int := by rw [List.map_map]; rfl
    rw [e] at inner
    simp [eLc_ev, inner, sum_ints, starI, -List.map_map])
  have m := (stars_min (ps := ps) (f := .ow) h).1
  unfold stars at m ⊢
  simp [g_star_sum, eLc_ev, enum_pt, loop, m, -List.map_map]
theorem b_sum_of_ways (ps : Hs) (ij : List (Nat × Nat)) (h : ∀ e ∈ ij, e.1 < ps.length ∧ e.2 < ps.length) : f_sum_of_ways [(.tuple (ps.map eP), .fz), (.tuple (ij.map eN), .fz)] = some (I ((ij.map fun e => wayI (pt ps e.1) (pt ps e.2)).sum)) := by
  unfold f_sum_of_ways
  rw [fnG_ev (by rfl)]
  have loop := lcGo_tot (f := lcF [2, 3] (.tp (.cons (.nm 2) (.cons (.nm 3) .nil))) bYes (eA f_way_of (aCons (e2 ixG (eVar 0) (eVar 2)) (aCons (e2 ixG (eVar 0) (eVar 3)) aNil))) [some (.tuple (ps.map eP), .fz), some (.tuple (ij.map eN), .fz), none, none]) eN (fun e => .int (wayI (pt ps e.1) (pt ps e.2))) ij (by
    intro e he
    obtain ⟨h1, h2⟩ := h e he
    simp [ix_pt h1, ix_pt h2, b_way_of])
  have e : ij.map (fun e => PyData.int (wayI (pt ps e.1) (pt ps e.2))) = (ij.map fun e => wayI (pt ps e.1) (pt ps e.2)).map .int := by rw [List.map_map]; rfl
  rw [e] at loop
  simp [g_sum_of_ways, eLc_ev, loop, sum_ints, -List.map_map]
theorem le3_eq (a b : Int × Nat × Nat) : le3 a b = decide (a.1 < b.1 ∨ (a.1 = b.1 ∧ (a.2.1 < b.2.1 ∨ (a.2.1 = b.2.1 ∧ a.2.2 ≤ b.2.2)))) := by
  obtain ⟨w, i, j⟩ := a
  obtain ⟨w', i', j'⟩ := b
  unfold le3 leD e3
  rw [PySem.W.dataLt_pair (by simp [PySem.W.alike]) (by simp [PySem.W.alike, PySem.W.alikeAll]), PySem.W.dataLt_ii, PySem.W.dataLt_int]
  rw [Bool.eq_iff_iff]
  by_cases h1 : w' = w
  · subst h1
    by_cases h2 : i' = i ∧ j' = j
    · obtain ⟨rfl, rfl⟩ := h2
      simp [PyData.eqv, PyData.eqvAll]
    · have : PyData.eqv (.tuple [.int (i' : Int), .int (j' : Int)]) (.tuple [.int (i : Int), .int (j : Int)]) = false := by
        simp [PyData.eqv, PyData.eqvAll]; omega
      simp only [this]
      simp [PyData.eqv]
      omega
  · simp [PyData.eqv, h1]; omega
theorem perm_sum {a b : List Int} (h : a.Perm b) : a.sum = b.sum := by
  induction h with
  | nil => rfl
  | cons x _ ih => rw [List.sum_cons, List.sum_cons, ih]
  | swap x y l => simp only [List.sum_cons]; omega
  | trans _ _ h1 h2 => exact h1.trans h2
theorem le3_sorted (L : List (Int × Nat × Nat)) : (L.mergeSort le3).Pairwise fun a b => a.1 ≤ b.1 := by
  have := List.pairwise_mergeSort (le := le3) (fun a b c h k => by
    rw [le3_eq, decide_eq_true_eq] at *
    omega) (fun a b => by
    rw [Bool.or_eq_true, le3_eq, le3_eq, decide_eq_true_eq, decide_eq_true_eq]
    omega) L
  refine this.imp fun h => ?_
  rw [le3_eq, decide_eq_true_eq] at h
  omega
/-- the greatest and the least -/
theorem minI'_le {ns : List Int} {k : Int} (h : k ∈ ns) : minI' ns ≤ k := by
  have : ∀ (ns : List Int) (n : Int), ns.foldl min n ≤ n ∧ ∀ k ∈ ns, ns.foldl min n ≤ k := fun ns => by
    induction ns with
    | nil => intro n; simp
    | cons m ms ih =>
      intro n
      have := ih (min n m)
      rw [List.foldl_cons]
      refine ⟨by omega, fun k hk => ?_⟩
      rcases List.mem_cons.mp hk with rfl | hk
      · omega
      · exact this.2 k hk
  cases ns with
  | nil => cases h
  | cons n ns =>
    rcases List.mem_cons.mp h with rfl | h
    · exact (this ns k).1
    · exact (this ns n).2 k h
theorem maxI'_ge {ns : List Int} {k : Int} (h : k ∈ ns) : k ≤ maxI' ns := by
  have : ∀ (ns : List Int) (n : Int), n ≤ ns.foldl max n ∧ ∀ k ∈ ns, k ≤ ns.foldl max n := fun ns => by
    induction ns with
    | nil => intro n; simp
    | cons m ms ih =>
      intro n
      have := ih (max n m)
      rw [List.foldl_cons]
      refine ⟨by omega, fun k hk => ?_⟩
      rcases List.mem_cons.mp hk with rfl | hk
      · omega
      · exact this.2 k hk
  cases ns with
  | nil => cases h
  | cons n ns =>
    rcases List.mem_cons.mp h with rfl | h
    · exact (this ns k).1
    · exact (this ns n).2 k h
theorem minI'_mem {ns : List Int} (h : ns ≠ []) : minI' ns ∈ ns := by
  have : ∀ (ns : List Int) (n : Int), ns.foldl min n = n ∨ ns.foldl min n ∈ ns := fun ns => by
    induction ns with
    | nil => intro n; simp
    | cons m ms ih =>
      intro n
      rw [List.foldl_cons]
      rcases ih (min n m) with h | h
      · rw [h]
        by_cases c : n ≤ m
        · left; omega
        · right; rw [show min n m = m by omega]; exact List.mem_cons_self
      · exact .inr (List.mem_cons_of_mem _ h)
  obtain ⟨n, ns, rfl⟩ := List.exists_cons_of_ne_nil h
  rcases this ns n with h | h
  · show ns.foldl min n ∈ _; rw [h]; exact List.mem_cons_self
  · exact List.mem_cons_of_mem _ h
theorem maxI'_mem {ns : List Int} (h : ns ≠ []) : maxI' ns ∈ ns := by
  have : ∀ (ns : List Int) (n : Int), ns.foldl max n = n ∨ ns.foldl max n ∈ ns := fun ns => by
    induction ns with
    | nil => intro n; simp
    | cons m ms ih =>
      intro n
      rw [List.foldl_cons]
      rcases ih (max n m) with h | h
      · rw [h]
        by_cases c : m ≤ n
        · left; omega
        · right; rw [show max n m = m by omega]; exact List.mem_cons_self
      · exact .inr (List.mem_cons_of_mem _ h)
  obtain ⟨n, ns, rfl⟩ := List.exists_cons_of_ne_nil h
  rcases this ns n with h | h
  · show ns.foldl max n ∈ _; rw [h]; exact List.mem_cons_self
  · exact List.mem_cons_of_mem _ h
/-- the street's least tree -/
def street (x : Int) (hs : Hs) : Hs := hs.map fun h => (x, h.2)
theorem street_len {x : Int} {hs : Hs} : (street x hs).length = hs.length := by simp [street]
theorem street_pt {x : Int} {hs : Hs} {i : Nat} (h : i < hs.length) : pt (street x hs) i = (x, (ysOf hs).getD i 0) := by
  simp [pt, street, ysOf, h]
theorem kru_range {ps : Hs} : ∀ e ∈ (kru ps).2, e.1 < ps.length ∧ e.2 < ps.length := by
  have : ∀ (ts : List (Int × Nat × Nat)) (st : List Int × List (Nat × Nat)), (∀ t ∈ ts, t.2.1 < ps.length ∧ t.2.2 < ps.length) → (∀ e ∈ st.2, e.1 < ps.length ∧ e.2 < ps.length) → ∀ e ∈ (ts.foldl kst st).2, e.1 < ps.length ∧ e.2 < ps.length := fun ts => by
    induction ts with
    | nil => intro st _ h; exact h
    | cons t ts ih =>
      intro st h k
      rw [List.foldl_cons]
      refine ih _ (fun u hu => h u (List.mem_cons_of_mem _ hu)) fun e he => ?_
      unfold kst at he
      split at he
      · exact k e he
      · rcases List.mem_append.mp he with he | he
        · exact k e he
        · rw [List.mem_singleton] at he; subst he; exact h t List.mem_cons_self
  refine this _ _ (fun t ht => ?_) (by simp)
  have := prs_mem.mp ((List.mergeSort_perm _ _).mem_iff.mp ht)
  omega
theorem street_sum {x : Int} {hs : Hs} (h0 : 0 < hs.length) : ((((kru (street x hs)).2.mergeSort leN)).map fun e => wayI (pt (street x hs) e.1) (pt (street x hs) e.2)).sum = maxI' (ysOf hs) - minI' (ysOf hs) := by
  have hy := ysOf_len hs
  have hn : ysOf hs ≠ [] := by intro z; rw [z] at hy; simp at hy; omega
  rw [perm_sum ((List.mergeSort_perm (kru (street x hs)).2 leN).map _)]
  have e1 : ((kru (street x hs)).2.map fun e => wayI (pt (street x hs) e.1) (pt (street x hs) e.2)) = (kru (street x hs)).2.map fun e => (((ysOf hs).getD e.1 0 - (ysOf hs).getD e.2 0).natAbs : Int) := by
    apply List.map_congr_left
    intro e he
    have := kru_range e he
    rw [street_len] at this
    rw [street_pt this.1, street_pt this.2]
    simp only [wayI]
    omega
  rw [e1]
  obtain ⟨a, ha, ea⟩ := List.mem_iff_getElem.mp (minI'_mem hn)
  obtain ⟨b, hb, eb⟩ := List.mem_iff_getElem.mp (maxI'_mem hn)
  have ga : (ysOf hs).getD a 0 = minI' (ysOf hs) := by rw [← ea]; simp [ha]
  have gb : (ysOf hs).getD b 0 = maxI' (ysOf hs) := by rw [← eb]; simp [hb]
  have := kru_line (y := fun i => (ysOf hs).getD i 0) (n := hs.length) (a := a) (b := b) (L := (prs (street x hs)).mergeSort le3) (le3_sorted _) (fun i j hij hj => by
    rw [(List.mergeSort_perm _ _).mem_iff, prs_mem, street_len]
    refine ⟨hij, hj, ?_⟩
    rw [street_pt (by simp only; omega), street_pt hj]
    simp only [wayI]; omega) (fun t ht => by
    have := prs_mem.mp ((List.mergeSort_perm _ _).mem_iff.mp ht)
    rw [street_len] at this
    refine ⟨?_, this.1, this.2.1⟩
    rw [this.2.2, street_pt (by omega), street_pt (by omega)]
    simp only [wayI]; omega) (by omega) (by omega) (fun i hi => by
    have hm : (ysOf hs).getD i 0 ∈ ysOf hs := by
      rw [List.getD_eq_getElem?_getD, List.getElem?_eq_getElem (by omega)]
      exact List.getElem_mem _
    simp only [ga, gb]
    exact ⟨minI'_le hm, maxI'_ge hm⟩)
  simp only [ga, gb] at this
  unfold kru
  rw [street_len]
  exact this
end Lk46

set_option Elab.async false
set_option linter.all false
set_option maxRecDepth 100000
set_option maxHeartbeats 4000000
namespace Pl
open PySem L2
theorem rngL_succ (i : Int) (n : Nat) : rngL i (n + 1) = .int i :: rngL (i + 1) n := by
  unfold rngL
  rw [List.range_succ_eq_map, List.map_cons, List.map_map]
  congr 1
  · simp
  · apply List.map_congr_left
    intro k _
    show PyData.int _ = PyData.int _
    congr 1
    show i + ((k + 1 : Nat) : Int) = i + 1 + k
    omega
theorem forGo_rng {tg : Tg} {body : GS} {ws : List Nat} {N : Nat} (P : Nat → En → Prop) (k : ∀ (i : Nat) env, i < N → P i env → ∃ e, turn tg body (.int (i : Nat)) env = some (.nx e) ∧ P (i + 1) (wipeE e ws)) : ∀ (n i : Nat) (env : En), i + n = N → P i env → ∃ e, forGo tg body ws (rngL (i : Nat) n) env = some (.nx e) ∧ P N e
  | 0, i, env, hN, h => ⟨env, rfl, by rwa [← hN, Nat.add_zero]⟩
  | n + 1, i, env, hN, h => by
    obtain ⟨e, h1, h2⟩ := k i env (by omega) h
    obtain ⟨e', h3, h4⟩ := forGo_rng P k n (i + 1) _ (by omega) h2
    refine ⟨e', ?_, h4⟩
    rw [rngL_succ, forGo_step h1]
    exact h3
end Pl
namespace Lk46
open PySem PySem.Spec PyProof.Rows L2 Pl
theorem get1 {ns : List Int} (h : ns.length = 3) : atI ((sortI ns).map PyData.int) 1 = some (.int ((sortI ns).getD 1 0)) := by
  have := ix_nm (ns := sortI ns) (i := 1) (by rw [sortI_length]; omega)
  exact this
theorem b_best_point (p q r : Int × Int) : f_best_point [(eP p, .fz), (eP q, .fz), (eP r, .fz)] = some (eP ((sortI [p.1, q.1, r.1]).getD 1 0, (sortI [p.2, q.2, r.2]).getD 1 0), .fz) := by
  unfold f_best_point
  rw [fnG_ev (by rfl)]
  have s1 := sortG_ints (ns := [p.1, q.1, r.1]) (f := .ow) (by simp)
  have s2 := sortG_ints (ns := [p.2, q.2, r.2]) (f := .ow) (by simp)
  have g1 := get1 (ns := [p.1, q.1, r.1]) rfl
  have g2 := get1 (ns := [p.2, q.2, r.2]) rfl
  simp only [List.map_cons, List.map_nil] at s1 s2
  have tup : ∀ ds : List D, tupleG (.list ds, .ow) = some (.tuple ds, .fz) := fun _ => rfl
  generalize (sortI [p.1, q.1, r.1]) = u at *
  generalize (sortI [p.2, q.2, r.2]) = v at *
  simp [g_best_point, eLc_ev, lcGo, s1, s2, g1, g2, tup, -List.getD_eq_getElem?_getD]
theorem b_law_places2 (hs : Hs) (x : Int) (h0 : 0 < hs.length) (h1 : hs.length ≤ 63) (s0 s1 s2 s3 s4 s7 s8 s9 s10 : Slot) : g__law_places_2 [s0, s1, s2, s3, s4, some (.tuple ((street x hs).map eP), .fz), some (.list ((ysOf hs).map .int), .fz), s7, s8, s9, s10] = some (.rt (.bool true, .fz)) := by
  have hy := ysOf_len hs
  have hn : ysOf hs ≠ [] := by intro z; rw [z] at hy; simp at hy; omega
  have t := b_least_tree_of (street x hs) (by rw [street_len]; exact h1)
  have s := b_sum_of_ways (street x hs) ((kru (street x hs)).2.mergeSort leN) (fun e he => kru_range e ((List.mergeSort_perm _ _).mem_iff.mp he))
  rw [street_sum h0] at s
  have l := like_i (maxI' (ysOf hs) - minI' (ysOf hs))
  simp [g__law_places_2, t, s, l, minA_l hn, maxA_l hn, -List.map_map]
theorem b_law_places3 (hs : Hs) (p q r : Int × Int) (h0 : 0 < hs.length) (h1 : hs.length ≤ 63) (s2 s3 s5 s6 s7 s8 : Slot) : g__law_places_5 [some (.tuple (hs.map eP), .fz), some (.tuple [eP p, eP q, eP r], .fz), s2, s3, none, s5, s6, s7, s8, none, none] = some (.rt (.bool true, .fz)) := by
  have fin := b_law_places2 hs p.1 h0 h1
  have bp := b_best_point p q r
  have bm := b_best_main [p, q, r] (by simp) (by simp)
  have em : med (ysOf [p, q, r]) = (sortI [p.2, q.2, r.2]).getD 1 0 := by
    have : ((ysOf [p, q, r]).length - 1) / 2 = 1 := by simp [ysOf]
    unfold med; rw [this]; rfl
  rw [em] at bm
  simp only [List.map_cons, List.map_nil] at bm
  have s1 := sortG_ints (ns := [p.1, q.1, r.1]) (f := .ow) (by simp)
  have s2' := sortG_ints (ns := [p.2, q.2, r.2]) (f := .ow) (by simp)
  have g1 := get1 (ns := [p.1, q.1, r.1]) rfl
  have g2 := get1 (ns := [p.2, q.2, r.2]) rfl
  simp only [List.map_cons, List.map_nil] at s1 s2'
  have tup : ∀ ds : List D, tupleG (.list ds, .ow) = some (.tuple ds, .fz) := fun _ => rfl
  generalize (sortI [p.1, q.1, r.1]) = u at *
  generalize (sortI [p.2, q.2, r.2]) = v at *
  have t1 := like_p (u.getD 1 0, v.getD 1 0)
  have t2 := like_i (v.getD 1 0)
  have st := lcGo_tot (f := lcF [9] (.nm 9) bYes (eA tupG (aCons (e2 ixG (e2 ixG (eVar 1) (eC (.int 0))) (eC (.int 0))) (aCons (e2 ixG (eVar 9) (eC (.int 1))) aNil))) [some (.tuple (hs.map eP), .fz), some (.tuple [eP p, eP q, eP r], .fz), s2, s3, some (eP (u.getD 1 0, v.getD 1 0), .fz), s5, s6, s7, s8, none, none]) eP (fun h => eP (p.1, h.2)) hs (by
    intro h _
    simp)
  have e1 : hs.map (fun h => eP (p.1, h.2)) = (street p.1 hs).map eP := by unfold street; rw [List.map_map]; rfl
  rw [e1] at st
  have ly := lc_y 9 (own := [9]) (e := [some (.tuple (hs.map eP), .fz), some (.tuple [eP p, eP q, eP r], .fz), s2, s3, some (eP (u.getD 1 0, v.getD 1 0), .fz), some (.tuple ((street p.1 hs).map eP), .fz), s6, s7, s8, none, none]) hs (fun x => by simp)
  simp [g__law_places_5, g__law_places_4, g__law_places_3, sSeq_ev, eLc_ev, lcGo, s1, s2', g1, g2, bp, bm, t1, t2, st, ly, tup, fin, -List.getD_eq_getElem?_getD, -List.map_map]
theorem wayI_comm (p q : Int × Int) : wayI p q = wayI q p := by unfold wayI; omega
theorem b_law_places (hs : Hs) (p q r : Int × Int) (h0 : 0 < hs.length) (h1 : hs.length ≤ 63) : f__law_places [(.tuple (hs.map eP), .fz), (.tuple [eP p, eP q, eP r], .fz)] = some (.bool true, .fz) := by
  unfold f__law_places
  rw [fnG_ev (by rfl)]
  have fin := b_law_places3 hs p q r h0 h1
  have r1 := rng1_ev (m := hs.length) (f := .fz) (by omega)
  rw [rngL_nat] at r1
  have loop := forGo_app (tg := .nm 3) (body := (sSeq (sAsgT (.tp (.cons (.nm 7) (.cons (.nm 8) .nil))) (e2 ixG (eVar 0) (eVar 3)))
  g__law_places_1)) (ws := [3, 7, 8]) (fun i : Nat => PyData.int (i : Nat)) (fun acc => [some (.tuple (hs.map eP), .fz), some (.tuple [eP p, eP q, eP r], .fz), some (.list acc, .ow), none, none, none, none, none, none, none, none]) (fun k : Nat => [PyData.tuple [.int (starI hs (pt hs k)), .int (k : Nat)]]) 1 100 (fun _ => by simp) (List.range hs.length) [] (by simp; omega) (by
    intro k hk acc hacc
    have hk := List.mem_range.mp hk
    rw [turn_nm]
    have inner := lcGo_tot (f := lcF [9] (.nm 9) bYes (e2 addG (eA (one absG) (aCons (e2 subG (e2 ixG (eVar 9) (eC (.int 0))) (eVar 7)) aNil)) (eA (one absG) (aCons (e2 subG (e2 ixG (eVar 9) (eC (.int 1))) (eVar 8)) aNil))) [some (.tuple (hs.map eP), .fz), some (.tuple [eP p, eP q, eP r], .fz), some (.list acc, .ow), some (.int (k : Nat), .fz), none, none, none, some (I (pt hs k).1), some (I (pt hs k).2), none, none]) eP (fun h => .int (wayI (pt hs k) h)) hs (by
      intro h _
      rw [wayI_comm]
      simp [abs_i, wayI])
    have e : hs.map (fun h => PyData.int (wayI (pt hs k) h)) = (hs.map fun h => wayI (pt hs k) h).map .int := by rw [List.map_map]; rfl
    rw [e] at inner
    refine ⟨[some (.tuple (hs.map eP), .fz), some (.tuple [eP p, eP q, eP r], .fz), some (.list (acc ++ [PyData.tuple [.int (starI hs (pt hs k)), .int (k : Nat)]]), .ow), some (.int (k : Nat), .fz), none, none, none, some (I (pt hs k).1), some (I (pt hs k).2), none, none], ?_, by simp⟩
    simp [g__law_places_1, sSeq_ev, ix_pt hk, eLc_ev, inner, sum_ints, starI, appR_ev (ds := acc), show acc.length < 16777216 by omega, -List.map_map])
  have e2' : ((List.range hs.length).flatMap fun k : Nat => [PyData.tuple [.int (starI hs (pt hs k)), .int (k : Nat)]]) = stars hs := by
    unfold stars; rw [List.map_eq_flatMap]
  rw [e2', List.nil_append] at loop
  have m := stars_min (ps := hs) (f := .bw) h0
  have t := like_eq _ m.2
  simp [g__law_places, g__law_places_6, sSeq_ev, sFor_no (xs := (List.range hs.length).map fun i : Nat => PyData.int (i : Nat)), r1, loop, b_star_sum hs h0, m.1, t, fin]
end Lk46

set_option Elab.async false
set_option linter.all false
set_option maxRecDepth 100000
set_option maxHeartbeats 4000000
namespace Lk46
open PySem PySem.Spec PyProof.Rows L2 Pl
theorem cut_to (xs : List D) (k : Nat) (h : k ≤ xs.length) : cutL xs none (some (k : Int)) = xs.take k := by
  unfold cutL
  rw [HT.sIx_none, HT.sIx_nat, List.drop_zero, Nat.min_eq_left h, Nat.sub_zero]
theorem cut_from (xs : List D) (k : Nat) (h : k ≤ xs.length) : cutL xs (some (k : Int)) none = xs.drop k := by
  unfold cutL
  rw [HT.sIx_none, HT.sIx_nat, Nat.min_eq_left h]
  apply List.take_of_length_le
  rw [List.length_drop]; omega
theorem law_true (ns : List Int) (h : ns.length ≤ 63) : f_law [(.list (ns.map .int), .sc)] = some (.bool true, .fz) := by
  unfold f_law
  rw [fnG_ev (by rfl)]
  obtain ⟨row, hrow, hr⟩ := row_law ns 45 (by omega)
  have ht := b_tests row hrow
  have hg : ∀ k : Nat, k < 45 → atI (row.map PyData.int) (k : Nat) = some (.int (row.getD k 0)) := fun k hk => ix_nm (by omega)
  have hz : ∃ z : Int, 0 ≤ z ∧ z ≤ 40 ∧ (atI [PyData.int 40, PyData.int 4] ((row.getD 10 0).fmod 2)).map (fun d => (d, Fl.fz)) = some (I z) := by
    have m := fmod_in (row.getD 10 0) (j := 2) (by omega)
    rcases (show (row.getD 10 0).fmod 2 = 0 ∨ (row.getD 10 0).fmod 2 = 1 by omega) with e | e
    · exact ⟨40, by omega, by omega, by rw [e]; rfl⟩
    · exact ⟨4, by omega, by omega, by rw [e]; rfl⟩
  obtain ⟨z, z0, z1, hz⟩ := hz
  obtain ⟨e, h1, pl, hl, hb, rfl⟩ := forGo_rng (N := 15) (tg := .nm 2) (ws := [2]) (body := g_law_1)
    (fun i e => ∃ pl : Hs, pl.length = i ∧ (∀ p ∈ pl, -1000 ≤ p.2 ∧ p.2 ≤ 1000) ∧ e = [some (.list (ns.map .int), .sc), some (.list (row.map .int), .fz), none, none, some (I z), some (.list (pl.map eP), .ow)]) (by
    rintro i env hi ⟨pl, hl, hb, rfl⟩
    have g1 := hg (11 + i) (by omega)
    have g2 := hg (26 + i) (by omega)
    rw [Int.natCast_add] at g1 g2
    have m1 := fmod_in (row.getD (11 + i) 0) (j := 2 * z + 1) (by omega)
    have m2 := fmod_in (row.getD (26 + i) 0) (j := 2 * z + 1) (by omega)
    refine ⟨[some (.list (ns.map .int), .sc), some (.list (row.map .int), .fz), some (.int (i : Nat), .fz), none, some (I z), some (.list ((pl ++ [((row.getD (11 + i) 0).fmod (2 * z + 1) - z, (row.getD (26 + i) 0).fmod (2 * z + 1) - z)]).map eP), .ow)], ?_, pl ++ [((row.getD (11 + i) 0).fmod (2 * z + 1) - z, (row.getD (26 + i) 0).fmod (2 * z + 1) - z)], by simp [hl], fun p hp => ?_, by simp⟩
    · rw [turn_nm]
      generalize row.getD (11 + i) 0 = a at *
      generalize row.getD (26 + i) 0 = b at *
      have n1 : (11 : Int) + i = ((11 : Nat) : Int) + i := rfl
      have n2 : (26 : Int) + i = ((26 : Nat) : Int) + i := rfl
      simp [g_law_1, n1, n2, g1, g2, mul_l (i := 2) (j := z) (by omega), mod_n (j := 2 * z + 1) (by omega), appR_ev (ds := pl.map eP), show pl.length < 16777216 by omega]
    · rcases List.mem_append.mp hp with hp | hp
      · exact hb p hp
      · rw [List.mem_singleton] at hp; subst hp; simp only; omega) 15 0 [some (.list (ns.map .int), .sc), some (.list (row.map .int), .fz), none, none, some (I z), some (.list [], .ow)] rfl ⟨[], rfl, by simp, rfl⟩
  have r1 := rng1_ev (m := 15) (f := .fz) (by omega)
  have m41 := fmod_in (row.getD 41 0) (j := 12) (by omega)
  have m42 := fmod_in (row.getD 42 0) (j := 6) (by omega)
  obtain ⟨k, hk⟩ : ∃ k : Nat, (1 : Int) + (row.getD 41 0).fmod 12 = (k : Nat) := ⟨(1 + (row.getD 41 0).fmod 12).toNat, by omega⟩
  have ck := cut_to (pl.map eP) k (by rw [List.length_map]; omega)
  have cf := cut_from (pl.map eP) 12 (by rw [List.length_map]; omega)
  have ek : (pl.map eP).take k = (pl.take k).map eP := (List.map_take ..).symm
  have l12 : ∃ p q r, (pl.map eP).drop 12 = [eP p, eP q, eP r] := by
    refine ⟨pl[12], pl[13], pl[14], ?_⟩
    apply List.ext_getElem?
    intro i
    rw [List.getElem?_drop, List.getElem?_map]
    match i with
    | 0 => simp [show 12 < pl.length by omega]
    | 1 => simp [show 13 < pl.length by omega]
    | 2 => simp [show 14 < pl.length by omega]
    | i + 3 => simp; omega
  obtain ⟨p, q, r, e12⟩ := l12
  rw [e12] at cf
  rw [ek] at ck
  have tl : (pl.take k).length = k := by rw [List.length_take]; omega
  have lm := b_law_mains (pl.take k) ((row.getD 42 0).fmod 6) ((row.getD 43 0).fmod (2 * z + 1) - z) (by omega) (by omega) ⟨m42.1, m42.2⟩ (fun p hp => hb p (List.mem_of_mem_take hp))
  have lp := b_law_places (pl.take k) p q r (by omega) (by omega)
  have tup : ∀ ds : List D, tupleG (.list ds, .ow) = some (.tuple ds, .fz) := fun _ => rfl
  have sl : ∀ (ds : List D) (lo hi : Option Int) (f : Fl), slG (.list ds, f) lo hi = some (.list (cutL ds lo hi), .ow) := fun _ _ _ _ => rfl
  have g10 := hg 10 (by omega)
  have g41 := hg 41 (by omega)
  have g42 := hg 42 (by omega)
  have g43 := hg 43 (by omega)
  generalize row.getD 10 0 = a10 at *
  generalize row.getD 41 0 = a41 at *
  generalize row.getD 42 0 = a42 at *
  generalize row.getD 43 0 = a43 at *
  have c10 : ((10 : Nat) : Int) = 10 := rfl
  have c41 : ((41 : Nat) : Int) = 41 := rfl
  have c42 : ((42 : Nat) : Int) = 42 := rfl
  have c43 : ((43 : Nat) : Int) = 43 := rfl
  have c15 : ((15 : Nat) : Int) = 15 := rfl
  have c45 : ((45 : Nat) : Int) = 45 := rfl
  have c12 : ((12 : Nat) : Int) = 12 := rfl
  have c0 : ((0 : Nat) : Int) = 0 := rfl
  rw [c10] at g10
  rw [c41] at g41
  rw [c42] at g42
  rw [c43] at g43
  rw [c15] at r1
  rw [c45] at hr
  rw [c12] at cf
  rw [c0] at h1
  have zz := hz
  obtain ⟨dz, hz1, hz2⟩ : ∃ d, atI [PyData.int 40, PyData.int 4] (a10.fmod 2) = some d ∧ (d, Fl.fz) = I z := by
    cases e : atI [PyData.int 40, PyData.int 4] (a10.fmod 2) with
    | none => rw [e] at zz; cases zz
    | some d => rw [e] at zz; exact ⟨d, rfl, Option.some.inj zz⟩
  cases hz2
  simp [g_law, g_law_4, g_law_3, g_law_2, sSeq_ev, hr, ht, g10, g41, g42, g43, mod_n (j := 2) (by omega), mod_n (j := 12) (by omega), mod_n (j := 6) (by omega), mod_n (j := 2 * z + 1) (by omega), mul_l (i := 2) (j := z) (by omega), hz1, sFor_no (xs := rngL 0 15), r1, h1, eSl, oNone, oSome, asI, sl, ck, cf, tup, hk, lm, lp, -List.map_take]
end Lk46

namespace Lk46
open PySem PySem.Spec PyProof.Rows L2 Pl
theorem fin (l : PySem.W.OpenLaw) {w : World} {K : PySem.W.Frag} {h : Heap} {mg : Str → Option Value} {fa f : Addr} {oc : Value} {od an : Option Addr} {osl : Array (Option Value)} {kV doc pm cdv ct : Value} (KX : K.In h) (G : h.Ns mainGlobals mg) (hmg : mg "law" = some (.ref fa)) (B : ∀ x ∈ bl, mg x = none) (t__law_mixed : Tp K mg "_law_mixed" s__law_mixed) (t__law_row : Tp K mg "_law_row" s__law_row) (t__law_common : Tp K mg "_law_common" s__law_common) (t__law_ratio : Tp K mg "_law_ratio" s__law_ratio) (t__law_is_int : Tp K mg "_law_is_int" s__law_is_int) (t__law_like : Tp K mg "_law_like" s__law_like) (t_divisor : Tp K mg "divisor" s_divisor) (t_lowest : Tp K mg "lowest" s_lowest) (t_minus : Tp K mg "minus" s_minus) (t_whole : Tp K mg "whole" s_whole) (t_times : Tp K mg "times" s_times) (t_fallen_by : Tp K mg "fallen_by" s_fallen_by) (t_tight_range : Tp K mg "tight_range" s_tight_range) (t_is_less : Tp K mg "is_less" s_is_less) (t_is_tight : Tp K mg "is_tight" s_is_tight) (t_surely_tight : Tp K mg "surely_tight" s_surely_tight) (t_surely_leaky : Tp K mg "surely_leaky" s_surely_leaky) (t_hours_for : Tp K mg "hours_for" s_hours_for) (t__law_tests : Tp K mg "_law_tests" s__law_tests) (t__law_sum_at : Tp K mg "_law_sum_at" s__law_sum_at) (t_house_ways : Tp K mg "house_ways" s_house_ways) (t_row_ends : Tp K mg "row_ends" s_row_ends) (t_main_cost : Tp K mg "main_cost" s_main_cost) (t_best_main : Tp K mg "best_main" s_best_main) (t_main_bounds : Tp K mg "main_bounds" s_main_bounds) (t_least_main : Tp K mg "least_main" s_least_main) (t__law_pair : Tp K mg "_law_pair" s__law_pair) (t_mains_two : Tp K mg "mains_two" s_mains_two) (t__law_mains : Tp K mg "_law_mains" s__law_mains) (t_way_of : Tp K mg "way_of" s_way_of) (t_star_sum : Tp K mg "star_sum" s_star_sum) (t_best_point : Tp K mg "best_point" s_best_point) (t_sum_of_ways : Tp K mg "sum_of_ways" s_sum_of_ways) (t_least_tree_of : Tp K mg "least_tree_of" s_least_tree_of) (t__law_places : Tp K mg "_law_places" s__law_places)
    (a : PySem.W.nsIn K mainGlobals "law" = some (some (.ref f))) (lk : K.lookup f = some ⟨oc, od, .func (PySem.W.fnOf "law" "law" (defArgs s_law) (defBody s_law) (defScope s_law) .none kV doc pm an cdv ct), osl⟩) (c : PySem.W.codeIn K cdv "law" = true) (k : PySem.W.keepIn K (.ref f) = true) :
    ∃ fd : FuncData, (∀ (s : Shared) (u : Value), BindsTo s fd ⟨[u], []⟩ [("script", u)]) ∧ ∀ base : Heap, K.In base → base.Ns mainGlobals mg → FnOk l.prog w K mg base CX0 9 fa fd ["script"] (spG K f_law) := by
  have e := hmg.symm.trans (PySem.W.mg_of KX G a)
  cases e
  exact ⟨_, fun s u => .of_eq rfl, fun base _ _ => all_ok (fun_mk lk c k) B t__law_mixed t__law_row t__law_common t__law_ratio t__law_is_int t__law_like t_divisor t_lowest t_minus t_whole t_times t_fallen_by t_tight_range t_is_less t_is_tight t_surely_tight t_surely_leaky t_hours_for t__law_tests t__law_sum_at t_house_ways t_row_ends t_main_cost t_best_main t_main_bounds t_least_main t__law_pair t_mains_two t__law_mains t_way_of t_star_sum t_best_point t_sum_of_ways t_least_tree_of t__law_places⟩
end Lk46
open PySem PySem.W PyProof.Rows
set_option maxHeartbeats 0 in
theorem PySem.Challenge.cw_gasheld_k46_whole_tests_mains_holds : PySem.Challenge.rw_gasheld_k46_whole_tests_mains.Holds := by
  w_on; o_law; k_head; (case hw => w_witness2)
  k_fill
  refine L2.walk_of (l := PySem.Challenge.rw_gasheld_k46_whole_tests_mains) (n := 63) (k := 9) (x := "script") (CX := fun _ => L2.CX0) (sp := fun w => Pl.spG _ Lk46.f_law) rfl (by decide) rfl ⟨rfl, by decide, by decide⟩ (fun w h Y => PySem.W.kIn_of Y) ?F (fun _ _ a ns hl hO hS => Pl.law_sp (Lk46.law_true ns hl) hO hS) (fun _ _ _ _ _ h => h)
  case F =>
    intro w mg fa h KX G hmg
    have t__law_mixed : Pl.TpAt KX mg "_law_mixed" Lk46.s__law_mixed := by
      refine' Pl.tp_mk KX G ?a ?l ?c ?k; (case a => k_is); (case l => k_is); (case c => k_is); (case k => k_is)
    have t__law_row : Pl.TpAt KX mg "_law_row" Lk46.s__law_row := by
      refine' Pl.tp_mk KX G ?a ?l ?c ?k; (case a => k_is); (case l => k_is); (case c => k_is); (case k => k_is)
    have t__law_common : Pl.TpAt KX mg "_law_common" Lk46.s__law_common := by
      refine' Pl.tp_mk KX G ?a ?l ?c ?k; (case a => k_is); (case l => k_is); (case c => k_is); (case k => k_is)
    have t__law_ratio : Pl.TpAt KX mg "_law_ratio" Lk46.s__law_ratio := by
      refine' Pl.tp_mk KX G ?a ?l ?c ?k; (case a => k_is); (case l => k_is); (case c => k_is); (case k => k_is)
    have t__law_is_int : Pl.TpAt KX mg "_law_is_int" Lk46.s__law_is_int := by
      refine' Pl.tp_mk KX G ?a ?l ?c ?k; (case a => k_is); (case l => k_is); (case c => k_is); (case k => k_is)
    have t__law_like : Pl.TpAt KX mg "_law_like" Lk46.s__law_like := by
      refine' Pl.tp_mk KX G ?a ?l ?c ?k; (case a => k_is); (case l => k_is); (case c => k_is); (case k => k_is)
    have t_divisor : Pl.TpAt KX mg "divisor" Lk46.s_divisor := by
      refine' Pl.tp_mk KX G ?a ?l ?c ?k; (case a => k_is); (case l => k_is); (case c => k_is); (case k => k_is)
    have t_lowest : Pl.TpAt KX mg "lowest" Lk46.s_lowest := by
      refine' Pl.tp_mk KX G ?a ?l ?c ?k; (case a => k_is); (case l => k_is); (case c => k_is); (case k => k_is)
    have t_minus : Pl.TpAt KX mg "minus" Lk46.s_minus := by
      refine' Pl.tp_mk KX G ?a ?l ?c ?k; (case a => k_is); (case l => k_is); (case c => k_is); (case k => k_is)
    have t_whole : Pl.TpAt KX mg "whole" Lk46.s_whole := by
      refine' Pl.tp_mk KX G ?a ?l ?c ?k; (case a => k_is); (case l => k_is); (case c => k_is); (case k => k_is)
    have t_times : Pl.TpAt KX mg "times" Lk46.s_times := by
      refine' Pl.tp_mk KX G ?a ?l ?c ?k; (case a => k_is); (case l => k_is); (case c => k_is); (case k => k_is)
    have t_fallen_by : Pl.TpAt KX mg "fallen_by" Lk46.s_fallen_by := by
      refine' Pl.tp_mk KX G ?a ?l ?c ?k; (case a => k_is); (case l => k_is); (case c => k_is); (case k => k_is)
    have t_tight_range : Pl.TpAt KX mg "tight_range" Lk46.s_tight_range := by
      refine' Pl.tp_mk KX G ?a ?l ?c ?k; (case a => k_is); (case l => k_is); (case c => k_is); (case k => k_is)
    have t_is_less : Pl.TpAt KX mg "is_less" Lk46.s_is_less := by
      refine' Pl.tp_mk KX G ?a ?l ?c ?k; (case a => k_is); (case l => k_is); (case c => k_is); (case k => k_is)
    have t_is_tight : Pl.TpAt KX mg "is_tight" Lk46.s_is_tight := by
      refine' Pl.tp_mk KX G ?a ?l ?c ?k; (case a => k_is); (case l => k_is); (case c => k_is); (case k => k_is)
    have t_surely_tight : Pl.TpAt KX mg "surely_tight" Lk46.s_surely_tight := by
      refine' Pl.tp_mk KX G ?a ?l ?c ?k; (case a => k_is); (case l => k_is); (case c => k_is); (case k => k_is)
    have t_surely_leaky : Pl.TpAt KX mg "surely_leaky" Lk46.s_surely_leaky := by
      refine' Pl.tp_mk KX G ?a ?l ?c ?k; (case a => k_is); (case l => k_is); (case c => k_is); (case k => k_is)
    have t_hours_for : Pl.TpAt KX mg "hours_for" Lk46.s_hours_for := by
      refine' Pl.tp_mk KX G ?a ?l ?c ?k; (case a => k_is); (case l => k_is); (case c => k_is); (case k => k_is)
    have t__law_tests : Pl.TpAt KX mg "_law_tests" Lk46.s__law_tests := by
      refine' Pl.tp_mk KX G ?a ?l ?c ?k; (case a => k_is); (case l => k_is); (case c => k_is); (case k => k_is)
    have t__law_sum_at : Pl.TpAt KX mg "_law_sum_at" Lk46.s__law_sum_at := by
      refine' Pl.tp_mk KX G ?a ?l ?c ?k; (case a => k_is); (case l => k_is); (case c => k_is); (case k => k_is)
    have t_house_ways : Pl.TpAt KX mg "house_ways" Lk46.s_house_ways := by
      refine' Pl.tp_mk KX G ?a ?l ?c ?k; (case a => k_is); (case l => k_is); (case c => k_is); (case k => k_is)
    have t_row_ends : Pl.TpAt KX mg "row_ends" Lk46.s_row_ends := by
      refine' Pl.tp_mk KX G ?a ?l ?c ?k; (case a => k_is); (case l => k_is); (case c => k_is); (case k => k_is)
    have t_main_cost : Pl.TpAt KX mg "main_cost" Lk46.s_main_cost := by
      refine' Pl.tp_mk KX G ?a ?l ?c ?k; (case a => k_is); (case l => k_is); (case c => k_is); (case k => k_is)
    have t_best_main : Pl.TpAt KX mg "best_main" Lk46.s_best_main := by
      refine' Pl.tp_mk KX G ?a ?l ?c ?k; (case a => k_is); (case l => k_is); (case c => k_is); (case k => k_is)
    have t_main_bounds : Pl.TpAt KX mg "main_bounds" Lk46.s_main_bounds := by
      refine' Pl.tp_mk KX G ?a ?l ?c ?k; (case a => k_is); (case l => k_is); (case c => k_is); (case k => k_is)
    have t_least_main : Pl.TpAt KX mg "least_main" Lk46.s_least_main := by
      refine' Pl.tp_mk KX G ?a ?l ?c ?k; (case a => k_is); (case l => k_is); (case c => k_is); (case k => k_is)
    have t__law_pair : Pl.TpAt KX mg "_law_pair" Lk46.s__law_pair := by
      refine' Pl.tp_mk KX G ?a ?l ?c ?k; (case a => k_is); (case l => k_is); (case c => k_is); (case k => k_is)
    have t_mains_two : Pl.TpAt KX mg "mains_two" Lk46.s_mains_two := by
      refine' Pl.tp_mk KX G ?a ?l ?c ?k; (case a => k_is); (case l => k_is); (case c => k_is); (case k => k_is)
    have t__law_mains : Pl.TpAt KX mg "_law_mains" Lk46.s__law_mains := by
      refine' Pl.tp_mk KX G ?a ?l ?c ?k; (case a => k_is); (case l => k_is); (case c => k_is); (case k => k_is)
    have t_way_of : Pl.TpAt KX mg "way_of" Lk46.s_way_of := by
      refine' Pl.tp_mk KX G ?a ?l ?c ?k; (case a => k_is); (case l => k_is); (case c => k_is); (case k => k_is)
    have t_star_sum : Pl.TpAt KX mg "star_sum" Lk46.s_star_sum := by
      refine' Pl.tp_mk KX G ?a ?l ?c ?k; (case a => k_is); (case l => k_is); (case c => k_is); (case k => k_is)
    have t_best_point : Pl.TpAt KX mg "best_point" Lk46.s_best_point := by
      refine' Pl.tp_mk KX G ?a ?l ?c ?k; (case a => k_is); (case l => k_is); (case c => k_is); (case k => k_is)
    have t_sum_of_ways : Pl.TpAt KX mg "sum_of_ways" Lk46.s_sum_of_ways := by
      refine' Pl.tp_mk KX G ?a ?l ?c ?k; (case a => k_is); (case l => k_is); (case c => k_is); (case k => k_is)
    have t_least_tree_of : Pl.TpAt KX mg "least_tree_of" Lk46.s_least_tree_of := by
      refine' Pl.tp_mk KX G ?a ?l ?c ?k; (case a => k_is); (case l => k_is); (case c => k_is); (case k => k_is)
    have t__law_places : Pl.TpAt KX mg "_law_places" Lk46.s__law_places := by
      refine' Pl.tp_mk KX G ?a ?l ?c ?k; (case a => k_is); (case l => k_is); (case c => k_is); (case k => k_is)
    have B : ∀ x ∈ Pl.bl, mg x = none := by
      refine' Pl.bl_mk KX G ?_
      intro x hx
      simp only [Pl.bl, List.mem_cons, List.not_mem_nil, or_false] at hx
      rcases hx with rfl | rfl | rfl | rfl | rfl | rfl | rfl | rfl | rfl | rfl | rfl | rfl | rfl | rfl | rfl | rfl | rfl | rfl | rfl <;> k_is
    refine' Lk46.fin (PySem.Challenge.rw_gasheld_k46_whole_tests_mains) KX G hmg B t__law_mixed t__law_row t__law_common t__law_ratio t__law_is_int t__law_like t_divisor t_lowest t_minus t_whole t_times t_fallen_by t_tight_range t_is_less t_is_tight t_surely_tight t_surely_leaky t_hours_for t__law_tests t__law_sum_at t_house_ways t_row_ends t_main_cost t_best_main t_main_bounds t_least_main t__law_pair t_mains_two t__law_mains t_way_of t_star_sum t_best_point t_sum_of_ways t_least_tree_of t__law_places ?a ?l ?c ?k; (case a => k_is); (case l => k_is); (case c => k_is); (case k => k_is)

