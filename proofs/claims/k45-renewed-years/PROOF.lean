import PyProof.Rows.All
import Wide.All
import OpenK.AllK
import Wide.FinOn
import HandS.ForMost
import HandS.Walk
import HandS.Style
import HandS.TupAny
import HandS.Conv
import HandS.Deep
import KE.KDictKeyed
import HandS.Wide
import HandS.TupMul
import HandS.Flow
import KE.LtData
import HandS.IsInst
import KE.GoesEnum
import KE.GoesZip
import KE.GoesMore
import HandS.RevRange
import HandS.NoneIn
import HandS.More
import KE.DataMinMax
import KE.KTupSum
import PyProof.MaxThree
import KE.SortData
import KE.KIndexOf
import HandS.SortKw
import KE.SortKeyHeap
import KE.KSortKey
import HandS.SetFor
import HandS.TupSets
import HandS.Ends
import KE.DataCmp
import KE.KDictDisplayH
import PySem.Challenge.RW_gasheld_k45_whole_renewed_years
set_option Elab.async false
set_option linter.all false
set_option maxRecDepth 100000
set_option maxHeartbeats 4000000
/-! Pl1: data that stand for values, ownership, the state relation, readings of pure functions -/
namespace Pl
open PySem PySem.Spec PyProof.Rows L2

abbrev D := PyData
def keyD : Key → D
  | .inl i => .int i
  | .inr x => .str x

/-! keys of dicts: tuples of ints, of such tuples -/
mutual
def keyN : NestedKey → D
  | .none => .none
  | .num i => .int i
  | .text x => .str x
  | .tup ks => .tuple (keyNs ks)
def keyNs : List NestedKey → List D
  | [] => []
  | k :: ks => keyN k :: keyNs ks
end
mutual
/-- v stands for the key k -/
inductive Ky (K : PySem.W.Frag) (H : Hp) : V → NestedKey → Prop
  | num (i : Int) : Ky K H (.int i) (.num i)
  | tup {a : Addr} {vs : List V} {ks : List NestedKey} : SqT K H a vs → KyA K H vs ks → Ky K H (.ref a) (.tup ks)
inductive KyA (K : PySem.W.Frag) (H : Hp) : List V → List NestedKey → Prop
  | nil : KyA K H [] []
  | cons {v : V} {vs : List V} {k : NestedKey} {ks : List NestedKey} : Ky K H v k → KyA K H vs ks → KyA K H (v :: vs) (k :: ks)
end
/-- a dict with such keys: key, its object, value -/
abbrev NE := NestedKey × Addr × V
def dNφ (a : Addr) (kvs : List NE) (h : Heap) : Prop := kvs.length ≤ sizeLine ∧ (a == sysModules) = false ∧ ∃ xs : List (NestedKey × Addr × Value), Paired (fun (p : NE) (q : NestedKey × Addr × Value) => p.1 = q.1 ∧ p.2.1 = q.2.1 ∧ RelV p.2.2 q.2.2) kvs xs ∧ (xs.map (·.1)).Nodup ∧
  ∃ o es ep, h.get? a = some o ∧ o.ExactDict ∧ o.data = .dict es ep ∧ ∀ (P : Program) (w : World), es.toList = xs.map (entryOfKey (nestedKind P w))
abbrev dN (a : Addr) (kvs : List NE) : HO := .ext (dNφ a kvs)
def KyN (K : PySem.W.Frag) (H : Hp) (kvs : List NE) : Prop := ∀ p ∈ kvs, Ky K H (.ref p.2.1) p.1 ∧ p.1.depth ≤ 8
mutual
theorem Ky.keep {K : PySem.W.Frag} {H H' : Hp} (t : ∀ b xs, SqT K H b xs → SqT K H' b xs) : ∀ (k : NestedKey) {v : V}, Ky K H v k → Ky K H' v k
  | .none, _, h => by cases h
  | .num i, _, h => by cases h; exact .num i
  | .text x, _, h => by cases h
  | .tup ks, _, h => by
    cases h with
    | tup h1 h2 => exact .tup (t _ _ h1) (KyA.keep t ks h2)
theorem KyA.keep {K : PySem.W.Frag} {H H' : Hp} (t : ∀ b xs, SqT K H b xs → SqT K H' b xs) : ∀ (ks : List NestedKey) {vs : List V}, KyA K H vs ks → KyA K H' vs ks
  | [], _, h => by cases h; exact .nil
  | k :: ks, _, h => by
    cases h with
    | cons h1 h2 => exact .cons (Ky.keep t k h1) (KyA.keep t ks h2)
end
theorem KyN.keep {K : PySem.W.Frag} {H H' : Hp} (t : ∀ b xs, SqT K H b xs → SqT K H' b xs) {kvs : List NE} (h : KyN K H kvs) : KyN K H' kvs := fun p hp => ⟨Ky.keep t _ (h p hp).1, (h p hp).2⟩
mutual
/-- v stands for d; L: the addresses of the lists and dicts in it -/
inductive Rp (K : PySem.W.Frag) (H : Hp) : V → D → List Addr → Prop
  | non : Rp K H .non .none []
  | bl (b : Bool) : Rp K H (.bl b) (.bool b) []
  | int (i : Int) : Rp K H (.int i) (.int i) []
  | str (x : Str) : Rp K H (.str x) (.str x) []
  | lst {a : Addr} {vs : List V} {ds : List D} {L : List Addr} : H a = some (.lst vs) → RpA K H vs ds L → Rp K H (.ref a) (.list ds) (a :: L)
  | tup {a : Addr} {vs : List V} {ds : List D} {L : List Addr} : SqT K H a vs → RpA K H vs ds L → Rp K H (.ref a) (.tuple ds) L
  | dk {a : Addr} {kvs : List (Key × V)} {ds : List (D × D)} {L : List Addr} : Rd H a (.dK kvs) → ds.map (·.1) = kvs.map (fun p => keyD p.1) → RpA K H (kvs.map (·.2)) (ds.map (·.2)) L → Rp K H (.ref a) (.dict ds) (a :: L)
  | dn {a : Addr} {kvs : List NE} {ds : List (D × D)} {L : List Addr} : Rd H a (dN a kvs) → KyN K H kvs → ds.map (·.1) = .none :: kvs.map (fun p => keyN p.1) → RpA K H (.non :: kvs.map (·.2.2)) (ds.map (·.2)) L → Rp K H (.ref a) (.dict ds) (a :: L)
inductive RpA (K : PySem.W.Frag) (H : Hp) : List V → List D → List Addr → Prop
  | nil : RpA K H [] [] []
  | cons {v : V} {vs : List V} {d : D} {ds : List D} {L M : List Addr} : Rp K H v d L → RpA K H vs ds M → RpA K H (v :: vs) (d :: ds) (L ++ M)
end

section
variable {K : PySem.W.Frag} {H H' : Hp}
theorem RpA.length : ∀ {vs : List V} {ds : List D} {L : List Addr}, RpA K H vs ds L → vs.length = ds.length
  | [], _, _, h => by cases h; rfl
  | _ :: vs, _, _, h => by
    cases h with
    | cons h1 h2 => simp [RpA.length h2]
theorem RpA.append : ∀ {vs ws : List V} {ds es : List D} {L M : List Addr}, RpA K H vs ds L → RpA K H ws es M → RpA K H (vs ++ ws) (ds ++ es) (L ++ M)
  | [], _, _, _, _, _, h, h' => by cases h; exact h'
  | _ :: vs, _, _, _, _, _, h, h' => by
    cases h with
    | cons h1 h2 =>
      have := RpA.cons h1 (RpA.append h2 h')
      simpa [List.append_assoc] using this
theorem RpA.get : ∀ {vs : List V} {ds : List D} {L : List Addr} {i : Nat} {d : D}, RpA K H vs ds L → ds[i]? = some d → ∃ v M, vs[i]? = some v ∧ Rp K H v d M ∧ ∀ b ∈ M, b ∈ L
  | [], _, _, _, _, h, e => by cases h; simp at e
  | _ :: vs, _, _, 0, _, h, e => by
    cases h with
    | @cons v _ d' ds' L1 M1 h1 h2 =>
      simp at e; subst e
      exact ⟨_, _, rfl, h1, fun b hb => List.mem_append_left _ hb⟩
  | _ :: vs, _, _, i + 1, _, h, e => by
    cases h with
    | @cons v _ d' ds' L1 M1 h1 h2 =>
      obtain ⟨w, M, e1, r, hm⟩ := RpA.get (i := i) h2 (by simpa using e)
      exact ⟨w, M, by simpa using e1, r, fun b hb => List.mem_append_right _ (hm b hb)⟩
/-- the same for a place of the values -/
theorem RpA.getV : ∀ {vs : List V} {ds : List D} {L : List Addr} {i : Nat} {v : V}, RpA K H vs ds L → vs[i]? = some v → ∃ d M, ds[i]? = some d ∧ Rp K H v d M ∧ ∀ b ∈ M, b ∈ L
  | _, _, L, i, v, h, e => by
    have hl := h.length
    obtain ⟨hi, _⟩ := List.getElem?_eq_some_iff.mp e
    have hi' : i < _ := hl ▸ hi
    obtain ⟨w, M, e1, r, hm⟩ := h.get (List.getElem?_eq_getElem hi')
    rw [e] at e1; cases e1
    exact ⟨_, M, List.getElem?_eq_getElem hi', r, hm⟩
theorem RpA.take : ∀ {vs : List V} {ds : List D} {L : List Addr} (n : Nat), RpA K H vs ds L → ∃ M, RpA K H (vs.take n) (ds.take n) M ∧ ∀ b ∈ M, b ∈ L
  | _, _, _, 0, _ => ⟨[], by simpa using RpA.nil, by simp⟩
  | [], _, _, _ + 1, h => by cases h; exact ⟨[], .nil, by simp⟩
  | _ :: _, _, _, n + 1, h => by
    cases h with
    | cons h1 h2 =>
      obtain ⟨M, r, hm⟩ := RpA.take n h2
      refine ⟨_, .cons h1 r, fun b hb => ?_⟩
      rcases List.mem_append.mp hb with q | q
      · exact List.mem_append_left _ q
      · exact List.mem_append_right _ (hm b q)
theorem RpA.drop : ∀ {vs : List V} {ds : List D} {L : List Addr} (n : Nat), RpA K H vs ds L → ∃ M, RpA K H (vs.drop n) (ds.drop n) M ∧ ∀ b ∈ M, b ∈ L
  | _, _, L, 0, h => ⟨L, h, fun _ z => z⟩
  | [], _, _, _ + 1, h => by cases h; exact ⟨[], .nil, by simp⟩
  | _ :: _, _, _, n + 1, h => by
    cases h with
    | cons h1 h2 =>
      obtain ⟨M, r, hm⟩ := RpA.drop n h2
      exact ⟨M, r, fun b hb => List.mem_append_right _ (hm b hb)⟩
theorem RpA.set : ∀ {vs : List V} {ds : List D} {L M : List Addr} {v : V} {d : D} (i : Nat), RpA K H vs ds L → Rp K H v d M → ∃ N, RpA K H (vs.set i v) (ds.set i d) N ∧ ∀ b ∈ N, b ∈ L ∨ b ∈ M
  | [], _, _, _, _, _, _, h, _ => by cases h; exact ⟨[], .nil, by simp⟩
  | _ :: _, _, _, _, _, _, 0, h, r => by
    cases h with
    | cons h1 h2 =>
      refine ⟨_, .cons r h2, fun b hb => ?_⟩
      rcases List.mem_append.mp hb with q | q
      · exact .inr q
      · exact .inl (List.mem_append_right _ q)
  | _ :: _, _, _, _, _, _, i + 1, h, r => by
    cases h with
    | cons h1 h2 =>
      obtain ⟨N, q, hn⟩ := RpA.set i h2 r
      refine ⟨_, .cons h1 q, fun b hb => ?_⟩
      rcases List.mem_append.mp hb with z | z
      · exact .inl (List.mem_append_left _ z)
      · rcases hn b z with y | y
        · exact .inl (List.mem_append_right _ y)
        · exact .inr y
theorem RpA.sub {vs : List V} {ds : List D} {L : List Addr} (h : RpA K H vs ds L) (ix : List Nat) : ∀ ds', ds' = ix.filterMap (fun i => ds[i]?) → ∃ M, RpA K H (ix.filterMap fun i => vs[i]?) ds' M ∧ ∀ b ∈ M, b ∈ L := by
  induction ix with
  | nil => intro ds' e; subst e; exact ⟨[], .nil, by simp⟩
  | cons i r ih =>
    intro ds' e; subst e
    obtain ⟨M, q, hm⟩ := ih _ rfl
    have hl := h.length
    by_cases hi : i < ds.length
    · obtain ⟨v, N, e1, rv, hn⟩ := h.get (List.getElem?_eq_getElem hi)
      refine ⟨N ++ M, ?_, fun b hb => (List.mem_append.mp hb).elim (hn b) (hm b)⟩
      have := RpA.cons rv q
      simpa [List.filterMap_cons, e1, List.getElem?_eq_getElem hi] using this
    · have e1 : ds[i]? = none := List.getElem?_eq_none (by omega)
      have e2 : vs[i]? = none := List.getElem?_eq_none (by omega)
      exact ⟨M, by simpa [List.filterMap_cons, e1, e2] using q, hm⟩

mutual
/-- what the heap keeps -/
theorem Rp.keep (t : ∀ b xs, SqT K H b xs → SqT K H' b xs) : ∀ (d : D) {v : V} {L : List Addr}, Rp K H v d L → (∀ b ∈ L, ∀ o, H b = some o → H' b = some o) → Rp K H' v d L
  | .none, _, _, h, _ => by cases h; exact .non
  | .bool b, _, _, h, _ => by cases h; exact .bl _
  | .int b, _, _, h, _ => by cases h; exact .int _
  | .str b, _, _, h, _ => by cases h; exact .str _
  | .list ds, _, _, h, l => by
    cases h with
    | lst h1 h2 => exact .lst (l _ List.mem_cons_self _ h1) (RpA.keep t ds h2 fun b hb => l b (List.mem_cons_of_mem _ hb))
  | .tuple ds, _, _, h, l => by
    cases h with
    | tup h1 h2 => exact .tup (t _ _ h1) (RpA.keep t ds h2 l)
  | .dict ds, _, _, h, l => by
    cases h with
    | dk h1 h2 h3 => exact .dk (h1.imp (l _ List.mem_cons_self _) fun ⟨o, q⟩ => ⟨o, l _ List.mem_cons_self _ q⟩) h2 (RpP.keep t ds h3 fun b hb => l b (List.mem_cons_of_mem _ hb))
    | dn h1 hk h2 h3 => exact .dn (h1.imp (l _ List.mem_cons_self _) fun ⟨o, q⟩ => ⟨o, l _ List.mem_cons_self _ q⟩) (hk.keep t) h2 (RpP.keep t ds h3 fun b hb => l b (List.mem_cons_of_mem _ hb))
theorem RpA.keep (t : ∀ b xs, SqT K H b xs → SqT K H' b xs) : ∀ (ds : List D) {vs : List V} {L : List Addr}, RpA K H vs ds L → (∀ b ∈ L, ∀ o, H b = some o → H' b = some o) → RpA K H' vs ds L
  | [], _, _, h, _ => by cases h; exact .nil
  | d :: ds, _, _, h, l => by
    cases h with
    | cons h1 h2 => exact .cons (Rp.keep t d h1 fun b hb => l b (List.mem_append_left _ hb)) (RpA.keep t ds h2 fun b hb => l b (List.mem_append_right _ hb))
theorem RpP.keep (t : ∀ b xs, SqT K H b xs → SqT K H' b xs) : ∀ (ds : List (D × D)) {vs : List V} {L : List Addr}, RpA K H vs (ds.map (·.2)) L → (∀ b ∈ L, ∀ o, H b = some o → H' b = some o) → RpA K H' vs (ds.map (·.2)) L
  | [], _, _, h, _ => by cases h; exact .nil
  | (k, d) :: ds, _, _, h, l => by
    cases h with
    | cons h1 h2 => exact .cons (Rp.keep t d h1 fun b hb => l b (List.mem_append_left _ hb)) (RpP.keep t ds h2 fun b hb => l b (List.mem_append_right _ hb))
end
theorem Same.sqt (e : Same H H') : ∀ b xs, SqT K H b xs → SqT K H' b xs := fun b xs h => by
  rcases h with (h | ⟨o, h⟩) | h
  · exact .inl (.inl (e _ _ h))
  · exact .inl (.inr ⟨o, e _ _ h⟩)
  · exact .inr h
theorem Rp.mono {v : V} {d : D} {L : List Addr} (h : Rp K H v d L) (e : Same H H') : Rp K H' v d L := Rp.keep (Same.sqt e) d h fun b _ o q => e b o q
theorem RpA.mono {vs : List V} {ds : List D} {L : List Addr} (h : RpA K H vs ds L) (e : Same H H') : RpA K H' vs ds L := RpA.keep (Same.sqt e) ds h fun b _ o q => e b o q
/-- a list, as the rules read it -/
theorem Rp.list {v : V} {ds : List D} {L : List Addr} (h : Rp K H v (.list ds) L) : ∃ a vs M, v = .ref a ∧ H a = some (.lst vs) ∧ RpA K H vs ds M ∧ ∀ b ∈ M, b ∈ L := by
  cases h with
  | lst h1 h2 => exact ⟨_, _, _, rfl, h1, h2, fun b hb => List.mem_cons_of_mem _ hb⟩
theorem Rp.tuple {v : V} {ds : List D} {L : List Addr} (h : Rp K H v (.tuple ds) L) : ∃ a vs, v = .ref a ∧ SqT K H a vs ∧ RpA K H vs ds L := by
  cases h with
  | tup h1 h2 => exact ⟨_, _, rfl, h1, h2⟩
theorem Rp.addr {v : V} {d : D} {L : List Addr} (h : Rp K H v d L) : ∀ b ∈ L, H b ≠ none := by
  have key : ∀ {a : Addr} {u : HO}, H a = some u → H a ≠ none := fun {a u} r => by
    rw [r]; exact fun z => nomatch z
  have keyR : ∀ {a : Addr} {u : HO}, Rd H a u → H a ≠ none := fun r => r.elim key fun ⟨_, q⟩ => key q
  exact Rp.rec (motive_1 := fun _ _ L _ => ∀ b ∈ L, H b ≠ none) (motive_2 := fun _ _ L _ => ∀ b ∈ L, H b ≠ none)
    (by simp) (by simp) (by simp) (by simp)
    (fun h1 _ ih b hb => (List.mem_cons.mp hb).elim (fun e => e ▸ key h1) (ih b)) (fun _ _ ih => ih)
    (fun h1 _ _ ih b hb => (List.mem_cons.mp hb).elim (fun e => e ▸ keyR h1) (ih b)) (fun h1 _ _ _ ih b hb => (List.mem_cons.mp hb).elim (fun e => e ▸ keyR h1) (ih b))
    (by simp) (fun _ _ i1 i2 b hb => (List.mem_append.mp hb).elim (i1 b) (i2 b)) h
end

/-! ### no dict within: HandS's Dp -/
mutual
def noDict : D → Bool
  | .dict _ => false
  | .list ds => noDictA ds
  | .tuple ds => noDictA ds
  | _ => true
def noDictA : List D → Bool
  | [] => true
  | d :: ds => noDict d && noDictA ds
end
mutual
theorem Rp.dp {K : PySem.W.Frag} {H : Hp} : ∀ (d : D) {v : V} {L : List Addr}, Rp K H v d L → noDict d = true → Dp K H v d
  | .none, _, _, h, _ => by cases h; exact .non
  | .bool _, _, _, h, _ => by cases h; exact .bl _
  | .int _, _, _, h, _ => by cases h; exact .int _
  | .str _, _, _, h, _ => by cases h; exact .str _
  | .list ds, _, _, h, n => by
    rw [noDict] at n
    cases h with
    | lst h1 h2 => exact .lst (.inl (.inl h1)) (RpA.dp ds h2 n)
  | .tuple ds, _, _, h, n => by
    rw [noDict] at n
    cases h with
    | tup h1 h2 => exact .tup h1 (RpA.dp ds h2 n)
  | .dict _, _, _, _, n => by simp [noDict] at n
theorem RpA.dp {K : PySem.W.Frag} {H : Hp} : ∀ (ds : List D) {vs : List V} {L : List Addr}, RpA K H vs ds L → noDictA ds = true → DpAll K H vs ds
  | [], _, _, h, _ => by cases h; exact .nil
  | d :: ds, _, _, h, n => by
    rw [noDictA, Bool.and_eq_true] at n
    cases h with
    | cons h1 h2 => exact .cons (Rp.dp d h1 n.1) (RpA.dp ds h2 n.2)
end
/-! no list and no dict within -/
mutual
def lf : D → Bool
  | .dict _ => false
  | .list _ => false
  | .tuple ds => lfA ds
  | _ => true
def lfA : List D → Bool
  | [] => true
  | d :: ds => lf d && lfA ds
end
mutual
theorem Rp.lfree {K : PySem.W.Frag} {H : Hp} : ∀ (d : D) {v : V} {L : List Addr}, Rp K H v d L → lf d = true → L = []
  | .none, _, _, h, _ => by cases h; rfl
  | .bool _, _, _, h, _ => by cases h; rfl
  | .int _, _, _, h, _ => by cases h; rfl
  | .str _, _, _, h, _ => by cases h; rfl
  | .list ds, _, _, h, n => by simp [lf] at n
  | .tuple ds, _, _, h, n => by
    rw [lf] at n
    cases h with
    | tup h1 h2 => exact RpA.lfree ds h2 n
  | .dict _, _, _, _, n => by simp [lf] at n
theorem RpA.lfree {K : PySem.W.Frag} {H : Hp} : ∀ (ds : List D) {vs : List V} {L : List Addr}, RpA K H vs ds L → lfA ds = true → L = []
  | [], _, _, h, _ => by cases h; rfl
  | d :: ds, _, _, h, n => by
    rw [lfA, Bool.and_eq_true] at n
    cases h with
    | cons h1 h2 => rw [Rp.lfree d h1 n.1, RpA.lfree ds h2 n.2]; rfl
end

/-! ### ownership -/
/-- fz: frozen; ow: the value's own list (or dict), nobody else's; bw: read off such a one; sc: the script, read alone -/
inductive Fl | fz | ow | bw | sc
abbrev RV := D × Fl
abbrev Slot := Option RV
abbrev En := List Slot
abbrev GE := En → Option RV
abbrev GB := En → Option Bool

/-- the object at a is d's own; what it holds lies within G -/
def Obj1 (K : PySem.W.Frag) (G : Addr → Prop) (H : Hp) (a : Addr) : D → Prop
  | .list ds => ∃ vs L, H a = some (.lst vs) ∧ RpA K H vs ds L ∧ ∀ b ∈ L, G b
  | .dict ds => (∃ kvs L, H a = some (.dK kvs) ∧ ds.map (·.1) = kvs.map (fun p => keyD p.1) ∧ RpA K H (kvs.map (·.2)) (ds.map (·.2)) L ∧ ∀ b ∈ L, G b) ∨
      ∃ kvs L, H a = some (dN a kvs) ∧ KyN K H kvs ∧ ds.map (·.1) = .none :: kvs.map (fun p => keyN p.1) ∧ RpA K H (.non :: kvs.map (·.2.2)) (ds.map (·.2)) L ∧ ∀ b ∈ L, G b
  | _ => False
/-- the script: a list of ints that is only read -/
def ScOk (K : PySem.W.Frag) (H : Hp) (v : V) (d : D) : Prop := ∃ (a : Addr) (ns : List Int), v = .ref a ∧ d = .list (ns.map .int) ∧ ((∃ o, H a = some (.frz o (.lst (ns.map V.int)))) ∨ SqL K (fun _ => none) a (ns.map V.int))
theorem ScOk.get {K : PySem.W.Frag} {H : Hp} {v : V} {d : D} (h : ScOk K H v d) : ∃ (a : Addr) (ns : List Int), v = .ref a ∧ d = .list (ns.map .int) ∧ SqL K H a (ns.map V.int) := by
  obtain ⟨a, ns, h1, h2, ⟨o, h3⟩ | h3⟩ := h
  · exact ⟨a, ns, h1, h2, .inl (.inr ⟨o, h3⟩)⟩
  · have e : Same (fun _ => none) H := fun b o z => nomatch z
    exact ⟨a, ns, h1, h2, e.seq h3⟩
/-- what is known of a value that came while the heap went from H to H' -/
def Res (K : PySem.W.Frag) (F : Addr → Prop) (H H' : Hp) (v : V) : RV → Prop
  | (d, .fz) => ∃ L, Rp K H' v d L ∧ ∀ b ∈ L, F b ∨ H b = none
  | (d, .ow) => ∃ a, v = .ref a ∧ H a = none ∧ Obj1 K (fun b => (F b ∨ H b = none) ∧ b ≠ a) H' a d
  | (d, .bw) => ∃ a, v = .ref a ∧ Obj1 K (fun b => F b ∨ H b = none) H' a d
  | (d, .sc) => ScOk K H' v d
/-- a slot's value -/
def SlOk (K : PySem.W.Frag) (F : Addr → Prop) (H : Hp) (v : V) : RV → Prop
  | (d, .fz) => ∃ L, Rp K H v d L ∧ ∀ b ∈ L, F b
  | (d, .ow) => ∃ a, v = .ref a ∧ ¬ F a ∧ Obj1 K F H a d
  | (d, .bw) => ∃ a, v = .ref a ∧ Obj1 K F H a d
  | (d, .sc) => ScOk K H v d
/-- the slots and the heap stand for env; F: what stays as it is -/
structure Ok (K : PySem.W.Frag) (F : Addr → Prop) (σ : L2.St) (H : Hp) (env : En) : Prop where
  len : env.length = σ.length
  dom : ∀ a, F a → H a ≠ none
  slot : ∀ (i : Nat) (r : RV), env[i]? = some (some r) → ∃ v, σ[i]? = some (some v) ∧ SlOk K F H v r
  sep : ∀ (i j : Nat) (d d' : D) (a : Addr), i ≠ j → env[i]? = some (some (d, .ow)) → env[j]? = some (some (d', .ow)) → σ[i]? = some (some (.ref a)) → σ[j]? = some (some (.ref a)) → False
/-- every list and tuple is short enough -/
def Sz (K : PySem.W.Frag) (H : Hp) : Prop := (∀ a xs, SqL K H a xs → xs.length ≤ sizeLine) ∧ (∀ a xs, SqT K H a xs → xs.length ≤ sizeLine) ∧ (∀ a kvs, H a = some (.dK kvs) → kvs.length ≤ sizeLine) ∧ ∀ a kvs, H a = some (.dT kvs) → kvs.length ≤ sizeLine
theorem szs_of {X : Cx} {pins : List (Addr × Obj)} {σ : L2.St} {H : Hp} {s : Shared} (I : Inv X pins σ H s) : Sz X.K H :=
  ⟨fun _ _ h => by obtain ⟨_, _, _, z⟩ := I.list h; exact z, fun _ _ h => by obtain ⟨_, _, _, z⟩ := I.tuple h; exact z,
   fun a kvs h => by obtain ⟨z, _⟩ := (I.hok a _ h : ObjOk _ _ H s.heap a (.dK kvs)); exact z, fun a kvs h => by obtain ⟨z, _⟩ := (I.hok a _ h : ObjOk _ _ H s.heap a (.dT kvs)); exact z⟩

section
variable {K : PySem.W.Frag} {F F' : Addr → Prop} {H H1 H' : Hp} {σ : L2.St} {env : En} {v : V} {a : Addr} {d : D} {r : RV}
theorem Obj1.imp {G G' : Addr → Prop} (h : Obj1 K G H a d) (hg : ∀ b, G b → G' b) : Obj1 K G' H a d := by
  cases d with
  | list ds => obtain ⟨vs, L, h1, h2, h3⟩ := h; exact ⟨vs, L, h1, h2, fun b hb => hg b (h3 b hb)⟩
  | dict ds =>
    rcases h with ⟨vs, L, h1, h2, h3, h4⟩ | ⟨vs, L, h1, hk, h2, h3, h4⟩
    · exact .inl ⟨vs, L, h1, h2, h3, fun b hb => hg b (h4 b hb)⟩
    · exact .inr ⟨vs, L, h1, hk, h2, h3, fun b hb => hg b (h4 b hb)⟩
  | _ => exact h
theorem Obj1.isn {G : Addr → Prop} (h : Obj1 K G H a d) : H a ≠ none := by
  cases d with
  | list ds => obtain ⟨vs, L, h1, h2, h3⟩ := h; rw [h1]; exact fun z => nomatch z
  | dict ds => rcases h with ⟨vs, L, h1, _⟩ | ⟨vs, L, h1, _⟩ <;> rw [h1] <;> exact fun z => nomatch z
  | _ => exact h.elim
theorem Obj1.keep {G : Addr → Prop} (h : Obj1 K G H a d) (t : ∀ b xs, SqT K H b xs → SqT K H' b xs) (ha : ∀ o, H a = some o → H' a = some o) (l : ∀ b, G b → ∀ o, H b = some o → H' b = some o) : Obj1 K G H' a d := by
  cases d with
  | list ds => obtain ⟨vs, L, h1, h2, h3⟩ := h; exact ⟨vs, L, ha _ h1, h2.keep t _ (fun b hb => l b (h3 b hb)), h3⟩
  | dict ds =>
    rcases h with ⟨vs, L, h1, h2, h3, h4⟩ | ⟨vs, L, h1, hk, h2, h3, h4⟩
    · exact .inl ⟨vs, L, ha _ h1, h2, h3.keep t _ (fun b hb => l b (h4 b hb)), h4⟩
    · exact .inr ⟨vs, L, ha _ h1, hk.keep t, h2, h3.keep t _ (fun b hb => l b (h4 b hb)), h4⟩
  | _ => exact h
theorem Obj1.mono {G : Addr → Prop} (h : Obj1 K G H a d) (e : Same H H') : Obj1 K G H' a d := h.keep (Same.sqt e) (fun o q => e _ o q) fun b _ o q => e b o q
/-- as a value that stands for d -/
theorem Obj1.rp {G : Addr → Prop} (h : Obj1 K G H a d) : ∃ L, Rp K H (.ref a) d L ∧ ∀ b ∈ L, G b ∨ b = a := by
  cases d with
  | list ds => obtain ⟨vs, L, h1, h2, h3⟩ := h; exact ⟨_, .lst h1 h2, fun b hb => (List.mem_cons.mp hb).elim .inr fun q => .inl (h3 b q)⟩
  | dict ds =>
    rcases h with ⟨vs, L, h1, h2, h3, h4⟩ | ⟨vs, L, h1, hk, h2, h3, h4⟩
    · exact ⟨_, .dk (.inl h1) h2 h3, fun b hb => (List.mem_cons.mp hb).elim .inr fun q => .inl (h4 b q)⟩
    · exact ⟨_, .dn (.inl h1) hk h2 h3, fun b hb => (List.mem_cons.mp hb).elim .inr fun q => .inl (h4 b q)⟩
  | _ => exact h.elim
theorem ScOk.mono (h : ScOk K H v d) (e : Same H H') : ScOk K H' v d := by
  obtain ⟨a, ns, h1, h2, h3⟩ := h
  exact ⟨a, ns, h1, h2, h3.imp (fun ⟨o, q⟩ => ⟨o, e _ _ q⟩) id⟩
theorem rpa_ints : ∀ ns : List Int, RpA K H (ns.map V.int) (ns.map PyData.int) []
  | [] => .nil
  | n :: ns => .cons (.int n) (rpa_ints ns)
theorem SlOk.mono (h : SlOk K F H v r) (e : Same H H') : SlOk K F H' v r := by
  obtain ⟨d, fl⟩ := r
  cases fl with
  | fz => obtain ⟨L, h1, h2⟩ := h; exact ⟨L, h1.mono e, h2⟩
  | ow => obtain ⟨a, h1, h2, h3⟩ := h; exact ⟨a, h1, h2, h3.mono e⟩
  | bw => obtain ⟨a, h1, h3⟩ := h; exact ⟨a, h1, h3.mono e⟩
  | sc => exact ScOk.mono h e
theorem Same.dom (e : Same H H') (h : H a ≠ none) : H' a ≠ none := by
  cases q : H a with
  | none => exact absurd q h
  | some o => rw [e a o q]; exact fun z => nomatch z
theorem Ok.mono (h : Ok K F σ H env) (e : Same H H') : Ok K F σ H' env :=
  ⟨h.len, fun a q => Same.dom e (h.dom a q), fun i r q => let ⟨v, e1, s⟩ := h.slot i r q; ⟨v, e1, s.mono e⟩, h.sep⟩
/-- later -/
theorem Res.mono (h : Res K F H H1 v r) (e : Same H1 H') : Res K F H H' v r := by
  obtain ⟨d, fl⟩ := r
  cases fl with
  | fz => obtain ⟨L, h1, h2⟩ := h; exact ⟨L, h1.mono e, h2⟩
  | ow => obtain ⟨a, h1, h2, h3⟩ := h; exact ⟨a, h1, h2, h3.mono e⟩
  | bw => obtain ⟨a, h1, h3⟩ := h; exact ⟨a, h1, h3.mono e⟩
  | sc => exact ScOk.mono h e
/-- from an earlier heap on -/
theorem Res.back (h : Res K F H1 H' v r) (e : Same H H1) : Res K F H H' v r := by
  have g : ∀ b, F b ∨ H1 b = none → F b ∨ H b = none := fun b q => q.imp id e.free
  obtain ⟨d, fl⟩ := r
  cases fl with
  | fz => obtain ⟨L, h1, h2⟩ := h; exact ⟨L, h1, fun b hb => g b (h2 b hb)⟩
  | ow => obtain ⟨a, h1, h2, h3⟩ := h; exact ⟨a, h1, e.free h2, h3.imp fun b q => ⟨g b q.1, q.2⟩⟩
  | bw => obtain ⟨a, h1, h3⟩ := h; exact ⟨a, h1, h3.imp g⟩
  | sc => exact h
theorem Res.imp (h : Res K F H H' v r) (g : ∀ b, F b → F' b ∨ H b = none) : Res K F' H H' v r := by
  have g' : ∀ b, F b ∨ H b = none → F' b ∨ H b = none := fun b q => q.elim (g b) .inr
  obtain ⟨d, fl⟩ := r
  cases fl with
  | fz => obtain ⟨L, h1, h2⟩ := h; exact ⟨L, h1, fun b hb => g' b (h2 b hb)⟩
  | ow => obtain ⟨a, h1, h2, h3⟩ := h; exact ⟨a, h1, h2, h3.imp fun b q => ⟨g' b q.1, q.2⟩⟩
  | bw => obtain ⟨a, h1, h3⟩ := h; exact ⟨a, h1, h3.imp g'⟩
  | sc => exact h
/-- what it stands for, whatever its flag -/
theorem Res.rp {fl : Fl} (h : Res K F H H' v (d, fl)) (hs : fl ≠ .sc) : ∃ L, Rp K H' v d L := by
  cases fl with
  | fz => obtain ⟨L, h1, h2⟩ := h; exact ⟨L, h1⟩
  | ow => obtain ⟨a, h1, h2, h3⟩ := h; subst h1; obtain ⟨L, q, _⟩ := h3.rp; exact ⟨L, q⟩
  | bw => obtain ⟨a, h1, h3⟩ := h; subst h1; obtain ⟨L, q, _⟩ := h3.rp; exact ⟨L, q⟩
  | sc => exact absurd rfl hs
/-- not borrowed: frozen from here -/
theorem Res.frz {fl : Fl} (h : Res K F H H' v (d, fl)) (hf : fl ≠ .bw) (hs : fl ≠ .sc) : Res K F H H' v (d, .fz) := by
  cases fl with
  | fz => exact h
  | ow =>
    obtain ⟨a, h1, h2, h3⟩ := h
    subst h1
    obtain ⟨L, q, hl⟩ := h3.rp
    exact ⟨L, q, fun b hb => (hl b hb).elim (fun z => z.1) fun z => by subst z; exact .inr h2⟩
  | bw => exact absurd rfl hf
  | sc => exact absurd rfl hs
/-- a list, whatever its flag: what it holds is frozen -/
theorem Res.list {fl : Fl} {ds : List D} (h : Res K F H H' v (.list ds, fl)) : ∃ a vs L, v = .ref a ∧ SqL K H' a vs ∧ RpA K H' vs ds L ∧ ∀ b ∈ L, F b ∨ H b = none := by
  cases fl with
  | fz =>
    obtain ⟨L, h1, h2⟩ := h
    obtain ⟨a, vs, M, e, s, q, hm⟩ := h1.list
    exact ⟨a, vs, M, e, .inl (.inl s), q, fun b hb => h2 b (hm b hb)⟩
  | ow => obtain ⟨a, h1, h2, vs, L, e, q, hl⟩ := h; exact ⟨a, vs, L, h1, .inl (.inl e), q, fun b hb => (hl b hb).1⟩
  | bw => obtain ⟨a, h1, vs, L, e, q, hl⟩ := h; exact ⟨a, vs, L, h1, .inl (.inl e), q, hl⟩
  | sc =>
    obtain ⟨a, ns, h1, h2, h3⟩ := ScOk.get h
    cases h2
    exact ⟨a, _, [], h1, h3, rpa_ints ns, by simp⟩
/-- a tracked one -/
theorem Res.listT {fl : Fl} {ds : List D} (h : Res K F H H' v (.list ds, fl)) (hs : fl ≠ .sc) : ∃ a vs L, v = .ref a ∧ H' a = Option.some (.lst vs) ∧ RpA K H' vs ds L ∧ ∀ b ∈ L, F b ∨ H b = Option.none := by
  cases fl with
  | fz =>
    obtain ⟨L, h1, h2⟩ := h
    obtain ⟨a, vs, M, e, s, q, hm⟩ := h1.list
    exact ⟨a, vs, M, e, s, q, fun b hb => h2 b (hm b hb)⟩
  | ow => obtain ⟨a, h1, h2, vs, L, e, q, hl⟩ := h; exact ⟨a, vs, L, h1, e, q, fun b hb => (hl b hb).1⟩
  | bw => obtain ⟨a, h1, vs, L, e, q, hl⟩ := h; exact ⟨a, vs, L, h1, e, q, hl⟩
  | sc => exact absurd rfl hs
theorem Res.tuple {fl : Fl} {ds : List D} (h : Res K F H H' v (.tuple ds, fl)) : ∃ a vs L, v = .ref a ∧ SqT K H' a vs ∧ RpA K H' vs ds L ∧ ∀ b ∈ L, F b ∨ H b = none := by
  cases fl with
  | fz =>
    obtain ⟨L, h1, h2⟩ := h
    obtain ⟨a, vs, e, s, q⟩ := h1.tuple
    exact ⟨a, vs, L, e, s, q, h2⟩
  | ow => obtain ⟨a, h1, h2, h3⟩ := h; exact h3.elim
  | bw => obtain ⟨a, h1, h3⟩ := h; exact h3.elim
  | sc => obtain ⟨a, ns, h1, h2, h3⟩ := h; cases h2
theorem Res.scal {fl : Fl} (h : Res K F H H' v (d, fl)) (hd : ∀ ns : List Int, d ≠ .list (ns.map .int)) : ∃ L, Rp K H' v d L := by
  refine h.rp ?_
  rintro rfl
  obtain ⟨a, ns, h1, h2, h3⟩ := h
  exact hd ns h2
theorem Res.int {fl : Fl} {i : Int} (h : Res K F H H' v (.int i, fl)) : v = .int i := by obtain ⟨L, q⟩ := h.scal (fun _ z => nomatch z); cases q; rfl
theorem Res.bool {fl : Fl} {i : Bool} (h : Res K F H H' v (.bool i, fl)) : v = .bl i := by obtain ⟨L, q⟩ := h.scal (fun _ z => nomatch z); cases q; rfl
theorem Res.str {fl : Fl} {i : Str} (h : Res K F H H' v (.str i, fl)) : v = .str i := by obtain ⟨L, q⟩ := h.scal (fun _ z => nomatch z); cases q; rfl
theorem Res.non1 {fl : Fl} (h : Res K F H H' v (.none, fl)) : v = .non := by obtain ⟨L, q⟩ := h.scal (fun _ z => nomatch z); cases q; rfl
theorem Res.ofInt {i : Int} : Res K F H H' (.int i) (.int i, .fz) := ⟨[], .int i, by simp⟩
theorem Res.ofBool {i : Bool} : Res K F H H' (.bl i) (.bool i, .fz) := ⟨[], .bl i, by simp⟩
theorem Res.ofStr {i : Str} : Res K F H H' (.str i) (.str i, .fz) := ⟨[], .str i, by simp⟩
theorem Res.ofNone : Res K F H H' .non (.none, .fz) := ⟨[], .non, by simp⟩
/-- a new list -/
theorem Res.newList {p : Addr} {vs : List V} {ds : List D} {L : List Addr} (n : H1 p = none) (e : Same H H1) (r : RpA K H1 vs ds L) (hl : ∀ b ∈ L, F b ∨ H b = none) : Res K F H (upd H1 p (.lst vs)) (.ref p) (.list ds, .ow) := by
  have s : Same H1 (upd H1 p (.lst vs)) := fun b o q => by rw [upd_ne (ne_of_none q n)]; exact q
  refine ⟨p, rfl, e.free n, vs, L, upd_same, r.mono s, fun b hb => ⟨hl b hb, ?_⟩⟩
  rintro rfl
  have hb2 : ∀ {vs : List V} {ds : List D} {L : List Addr}, RpA K H1 vs ds L → ∀ b ∈ L, H1 b ≠ none := by
    intro vs
    induction vs with
    | nil => intro ds L r b hb; cases r; simp at hb
    | cons v vs ih =>
      intro ds L r b hb
      cases r with
      | cons r1 r2 => exact (List.mem_append.mp hb).elim (r1.addr b) (ih r2 b)
  exact hb2 r b hb n
theorem Res.newTup {p : Addr} {vs : List V} {ds : List D} {L : List Addr} (n : H1 p = none) (r : RpA K H1 vs ds L) (hl : ∀ b ∈ L, F b ∨ H b = none) : Res K F H (upd H1 p (.tup vs)) (.ref p) (.tuple ds, .fz) := by
  have s : Same H1 (upd H1 p (.tup vs)) := fun b o q => by rw [upd_ne (ne_of_none q n)]; exact q
  exact ⟨L, .tup (.inl (.inl upd_same)) (r.mono s), hl⟩
theorem same_new {p : Addr} {o : HO} (n : H p = Option.none) : Same H (upd H p o) := fun b u q => by rw [upd_ne (ne_of_none q n)]; exact q
end

/-! ### readings -/
/-- the reading of an expression that evaluates as g says -/
def TE' (K : PySem.W.Frag) (g : GE) : TE := fun σ H Q => ∃ F env r, Ok K F σ H env ∧ g env = some r ∧ ∀ v H', Same H H' → Sz K H' → Res K F H H' v r → Q v H'
def TB' (K : PySem.W.Frag) (g : GB) : TT := fun σ H Q => ∃ F env r, Ok K F σ H env ∧ g env = some r ∧ ∀ H', Same H H' → Sz K H' → Q r H'
/-- e evaluates as g says -/
def VE (X : Cx) (e : Expr) (g : GE) : Prop := PE X e (TE' X.K g)
def VB (X : Cx) (e : Expr) (g : GB) : Prop := PT X e (TB' X.K g)
def VW (X : Cx) (e : Expr) (g : GB) : Prop := PW X e (TB' X.K g)
section
variable {X : Cx} {e : Expr}
theorem PE.to {t t' : TE} (h : PE X e t) (i : ∀ σ H Q, t' σ H Q → t σ H (fun v H' => Sz X.K H' → Q v H')) : PE X e t' :=
  ⟨fun pins s σ H Q I w => thn (h.run pins s σ H _ I (i σ H Q w)) fun u s' ⟨v, H', I', r, q⟩ => ⟨v, H', I', r, q (szs_of I')⟩⟩
theorem PT.to {t t' : TT} (h : PT X e t) (i : ∀ σ H Q, t' σ H Q → t σ H (fun v H' => Sz X.K H' → Q v H')) : PT X e t' :=
  ⟨fun pins s σ H Q I w => thn (h.run pins s σ H _ I (i σ H Q w)) fun u s' ⟨H', I', q⟩ => ⟨H', I', q (szs_of I')⟩⟩
theorem PW.to {t t' : TT} (h : PW X e t) (i : ∀ σ H Q, t' σ H Q → t σ H (fun v H' => Sz X.K H' → Q v H')) : PW X e t' :=
  ⟨fun wh pins s σ H Q I w => thn (h.run wh pins s σ H _ I (i σ H Q w)) fun u s' ⟨H', I', q⟩ => ⟨H', I', q (szs_of I')⟩⟩
end
end Pl

set_option Elab.async false
set_option linter.all false
set_option maxRecDepth 100000
set_option maxHeartbeats 4000000
/-! Pl2: expressions -/
namespace Pl
open PySem PySem.Spec PyProof.Rows L2

/-! data that == and < may meet -/
mutual
def okD : Nat → D → Bool
  | _, .none => true
  | _, .bool _ => true
  | _, .int _ => true
  | _, .str x => PyData.strOk x
  | 0, .list _ => false
  | 0, .tuple _ => false
  | n + 1, .list ds => okA n ds
  | n + 1, .tuple ds => okA n ds
  | _, .dict _ => false
def okA : Nat → List D → Bool
  | _, [] => true
  | n, d :: ds => okD n d && okA n ds
end
mutual
theorem okD_of : ∀ (n : Nat) (d : D), okD n d = true → noDict d = true ∧ d.canLay0 = true ∧ d.depth ≤ n
  | _, .none, _ => ⟨by simp [noDict], by simp [PyData.canLay0], by simp [PyData.depth]⟩
  | _, .bool _, _ => ⟨by simp [noDict], by simp [PyData.canLay0], by simp [PyData.depth]⟩
  | _, .int _, _ => ⟨by simp [noDict], by simp [PyData.canLay0], by simp [PyData.depth]⟩
  | _, .str x, h => ⟨by simp [noDict], by simpa [PyData.canLay0, okD] using h, by simp [PyData.depth]⟩
  | 0, .list _, h => by simp [okD] at h
  | 0, .tuple _, h => by simp [okD] at h
  | n + 1, .list ds, h => by
    obtain ⟨h1, h2, h3⟩ := okA_of n ds (by simpa [okD] using h)
    exact ⟨by simpa [noDict] using h1, by simpa [PyData.canLay0] using h2, by simp [PyData.depth]; omega⟩
  | n + 1, .tuple ds, h => by
    obtain ⟨h1, h2, h3⟩ := okA_of n ds (by simpa [okD] using h)
    exact ⟨by simpa [noDict] using h1, by simpa [PyData.canLay0] using h2, by simp [PyData.depth]; omega⟩
  | n, .dict _, h => by simp [okD] at h
theorem okA_of : ∀ (n : Nat) (ds : List D), okA n ds = true → noDictA ds = true ∧ PyData.canLayAll0 ds = true ∧ PyData.depthAll ds ≤ n
  | _, [], _ => ⟨by simp [noDictA], by simp [PyData.canLayAll0], by simp [PyData.depthAll]⟩
  | n, d :: ds, h => by
    rw [okA, Bool.and_eq_true] at h
    obtain ⟨h1, h2, h3⟩ := okD_of n d h.1
    obtain ⟨k1, k2, k3⟩ := okA_of n ds h.2
    exact ⟨by simp [noDictA, h1, k1], by simp [PyData.canLayAll0, h2, k2], by simp [PyData.depthAll]; omega⟩
end
theorem okA_all (n : Nat) : ∀ ds : List D, okA n ds = ds.all (okD n)
  | [] => rfl
  | d :: ds => by rw [okA, okA_all n ds]; rfl
theorem okD_shaped {n : Nat} {d : D} (h : okD n d = true) (hn : n ≤ 60) : SeqAt.shaped d = true := by
  obtain ⟨_, h2, h3⟩ := okD_of n d h
  unfold SeqAt.shaped
  rw [h2, decide_eq_true (by omega : d.depth ≤ 64)]
  rfl

/-! ### operators by values -/
section
variable {X : Cx}
/-- f on values does what g says of data -/
def OpF (X : Cx) (f : Value → Value → Sem Value) (g : RV → RV → Option RV) : Prop :=
  ∃ r : R2, OpR X f r ∧ ∀ (F : Addr → Prop) (H0 H : Hp) (x y : V) (a b c : RV) (Q : VK), Res X.K F H0 H x a → Res X.K F H0 H y b → Sz X.K H → Same H0 H → g a b = some c →
    (∀ v H', Same H H' → Res X.K F H0 H' v c → Q v H') → r x y H Q
theorem OpF.or {f : Value → Value → Sem Value} {g g' : RV → RV → Option RV} (h : OpF X f g) (h' : OpF X f g') : OpF X f (fun a b => (g a b).or (g' a b)) := by
  obtain ⟨r, h1, h2⟩ := h
  obtain ⟨r', k1, k2⟩ := h'
  refine ⟨_, h1.or k1, fun F H0 H x y a b c Q ra rb sz sm e q => ?_⟩
  cases e1 : g a b with
  | some c' =>
    have : c' = c := by
      have e : (g a b).or (g' a b) = some c := e
      rw [e1] at e; exact Option.some.inj e
    subst this
    exact .inl (h2 F H0 H x y a b c' Q ra rb sz sm e1 q)
  | none =>
    have e : (g a b).or (g' a b) = some c := e
    rw [e1] at e
    exact .inr (k2 F H0 H x y a b c Q ra rb sz sm e q)
theorem OpF.congr {f : Value → Value → Sem Value} {g g' : RV → RV → Option RV} (h : OpF X f g) (e : ∀ a b, g' a b = g a b) : OpF X f g' := by
  have : g' = g := by funext a b; exact e a b
  rw [this]; exact h

def intsG (C : Int → Int → Bool) (k : Int → Int → D) : RV → RV → Option RV
  | (.int i, _), (.int j, _) => if C i j then some (k i j, .fz) else none
  | _, _ => none
theorem opF_ints {f : Value → Value → Sem Value} {C : Int → Int → Prop} {B : Int → Int → Bool} {k : Int → Int → V} {kd : Int → Int → D} (h : OpR X f (rI C k)) (hb : ∀ i j, B i j = true → C i j)
    (hk : ∀ K F H H' i j, Res K F H H' (k i j) (kd i j, .fz)) : OpF X f (intsG B kd) := by
  refine ⟨_, h, fun F H0 H x y a b c Q ra rb sz sm e q => ?_⟩
  obtain ⟨d1, f1⟩ := a
  obtain ⟨d2, f2⟩ := b
  cases d1 <;> try (cases (show (none : Option RV) = some c from e))
  cases d2 <;> try (cases (show (none : Option RV) = some c from e))
  rename_i i j
  have e' : (if B i j then some (kd i j, Fl.fz) else none) = some c := e
  split at e'
  · rename_i hc
    cases e'
    exact ⟨i, j, ra.int, rb.int, hb i j hc, q _ H (Same.refl H) (hk _ _ _ _ i j)⟩
  · cases e'
theorem opF_ints0 {f : Value → Value → Sem Value} {k : Int → Int → V} {kd : Int → Int → D} (h : OpR X f (rI0 k)) (hk : ∀ K F H H' i j, Res K F H H' (k i j) (kd i j, .fz)) : OpF X f (intsG (fun _ _ => true) kd) :=
  opF_ints (C := fun _ _ => True) (fun pins s σ H x y v u Q I rx ry ⟨i, j, e1, e2, _, q⟩ => h pins s σ H x y v u Q I rx ry ⟨i, j, e1, e2, q⟩) (fun _ _ _ => trivial) hk
theorem resI {K F H H'} {f : Int → Int → Int} (i j : Int) : Res K F H H' (V.int (f i j)) (.int (f i j), .fz) := Res.ofInt

/-! addition -/
def tupsG : RV → RV → Option RV
  | (.tuple a, _), (.tuple b, _) => if a.length + b.length ≤ 16777216 then some (.tuple (a ++ b), .fz) else none
  | _, _ => none
theorem opF_tups : OpF X (binaryOp .Add) tupsG := by
  refine ⟨_, op_catA, fun F H0 H x y a b c Q ra rb sz sm e q => ?_⟩
  obtain ⟨d1, f1⟩ := a
  obtain ⟨d2, f2⟩ := b
  cases d1 <;> try (cases (show (none : Option RV) = some c from e))
  cases d2 <;> try (cases (show (none : Option RV) = some c from e))
  rename_i xs ys
  have e' : (if xs.length + ys.length ≤ 16777216 then some (PyData.tuple (xs ++ ys), Fl.fz) else none) = some c := e
  split at e'
  · rename_i hc
    cases e'
    obtain ⟨p1, vs, L, rfl, s1, r1, l1⟩ := ra.tuple
    obtain ⟨p2, ws, M, rfl, s2, r2, l2⟩ := rb.tuple
    have hl := r1.length
    have hl2 := r2.length
    have fin : ∀ p, H p = none → Q (.ref p) (upd H p (.tup (vs ++ ws))) := fun p n =>
      q _ _ (same_new n) (Res.newTup n (r1.append r2) fun b hb => (List.mem_append.mp hb).elim (l1 b) (l2 b))
    refine ⟨p1, p2, vs, ws, rfl, rfl, s1, s2, by rw [sizeLine_eq]; omega, ?_⟩
    refine ⟨fun z => ?_, fun _ z => ?_, fun _ _ => fin⟩
    · subst z
      cases r1
      exact q _ H (Same.refl H) ⟨M, .tup s2 (by simpa using r2), l2⟩
    · subst z
      cases r2
      exact q _ H (Same.refl H) ⟨L, .tup s1 (by simpa using r1), l1⟩
  · cases e'
def isSc : Fl → Bool
  | .sc => true
  | _ => false
theorem not_sc {f : Fl} (h : isSc f = false) : f ≠ .sc := by rintro rfl; cases h
def listsG : RV → RV → Option RV
  | (.list a, f), (.list b, f') => if isSc f = false ∧ isSc f' = false ∧ a.length + b.length ≤ 16777216 then some (.list (a ++ b), .ow) else none
  | _, _ => none
theorem opF_lists : OpF X (binaryOp .Add) listsG := by
  refine ⟨_, op_cat, fun F H0 H x y a b c Q ra rb sz sm e q => ?_⟩
  obtain ⟨d1, f1⟩ := a
  obtain ⟨d2, f2⟩ := b
  cases d1 <;> try (cases (show (none : Option RV) = some c from e))
  cases d2 <;> try (cases (show (none : Option RV) = some c from e))
  rename_i xs ys
  have e' : (if isSc f1 = false ∧ isSc f2 = false ∧ xs.length + ys.length ≤ 16777216 then some (PyData.list (xs ++ ys), Fl.ow) else none) = some c := e
  split at e'
  · rename_i hc
    cases e'
    obtain ⟨p1, vs, L, rfl, s1, r1, l1⟩ := ra.listT (not_sc hc.1)
    obtain ⟨p2, ws, M, rfl, s2, r2, l2⟩ := rb.listT (not_sc hc.2.1)
    have hl := r1.length
    have hl2 := r2.length
    refine ⟨p1, p2, vs, ws, rfl, rfl, s1, s2, by rw [sizeLine_eq]; omega, fun p n => q _ _ (same_new n) ?_⟩
    exact Res.newList n sm (r1.append r2) fun b hb => (List.mem_append.mp hb).elim (l1 b) (l2 b)
  · cases e'
def strsG : RV → RV → Option RV
  | (.str a, _), (.str b, _) => if a.length + b.length ≤ 16777216 then some (.str (a ++ b), .fz) else none
  | _, _ => none
theorem opF_strs : OpF X (binaryOp .Add) strsG := by
  refine ⟨_, op_add_str, fun F H0 H x y a b c Q ra rb sz sm e q => ?_⟩
  obtain ⟨d1, f1⟩ := a
  obtain ⟨d2, f2⟩ := b
  cases d1 <;> try (cases (show (none : Option RV) = some c from e))
  cases d2 <;> try (cases (show (none : Option RV) = some c from e))
  rename_i xs ys
  have e' : (if xs.length + ys.length ≤ 16777216 then some (PyData.str (xs ++ ys), Fl.fz) else none) = some c := e
  split at e'
  · rename_i hc
    cases e'
    exact ⟨xs, ys, ra.str, rb.str, by rw [sizeLine_eq]; omega, q _ H (Same.refl H) Res.ofStr⟩
  · cases e'
/-- x + y -/
def addG : RV → RV → Option RV
  | (.int i, _), (.int j, _) => some (.int (i + j), .fz)
  | (.tuple a, _), (.tuple b, _) => if a.length + b.length ≤ 16777216 then some (.tuple (a ++ b), .fz) else none
  | (.str a, _), (.str b, _) => if a.length + b.length ≤ 16777216 then some (.str (a ++ b), .fz) else none
  | (.list a, f), (.list b, f') => if isSc f = false ∧ isSc f' = false ∧ a.length + b.length ≤ 16777216 then some (.list (a ++ b), .ow) else none
  | _, _ => none
theorem opF_add : OpF X (binaryOp .Add) addG := by
  refine ((((opF_ints0 op_add fun _ _ _ _ => resI (f := fun i j => i + j)).or opF_tups).or opF_strs).or opF_lists).congr fun a b => ?_
  obtain ⟨d1, f1⟩ := a
  obtain ⟨d2, f2⟩ := b
  cases d1 <;> cases d2 <;> simp [addG, intsG, tupsG, strsG, listsG]
/-- x - y -/
def subG : RV → RV → Option RV
  | (.int i, _), (.int j, _) => some (.int (i - j), .fz)
  | _, _ => none
theorem opF_sub : OpF X (binaryOp .Sub) subG := by
  refine (opF_ints0 op_sub fun _ _ _ _ => resI (f := fun i j => i - j)).congr fun a b => ?_
  obtain ⟨d1, f1⟩ := a
  obtain ⟨d2, f2⟩ := b
  cases d1 <;> cases d2 <;> simp [subG, intsG]
/-! products -/
def mulC (i j : Int) : Bool := (decide (-(2 ^ 64) < i) && decide (i < 2 ^ 64)) || (decide (-(2 ^ 64) < j) && decide (j < 2 ^ 64)) || decide (i.natAbs.log2 + j.natAbs.log2 < 1000000)
def repG : RV → RV → Option RV
  | (.list a, f), (.int k, _) => if isSc f = false ∧ -(2 ^ 62) ≤ k ∧ a.length * k.toNat ≤ 16777216 ∧ k < 2 ^ 62 then some (.list (List.replicate k.toNat a).flatten, .ow) else none
  | _, _ => none
theorem RpA.rep {K : PySem.W.Frag} {H : Hp} {vs : List V} {ds : List D} {L : List Addr} (h : RpA K H vs ds L) : ∀ k : Nat, ∃ M, RpA K H (List.replicate k vs).flatten (List.replicate k ds).flatten M ∧ ∀ b ∈ M, b ∈ L
  | 0 => ⟨[], by simpa using RpA.nil, by simp⟩
  | k + 1 => by
    obtain ⟨M, r, hm⟩ := RpA.rep h k
    exact ⟨L ++ M, by simpa [List.replicate_succ] using h.append r, fun b hb => (List.mem_append.mp hb).elim id (hm b)⟩
theorem opF_rep : OpF X (binaryOp .Mult) repG := by
  refine ⟨_, op_rep, fun F H0 H x y a b c Q ra rb sz sm e q => ?_⟩
  obtain ⟨d1, f1⟩ := a
  obtain ⟨d2, f2⟩ := b
  cases d1 <;> try (cases (show (none : Option RV) = some c from e))
  cases d2 <;> try (cases (show (none : Option RV) = some c from e))
  rename_i xs k
  have e' : (if isSc f1 = false ∧ -(2 ^ 62) ≤ k ∧ xs.length * k.toNat ≤ 16777216 ∧ k < 2 ^ 62 then some (PyData.list (List.replicate k.toNat xs).flatten, Fl.ow) else none) = some c := e
  split at e'
  · rename_i hc
    cases e'
    obtain ⟨p1, vs, L, rfl, s1, r1, l1⟩ := ra.listT (not_sc hc.1)
    have hl := r1.length
    obtain ⟨M, r2, hm⟩ := r1.rep k.toNat
    refine ⟨p1, k, vs, rfl, rb.int, s1, by omega, by omega, by rw [sizeLine_eq, hl]; omega, fun p n => q _ _ (same_new n) ?_⟩
    exact Res.newList n sm r2 fun b hb => l1 b (hm b hb)
  · cases e'
def repTG : RV → RV → Option RV
  | (.tuple a, _), (.int k, _) => if a ≠ [] ∧ 2 ≤ k ∧ a.length ≤ 1000 ∧ k ≤ 1000 then some (.tuple (List.replicate k.toNat a).flatten, .fz) else none
  | _, _ => none
theorem opF_repT : OpF X (binaryOp .Mult) repTG := by
  refine ⟨_, op_repT, fun F H0 H x y a b c Q ra rb sz sm e q => ?_⟩
  obtain ⟨d1, f1⟩ := a
  obtain ⟨d2, f2⟩ := b
  cases d1 <;> try (cases (show (none : Option RV) = some c from e))
  cases d2 <;> try (cases (show (none : Option RV) = some c from e))
  rename_i xs k
  have e' : (if xs ≠ [] ∧ 2 ≤ k ∧ xs.length ≤ 1000 ∧ k ≤ 1000 then some (PyData.tuple (List.replicate k.toNat xs).flatten, Fl.fz) else none) = some c := e
  split at e'
  · rename_i hc
    cases e'
    obtain ⟨p1, vs, L, rfl, s1, r1, l1⟩ := ra.tuple
    have hl := r1.length
    obtain ⟨M, r2, hm⟩ := r1.rep k.toNat
    refine ⟨p1, k, vs, rfl, rb.int, s1, fun z => ?_, hc.2.1, hc.2.2.2, by rw [hl]; exact hc.2.2.1, fun p n => q _ _ (same_new n) ?_⟩
    · subst z; cases r1; exact hc.1 rfl
    · exact Res.newTup n r2 fun b hb => l1 b (hm b hb)
  · cases e'
/-- x * y -/
def mulG : RV → RV → Option RV
  | (.int i, _), (.int j, _) => if mulC i j then some (.int (i * j), .fz) else none
  | (.list a, f), (.int k, _) => if isSc f = false ∧ -(2 ^ 62) ≤ k ∧ a.length * k.toNat ≤ 16777216 ∧ k < 2 ^ 62 then some (.list (List.replicate k.toNat a).flatten, .ow) else none
  | (.tuple a, _), (.int k, _) => if a ≠ [] ∧ 2 ≤ k ∧ a.length ≤ 1000 ∧ k ≤ 1000 then some (.tuple (List.replicate k.toNat a).flatten, .fz) else none
  | _, _ => none
theorem op_mulA : OpR X (binaryOp .Mult) (rI (fun i j => CMul i j ∨ CMulW i j) fun i j => .int (i * j)) := opI fun _ _ _ _ _ _ _ hc q => mul_int q (hc.elim CMul.ok CMulW.ok)
theorem opF_mul : OpF X (binaryOp .Mult) mulG := by
  refine (((opF_ints (B := mulC) op_mulA (fun i j h => ?_) fun _ _ _ _ => resI (f := fun i j => i * j)).or opF_rep).or opF_repT).congr fun a b => ?_
  · unfold mulC at h
    simp only [Bool.or_eq_true, Bool.and_eq_true, decide_eq_true_eq] at h
    rcases h with (h | h) | h
    · exact .inl (.inl h)
    · exact .inl (.inr h)
    · exact .inr h
  · obtain ⟨d1, f1⟩ := a
    obtain ⟨d2, f2⟩ := b
    cases d1 <;> cases d2 <;> simp [mulG, intsG, repG, repTG]
/-! floors and rests -/
def divC (_ j : Int) : Bool := (decide (j ≠ 0) && decide (j.natAbs < 1073741824)) || (decide (0 < j) && decide (j.natAbs.log2 < 9000))
def divG : RV → RV → Option RV
  | (.int i, _), (.int j, _) => if divC i j then some (.int (i.fdiv j), .fz) else none
  | _, _ => none
theorem op_fdivA : OpR X (binaryOp .FloorDiv) (rI (fun i j => CDivN i j ∨ CDivW i j) fun i j => .int (i.fdiv j)) := opI fun _ _ _ _ _ _ _ hc q => by
  rcases hc with hc | hc
  · exact floordiv_int hc.1 q (.inl (PyProof.noPylong_small hc.2))
  · exact floordiv_int (by have := hc.1; omega) q (.inl (PyProof.noPylong_of_log2 hc.2))
theorem opF_div : OpF X (binaryOp .FloorDiv) divG := by
  refine (opF_ints (B := divC) op_fdivA (fun i j h => ?_) fun _ _ _ _ => resI (f := fun i j => i.fdiv j)).congr fun a b => ?_
  · unfold divC at h
    simp only [Bool.or_eq_true, Bool.and_eq_true, decide_eq_true_eq] at h
    exact h.imp id id
  · obtain ⟨d1, f1⟩ := a
    obtain ⟨d2, f2⟩ := b
    cases d1 <;> cases d2 <;> simp [divG, intsG]
def modG : RV → RV → Option RV
  | (.int i, _), (.int j, _) => if j ≠ 0 then some (.int (i.fmod j), .fz) else none
  | _, _ => none
theorem opF_mod : OpF X (binaryOp .Mod) modG := by
  refine (opF_ints (B := fun _ j => decide (j ≠ 0)) op_modN (fun i j h => of_decide_eq_true h) fun _ _ _ _ => resI (f := fun i j => i.fmod j)).congr fun a b => ?_
  obtain ⟨d1, f1⟩ := a
  obtain ⟨d2, f2⟩ := b
  cases d1 <;> cases d2 <;> simp [modG, intsG]
def powC (i j : Int) : Bool := decide (0 ≤ j) && decide (j ≤ 1000000) && decide (i.natAbs < 2 ^ 64)
def powG : RV → RV → Option RV
  | (.int i, _), (.int j, _) => if powC i j then some (.int (i ^ j.toNat), .fz) else none
  | _, _ => none
theorem opF_pow : OpF X (binaryOp .Pow) powG := by
  refine (opF_ints (B := powC) op_pow (fun i j h => ?_) fun _ _ _ _ => resI (f := fun i j => i ^ j.toNat)).congr fun a b => ?_
  · unfold powC at h
    simp only [Bool.and_eq_true, decide_eq_true_eq] at h
    exact ⟨h.1.1, h.1.2, h.2⟩
  · obtain ⟨d1, f1⟩ := a
    obtain ⟨d2, f2⟩ := b
    cases d1 <;> cases d2 <;> simp [powG, intsG]
def shlG : RV → RV → Option RV
  | (.int i, _), (.int j, _) => if powC i j then some (.int (i * 2 ^ j.toNat), .fz) else none
  | _, _ => none
theorem opF_shl : OpF X (binaryOp .LShift) shlG := by
  refine (opF_ints (B := powC) op_shl (fun i j h => ?_) fun _ _ _ _ => resI (f := fun i j => i * 2 ^ j.toNat)).congr fun a b => ?_
  · unfold powC at h
    simp only [Bool.and_eq_true, decide_eq_true_eq] at h
    exact ⟨h.1.1, h.1.2, h.2⟩
  · obtain ⟨d1, f1⟩ := a
    obtain ⟨d2, f2⟩ := b
    cases d1 <;> cases d2 <;> simp [shlG, intsG]

/-! ### comparisons -/
theorem dp_of {K F H0 H v d fl n} (r : Res K F H0 H v (d, fl)) (h : okD n d = true) : Dp K H v d := by
  by_cases hs : fl = .sc
  · subst hs
    obtain ⟨a, ns, rfl, rfl, q⟩ := ScOk.get r
    exact .lst q ((rpa_ints (H := H) (K := K) ns).dp (ds := ns.map PyData.int) (by
      have := okD_of n _ h
      simpa [noDict] using this.1))
  · obtain ⟨L, q⟩ := r.rp hs
    exact q.dp d (okD_of n d h).1
/-- x == y -/
def eqG : RV → RV → Option RV
  | (d, _), (e, _) => if okD 9 d && okD 9 e then some (.bool (PyData.eqv d e), .fz) else none
def neG : RV → RV → Option RV
  | (d, _), (e, _) => if okD 9 d && okD 9 e then some (.bool (!PyData.eqv d e), .fz) else none
theorem opF_eq (hu : X.A.units + 64 < cLine) : OpF X (compareOp .Eq) eqG := by
  refine ⟨rEqD X.K, fun pins s σ H x y v u Q I rx ry h => ?_, fun F H0 H x y a b c Q ra rb sz sm e q => ?_⟩
  · obtain ⟨d, e, hd, he, sd, se, q⟩ := h
    obtain ⟨as, r1⟩ := Dp.reads I d x v hd rx
    obtain ⟨bs, r2⟩ := Dp.reads I e y u he ry
    exact eq_dataH r1 r2 sd se hu ⟨.bl _, H, I, rfl, q⟩
  · obtain ⟨d, f1⟩ := a
    obtain ⟨e1, f2⟩ := b
    have e' : (if okD 9 d && okD 9 e1 then some (PyData.bool (PyData.eqv d e1), Fl.fz) else none) = some c := e
    split at e'
    · rename_i hc
      rw [Bool.and_eq_true] at hc
      cases e'
      exact ⟨d, e1, dp_of ra hc.1, dp_of rb hc.2, okD_shaped hc.1 (by decide), okD_shaped hc.2 (by decide), q _ H (Same.refl H) Res.ofBool⟩
    · cases e'
theorem opF_ne (hu : X.A.units + 64 < cLine) : OpF X (compareOp .NotEq) neG := by
  refine ⟨rNeD X.K, fun pins s σ H x y v u Q I rx ry h => ?_, fun F H0 H x y a b c Q ra rb sz sm e q => ?_⟩
  · obtain ⟨d, e, hd, he, sd, se, q⟩ := h
    obtain ⟨as, r1⟩ := Dp.reads I d x v hd rx
    obtain ⟨bs, r2⟩ := Dp.reads I e y u he ry
    exact ne_dataH r1 r2 sd se hu ⟨.bl _, H, I, rfl, q⟩
  · obtain ⟨d, f1⟩ := a
    obtain ⟨e1, f2⟩ := b
    have e' : (if okD 9 d && okD 9 e1 then some (PyData.bool (!PyData.eqv d e1), Fl.fz) else none) = some c := e
    split at e'
    · rename_i hc
      rw [Bool.and_eq_true] at hc
      cases e'
      exact ⟨d, e1, dp_of ra hc.1, dp_of rb hc.2, okD_shaped hc.1 (by decide), okD_shaped hc.2 (by decide), q _ H (Same.refl H) Res.ofBool⟩
    · cases e'
def isNone : D → Bool
  | .none => true
  | _ => false
/-- x < y -/
def ltG : RV → RV → Option RV
  | (d, _), (e, _) => if okD 9 d && okD 9 e && PySem.W.alike d e && !isNone d then some (.bool (PySem.W.dataLt d e), .fz) else none
def rLtD (K : PySem.W.Frag) : R2 := fun x y H Q => ∃ d e, Dp K H x d ∧ Dp K H y e ∧ d.depth ≤ 60 ∧ PySem.W.alike d e = true ∧ d ≠ .none ∧ Q (.bl (PySem.W.dataLt d e)) H
theorem opF_lt (hu : X.A.units + 64 < cLine) : OpF X (compareOp .Lt) ltG := by
  refine ⟨rLtD X.K, fun pins s σ H x y v u Q I rx ry h => ?_, fun F H0 H x y a b c Q ra rb sz sm e q => ?_⟩
  · obtain ⟨d, e, hd, he, sd, al, nn, q⟩ := h
    obtain ⟨as, r1⟩ := Dp.reads I d x v hd rx
    obtain ⟨bs, r2⟩ := Dp.reads I e y u he ry
    have hm : min d.depth e.depth ≤ d.depth := Nat.min_le_left _ _
    exact PySem.W.rcLt_alike d e X.A s v u as bs r1 r2 al nn (by omega) X.prog X.w X.xe _ ⟨.bl _, H, I, rfl, q⟩
  · obtain ⟨d, f1⟩ := a
    obtain ⟨e1, f2⟩ := b
    have e' : (if okD 9 d && okD 9 e1 && PySem.W.alike d e1 && !isNone d then some (PyData.bool (PySem.W.dataLt d e1), Fl.fz) else none) = some c := e
    split at e'
    · rename_i hc
      simp only [Bool.and_eq_true] at hc
      cases e'
      refine ⟨d, e1, dp_of ra hc.1.1.1, dp_of rb hc.1.1.2, by have := (okD_of 9 d hc.1.1.1).2.2; omega, hc.1.2, ?_, q _ H (Same.refl H) Res.ofBool⟩
      rintro rfl
      exact absurd hc.2 (by simp [isNone])
    · cases e'
def cmpG (p : Int → Int → Bool) : RV → RV → Option RV
  | (.int i, _), (.int j, _) => some (.bool (p i j), .fz)
  | _, _ => none
theorem cmpG_eq (p : Int → Int → Bool) (a b : RV) : cmpG p a b = intsG (fun _ _ => true) (fun i j => .bool (p i j)) a b := by
  obtain ⟨d1, f1⟩ := a
  obtain ⟨d2, f2⟩ := b
  cases d1 <;> cases d2 <;> simp [cmpG, intsG]
theorem opF_le : OpF X (compareOp .LtE) (cmpG fun i j => decide (i ≤ j)) := (opF_ints0 op_le fun _ _ _ _ _ _ => Res.ofBool).congr (cmpG_eq _)
theorem opF_gt : OpF X (compareOp .Gt) (cmpG fun i j => decide (j < i)) := (opF_ints0 op_gt fun _ _ _ _ _ _ => Res.ofBool).congr (cmpG_eq _)
theorem opF_ge : OpF X (compareOp .GtE) (cmpG fun i j => decide (j ≤ i)) := (opF_ints0 op_ge fun _ _ _ _ _ _ => Res.ofBool).congr (cmpG_eq _)
/-- < of ints, without more ado -/
theorem opF_ltI : OpF X (compareOp .Lt) (cmpG fun i j => decide (i < j)) := (opF_ints0 op_lt fun _ _ _ _ _ _ => Res.ofBool).congr (cmpG_eq _)
/-! in -/
def inG (neg : Bool) : RV → RV → Option RV
  | (d, _), (.list ds, _) => if okD 9 d && okA 9 ds then some (.bool (neg != ds.any fun z => PyData.eqv z d), .fz) else none
  | (d, _), (.tuple ds, _) => if okD 9 d && okA 9 ds then some (.bool (neg != ds.any fun z => PyData.eqv z d), .fz) else none
  | _, _ => none
def rInD2 (K : PySem.W.Frag) (neg : Bool) : R2 := fun x y H Q => ∃ d ds, Dp K H x d ∧ (Dp K H y (.list ds) ∨ Dp K H y (.tuple ds)) ∧ d.canLay0 = true ∧ PyData.canLayAll0 ds = true ∧ d.depth ≤ 60 ∧ Q (.bl (neg != ds.any fun z => PyData.eqv z d)) H
theorem op_inD2 (hu : X.A.units + 64 < cLine) : OpR X (compareOp .In) (rInD2 X.K false) := by
  intro pins s σ H x y v u Q I rx ry h
  obtain ⟨d, ds, hd, he, sd, se, hz, q⟩ := h
  obtain ⟨as, r1⟩ := Dp.reads I d x v hd rx
  have hm : min (PyData.depthAll ds) d.depth ≤ d.depth := Nat.min_le_right _ _
  have q' : Q (.bl (ds.any fun z => PyData.eqv z d)) H := by simpa using q
  rcases he with he | he
  · obtain ⟨bs, r2⟩ := Dp.reads I (.list ds) y u he ry
    exact SeqAt.in_list_reads r2 r1 se sd (by omega) ⟨.bl _, H, I, rfl, q'⟩
  · obtain ⟨bs, r2⟩ := Dp.reads I (.tuple ds) y u he ry
    exact SeqAt.in_tuple_reads r2 r1 se sd (by omega) ⟨.bl _, H, I, rfl, q'⟩
theorem op_notInD2 (hu : X.A.units + 64 < cLine) : OpR X (compareOp .NotIn) (rInD2 X.K true) := by
  intro pins s σ H x y v u Q I rx ry h
  obtain ⟨d, ds, hd, he, sd, se, hz, q⟩ := h
  obtain ⟨as, r1⟩ := Dp.reads I d x v hd rx
  have hm : min (PyData.depthAll ds) d.depth ≤ d.depth := Nat.min_le_right _ _
  have q' : Q (.bl (!ds.any fun z => PyData.eqv z d)) H := by
    have e : ∀ b : Bool, (true != b) = !b := by decide
    rw [e] at q
    exact q
  rcases he with he | he
  · obtain ⟨bs, r2⟩ := Dp.reads I (.list ds) y u he ry
    exact SeqAt.notIn_list_reads r2 r1 se sd (by omega) ⟨.bl _, H, I, rfl, q'⟩
  · obtain ⟨bs, r2⟩ := Dp.reads I (.tuple ds) y u he ry
    exact SeqAt.notIn_tuple_reads r2 r1 se sd (by omega) ⟨.bl _, H, I, rfl, q'⟩
theorem inG_reads {K : PySem.W.Frag} {F : Addr → Prop} {H0 H : Hp} {x y : V} {a b c : RV} {Q : VK} {neg : Bool} (ra : Res K F H0 H x a) (rb : Res K F H0 H y b) (e : inG neg a b = some c) (q : ∀ v H', Same H H' → Res K F H0 H' v c → Q v H') : rInD2 K neg x y H Q := by
  obtain ⟨d, f1⟩ := a
  obtain ⟨e1, f2⟩ := b
  have key : ∀ ds : List D, (e1 = .list ds ∨ e1 = .tuple ds) → (if okD 9 d && okA 9 ds then some (PyData.bool (neg != ds.any fun z => PyData.eqv z d), Fl.fz) else none) = some c → rInD2 K neg x y H Q := by
    intro ds hds e'
    split at e'
    · rename_i hc
      rw [Bool.and_eq_true] at hc
      cases e'
      obtain ⟨_, h2, h3⟩ := okD_of 9 d hc.1
      obtain ⟨_, k2, _⟩ := okA_of 9 ds hc.2
      refine ⟨d, ds, dp_of ra hc.1, ?_, h2, k2, by omega, q _ H (Same.refl H) Res.ofBool⟩
      rcases hds with rfl | rfl
      · exact .inl (dp_of (n := 10) rb (by simpa [okD] using hc.2))
      · exact .inr (dp_of (n := 10) rb (by simpa [okD] using hc.2))
    · cases e'
  cases e1 with
  | list ds => exact key ds (.inl rfl) e
  | tuple ds => exact key ds (.inr rfl) e
  | _ => cases (show (none : Option RV) = some c from e)
theorem opF_in (hu : X.A.units + 64 < cLine) : OpF X (compareOp .In) (inG false) := ⟨_, op_inD2 hu, fun F H0 H x y a b c Q ra rb sz sm e q => inG_reads ra rb e q⟩
theorem opF_notIn (hu : X.A.units + 64 < cLine) : OpF X (compareOp .NotIn) (inG true) := ⟨_, op_notInD2 hu, fun F H0 H x y a b c Q ra rb sz sm e q => inG_reads ra rb e q⟩
/-! is None, is True -/
def isG (neg : Bool) : RV → RV → Option RV
  | (d, _), (.none, _) => some (.bool (neg != isNone d), .fz)
  | (.bool a, _), (.bool b, _) => some (.bool (neg != decide (a = b)), .fz)
  | _, _ => none
theorem isNone_V {K F H0 H v d fl} (r : Res K F H0 H v (d, fl)) : isNone d = decide (v = .non) := by
  cases d with
  | none => rw [r.non1]; rfl
  | bool b => rw [r.bool]; rfl
  | int b => rw [r.int]; rfl
  | str b => rw [r.str]; rfl
  | list ds => obtain ⟨a, vs, L, rfl, _⟩ := r.list; rfl
  | tuple ds => obtain ⟨a, vs, L, rfl, _⟩ := r.tuple; rfl
  | dict ds =>
    obtain ⟨L, q⟩ := r.scal (fun _ z => nomatch z)
    cases q <;> rfl
theorem opF_is : OpF X (compareOp .Is) (isG false) := by
  refine ⟨_, op_isN.or op_isBl, fun F H0 H x y a b c Q ra rb sz sm e q => ?_⟩
  obtain ⟨d, f1⟩ := a
  obtain ⟨e1, f2⟩ := b
  cases e1 <;> try (cases d <;> cases (show (none : Option RV) = some c from e))
  · have e' : some (PyData.bool (false != isNone d), Fl.fz) = some c := by cases d <;> exact e
    cases e'
    refine .inl ⟨rb.non1, ?_⟩
    rw [← isNone_V ra]
    simpa using q _ H (Same.refl H) Res.ofBool
  · cases d <;> try (cases (show (none : Option RV) = some c from e))
    cases e
    rename_i b a
    refine .inr ⟨a, b, ra.bool, rb.bool, ?_⟩
    simpa using q _ H (Same.refl H) Res.ofBool
theorem opF_isNot : OpF X (compareOp .IsNot) (isG true) := by
  refine ⟨_, op_notN.or op_notBl, fun F H0 H x y a b c Q ra rb sz sm e q => ?_⟩
  have hx : ∀ b : Bool, (true != b) = !b := by decide
  obtain ⟨d, f1⟩ := a
  obtain ⟨e1, f2⟩ := b
  cases e1 <;> try (cases d <;> cases (show (none : Option RV) = some c from e))
  · have e' : some (PyData.bool (true != isNone d), Fl.fz) = some c := by cases d <;> exact e
    cases e'
    refine .inl ⟨rb.non1, ?_⟩
    rw [← isNone_V ra, ← hx]
    exact q _ H (Same.refl H) Res.ofBool
  · cases d <;> try (cases (show (none : Option RV) = some c from e))
    cases e
    rename_i b a
    refine .inr ⟨a, b, ra.bool, rb.bool, ?_⟩
    rw [← hx]
    exact q _ H (Same.refl H) Res.ofBool
end
end Pl

set_option Elab.async false
set_option linter.all false
set_option maxRecDepth 100000
set_option maxHeartbeats 4000000
/-! Pl3: rules for expressions -/
namespace Pl
open PySem PySem.Spec PyProof.Rows L2

section
variable {X : Cx} {a b c e : Expr} {ga gb gc : GE} {pos : Pos}

/-! names and constants -/
/-- the i-th name -/
def eVar (i : Nat) : GE := fun env => match env[i]? with
  | some (some (d, .ow)) => some (d, .bw)
  | some (some r) => some r
  | _ => none
theorem ve_var (i : Nat) {x : Str} (hN : X.N[i]? = some x := by rfl) (hv : Vis X.env.scope x := by first | exact Or.inl rfl | exact Or.inr (Or.inl rfl) | exact Or.inr (Or.inr rfl)) (hd : (x == ("__debug__" : Str)) = false := by decide)
    (hcd : (x == ("__classdict__" : Str)) = false := by decide) : VE X (.Name x pos) (eVar i) := by
  refine PE.to (pe_var hN hv hd hcd) fun σ H Q ⟨F, env, r, ok, e, q⟩ => ?_
  unfold eVar at e
  cases e1 : env[i]? with
  | none => rw [e1] at e; cases e
  | some o =>
    rw [e1] at e
    cases o with
    | none => cases e
    | some r0 =>
      obtain ⟨v, hv, sl⟩ := ok.slot i r0 e1
      obtain ⟨d, fl⟩ := r0
      refine ⟨v, hv, fun sz => q v H (Same.refl H) sz ?_⟩
      cases fl with
      | fz => cases e; obtain ⟨L, h1, h2⟩ := sl; exact ⟨L, h1, fun b hb => .inl (h2 b hb)⟩
      | ow => cases e; obtain ⟨p, h1, h2, h3⟩ := sl; exact ⟨p, h1, h3.imp fun b hb => .inl hb⟩
      | bw => cases e; obtain ⟨p, h1, h3⟩ := sl; exact ⟨p, h1, h3.imp fun b hb => .inl hb⟩
      | sc => cases e; exact sl
def eC (d : D) : GE := fun _ => some (d, .fz)
theorem ve_int {i : Int} {j} : VE X (.Constant (.int i) j pos) (eC (.int i)) := PE.to pe_int fun σ H Q ⟨F, env, r, ok, e, q⟩ => fun sz => by cases e; exact q _ H (Same.refl H) sz Res.ofInt
theorem ve_bool {i : Bool} {j} : VE X (.Constant (.bool i) j pos) (eC (.bool i)) := PE.to pe_bl fun σ H Q ⟨F, env, r, ok, e, q⟩ => fun sz => by cases e; exact q _ H (Same.refl H) sz Res.ofBool
theorem ve_none {j} : VE X (.Constant .none j pos) (eC .none) := PE.to pe_non fun σ H Q ⟨F, env, r, ok, e, q⟩ => fun sz => by cases e; exact q _ H (Same.refl H) sz Res.ofNone
theorem ve_str {x : Str} {j} : VE X (.Constant (.str x) j pos) (eC (.str x)) := PE.to pe_str fun σ H Q ⟨F, env, r, ok, e, q⟩ => fun sz => by cases e; exact q _ H (Same.refl H) sz Res.ofStr
/-- a module's int -/
theorem ve_globI {x : Str} {i : Int} {t : Tok} (hg : Gl X x) (hm : X.mg x = some (.int i t)) (hd : (x == ("__debug__" : Str)) = false := by decide) : VE X (.Name x pos) (eC (.int i)) :=
  PE.to (pe_glob (v := .int i) hg hm ⟨t, rfl⟩ hd) fun σ H Q ⟨F, env, r, ok, e, q⟩ => fun sz => by cases e; exact q _ H (Same.refl H) sz Res.ofInt

/-! operators -/
def e2 (g : RV → RV → Option RV) (ga gb : GE) : GE := fun env => (ga env).bind fun x => (gb env).bind fun y => g x y
theorem bind2 {α β : Type} {x : Option α} {f : α → Option β} {c : β} (h : x.bind f = some c) : ∃ y, x = some y ∧ f y = some c := by
  cases x with
  | none => cases h
  | some y => exact ⟨y, rfl, h⟩
/-- what a rule asks of two values -/
def R2F (K : PySem.W.Frag) (r : R2) (g : RV → RV → Option RV) : Prop := ∀ (F : Addr → Prop) (H0 H : Hp) (x y : V) (a b c : RV) (Q : VK), Res K F H0 H x a → Res K F H0 H y b → Sz K H → Same H0 H → g a b = some c → (∀ v H', Same H H' → Res K F H0 H' v c → Q v H') → r x y H Q
theorem tOp_reads {K : PySem.W.Frag} {g : RV → RV → Option RV} {r : R2} {σ : L2.St} {H : Hp} {Q : VK} {F : Addr → Prop} {env : En} {c : RV} (h : R2F K r g) (ok : Ok K F σ H env) (e : e2 g ga gb env = some c)
    (q : ∀ v H', Same H H' → Res K F H H' v c → Q v H') : tOp r (TE' K ga) (TE' K gb) σ H Q := by
  obtain ⟨x, e1, e⟩ := bind2 e
  obtain ⟨y, e3, e⟩ := bind2 e
  refine ⟨F, env, x, ok, e1, fun v1 H1 s1 _ r1 => ⟨F, env, y, ok.mono s1, e3, fun v2 H2 s2 sz2 r2 => ?_⟩⟩
  exact h F H H2 v1 v2 x y c _ (r1.mono s2) (r2.back s1) sz2 (s1.trans s2) e fun v H' s r => q v H' ((s1.trans s2).trans s) r
theorem ve_op {op : Operator} {g : RV → RV → Option RV} (ho : OpF X (binaryOp op) g) (ha : VE X a ga) (hb : VE X b gb) : VE X (.BinOp a op b pos) (e2 g ga gb) := by
  obtain ⟨r, h1, h2⟩ := ho
  exact PE.to (pe_op h1 ha hb) fun σ H Q ⟨F, env, c, ok, e, q⟩ => tOp_reads h2 ok e fun v H' s r sz => q v H' s sz r
theorem ve_cmp {op : CmpOp} {g : RV → RV → Option RV} (ho : OpF X (compareOp op) g) (ha : VE X a ga) (hb : VE X b gb) (hm : behindInMarks op b = false := by first | exact nomark _ | rfl) : VE X (.Compare a [op] [b] pos) (e2 g ga gb) := by
  obtain ⟨r, h1, h2⟩ := ho
  exact PE.to (pe_cmpR h1 ha hb hm) fun σ H Q ⟨F, env, c, ok, e, q⟩ => tOp_reads h2 ok e fun v H' s r sz => q v H' s sz r
/-- a truth value -/
def asB : RV → Option Bool
  | (.bool b, _) => some b
  | _ => none
theorem asB_of {r : RV} {k : Bool} (h : asB r = some k) : ∃ f, r = (.bool k, f) := by
  obtain ⟨d, f⟩ := r
  cases d <;> try (cases (show (none : Option Bool) = some k from h))
  cases h
  exact ⟨f, rfl⟩
def eB (g : GE) : GB := fun env => (g env).bind asB
theorem vb_cmp {op : CmpOp} {g : RV → RV → Option RV} (ho : OpF X (compareOp op) g) (ha : VE X a ga) (hb : VE X b gb) (hm : behindInMarks op b = false := by first | exact nomark _ | rfl) : VB X (.Compare a [op] [b] pos) (eB (e2 g ga gb)) := by
  obtain ⟨r, h1, h2⟩ := ho
  refine PT.to (pt_cmpR h1 ha hb hm) fun σ H Q ⟨F, env, k, ok, e, q⟩ => ?_
  obtain ⟨c, e1, e3⟩ := bind2 e
  obtain ⟨f, rfl⟩ := asB_of e3
  exact tOp_reads h2 ok e1 fun v H' s r => ⟨k, r.bool, fun sz => q H' s sz⟩
/-! a op b op' c -/
def e3 (g g' : RV → RV → Option RV) (ga gb gc : GE) : GE := fun env => (ga env).bind fun x => (gb env).bind fun y => (g x y).bind fun k => (asB k).bind fun t => if t then (gc env).bind fun z => g' y z else some (.bool false, .fz)
theorem tChain_reads {K : PySem.W.Frag} {g g' : RV → RV → Option RV} {r r' : R2} {σ : L2.St} {H : Hp} {Q : VK} {F : Addr → Prop} {env : En} {k : RV} (h : R2F K r g) (h' : R2F K r' g') (ok : Ok K F σ H env) (e : e3 g g' ga gb gc env = some k)
    (q : ∀ v H', Same H H' → Res K F H H' v k → Q v H') : tChain r r' (TE' K ga) (TE' K gb) (TE' K gc) σ H Q := by
  obtain ⟨x, e1, e⟩ := bind2 e
  obtain ⟨y, e2, e⟩ := bind2 e
  obtain ⟨m, e3, e⟩ := bind2 e
  obtain ⟨t, e4, ee⟩ := bind2 e
  obtain ⟨f, rfl⟩ := asB_of e4
  clear e
  refine ⟨F, env, x, ok, e1, fun v1 H1 s1 _ r1 => ⟨F, env, y, ok.mono s1, e2, fun v2 H2 s2 sz2 r2 => ?_⟩⟩
  have s12 := s1.trans s2
  refine h F H H2 v1 v2 x y _ _ (r1.mono s2) (r2.back s1) sz2 s12 e3 fun v H3 s3 rk => ⟨t, rk.bool, ?_⟩
  have s13 := s12.trans s3
  cases t with
  | true =>
    rw [if_pos rfl] at ee ⊢
    obtain ⟨z, e5, e⟩ := bind2 ee
    refine ⟨F, env, z, ok.mono s13, e5, fun v4 H4 s4 sz4 r4 => ?_⟩
    exact h' F H H4 v2 v4 y z k _ ((r2.back s1).mono (s3.trans s4)) (r4.back s13) sz4 (s13.trans s4) e fun v H' s r => q v H' ((s13.trans s4).trans s) r
  | false =>
    rw [if_neg Bool.false_ne_true] at ee ⊢
    cases ee
    exact q _ H3 s13 Res.ofBool
theorem ve_chain {op op' : CmpOp} {g g' : RV → RV → Option RV} (ho : OpF X (compareOp op) g) (ho' : OpF X (compareOp op') g') (ha : VE X a ga) (hb : VE X b gb) (hc : VE X c gc) (hm : lastMarks [op, op'] [b, c] = false := by rfl) : VE X (.Compare a [op, op'] [b, c] pos) (e3 g g' ga gb gc) := by
  obtain ⟨r, h1, h2⟩ := ho
  obtain ⟨r', k1, k2⟩ := ho'
  exact PE.to (pe_chain h1 k1 ha hb hc hm) fun σ H Q ⟨F, env, c, ok, e, q⟩ => tChain_reads h2 k2 ok e fun v H' s r sz => q v H' s sz r
theorem vb_chain {op op' : CmpOp} {g g' : RV → RV → Option RV} (ho : OpF X (compareOp op) g) (ho' : OpF X (compareOp op') g') (ha : VE X a ga) (hb : VE X b gb) (hc : VE X c gc) (hm : lastMarks [op, op'] [b, c] = false := by rfl) : VB X (.Compare a [op, op'] [b, c] pos) (eB (e3 g g' ga gb gc)) := by
  obtain ⟨r, h1, h2⟩ := ho
  obtain ⟨r', k1, k2⟩ := ho'
  refine PT.to (pt_chain h1 k1 ha hb hc hm) fun σ H Q ⟨F, env, k, ok, e, q⟩ => ?_
  obtain ⟨c, e1, e3⟩ := bind2 e
  obtain ⟨f, rfl⟩ := asB_of e3
  exact tChain_reads h2 k2 ok e1 fun v H' s r => ⟨k, r.bool, fun sz => q H' s sz⟩

/-! ### truth, and, or, not -/
def truD : RV → Option Bool
  | (.none, _) => some false
  | (.bool b, _) => some b
  | (.int i, _) => some (i != 0)
  | (.str x, _) => if x.length ≤ 16777216 then some ((x.length : Int) != 0) else none
  | (.list ds, _) => some (!ds.isEmpty)
  | (.tuple ds, _) => some (!ds.isEmpty)
  | (.dict _, _) => none
theorem tru_res {K : PySem.W.Frag} {F : Addr → Prop} {H0 H : Hp} {v : V} {r : RV} {k : Bool} (h : Res K F H0 H v r) (e : truD r = some k) : TruV K v H k := by
  obtain ⟨d, f⟩ := r
  cases d with
  | none => rw [h.non1]; cases e; rfl
  | bool b => rw [h.bool]; cases e; rfl
  | int b => rw [h.int]; cases e; rfl
  | str x =>
    rw [h.str]
    have e' : (if x.length ≤ 16777216 then some ((x.length : Int) != 0) else none) = some k := e
    split at e'
    · rename_i hc
      cases e'
      exact ⟨by rw [sizeLine_eq]; exact hc, rfl⟩
    · cases e'
  | list ds =>
    obtain ⟨p, vs, L, rfl, s, q, _⟩ := h.list
    cases e
    have hl := q.length
    refine .inl ⟨vs, s, ?_⟩
    cases vs <;> cases ds <;> simp_all
  | tuple ds =>
    obtain ⟨p, vs, L, rfl, s, q, _⟩ := h.tuple
    cases e
    have hl := q.length
    refine .inr (.inl ⟨vs, s, ?_⟩)
    cases vs <;> cases ds <;> simp_all
  | dict ds => cases e
def eT (g : GE) : GB := fun env => (g env).bind truD
/-- an expression as a test, by its truth -/
theorem vb_tru (h : VE X a ga) (he : ∀ whole, isTrue a X.env whole = (do let v ← whole; standAt a.pos; holding [v] (truthy v)) := by intro _; rfl) : VB X a (eT ga) := by
  refine PT.to (pt_truth h he) fun σ H Q ⟨F, env, k, ok, e, q⟩ => ?_
  obtain ⟨c, e1, e3⟩ := bind2 e
  exact ⟨F, env, c, ok, e1, fun v H' s sz r => ⟨k, tru_res r e3, fun _ => q H' s sz⟩⟩
variable {ba bb bc : GB} {rest : List Expr}
def bAnd (ba bb : GB) : GB := fun env => (ba env).bind fun k => if k = true then bb env else some false
def bOr (ba bb : GB) : GB := fun env => (ba env).bind fun k => if k = true then some true else bb env
def bNot (ba : GB) : GB := fun env => (ba env).map fun k => !k
theorem vw_one {op : BoolOp} (ha : VB X a ba) : VW X (.BoolOp op [a] pos) ba := by
  cases op with
  | And => exact pw_and1 ha
  | Or => exact pw_or1 ha
theorem vw_and (ha : VB X a ba) (hb : VW X (.BoolOp .And (b :: rest) pos) bb) : VW X (.BoolOp .And (a :: b :: rest) pos) (bAnd ba bb) := by
  refine PW.to (pw_and ha hb) fun σ H Q ⟨F, env, k, ok, e, q⟩ => ?_
  obtain ⟨c, e1, ee⟩ := bind2 e
  refine ⟨F, env, c, ok, e1, fun H1 s1 z1 => ?_⟩
  cases c with
  | true => exact ⟨F, env, k, ok.mono s1, ee, fun H2 s2 z2 z3 => q H2 (s1.trans s2) z3⟩
  | false => cases ee; exact fun z => q H1 s1 z
theorem vw_or (ha : VB X a ba) (hb : VW X (.BoolOp .Or (b :: rest) pos) bb) : VW X (.BoolOp .Or (a :: b :: rest) pos) (bOr ba bb) := by
  refine PW.to (pw_or ha hb) fun σ H Q ⟨F, env, k, ok, e, q⟩ => ?_
  obtain ⟨c, e1, ee⟩ := bind2 e
  refine ⟨F, env, c, ok, e1, fun H1 s1 z1 => ?_⟩
  cases c with
  | true => cases ee; exact fun z => q H1 s1 z
  | false => exact ⟨F, env, k, ok.mono s1, ee, fun H2 s2 z2 z3 => q H2 (s1.trans s2) z3⟩
theorem vb_w (h : VW X a ba) : VB X a ba := PW.pt h
theorem vb_not (ha : VB X a ba) : VB X (.UnaryOp .Not a pos) (bNot ba) := by
  refine PT.to (pt_not ha) fun σ H Q ⟨F, env, k, ok, e, q⟩ => ?_
  unfold bNot at e
  cases e1 : ba env with
  | none => rw [e1] at e; cases e
  | some c => rw [e1] at e; cases e; exact ⟨F, env, c, ok, e1, fun H1 s1 z1 _ => q H1 s1 z1⟩
/-! as values -/
def eAnd (ga gb : GE) : GE := fun env => (ga env).bind fun r => (truD r).bind fun k => if k = true then gb env else some r
def eOr (ga gb : GE) : GE := fun env => (ga env).bind fun r => (truD r).bind fun k => if k = true then some r else gb env
def eNot (ga : GE) : GE := fun env => (ga env).bind fun r => (truD r).map fun k => (.bool (!k), .fz)
theorem ve_one {op : BoolOp} (ha : VE X a ga) : VE X (.BoolOp op [a] pos) ga := pe_one ha
theorem ve_and (ha : VE X a ga) (hb : VE X (.BoolOp .And (b :: rest) pos) gb) : VE X (.BoolOp .And (a :: b :: rest) pos) (eAnd ga gb) := by
  refine PE.to (pe_andT ha hb) fun σ H Q ⟨F, env, r, ok, e, q⟩ => ?_
  obtain ⟨c, e1, e2⟩ := bind2 e
  obtain ⟨k, e3, ee⟩ := bind2 e2
  refine ⟨F, env, c, ok, e1, fun v H1 s1 z1 r1 => ⟨k, tru_res r1 e3, ?_⟩⟩
  cases k with
  | true => exact ⟨F, env, r, ok.mono s1, ee, fun v H2 s2 z2 r2 z3 => q v H2 (s1.trans s2) z3 (r2.back s1)⟩
  | false => cases ee; exact fun z => q v H1 s1 z r1
theorem ve_or (ha : VE X a ga) (hb : VE X (.BoolOp .Or (b :: rest) pos) gb) : VE X (.BoolOp .Or (a :: b :: rest) pos) (eOr ga gb) := by
  refine PE.to (pe_orT ha hb) fun σ H Q ⟨F, env, r, ok, e, q⟩ => ?_
  obtain ⟨c, e1, e2⟩ := bind2 e
  obtain ⟨k, e3, ee⟩ := bind2 e2
  refine ⟨F, env, c, ok, e1, fun v H1 s1 z1 r1 => ⟨k, tru_res r1 e3, ?_⟩⟩
  cases k with
  | true => cases ee; exact fun z => q v H1 s1 z r1
  | false => exact ⟨F, env, r, ok.mono s1, ee, fun v H2 s2 z2 r2 z3 => q v H2 (s1.trans s2) z3 (r2.back s1)⟩
theorem ve_not (ha : VE X a ga) : VE X (.UnaryOp .Not a pos) (eNot ga) := by
  refine PE.to (pe_notT ha) fun σ H Q ⟨F, env, r, ok, e, q⟩ => ?_
  obtain ⟨c, e1, e2⟩ := bind2 e
  refine ⟨F, env, c, ok, e1, fun v H1 s1 z1 r1 => ?_⟩
  cases e3 : truD c with
  | none => rw [e3] at e2; cases e2
  | some k => rw [e3] at e2; cases e2; exact ⟨k, tru_res r1 e3, fun z => q _ H1 s1 z Res.ofBool⟩
def negG : RV → Option RV
  | (.int i, _) => some (.int (-i), .fz)
  | _ => none
def eNeg (ga : GE) : GE := fun env => (ga env).bind negG
theorem ve_neg (ha : VE X a ga) : VE X (.UnaryOp .USub a pos) (eNeg ga) := by
  refine PE.to (pe_un un_neg ha) fun σ H Q ⟨F, env, r, ok, e, q⟩ => ?_
  obtain ⟨c, e1, e2⟩ := bind2 e
  obtain ⟨d, f⟩ := c
  cases d <;> try (cases (show (none : Option RV) = some r from e2))
  cases e2
  exact ⟨F, env, _, ok, e1, fun v H1 s1 z1 r1 => ⟨_, r1.int, fun z => q _ H1 s1 z Res.ofInt⟩⟩
/-- a if c else b -/
def eIf (bc : GB) (ga gb : GE) : GE := fun env => (bc env).bind fun k => if k = true then ga env else gb env
theorem ve_if (hc : VB X c bc) (ha : VE X a ga) (hb : VE X b gb) : VE X (.IfExp c a b pos) (eIf bc ga gb) := by
  refine PE.to (pe_ifExp hc ha hb) fun σ H Q ⟨F, env, r, ok, e, q⟩ => ?_
  obtain ⟨k, e1, ee⟩ := bind2 e
  refine ⟨F, env, k, ok, e1, fun H1 s1 z1 => ?_⟩
  cases k with
  | true => exact ⟨F, env, r, ok.mono s1, ee, fun v H2 s2 z2 r2 z3 => q v H2 (s1.trans s2) z3 (r2.back s1)⟩
  | false => exact ⟨F, env, r, ok.mono s1, ee, fun v H2 s2 z2 r2 z3 => q v H2 (s1.trans s2) z3 (r2.back s1)⟩

/-! ### several expressions -/
abbrev GA := En → Option (List RV)
inductive ResL (K : PySem.W.Frag) (F : Addr → Prop) : Hp → Hp → List V → List RV → Prop
  | nil {H H' : Hp} : Same H H' → ResL K F H H' [] []
  | cons {H H1 H' : Hp} {v : V} {vs : List V} {r : RV} {rs : List RV} : Same H H1 → Res K F H H1 v r → ResL K F H1 H' vs rs → ResL K F H H' (v :: vs) (r :: rs)
theorem ResL.same {K F} : ∀ {H H' : Hp} {vs : List V} {rs : List RV}, ResL K F H H' vs rs → Same H H'
  | _, _, _, _, .nil s => s
  | _, _, _, _, .cons s _ t => s.trans (ResL.same t)
theorem ResL.length {K F} : ∀ {H H' : Hp} {vs : List V} {rs : List RV}, ResL K F H H' vs rs → vs.length = rs.length
  | _, _, _, _, .nil s => rfl
  | _, _, _, _, .cons s _ t => by simp [ResL.length t]
/-- each at the end -/
theorem ResL.get {K F} : ∀ {H H' : Hp} {vs : List V} {rs : List RV} {i : Nat} {r : RV}, ResL K F H H' vs rs → rs[i]? = some r → ∃ v, vs[i]? = some v ∧ Res K F H H' v r
  | _, _, _, _, _, _, .nil s, e => by simp at e
  | _, _, _, _, 0, _, .cons s r t, e => by
    simp at e; subst e
    exact ⟨_, rfl, r.mono t.same⟩
  | _, _, _, _, i + 1, _, .cons s r t, e => by
    obtain ⟨v, e1, q⟩ := ResL.get (i := i) t (by simpa using e)
    exact ⟨v, by simpa using e1, q.back s⟩
/-- neither borrowed nor the script -/
def plainFl : Fl → Bool
  | .fz => true
  | .ow => true
  | _ => false
theorem plain_ne {f : Fl} (h : plainFl f = true) : f ≠ .bw ∧ f ≠ .sc := by cases f <;> first | (cases h; done) | exact ⟨(fun z => nomatch z), (fun z => nomatch z)⟩
def plainAll (rs : List RV) : Bool := rs.all fun r => plainFl r.2
theorem ResL.rpa {K F} : ∀ {H H' : Hp} {vs : List V} {rs : List RV}, ResL K F H H' vs rs → plainAll rs = true → ∃ L, RpA K H' vs (rs.map (·.1)) L ∧ ∀ b ∈ L, F b ∨ H b = none
  | _, _, _, _, .nil s, _ => ⟨[], .nil, by simp⟩
  | _, _, _, _, .cons (r := r) s q t, p => by
    unfold plainAll at p
    rw [List.all_cons, Bool.and_eq_true] at p
    obtain ⟨L, ra, hl⟩ := ResL.rpa t p.2
    obtain ⟨d, f⟩ := r
    obtain ⟨n1, n2⟩ := plain_ne p.1
    obtain ⟨M, rm, hm⟩ := (q.frz n1 n2).mono t.same
    refine ⟨M ++ L, .cons rm ra, fun b hb => ?_⟩
    rcases List.mem_append.mp hb with z | z
    · exact hm b z
    · exact (hl b z).imp id s.free
def TA' (K : PySem.W.Frag) (g : GA) : TA := fun σ H Q => ∃ F env rs, Ok K F σ H env ∧ g env = some rs ∧ ∀ vs H', ResL K F H H' vs rs → Q vs H'
def VA (X : Cx) (es : List Expr) (g : GA) : Prop := PA X es (TA' X.K g)
theorem PA.to {es : List Expr} {t t' : TA} (h : PA X es t) (i : ∀ σ H Q, t' σ H Q → t σ H Q) : PA X es t' := ⟨fun pos pins s σ H Q I w => h.run pos pins s σ H Q I (i σ H Q w)⟩
def aNil : GA := fun _ => some []
def aCons (g : GE) (t : GA) : GA := fun env => (g env).bind fun r => (t env).bind fun rs => some (r :: rs)
theorem va_nil : VA X [] aNil := PA.to pa_nil fun σ H Q ⟨F, env, rs, ok, e, q⟩ => by cases e; exact q [] H (.nil (Same.refl H))
theorem va_cons {es : List Expr} {t : GA} (ha : VE X a ga) (hr : VA X es t) (hs : starEach (a :: es) X.env = (false, eval a X.env) :: starEach es X.env := by rfl) : VA X (a :: es) (aCons ga t) := by
  refine PA.to (pa_cons ha hr hs) fun σ H Q ⟨F, env, rs, ok, e, q⟩ => ?_
  obtain ⟨r, e1, e2⟩ := bind2 e
  obtain ⟨rs', e3, e4⟩ := bind2 e2
  cases e4
  exact ⟨F, env, r, ok, e1, fun v H1 s1 z1 r1 => ⟨F, env, rs', ok.mono s1, e3, fun vs H2 q2 => q _ H2 (.cons s1 r1 q2)⟩⟩
/-! displays -/
def tupG (rs : List RV) : Option RV := if plainAll rs = true ∧ rs.length ≤ 16777216 then some (.tuple (rs.map (·.1)), .fz) else none
def lstG (rs : List RV) : Option RV := if plainAll rs = true ∧ rs.length ≤ 16777216 then some (.list (rs.map (·.1)), .ow) else none
def eA (g : List RV → Option RV) (t : GA) : GE := fun env => (t env).bind g
theorem ve_tup {es : List Expr} {t : GA} {x1} (h : VA X es t) : VE X (.Tuple es x1 pos) (eA tupG t) := by
  refine PE.to (pe_tup h) fun σ H Q ⟨F, env, r, ok, e, q⟩ => ?_
  obtain ⟨rs, e1, e2⟩ := bind2 e
  unfold tupG at e2
  split at e2
  · rename_i hc
    cases e2
    refine ⟨F, env, rs, ok, e1, fun vs H1 q1 => ⟨by rw [q1.length, sizeLine_eq]; exact hc.2, fun p n sz => ?_⟩⟩
    obtain ⟨L, ra, hl⟩ := q1.rpa hc.1
    exact q _ _ (q1.same.trans (same_new n)) sz (Res.newTup n ra hl)
  · cases e2
theorem ve_lst {es : List Expr} {t : GA} (h : VA X es t) : VE X (.List es pos) (eA lstG t) := by
  refine PE.to (pe_lst h) fun σ H Q ⟨F, env, r, ok, e, q⟩ => ?_
  obtain ⟨rs, e1, e2⟩ := bind2 e
  unfold lstG at e2
  split at e2
  · rename_i hc
    cases e2
    refine ⟨F, env, rs, ok, e1, fun vs H1 q1 => ⟨by rw [q1.length, sizeLine_eq]; exact hc.2, fun p n sz => ?_⟩⟩
    obtain ⟨L, ra, hl⟩ := q1.rpa hc.1
    exact q _ _ (q1.same.trans (same_new n)) sz (Res.newList n q1.same ra hl)
  · cases e2

/-! ### items and slices -/
def ixG : RV → RV → Option RV
  | (.list ds, _), (.int i, _) => (atI ds i).map fun d => (d, .fz)
  | (.tuple ds, _), (.int i, _) => (atI ds i).map fun d => (d, .fz)
  | (.str x, _), (.int i, _) => if x.length ≤ 16777216 then (atI x.cps.toList i).map fun c => (.str ⟨#[c]⟩, .fz) else none
  | _, _ => none
theorem RpA.atI {K : PySem.W.Frag} {H : Hp} {vs : List V} {ds : List D} {L : List Addr} {i : Int} {d : D} (h : RpA K H vs ds L) (e : L2.atI ds i = some d) : ∃ v M, L2.atI vs i = some v ∧ Rp K H v d M ∧ ∀ b ∈ M, b ∈ L := by
  unfold L2.atI at e ⊢
  rw [h.length]
  obtain ⟨j, e1, e2⟩ := bind2 e
  obtain ⟨v, M, e3, r, hm⟩ := h.get e2
  exact ⟨v, M, by rw [e1]; exact e3, r, hm⟩
theorem r2_ix {K : PySem.W.Frag} : R2F K (rIx K) ixG := by
  intro F H0 H x y a b c Q ra rb sz sm e q
  obtain ⟨d1, f1⟩ := a
  obtain ⟨d2, f2⟩ := b
  cases d1 <;> try (cases d2 <;> (cases (show (none : Option RV) = some c from e)))
  · cases d2 <;> try (cases (show (none : Option RV) = some c from e))
    rename_i z i
    have e' : (if z.length ≤ 16777216 then (atI z.cps.toList i).map fun c => ((PyData.str ⟨#[c]⟩, Fl.fz) : RV) else none) = some c := e
    split at e'
    · rename_i hc
      cases e1 : atI z.cps.toList i with
      | none => rw [e1] at e'; cases e'
      | some ch =>
        rw [e1] at e'
        cases e'
        exact .inr (.inr ⟨z, i, ch, ra.str, rb.int, by rw [sizeLine_eq]; exact hc, e1, q _ H (Same.refl H) Res.ofStr⟩)
    · cases e'
  · cases d2 <;> try (cases (show (none : Option RV) = some c from e))
    rename_i ds i
    have e' : (atI ds i).map (fun d => ((d, Fl.fz) : RV)) = some c := e
    cases e1 : atI ds i with
    | none => rw [e1] at e'; cases e'
    | some d =>
      rw [e1] at e'
      cases e'
      obtain ⟨p, vs, L, rfl, s, r, hl⟩ := ra.list
      obtain ⟨v, M, e3, rv, hm⟩ := r.atI e1
      exact .inl ⟨p, vs, i, v, rfl, rb.int, s, e3, q v H (Same.refl H) ⟨M, rv, fun b hb => hl b (hm b hb)⟩⟩
  · cases d2 <;> try (cases (show (none : Option RV) = some c from e))
    rename_i ds i
    have e' : (atI ds i).map (fun d => ((d, Fl.fz) : RV)) = some c := e
    cases e1 : atI ds i with
    | none => rw [e1] at e'; cases e'
    | some d =>
      rw [e1] at e'
      cases e'
      obtain ⟨p, vs, L, rfl, s, r, hl⟩ := ra.tuple
      obtain ⟨v, M, e3, rv, hm⟩ := r.atI e1
      exact .inr (.inl ⟨p, vs, i, v, rfl, rb.int, s, e3, q v H (Same.refl H) ⟨M, rv, fun b hb => hl b (hm b hb)⟩⟩)
theorem ve_ix (ha : VE X a ga) (hb : VE X b gb) (hs : PlainIx b := by intro _ _; rfl) : VE X (.Subscript a b pos) (e2 ixG ga gb) :=
  PE.to (pe_ix ix_seq ha hb hs) fun σ H Q ⟨F, env, c, ok, e, q⟩ => tOp_reads r2_ix ok e fun v H' s r sz => q v H' s sz r
/-! slices -/
def cutL {α : Type} (xs : List α) (lo hi : Option Int) : List α := (xs.drop (HT.sIx xs.length 0 lo)).take (HT.sIx xs.length xs.length hi - HT.sIx xs.length 0 lo)
theorem RpA.cut {K : PySem.W.Frag} {H : Hp} {vs : List V} {ds : List D} {L : List Addr} (h : RpA K H vs ds L) (lo hi : Option Int) : ∃ M, RpA K H (cutV vs lo hi) (cutL ds lo hi) M ∧ ∀ b ∈ M, b ∈ L := by
  unfold cutV cutL
  rw [h.length]
  obtain ⟨M, r, hm⟩ := h.drop (HT.sIx ds.length 0 lo)
  obtain ⟨N, r2, hn⟩ := r.take (HT.sIx ds.length ds.length hi - HT.sIx ds.length 0 lo)
  exact ⟨N, r2, fun b hb => hm b (hn b hb)⟩
abbrev GO := En → Option (Option Int)
def oNone : GO := fun _ => some none
def asI : RV → Option Int
  | (.int i, _) => some i
  | _ => none
theorem asI_of {r : RV} {k : Int} (h : asI r = some k) : ∃ f, r = (.int k, f) := by
  obtain ⟨d, f⟩ := r
  cases d <;> try (cases (show (none : Option Int) = some k from h))
  cases h
  exact ⟨f, rfl⟩
def oSome (g : GE) : GO := fun env => (g env).bind fun r => (asI r).map some
def TO' (K : PySem.W.Frag) (g : GO) : TO := fun σ H Q => ∃ F env o, Ok K F σ H env ∧ g env = some o ∧ ∀ H', Same H H' → Q o H'
def VO (X : Cx) (e : Option Expr) (g : GO) : Prop := PO X e (TO' X.K g)
theorem vo_none : VO X none oNone := by
  refine ⟨fun pins s σ H Q I h => ?_⟩
  obtain ⟨F, env, o, ok, e, q⟩ := h
  cases e
  exact po_none.run pins s σ H Q I (q H (Same.refl H))
theorem vo_some (h : VE X a ga) : VO X (some a) (oSome ga) := by
  refine ⟨fun pins s σ H Q I w => ?_⟩
  obtain ⟨F, env, o, ok, e, q⟩ := w
  obtain ⟨r, e1, e2⟩ := bind2 e
  cases e3 : asI r with
  | none => rw [e3] at e2; cases e2
  | some i =>
    rw [e3] at e2
    cases e2
    obtain ⟨f, rfl⟩ := asI_of e3
    exact (po_some h).run pins s σ H Q I ⟨F, env, _, ok, e1, fun v H' s z r => ⟨i, r.int, q H' s⟩⟩
def slG : RV → Option Int → Option Int → Option RV
  | (.list ds, _), lo, hi => some (.list (cutL ds lo hi), .ow)
  | (.tuple ds, _), lo, hi => some (.tuple (cutL ds lo hi), .fz)
  | _, _, _ => none
def eSl (ga : GE) (gl gh : GO) : GE := fun env => (ga env).bind fun x => (gl env).bind fun lo => (gh env).bind fun hi => slG x lo hi
theorem ve_slice {lo hi : Option Expr} {gl gh : GO} {p2 : Pos} (ha : VE X a ga) (hl : VO X lo gl) (hh : VO X hi gh) : VE X (.Subscript a (.Slice lo hi none p2) pos) (eSl ga gl gh) := by
  refine PE.to (pe_slice (sl_list.or sl_tupA) ha hl hh) fun σ H Q ⟨F, env, c, ok, e, q⟩ => ?_
  obtain ⟨x, e1, ea⟩ := bind2 e
  obtain ⟨l, e2, eb⟩ := bind2 ea
  obtain ⟨h, e3, ec⟩ := bind2 eb
  clear e ea eb
  refine ⟨F, env, x, ok, e1, fun v H1 s1 z1 r1 => ⟨F, env, l, ok.mono s1, e2, fun H2 s2 => ⟨F, env, h, (ok.mono s1).mono s2, e3, fun H3 s3 => ?_⟩⟩⟩
  have s := (s1.trans s2).trans s3
  have r3 := r1.mono (s2.trans s3)
  obtain ⟨d, f⟩ := x
  cases d <;> try (cases (show (none : Option RV) = some c from ec))
  · rename_i ds
    cases ec
    obtain ⟨p, vs, L, rfl, sq, r, hl⟩ := r3.list
    obtain ⟨M, rm, hm⟩ := r.cut l h
    exact .inl ⟨p, vs, rfl, sq, fun p n sz => q _ _ (s.trans (same_new n)) sz (Res.newList n s rm fun b hb => hl b (hm b hb))⟩
  · rename_i ds
    cases ec
    obtain ⟨p, vs, L, rfl, sq, r, hl⟩ := r3.tuple
    obtain ⟨M, rm, hm⟩ := r.cut l h
    have hlen := r.length
    refine .inr ⟨p, vs, rfl, sq, fun w sz => q _ H3 s sz ?_, fun _ p n sz => q _ _ (s.trans (same_new n)) sz (Res.newTup n rm fun b hb => hl b (hm b hb))⟩
    have ec : cutL ds l h = ds := by
      unfold cutL
      rw [← hlen, w.1, w.2, hlen]
      simp
    rw [ec]
    exact ⟨L, .tup sq r, hl⟩
end
end Pl

set_option Elab.async false
set_option linter.all false
set_option maxRecDepth 100000
set_option maxHeartbeats 4000000
/-! Pl4: enumerate and zip over lists and tuples in any mix -/
namespace Pl
open PySem PySem.Spec PyProof.Rows L2

/-- a list (false), a tuple (true) -/
def SqB (K : PySem.W.Frag) (H : Hp) (t : Bool) (a : Addr) (xs : List V) : Prop := match t with
  | false => SqL K H a xs
  | true => SqT K H a xs
def IterB (t : Bool) (h : Heap) (it a : Addr) (i : Nat) : Prop := match t with
  | false => h.IsListIter it a i
  | true => h.IsTupleIter it a i
def IsB (t : Bool) (h : Heap) (a : Addr) (items : Array Value) : Prop := match t with
  | false => h.IsList a items
  | true => h.IsTuple a items
def clsB : Bool → String
  | false => "list"
  | true => "tuple"
def itClsB : Bool → String
  | false => "list_iterator"
  | true => "tuple_iterator"
theorem IsB.obj {t : Bool} {h : Heap} {a : Addr} {items : Array Value} (x : IsB t h a items) : ∃ o, h.get? a = some o ∧ o.cls = .type (clsB t) := by
  cases t with
  | false => obtain ⟨o, h1, h2, _⟩ := x; exact ⟨o, h1, h2⟩
  | true => obtain ⟨o, h1, h2, _⟩ := x; exact ⟨o, h1, h2⟩
theorem IterB.obj {t : Bool} {h : Heap} {it a : Addr} {i : Nat} (x : IterB t h it a i) : ∃ o, h.get? it = some o ∧ o.cls = .type (itClsB t) ∧ o.data = .fields #[.ref a, .int i 0] := by
  cases t with
  | false => obtain ⟨o, h1, h2, h3⟩ := x; exact ⟨o, h1, h2, h3⟩
  | true => obtain ⟨o, h1, h2, h3⟩ := x; exact ⟨o, h1, h2, h3⟩
theorem IterB.of {t : Bool} {h : Heap} {it a : Addr} {i : Nat} {o : Obj} (h1 : h.get? it = some o) (h2 : o.cls = .type (itClsB t)) (h3 : o.data = .fields #[.ref a, .int i 0]) : IterB t h it a i := by
  cases t with
  | false => exact ⟨o, h1, h2, h3⟩
  | true => exact ⟨o, h1, h2, h3⟩
theorem IterB.at {t : Bool} {h h' : Heap} {it a : Addr} {i : Nat} (x : IterB t h it a i) (k : ∀ o, h.get? it = some o → h'.get? it = some o) : IterB t h' it a i := by
  obtain ⟨o, h1, h2, h3⟩ := x.obj
  exact IterB.of (k o h1) h2 h3
def itObjB (t : Bool) (a : Addr) : Obj := { cls := .type (itClsB t), data := .fields #[.ref a, .int 0 0] }
theorem beginsB (t : Bool) (a : Addr) (items : Array Value) : Begins (.ref a) (itObjB t a) fun h => IsB t h a items := by
  cases t with
  | false => exact begins_list a items
  | true => exact begins_tuple a items
theorem drawsB {prog : Program} {w : World} {A : Around} (t : Bool) (hh : A.handled = none) (it a : Addr) (hne : a ≠ it) (items : Array Value) :
    Draws prog w A it [it, a] items.size (fun i v => items[i]? = some v) (fun i h => IterB t h it a i ∧ IsB t h a items) := by
  cases t with
  | false => exact Draws.list hh it a hne items
  | true => exact Draws.tuple hh it a hne items
section
variable {X : Cx} {pins : List (Addr × Obj)} {σ : L2.St} {H : Hp} {s : Shared} {a : Addr} {xs ys : List V} {t : Bool}
theorem sqB_is (I : Inv X pins σ H s) (h : SqB X.K H t a xs) : ∃ its : List Value, Vals xs its ∧ IsB t s.heap a its.toArray := by
  cases t with
  | false => obtain ⟨its, r, p, _⟩ := I.list h; exact ⟨its, r, p.isList⟩
  | true => obtain ⟨its, r, p, _⟩ := I.tuple h; exact ⟨its, r, p⟩
theorem sqB_inj (I : Inv X pins σ H s) (h : SqB X.K H t a xs) (h' : SqB X.K H t a ys) : xs = ys := by
  cases t with
  | false => exact I.list_inj h h'
  | true => exact I.tuple_inj h h'
theorem sqB_same {K : PySem.W.Frag} {H' : Hp} (e : Same H H') (h : SqB K H t a xs) : SqB K H' t a xs := by
  cases t with
  | false => exact e.seq h
  | true => exact Same.sqt e _ _ h
end

/-! enumerate(v) of one argument -/
set_option maxHeartbeats 1000000 in
theorem meets_enum1 {v : Value} {o : Obj} {H : Heap → Prop} (B : Begins v o H) :
    Meets (Builtin.«enumerate.__new__» ⟨[.type "enumerate", v], []⟩) (fun _ R s => H s.heap ∧
      R (.ok (.ret (.ref (s.heap.push o).objs.size))) { s with heap := (s.heap.push o).push { cls := .type "enumerate", data := .fields #[.none, .bool false, .ref s.heap.objs.size, rawInt 0, .none, .none] } }) :=
  .of_wp fun prog w A R s h => by
    obtain ⟨hp, g, d, tk, os⟩ := s; obtain ⟨h1, h⟩ := h
    have hsub := sub_enumerate
    have q1 : ∀ {A' : Around} {E : Value → Shared → Prop} {Q : Value → Shared → Prop}, Q (.ref hp.objs.size) ⟨hp.push o, g, d, tk, os⟩ → wpAny (model prog w) A' (pyIter v) Q E ⟨hp, g, d, tk, os⟩ :=
      fun q => B.iter prog w _ _ ⟨hp, g, d, tk, os⟩ _ h1 q
    wp_walk using q1
    refine wpAny_stack_any fun st => wpAny_pure ?_
    split
    · rename_i c _ _ _ _ _
      cases (c == Value.type "enumerate")
      · wp_walk using q1
        exact ⟨_, rfl, h⟩
      · wp_walk using q1
        exact ⟨_, rfl, h⟩
    · wp_walk using q1
      exact ⟨_, rfl, h⟩
theorem enum1_begins {prog : Program} {w : World} {A : Around} {E : Value → Shared → Prop} {s : Shared} {v : Value} {o : Obj} {H : Heap → Prop} {Q : Value → Shared → Prop} (B : Begins v o H) (h1 : H s.heap)
    (h : ∀ h', IsEnum h' (s.heap.objs.size + 1) s.heap.objs.size 0 .none → h'.get? s.heap.objs.size = some o →
      (∀ b o, s.heap.get? b = some o → h'.get? b = some o) → Q (.ref (s.heap.objs.size + 1)) { s with heap := h' }) :
    wpAny (model prog w) A (call (.type "enumerate") [v]) Q E s := by
  refine callType_new F.called_enumerate (by decide) (F.typeCall_enumerate_1 _) (F.newCall_enumerate_1 _) (fun obj => F.args_object_init_2 obj _) F.entry_enumerate_new
    (meets_enum1 B) ⟨h1, ?_⟩
  have hz : (s.heap.push o).objs.size = s.heap.objs.size + 1 := Heap.size_push ..
  show _ ∧ _
  rw [hz]
  have he : IsEnum ((s.heap.push o).push { cls := .type "enumerate", data := .fields #[.none, .bool false, .ref s.heap.objs.size, rawInt 0, .none, .none] }) (s.heap.objs.size + 1) s.heap.objs.size 0 .none := by
    have := Heap.get?_push_size (s.heap.push o) (o := { cls := .type "enumerate", data := .fields #[.none, .bool false, .ref s.heap.objs.size, rawInt 0, .none, .none] }) rfl
    rw [hz] at this; exact this
  refine ⟨⟨_, he, rfl⟩, h _ he (Heap.get?_push_of_some _ (Heap.get?_push_size _ B.free)) fun b o x => Heap.get?_push_of_some _ (Heap.get?_push_of_some _ x)⟩

theorem cls_apart {t : Bool} {h : Heap} {a c : Addr} {items : Array Value} {o : Obj} {n : String} (x : IsB t h a items) (ho : h.get? c = some o) (hc : o.cls = .type n) (hn : n ≠ "list" ∧ n ≠ "tuple") : c ≠ a := by
  rintro rfl
  obtain ⟨oa, ha, hac⟩ := x.obj
  rw [ho] at ha; cases ha
  rw [hc] at hac
  cases t
  · exact hn.1 (Value.type.inj hac)
  · exact hn.2 (Value.type.inj hac)
/-- what enumerate(list or tuple at a) yields -/
def IteB (t : Bool) (K : PySem.W.Frag) (a : Addr) : It :=
  ⟨fun i H => ∃ (xs : List V) (x : V), SqB K H t a xs ∧ xs[i]? = some x, fun i H v H' => ∃ T x, v = .ref T ∧ H T = none ∧ H' = upd H T (.tup [.int (i : Nat), x]) ∧ ∀ xs, SqB K H t a xs → xs[i]? = some x, fun i H => ∃ xs : List V, SqB K H t a xs ∧ xs.length = i⟩
theorem turn_enumB {P : Program} {w : World} {K : PySem.W.Frag} {elts : List Expr} {kk : Nat} {tpos : Pos} (t : Bool) (a e it : Addr) :
    Turn P w K (.Tuple elts kk tpos) (IteB t K a) [e, it] e (fun i h => (∃ old, IsEnum h e it ((i : Nat) : Int) old) ∧ IterB t h it a i ∧ e ≠ it) where
  mem := by simp
  obj := fun i h st b hb => by
    obtain ⟨⟨old, he⟩, hi, _⟩ := st
    obtain ⟨o, ho, hc, hd⟩ := hi.obj
    have e' : b = e ∨ b = it := by simpa using hb
    rcases e' with z | z
    · rw [z]; exact ⟨_, he, fun v q => nomatch q⟩
    · rw [z]; exact ⟨o, ho, fun v q => by rw [hd] at q; cases q⟩
  keep := fun i h h' st k => let ⟨⟨old, he⟩, hi, hne⟩ := st; ⟨⟨old, k e (by simp) _ he⟩, hi.at fun o q => k it (by simp) o q, hne⟩
  item := by
    intro X hP hw hK hc i pins s σ H E I hf st hg
    subst hP hw hK
    obtain ⟨⟨old, he⟩, hit, hne⟩ := st
    obtain ⟨xs, x, hq, hx⟩ := hg
    obtain ⟨its, rv, p⟩ := sqB_is I hq
    obtain ⟨u, hu, ru⟩ := rv.get hx
    obtain ⟨oa, ha, hac⟩ := p.obj
    obtain ⟨oi, hoi, hci, hdi⟩ := hit.obj
    have hel : e < s.heap.objs.size := Heap.lt_size he
    have hil : it < s.heap.objs.size := Heap.lt_size hoi
    have hae : a ≠ it := by
      rintro rfl
      rw [hoi] at ha; cases ha
      rw [hci] at hac
      cases t <;> exact absurd hac (by decide)
    have hee : e ∉ [it, a] := by
      intro hm
      rcases (by simpa using hm : e = it ∨ e = a) with z | z
      · exact hne z
      · exact cls_apart p he rfl (by decide) z
    have hlt : i < its.toArray.size := by
      have := rv.length
      have hx' := (List.getElem?_eq_some_iff.mp hu).1
      simpa using hx'
    have hh1 : X.A.in1.handled = none := I.ok.hd hc
    refine wpAny_pyNext_enum_itemC (drawsB (prog := X.prog) (w := X.w) (A := X.A.in1) t hh1 it a hae its.toArray) he ⟨hit, p⟩ hlt hne hee fun x1 h' tk hP ho hst hT hsz hk => ?_
    have ex : x1 = u := by
      have : its.toArray[i]? = some u := by simpa using hu
      rw [this] at hP
      exact (Option.some.inj hP).symm
    subst ex
    refine ⟨_, rfl, wpAny_letOwnedTupleGo_enum (s := { s with heap := h', toks := tk + 1 }) ho fun h'' he' sb => ?_⟩
    have hT2 : h''.get? s.heap.objs.size = some { cls := .type "tuple", data := .seq #[.int i tk, x1] } := (sb.2 _ (Nat.ne_of_gt hel)).trans hT
    have new : ObjOk X.prog X.w (upd H s.heap.objs.size (.tup [.int (i : Nat), x])) h'' s.heap.objs.size (.tup [.int (i : Nat), x]) :=
      ⟨by show 2 ≤ sizeLine; decide, [.int i tk, x1], .cons ⟨_, rfl⟩ (.cons ru .nil), ⟨_, hT2, rfl, _, rfl⟩⟩
    have I1 : Inv X pins σ (upd H s.heap.objs.size (.tup [.int (i : Nat), x])) { s with heap := h'', toks := tk + 1 } :=
      I.turnedNew (ch := [e, it]) (fun b ob hb q => (sb.2 b (fun z => hb (by simp [z]))).trans (hk b ob (fun z => hb (by simp [z])) (fun z => hb (by simp [z])) q)) hf (Nat.le_refl _) new
    refine ⟨.ref s.heap.objs.size, _, I1, rfl, ⟨_, x, rfl, I.hok.fresh (Nat.le_refl _), rfl, fun ys hy => by rw [sqB_inj I hy hq]; exact hx⟩, ⟨⟨x1, ?_⟩, hst.1.at fun o q => (sb.2 it (Ne.symm hne)).trans q, hne⟩, fun b hb => ?_⟩
    · have e1 : ((i + 1 : Nat) : Int) = (i : Int) + 1 := by omega
      rw [e1]; exact he'
    · have hb' : b < s.heap.objs.size := by
        have e' : b = e ∨ b = it := by simpa using hb
        rcases e' with z | z
        · rw [z]; exact hel
        · rw [z]; exact hil
      rw [upd_ne (Nat.ne_of_lt hb')]
      exact (hf b hb).1
  done := by
    intro X hP hw hK hc i pins s σ H E I hf st hg
    subst hP hw hK
    obtain ⟨⟨old, he⟩, hit, hne⟩ := st
    obtain ⟨xs, hq, hx⟩ := hg
    obtain ⟨its, rv, p⟩ := sqB_is I hq
    obtain ⟨oa, ha, hac⟩ := p.obj
    obtain ⟨oi, hoi, hci, hdi⟩ := hit.obj
    have hae : a ≠ it := by
      rintro rfl
      rw [hoi] at ha; cases ha
      rw [hci] at hac
      cases t <;> exact absurd hac (by decide)
    obtain ⟨f0, f1, f2, f3, f4, f5⟩ := hf it (by simp)
    have hl := rv.length
    have hh1 : X.A.in1.handled = none := I.ok.hd hc
    have hn : its.toArray.size = i := by simp; omega
    refine wpAny_pyNext_enum_endD (drawsB (prog := X.prog) (w := X.w) (A := X.A.in1) t hh1 it a hae its.toArray) he (by rw [hn]; exact ⟨hit, p⟩) fun h' eb => ⟨rfl, I.turned (t' := s.toks) (fun b o hb q => eb b o hb q) f0 f1 f3 f4 f5⟩
  self := fun A i s Q E st h => let ⟨⟨_, he⟩, _⟩ := st; wpAny_pyIter_enum he h
def iEnumB (K : PySem.W.Frag) (ta : TA) : TI := fun σ H R => ta σ H fun vs H1 => ∃ t a xs, vs = [.ref a] ∧ SqB K H1 t a xs ∧ R (IteB t K a) H1
theorem pi_enumB {X : Cx} {e : Expr} {ta : TA} {p pos tpos : Pos} {elts : List Expr} {kk : Nat} (hg : Gl X "enumerate") (hm : X.mg "enumerate" = none) (ha : PA X [e] ta) (hs : starEach [e] X.env = [(false, eval e X.env)] := by rfl) :
    PI X (.Tuple elts kk tpos) (.Call (.Name "enumerate" p) [e] [] pos) (iEnumB X.K ta) := by
  refine ⟨fun pins s σ H R I h => ?_⟩
  refine Call_ (ld_blt I hg hm boot_enumerate (PyProof.Rows.callWith_type1 (thn (ha.run pos pins s σ H _ I h) fun us s1 ⟨vs, H1, I1, r1, q1⟩ => ?_) hs rfl))
  obtain ⟨t, a, xs, ex, hq, q⟩ := q1
  subst ex
  cases r1 with
  | cons r rr =>
    cases rr
    cases r
    obtain ⟨its, rv, p'⟩ := sqB_is I1 hq
    refine enum1_begins (beginsB t a its.toArray) p' fun h' he hit hk => wpAny_pyIter_enum he ?_
    have I2 : Inv X pins σ H1 { s1 with heap := h' } := I1.kept (t' := s1.toks) hk
    refine ⟨s1.heap.objs.size + 1, [s1.heap.objs.size + 1, s1.heap.objs.size], _, _, H1, rfl, I2, turn_enumB t a (s1.heap.objs.size + 1) s1.heap.objs.size, ⟨⟨.none, he⟩, IterB.of hit rfl rfl, Nat.succ_ne_self _⟩, fun b hb => ?_, q⟩
    have e' : b = s1.heap.objs.size + 1 ∨ b = s1.heap.objs.size := by simpa using hb
    have hle : s1.heap.objs.size ≤ b := by
      rcases e' with z | z
      · rw [z]; exact Nat.le_add_right _ _
      · rw [z]; exact Nat.le_refl _
    exact I1.fpOk hle (I1.hok.fresh hle)

/-! zip of two -/
def ItzB (t u : Bool) (K : PySem.W.Frag) (a b : Addr) : It :=
  ⟨fun i H => ∃ (xs ys : List V) (x y : V), SqB K H t a xs ∧ SqB K H u b ys ∧ xs[i]? = some x ∧ ys[i]? = some y,
    fun i H v H' => ∃ T x y, v = .ref T ∧ H T = none ∧ H' = upd H T (.tup [x, y]) ∧ (∀ xs, SqB K H t a xs → xs[i]? = some x) ∧ ∀ ys, SqB K H u b ys → ys[i]? = some y,
    fun i H => ∃ xs ys : List V, SqB K H t a xs ∧ SqB K H u b ys ∧ i ≤ xs.length ∧ i ≤ ys.length ∧ (i = xs.length ∨ i = ys.length)⟩
structure ZApart (z TI TO i1 i2 : Addr) : Prop where
  TIz : TI ≠ z
  TOz : TO ≠ z
  TITO : TI ≠ TO
  TIi1 : TI ≠ i1
  TIi2 : TI ≠ i2
  zi1 : z ≠ i1
  zi2 : z ≠ i2
  Ti1 : TO ≠ i1
  Ti2 : TO ≠ i2
  i12 : i1 ≠ i2
theorem turn_zipB {P : Program} {w : World} {K : PySem.W.Frag} {elts : List Expr} {kk : Nat} {tpos : Pos} (t u : Bool) {a b z TI TO i1 i2 : Addr} (D : ZApart z TI TO i1 i2) :
    Turn P w K (.Tuple elts kk tpos) (ItzB t u K a b) [z, TI, TO, i1, i2] z (fun i h => IsZip h z TI TO .none ∧ IsTupOf2 h TI (.ref i1) (.ref i2) ∧ (∃ x y, IsTupOf2 h TO x y) ∧ IterB t h i1 a i ∧ IterB u h i2 b i ∧ TO ≠ a ∧ TO ≠ b) where
  mem := by simp
  obj := fun i h st c hc => by
    obtain ⟨hz, hTI, ⟨x, y, hTO⟩, h1, h2, _⟩ := st
    obtain ⟨o1, e1, _, d1⟩ := h1.obj
    obtain ⟨o2, e2, _, d2⟩ := h2.obj
    have e' : c = z ∨ c = TI ∨ c = TO ∨ c = i1 ∨ c = i2 := by simpa using hc
    rcases e' with q | q | q | q | q
    · rw [q]; exact ⟨_, hz, fun v q => nomatch q⟩
    · rw [q]; exact ⟨_, hTI, fun v q => nomatch q⟩
    · rw [q]; exact ⟨_, hTO, fun v q => nomatch q⟩
    · rw [q]; exact ⟨o1, e1, fun v q => by rw [d1] at q; cases q⟩
    · rw [q]; exact ⟨o2, e2, fun v q => by rw [d2] at q; cases q⟩
  keep := fun i h h' st k => by
    obtain ⟨hz, hTI, ⟨x, y, hTO⟩, h1, h2, h3⟩ := st
    exact ⟨k z (by simp) _ hz, k TI (by simp) _ hTI, ⟨x, y, k TO (by simp) _ hTO⟩, h1.at fun o q => k i1 (by simp) o q, h2.at fun o q => k i2 (by simp) o q, h3⟩
  item := by
    intro X hP hw hK hc i pins s σ H E I hf st hg
    subst hP hw hK
    obtain ⟨hz, hTI, ⟨x0, y0, hTO⟩, h1, h2, na, nb⟩ := st
    obtain ⟨xs, ys, x, y, hqx, hqy, hx, hy⟩ := hg
    obtain ⟨its, rv, p⟩ := sqB_is I hqx
    obtain ⟨its2, rv2, p2⟩ := sqB_is I hqy
    obtain ⟨v1, hu, ru⟩ := rv.get hx
    obtain ⟨v2, hu2, ru2⟩ := rv2.get hy
    have hzl : z < s.heap.objs.size := Heap.lt_size hz
    obtain ⟨o1, ho1, hc1, _⟩ := h1.obj
    obtain ⟨o2, ho2, hc2, _⟩ := h2.obj
    have it1 : ∀ t : Bool, itClsB t ≠ "list" ∧ itClsB t ≠ "tuple" := by decide
    have S : ZipSep2 z TI TO i1 i2 [i1, a] [i2, b] :=
      { TIz := D.TIz, TOz := D.TOz, TITO := D.TITO, TIi1 := D.TIi1, mem1 := by simp, TIi2 := D.TIi2, mem2 := by simp
        zf1 := by simp only [List.mem_cons, List.not_mem_nil, or_false, not_or]; exact ⟨D.zi1, cls_apart p hz rfl (by decide)⟩
        Tf1 := by simp only [List.mem_cons, List.not_mem_nil, or_false, not_or]; exact ⟨D.Ti1, na⟩
        zf2 := by simp only [List.mem_cons, List.not_mem_nil, or_false, not_or]; exact ⟨D.zi2, cls_apart p2 hz rfl (by decide)⟩
        Tf2 := by simp only [List.mem_cons, List.not_mem_nil, or_false, not_or]; exact ⟨D.Ti2, nb⟩
        sep1_2 := by simp only [List.mem_cons, List.not_mem_nil, or_false, not_or]; exact ⟨D.i12, cls_apart p2 ho1 hc1 (it1 t)⟩
        sep2_1 := by simp only [List.mem_cons, List.not_mem_nil, or_false, not_or]; exact ⟨Ne.symm D.i12, cls_apart p ho2 hc2 (it1 u)⟩ }
    have hh1 : X.A.in1.handled = none := I.ok.hd hc
    have hl1 : i < its.toArray.size := by simpa using (List.getElem?_eq_some_iff.mp hu).1
    have hl2 : i < its2.toArray.size := by simpa using (List.getElem?_eq_some_iff.mp hu2).1
    refine wpAny_pyNext_zipD2_item S (drawsB (prog := X.prog) (w := X.w) (A := X.A.in1) t hh1 i1 a (Ne.symm (cls_apart p ho1 hc1 (it1 t))) its.toArray) (drawsB (prog := X.prog) (w := X.w) (A := X.A.in1) u hh1 i2 b (Ne.symm (cls_apart p2 ho2 hc2 (it1 u))) its2.toArray)
      hz hTI hTO ⟨h1, p⟩ ⟨h2, p2⟩ hl1 hl2 fun w1 w2 h' tk P1 P2 z' TO' s1 s2 hT hsz hk => ?_
    have ex1 : w1 = v1 := by
      have : its.toArray[i]? = some v1 := by simpa using hu
      rw [this] at P1
      exact (Option.some.inj P1).symm
    have ex2 : w2 = v2 := by
      have : its2.toArray[i]? = some v2 := by simpa using hu2
      rw [this] at P2
      exact (Option.some.inj P2).symm
    subst ex1 ex2
    refine ⟨_, rfl, wpAny_letOwnedTupleGo_zip (s := { s with heap := h', toks := tk }) z' fun h'' z'' sb => ?_⟩
    have hT2 : h''.get? s.heap.objs.size = some { cls := .type "tuple", data := .seq #[w1, w2] } := (sb.2 _ (Nat.ne_of_gt hzl)).trans hT
    have new : ObjOk X.prog X.w (upd H s.heap.objs.size (.tup [x, y])) h'' s.heap.objs.size (.tup [x, y]) :=
      ⟨by show 2 ≤ sizeLine; decide, [w1, w2], .cons ru (.cons ru2 .nil), ⟨_, hT2, rfl, _, rfl⟩⟩
    have I1 : Inv X pins σ (upd H s.heap.objs.size (.tup [x, y])) { s with heap := h'', toks := tk } :=
      I.turnedNew (t' := tk) (ch := [z, TI, TO, i1, i2]) (fun c o hb q => (sb.2 c (fun q' => hb (by simp [q']))).trans (hk c o (fun q' => hb (by simp [q'])) (fun q' => hb (by simp [q'])) (fun q' => hb (by simp [q'])) (fun q' => hb (by simp [q'])) q)) hf (Nat.le_refl _) new
    refine ⟨.ref s.heap.objs.size, _, I1, rfl, ⟨_, x, y, rfl, I.hok.fresh (Nat.le_refl _), rfl, fun l hl => by rw [sqB_inj I hl hqx]; exact hx, fun l hl => by rw [sqB_inj I hl hqy]; exact hy⟩, ⟨z'', ?_, ⟨w1, w2, ?_⟩, ?_, ?_, na, nb⟩, fun c hcm => ?_⟩
    · exact (sb.2 _ D.TIz).trans (hk _ _ D.TIz D.TITO D.TIi1 D.TIi2 hTI)
    · exact (sb.2 _ D.TOz).trans TO'
    · exact s1.1.at fun o q => (sb.2 _ (Ne.symm D.zi1)).trans q
    · exact s2.1.at fun o q => (sb.2 _ (Ne.symm D.zi2)).trans q
    · have hlt : c < s.heap.objs.size := by
        have e' : c = z ∨ c = TI ∨ c = TO ∨ c = i1 ∨ c = i2 := by simpa using hcm
        rcases e' with q | q | q | q | q
        · rw [q]; exact hzl
        · rw [q]; exact Heap.lt_size hTI
        · rw [q]; exact Heap.lt_size hTO
        · rw [q]; exact Heap.lt_size ho1
        · rw [q]; exact Heap.lt_size ho2
      rw [upd_ne (Nat.ne_of_lt hlt)]
      exact (hf c hcm).1
  done := by
    intro X hP hw hK hc i pins s σ H E I hf st hg
    subst hP hw hK
    obtain ⟨hz, hTI, ⟨x0, y0, hTO⟩, h1, h2, na, nb⟩ := st
    obtain ⟨xs, ys, hqx, hqy, hle1, hle2, hend⟩ := hg
    obtain ⟨its, rv, p⟩ := sqB_is I hqx
    obtain ⟨its2, rv2, p2⟩ := sqB_is I hqy
    have l1 := rv.length
    have l2 := rv2.length
    obtain ⟨o1, ho1, hc1, _⟩ := h1.obj
    obtain ⟨o2, ho2, hc2, _⟩ := h2.obj
    have it1 : ∀ t : Bool, itClsB t ≠ "list" ∧ itClsB t ≠ "tuple" := by decide
    have S : ZipSep2 z TI TO i1 i2 [i1, a] [i2, b] :=
      { TIz := D.TIz, TOz := D.TOz, TITO := D.TITO, TIi1 := D.TIi1, mem1 := by simp, TIi2 := D.TIi2, mem2 := by simp
        zf1 := by simp only [List.mem_cons, List.not_mem_nil, or_false, not_or]; exact ⟨D.zi1, cls_apart p hz rfl (by decide)⟩
        Tf1 := by simp only [List.mem_cons, List.not_mem_nil, or_false, not_or]; exact ⟨D.Ti1, na⟩
        zf2 := by simp only [List.mem_cons, List.not_mem_nil, or_false, not_or]; exact ⟨D.zi2, cls_apart p2 hz rfl (by decide)⟩
        Tf2 := by simp only [List.mem_cons, List.not_mem_nil, or_false, not_or]; exact ⟨D.Ti2, nb⟩
        sep1_2 := by simp only [List.mem_cons, List.not_mem_nil, or_false, not_or]; exact ⟨D.i12, cls_apart p2 ho1 hc1 (it1 t)⟩
        sep2_1 := by simp only [List.mem_cons, List.not_mem_nil, or_false, not_or]; exact ⟨Ne.symm D.i12, cls_apart p ho2 hc2 (it1 u)⟩ }
    have hh1 : X.A.in1.handled = none := I.ok.hd hc
    refine wpAny_pyNext_zipD2_end S (drawsB (prog := X.prog) (w := X.w) (A := X.A.in1) t hh1 i1 a (Ne.symm (cls_apart p ho1 hc1 (it1 t))) its.toArray) (drawsB (prog := X.prog) (w := X.w) (A := X.A.in1) u hh1 i2 b (Ne.symm (cls_apart p2 ho2 hc2 (it1 u))) its2.toArray)
      hz hTI hTO ⟨h1, p⟩ ⟨h2, p2⟩ (by simp; omega) (by simp; omega) (by simp; omega) fun h' tk hk => ⟨rfl, I.turnedL (t' := tk) (ch := [z, TI, TO, i1, i2]) (fun c o hb q =>
      hk c o (fun q' => hb (by simp [q'])) (fun q' => hb (by simp [q'])) (fun q' => hb (by simp [q'])) (fun q' => hb (by simp [q'])) q) hf⟩
  self := fun A i s Q E st h => wpAny_pyIter_zip st.1 h
def iZipB (K : PySem.W.Frag) (ta : TA) : TI := fun σ H R => ta σ H fun vs H1 => ∃ t u a b xs ys, vs = [.ref a, .ref b] ∧ SqB K H1 t a xs ∧ SqB K H1 u b ys ∧ R (ItzB t u K a b) H1
theorem pi_zipB {X : Cx} {e e2 : Expr} {ta : TA} {p pos tpos : Pos} {elts : List Expr} {kk : Nat} (hg : Gl X "zip") (hm : X.mg "zip" = none) (ha : PA X [e, e2] ta)
    (hs : starEach [e, e2] X.env = (false, eval e X.env) :: starEach [e2] X.env := by rfl) (hpl : (backTo pos (starEach [e2] X.env)).any (·.1) = false := by rfl) :
    PI X (.Tuple elts kk tpos) (.Call (.Name "zip" p) [e, e2] [] pos) (iZipB X.K ta) := by
  refine ⟨fun pins s σ H R I h => ?_⟩
  refine Call_ (ld_blt I hg hm PyProof.Rows.boot_zip (PyProof.Rows.callWith_type1 (thn (ha.run pos pins s σ H _ I h) fun us s1 ⟨vs, H1, I1, r1, q1⟩ => ?_) hs hpl))
  obtain ⟨t, u, a, b, xs, ys, ex, hqx, hqy, q⟩ := q1
  subst ex
  cases r1 with
  | cons r rr =>
    cases rr with
    | cons r' rr =>
      cases rr
      cases r
      cases r'
      obtain ⟨its, rv, p1⟩ := sqB_is I1 hqx
      obtain ⟨its2, rv2, p2⟩ := sqB_is I1 hqy
      have la : a < s1.heap.objs.size := by obtain ⟨_, e, _⟩ := p1.obj; exact Heap.lt_size e
      have lb : b < s1.heap.objs.size := by obtain ⟨_, e, _⟩ := p2.obj; exact Heap.lt_size e
      refine zip_begins2 (beginsB t a its.toArray) (beginsB u b its2.toArray) p1 p2 fun h' hz hTI hTO h1 h2 hsz hk => wpAny_pyIter_zip hz ?_
      have I2 : Inv X pins σ H1 { s1 with heap := h' } := I1.kept (t' := s1.toks) hk
      have D : ZApart (s1.heap.objs.size + 4) (s1.heap.objs.size + 2) (s1.heap.objs.size + 3) s1.heap.objs.size (s1.heap.objs.size + 1) := by
        constructor <;> (show ¬ (@Eq Nat _ _); omega)
      refine ⟨s1.heap.objs.size + 4, [s1.heap.objs.size + 4, s1.heap.objs.size + 2, s1.heap.objs.size + 3, s1.heap.objs.size, s1.heap.objs.size + 1], _, _, H1, rfl, I2, turn_zipB t u D,
        ⟨hz, hTI, ⟨_, _, hTO⟩, IterB.of h1 rfl rfl, IterB.of h2 rfl rfl, Nat.ne_of_gt (Nat.lt_of_lt_of_le la (Nat.le_add_right _ _)), Nat.ne_of_gt (Nat.lt_of_lt_of_le lb (Nat.le_add_right _ _))⟩, fun c hcm => ?_, q⟩
      have e' : c = s1.heap.objs.size + 4 ∨ c = s1.heap.objs.size + 2 ∨ c = s1.heap.objs.size + 3 ∨ c = s1.heap.objs.size ∨ c = s1.heap.objs.size + 1 := by simpa using hcm
      have hle : s1.heap.objs.size ≤ c := by
        rcases e' with z | z | z | z | z
        · rw [z]; exact Nat.le_add_right _ _
        · rw [z]; exact Nat.le_add_right _ _
        · rw [z]; exact Nat.le_add_right _ _
        · rw [z]; exact Nat.le_refl _
        · rw [z]; exact Nat.le_add_right _ _
      exact I1.fpOk hle (I1.hok.fresh hle)
end Pl

set_option Elab.async false
set_option linter.all false
set_option maxRecDepth 100000
set_option maxHeartbeats 4000000
/-! Pl5: what loops and comprehensions walk, targets, comprehensions -/
namespace Pl
open PySem PySem.Spec PyProof.Rows L2

/-- S, and all that cannot change, is kept -/
def Kp (S : Addr → Prop) (H H' : Hp) : Prop := ∀ b o, H b = some o → (S b ∨ ¬ Mut (some o)) → H' b = some o
section
variable {K : PySem.W.Frag} {S F G : Addr → Prop} {H H1 H' : Hp} {v : V} {d : D} {a : Addr}
theorem Kp.refl : Kp S H H := fun _ _ e _ => e
theorem Kp.trans (h : Kp S H H1) (h' : Kp S H1 H') : Kp S H H' := fun b o e m => h' b o (h b o e m) m
theorem Kp.imp {S' : Addr → Prop} (h : Kp S H H') (i : ∀ b, S' b → S b) : Kp S' H H' := fun b o e m => h b o e (m.imp (i b) id)
theorem Same.kp (h : Same H H') : Kp S H H' := fun b o e _ => h b o e
theorem Kp.same (h : Kp S H H') (i : ∀ b, H b ≠ none → S b) : Same H H' := fun b o e => h b o e (.inl (i b (by rw [e]; exact fun z => nomatch z)))
theorem not_mut_tup {xs : List V} : ¬ Mut (some (.tup xs)) := fun z => z
theorem not_mut_frz {o : Obj} {u : HO} : ¬ Mut (some (.frz o u)) := fun z => z
theorem Kp.sqt (h : Kp S H H') : ∀ b xs, SqT K H b xs → SqT K H' b xs := fun b xs q => by
  rcases q with (q | ⟨o, q⟩) | q
  · exact .inl (.inl (h _ _ q (.inr not_mut_tup)))
  · exact .inl (.inr ⟨o, h _ _ q (.inr not_mut_frz)⟩)
  · exact .inr q
theorem Kp.sql (h : Kp S H H') {b : Addr} {xs : List V} (hb : S b) (q : SqL K H b xs) : SqL K H' b xs := by
  rcases q with (q | ⟨o, q⟩) | q
  · exact .inl (.inl (h _ _ q (.inl hb)))
  · exact .inl (.inr ⟨o, h _ _ q (.inr not_mut_frz)⟩)
  · exact .inr q
theorem Kp.rp (h : Kp S H H') {L : List Addr} (r : Rp K H v d L) (hl : ∀ b ∈ L, S b) : Rp K H' v d L := r.keep h.sqt d fun b hb o e => h b o e (.inl (hl b hb))
theorem Kp.rpa (h : Kp S H H') {vs : List V} {ds : List D} {L : List Addr} (r : RpA K H vs ds L) (hl : ∀ b ∈ L, S b) : RpA K H' vs ds L := r.keep h.sqt ds fun b hb o e => h b o e (.inl (hl b hb))
theorem RpA.addr : ∀ {vs : List V} {ds : List D} {L : List Addr}, RpA K H vs ds L → ∀ b ∈ L, H b ≠ none
  | [], _, _, h => by cases h; simp
  | _ :: vs, _, _, h => by
    cases h with
    | cons h1 h2 => exact fun b hb => (List.mem_append.mp hb).elim (h1.addr b) (RpA.addr h2 b)
end

/-! ### sources -/
abbrev Src := En → Option (List D × Bool)
/-- J yields xs while S is kept; what is yielded lies within G -/
def Wk (K : PySem.W.Frag) (S : Addr → Prop) (H1 : Hp) (J : It) (xs : List D) (G : Addr → Prop) : Prop := ∀ H, Kp S H1 H →
  (∀ i x, xs[i]? = some x → J.go i H ∧ ∀ v H2, J.yld i H v H2 → Same H H2 ∧ ∃ L, Rp K H2 v x L ∧ ∀ b ∈ L, G b) ∧ J.stop xs.length H
/-- what must be kept -/
def Cd (F : Addr → Prop) (H H' : Hp) (bw : Bool) (S : Addr → Prop) : Prop := (∀ b, H' b ≠ none → S b) ∨ (bw = false ∧ ∀ b, F b ∨ (H b = none ∧ H' b ≠ none) → S b)
def TI' (K : PySem.W.Frag) (s : Src) : TI := fun σ H R => ∃ F env xs bw, Ok K F σ H env ∧ s env = some (xs, bw) ∧ ∀ J H', Same H H' → Sz K H' → xs.length ≤ sizeLine →
  (∀ S, Cd F H H' bw S → Wk K S H' J xs (fun b => F b ∨ (H b = none ∧ H' b ≠ none))) → R J H'
def VI (X : Cx) (tg e : Expr) (s : Src) : Prop := PI X tg e (TI' X.K s)
section
variable {X : Cx} {tg e : Expr}
theorem PI.to {t t' : TI} (h : PI X tg e t) (i : ∀ σ H R, t' σ H R → t σ H (fun J H' => Sz X.K H' → R J H')) : PI X tg e t' :=
  ⟨fun pins s σ H R I w => thn (h.run pins s σ H _ I (i σ H R w)) fun v s1 q => thn q fun u s2 ⟨it, fp, tn, J, H', e1, I1, T, t0, f, r⟩ => ⟨it, fp, tn, J, H', e1, I1, T, t0, f, r (szs_of I1)⟩⟩
theorem PI.or {t t' : TI} (h : PI X tg e t) (h' : PI X tg e t') : PI X tg e (fun σ H R => t σ H R ∨ t' σ H R) :=
  ⟨fun pins s σ H R I w => w.elim (h.run pins s σ H R I) (h'.run pins s σ H R I)⟩
end
def isBw : Fl → Bool
  | .bw => true
  | _ => false
def seqOf : RV → Option (List D × Bool)
  | (.list ds, f) => if isSc f = true then none else some (ds, isBw f)
  | (.tuple ds, _) => some (ds, false)
  | _ => none
def seqTy : RV → Bool
  | (.tuple _, _) => true
  | _ => false
/-- a value that is walked -/
def Sq1 (K : PySem.W.Frag) (F : Addr → Prop) (H H' : Hp) (v : V) (t : Bool) (a : Addr) (vs : List V) (ds : List D) (bw : Bool) : Prop :=
  v = .ref a ∧ ∃ L, RpA K H' vs ds L ∧ (∀ b ∈ L, F b ∨ (H b = none ∧ H' b ≠ none)) ∧ ∀ S, Cd F H H' bw S → ∀ H2, Kp S H' H2 → SqB K H2 t a vs ∧ RpA K H2 vs ds L
theorem Cd.all {F : Addr → Prop} {H H' : Hp} {bw : Bool} : Cd F H H' bw (fun b => H' b ≠ none) := .inl fun _ z => z
theorem Cd.or {F : Addr → Prop} {H H' : Hp} {b1 b2 : Bool} {S : Addr → Prop} (h : Cd F H H' (b1 || b2) S) : Cd F H H' b1 S ∧ Cd F H H' b2 S := by
  rcases h with h | ⟨h1, h2⟩
  · exact ⟨.inl h, .inl h⟩
  · rw [Bool.or_eq_false_iff] at h1
    exact ⟨.inr ⟨h1.1, h2⟩, .inr ⟨h1.2, h2⟩⟩
section
variable {K : PySem.W.Frag} {S F G : Addr → Prop} {H H1 H' : Hp} {v : V} {r : RV} {ds : List D} {bw : Bool}
theorem Cd.mem {L : List Addr} {vs : List V} (c : Cd F H H' bw S) (ra : RpA K H' vs ds L) (hl : ∀ b ∈ L, F b ∨ H b = none) : ∀ b ∈ L, S b := fun b hb => by
  have hn := ra.addr b hb
  rcases c with c | ⟨_, c⟩
  · exact c b hn
  · exact c b ((hl b hb).imp id fun z => ⟨z, hn⟩)
theorem sq_of (h : Res K F H H' v r) (e : seqOf r = some (ds, bw)) : ∃ a vs, Sq1 K F H H' v (seqTy r) a vs ds bw := by
  obtain ⟨d, f⟩ := r
  cases d <;> try (cases (show (none : Option (List D × Bool)) = some (ds, bw) from e))
  · rename_i xs
    have e' : (if isSc f = true then none else some (xs, isBw f)) = some (ds, bw) := e
    split at e'
    · cases e'
    · rename_i hs
      cases e'
      have core : ∃ a vs L, v = .ref a ∧ H' a = some (.lst vs) ∧ RpA K H' vs ds L ∧ (∀ b ∈ L, F b ∨ H b = none) ∧ (isBw f = false → F a ∨ H a = none) := by
        cases f with
        | fz =>
          obtain ⟨L, h1, h2⟩ := h
          cases h1 with
          | lst h3 h4 => exact ⟨_, _, _, rfl, h3, h4, fun b hb => h2 b (List.mem_cons_of_mem _ hb), fun _ => h2 _ List.mem_cons_self⟩
        | ow => obtain ⟨a, h1, h2, vs, L, e, q, hl⟩ := h; exact ⟨a, vs, L, h1, e, q, fun b hb => (hl b hb).1, fun _ => .inr h2⟩
        | bw => obtain ⟨a, h1, vs, L, e, q, hl⟩ := h; exact ⟨a, vs, L, h1, e, q, hl, fun z => nomatch z⟩
        | sc => exact absurd rfl hs
      obtain ⟨a, vs, L, rfl, ha, ra, hl, hfa⟩ := core
      have hn : H' a ≠ none := by rw [ha]; exact fun z => nomatch z
      refine ⟨a, vs, rfl, L, ra, fun b hb => (hl b hb).imp id fun z => ⟨z, ra.addr b hb⟩, fun S c H2 k => ⟨?_, k.rpa ra (c.mem ra hl)⟩⟩
      refine k.sql ?_ (.inl (.inl ha))
      rcases c with c | ⟨hb, c⟩
      · exact c a hn
      · exact c a ((hfa hb).imp id fun z => ⟨z, hn⟩)
  · rename_i xs
    have e' : some (xs, false) = some (ds, bw) := e
    cases e'
    obtain ⟨a, vs, L, rfl, sq, ra, hl⟩ := h.tuple
    exact ⟨a, vs, rfl, L, ra, fun b hb => (hl b hb).imp id fun z => ⟨z, ra.addr b hb⟩, fun S c H2 k => ⟨k.sqt _ _ sq, k.rpa ra (c.mem ra hl)⟩⟩
theorem Sq1.sq {t : Bool} {a : Addr} {vs : List V} (h : Sq1 K F H H' v t a vs ds bw) : SqB K H' t a vs := by
  obtain ⟨_, L, _, _, q⟩ := h
  exact (q _ Cd.all H' Kp.refl).1
theorem Sq1.len {t : Bool} {a : Addr} {vs : List V} (h : Sq1 K F H H' v t a vs ds bw) : vs.length = ds.length := by
  obtain ⟨_, L, ra, _⟩ := h
  exact ra.length
end

section
variable {X : Cx} {tg a b c e : Expr} {ga gb gc : GE} {pos p : Pos}
def seqS (g : GE) : Src := fun env => (g env).bind seqOf
theorem sqB_len {K : PySem.W.Frag} {H : Hp} {t : Bool} {a : Addr} {vs : List V} (z : Sz K H) (h : SqB K H t a vs) : vs.length ≤ sizeLine := by
  cases t with
  | false => exact z.1 a vs h
  | true => exact z.2.1 a vs h
theorem wk_list {K : PySem.W.Frag} {F : Addr → Prop} {H H' : Hp} {v : V} {ds : List D} {bw : Bool} {a : Addr} {vs : List V} (h : Sq1 K F H H' v false a vs ds bw) (S : Addr → Prop) (c : Cd F H H' bw S) :
    Wk K S H' (Itl K a) ds (fun b => F b ∨ (H b = none ∧ H' b ≠ none)) := by
  obtain ⟨_, L, ra, hl, hs⟩ := h
  intro H2 k
  obtain ⟨sq, ra2⟩ := hs S c H2 k
  refine ⟨fun i x hx => ?_, vs, sq, Nat.le_of_eq ra2.length⟩
  obtain ⟨w, M, e1, rw1, hm⟩ := ra2.get hx
  refine ⟨⟨vs, w, sq, e1⟩, fun v2 H3 y => ?_⟩
  obtain ⟨rfl, y⟩ := y
  have := y vs sq
  rw [e1] at this
  cases this
  exact ⟨Same.refl _, M, rw1, fun b hb => hl b (hm b hb)⟩
theorem wk_tup {K : PySem.W.Frag} {F : Addr → Prop} {H H' : Hp} {v : V} {ds : List D} {bw : Bool} {a : Addr} {vs : List V} (h : Sq1 K F H H' v true a vs ds bw) (S : Addr → Prop) (c : Cd F H H' bw S) :
    Wk K S H' (Itt K a) ds (fun b => F b ∨ (H b = none ∧ H' b ≠ none)) := by
  obtain ⟨_, L, ra, hl, hs⟩ := h
  intro H2 k
  obtain ⟨sq, ra2⟩ := hs S c H2 k
  refine ⟨fun i x hx => ?_, vs, sq, Nat.le_of_eq ra2.length⟩
  obtain ⟨w, M, e1, rw1, hm⟩ := ra2.get hx
  refine ⟨⟨vs, w, sq, e1⟩, fun v2 H3 y => ?_⟩
  obtain ⟨rfl, y⟩ := y
  have := y vs sq
  rw [e1] at this
  cases this
  exact ⟨Same.refl _, M, rw1, fun b hb => hl b (hm b hb)⟩
/-- a list or a tuple -/
theorem vi_seq (h : VE X e ga) : VI X tg e (seqS ga) := by
  refine PI.to (PI.or (pi_list h) (pi_tup h)) fun σ H R ⟨F, env, xs, bw, ok, e, q⟩ => ?_
  obtain ⟨r, e1, e2⟩ := bind2 e
  by_cases ht : seqTy r = true
  · refine .inr ⟨F, env, r, ok, e1, fun v H1 s1 z1 r1 => ?_⟩
    obtain ⟨a, vs, sq⟩ := sq_of r1 e2
    rw [ht] at sq
    refine ⟨a, sq.1, ⟨vs, sq.sq⟩, fun sz => q _ H1 s1 sz ?_ fun S c => wk_tup sq S c⟩
    rw [← sq.len]
    exact sqB_len sz sq.sq
  · refine .inl ⟨F, env, r, ok, e1, fun v H1 s1 z1 r1 => ?_⟩
    obtain ⟨a, vs, sq⟩ := sq_of r1 e2
    rw [eq_false_of_ne_true ht] at sq
    refine ⟨a, sq.1, ⟨vs, sq.sq⟩, fun sz => q _ H1 s1 sz ?_ fun S c => wk_list sq S c⟩
    rw [← sq.len]
    exact sqB_len sz sq.sq
/-! ranges -/
def rngL (lo : Int) (n : Nat) : List D := (List.range n).map fun i => .int (lo + (i : Nat))
def rngD (lo : Int) (n : Nat) : List D := (List.range n).map fun i => .int (lo - (i : Nat))
theorem rngL_len {lo : Int} {n : Nat} : (rngL lo n).length = n := by simp [rngL]
theorem rngD_len {lo : Int} {n : Nat} : (rngD lo n).length = n := by simp [rngD]
theorem wk_range {K S H' lo n G} : Wk K S H' (Itr lo n) (rngL lo n) G := by
  intro H k
  refine ⟨fun i x hx => ?_, Nat.le_of_eq rngL_len.symm⟩
  have hi : i < n := by have := (List.getElem?_eq_some_iff.mp hx).1; rwa [rngL_len] at this
  have ex : x = .int (lo + (i : Nat)) := by simpa [rngL, hi] using hx.symm
  subst ex
  refine ⟨hi, fun v H2 y => ?_⟩
  obtain ⟨rfl, rfl⟩ := y
  exact ⟨Same.refl _, [], .int _, by simp⟩
theorem wk_rangeD {K S H' lo n G} : Wk K S H' (Itc lo (-1) n) (rngD lo n) G := by
  intro H k
  refine ⟨fun i x hx => ?_, Nat.le_of_eq rngD_len.symm⟩
  have hi : i < n := by have := (List.getElem?_eq_some_iff.mp hx).1; rwa [rngD_len] at this
  have ex : x = .int (lo - (i : Nat)) := by simpa [rngD, hi] using hx.symm
  subst ex
  refine ⟨hi, fun v H2 y => ?_⟩
  obtain ⟨rfl, rfl⟩ := y
  refine ⟨Same.refl _, [], ?_, by simp⟩
  have e : lo + (i : Int) * -1 = lo - (i : Nat) := by omega
  rw [e]
  exact .int _
def inB (i : Int) : Bool := decide (-(2 ^ 62) ≤ i) && decide (i < 2 ^ 62)
theorem inB_of {i : Int} (h : inB i = true) : -(2 ^ 62) ≤ i ∧ i < 2 ^ 62 := by
  unfold inB at h
  rw [Bool.and_eq_true] at h
  exact ⟨of_decide_eq_true h.1, of_decide_eq_true h.2⟩
def rng1G : List RV → Option (List D × Bool)
  | [(.int j, _)] => if inB j = true ∧ j.toNat ≤ 16777216 then some (rngL 0 j.toNat, false) else none
  | _ => none
def rng2G : List RV → Option (List D × Bool)
  | [(.int i, _), (.int j, _)] => if (inB i = true ∧ inB j = true) ∧ (j - i).toNat ≤ 16777216 then some (rngL i (j - i).toNat, false) else none
  | _ => none
def rng3G : List RV → Option (List D × Bool)
  | [(.int i, _), (.int j, _), (.int c, _)] => if (inB i = true ∧ inB j = true) ∧ (i - j).toNat ≤ 16777216 ∧ c = -1 then some (rngD i (i - j).toNat, false) else none
  | _ => none
def aS (g : List RV → Option (List D × Bool)) (t : GA) : Src := fun env => (t env).bind g
variable {t : GA}
theorem vi_range1 (hg : Gl X "range") (hm : X.mg "range" = none) (ha : VA X [a] t) (hs : starEach [a] X.env = [(false, eval a X.env)] := by rfl) : VI X tg (.Call (.Name "range" p) [a] [] pos) (aS rng1G t) := by
  refine PI.to (pi_range1 hg hm ha hs) fun σ H R ⟨F, env, xs, bw, ok, e, q⟩ => ?_
  obtain ⟨rs, e1, e2⟩ := bind2 e
  refine ⟨F, env, rs, ok, e1, fun vs H1 r1 => ?_⟩
  unfold rng1G at e2
  split at e2
  · rename_i j f
    split at e2
    · rename_i hc
      cases e2
      cases r1 with
      | cons s r1 t1 =>
        cases t1 with
        | nil s1 =>
          obtain ⟨b1, b2⟩ := inB_of hc.1
          exact ⟨j, by rw [r1.int], b1, b2, fun sz => q _ _ (s.trans s1) sz (by rw [rngL_len, sizeLine_eq]; exact hc.2) fun S _ => wk_range⟩
    · cases e2
  · cases e2
theorem vi_range2 (hg : Gl X "range") (hm : X.mg "range" = none) (ha : VA X [a, b] t) (hs : starEach [a, b] X.env = [(false, eval a X.env), (false, eval b X.env)] := by rfl) (hs2 : starEach [b] X.env = [(false, eval b X.env)] := by rfl) : VI X tg (.Call (.Name "range" p) [a, b] [] pos) (aS rng2G t) := by
  refine PI.to (pi_range2 hg hm ha hs hs2) fun σ H R ⟨F, env, xs, bw, ok, e, q⟩ => ?_
  obtain ⟨rs, e1, e2⟩ := bind2 e
  refine ⟨F, env, rs, ok, e1, fun vs H1 r1 => ?_⟩
  unfold rng2G at e2
  split at e2
  · rename_i i f j f2
    split at e2
    · rename_i hc
      cases e2
      cases r1 with
      | cons s r1 t1 =>
        cases t1 with
        | cons s1 r2 t2 =>
          cases t2 with
          | nil s2 =>
            obtain ⟨b1, b2⟩ := inB_of hc.1.1
            obtain ⟨b3, b4⟩ := inB_of hc.1.2
            exact ⟨i, j, by rw [r1.int, r2.int], ⟨b1, b2, b3, b4⟩, fun sz => q _ _ ((s.trans s1).trans s2) sz (by rw [rngL_len, sizeLine_eq]; exact hc.2) fun S _ => wk_range⟩
    · cases e2
  · cases e2
theorem vi_range3 (hg : Gl X "range") (hm : X.mg "range" = none) (ha : VA X [a, b, c] t) (hs : starEach [a, b, c] X.env = (false, eval a X.env) :: starEach [b, c] X.env := by rfl) (hpl : (backTo pos (starEach [b, c] X.env)).any (·.1) = false := by rfl) : VI X tg (.Call (.Name "range" p) [a, b, c] [] pos) (aS rng3G t) := by
  refine PI.to (pi_range3 hg hm ha hs hpl) fun σ H R ⟨F, env, xs, bw, ok, e, q⟩ => ?_
  obtain ⟨rs, e1, e2⟩ := bind2 e
  refine ⟨F, env, rs, ok, e1, fun vs H1 r1 => ?_⟩
  unfold rng3G at e2
  split at e2
  · rename_i i f j f2 k f3
    split at e2
    · rename_i hc
      obtain ⟨⟨c1, c2⟩, c3, rfl⟩ := hc
      cases e2
      cases r1 with
      | cons s r1 t1 =>
        cases t1 with
        | cons s1 r2 t2 =>
          cases t2 with
          | cons s2 r3 t3 =>
            cases t3 with
            | nil s3 =>
              obtain ⟨b1, b2⟩ := inB_of c1
              obtain ⟨b3, b4⟩ := inB_of c2
              exact ⟨i, j, -1, _, by rw [r1.int, r2.int, r3.int], RgC.neg b1 b2 b3 b4, fun sz => q _ _ (((s.trans s1).trans s2).trans s3) sz (by rw [rngD_len, sizeLine_eq]; exact c3) fun S _ => wk_rangeD⟩
    · cases e2
  · cases e2
/-! enumerate, zip -/
def enumL (ds : List D) : List D := ds.zipIdx.map fun p => .tuple [.int (p.2 : Nat), p.1]
def zipL (ds es : List D) : List D := List.zipWith (fun x y => .tuple [x, y]) ds es
def enumG : List RV → Option (List D × Bool)
  | [r] => (seqOf r).map fun p => (enumL p.1, p.2)
  | _ => none
def zipG : List RV → Option (List D × Bool)
  | [r, s] => (seqOf r).bind fun p => (seqOf s).map fun q => (zipL p.1 q.1, p.2 || q.2)
  | _ => none
theorem sq_yield {K : PySem.W.Frag} {H : Hp} {T : Addr} {x y : V} {d e : D} {L M : List Addr} (n : H T = none) (rx : Rp K H x d L) (ry : Rp K H y e M) : Same H (upd H T (.tup [x, y])) ∧ Rp K (upd H T (.tup [x, y])) (.ref T) (.tuple [d, e]) (L ++ (M ++ [])) := by
  have s : Same H (upd H T (.tup [x, y])) := same_new n
  exact ⟨s, .tup (.inl (.inl upd_same)) (.cons (rx.mono s) (.cons (ry.mono s) .nil))⟩
theorem vi_enum {elts : List Expr} {kk : Nat} {tpos : Pos} (hg : Gl X "enumerate") (hm : X.mg "enumerate" = none) (ha : VA X [a] t) (hs : starEach [a] X.env = [(false, eval a X.env)] := by rfl) : VI X (.Tuple elts kk tpos) (.Call (.Name "enumerate" p) [a] [] pos) (aS enumG t) := by
  refine PI.to (pi_enumB hg hm ha hs) fun σ H R ⟨F, env, xs, bw, ok, e, q⟩ => ?_
  obtain ⟨rs, e1, e2⟩ := bind2 e
  refine ⟨F, env, rs, ok, e1, fun vs H1 r1 => ?_⟩
  unfold enumG at e2
  split at e2
  · rename_i r
    cases e3 : seqOf r with
    | none => rw [e3] at e2; cases e2
    | some pr =>
      obtain ⟨ds, bw'⟩ := pr
      rw [e3] at e2
      cases e2
      cases r1 with
      | cons s r1 t1 =>
        cases t1 with
        | nil s1 =>
          obtain ⟨a, ws, sq⟩ := sq_of (r1.mono s1) e3
          have sq' := sq
          obtain ⟨rfl, L, ra, hl, hk⟩ := sq
          refine ⟨seqTy r, a, ws, rfl, sq'.sq, fun sz => q _ _ (s.trans s1) sz ?_ fun S c => ?_⟩
          · have := sqB_len sz sq'.sq
            rw [sq'.len] at this
            simpa [enumL] using this
          · intro H2 k
            obtain ⟨sqb, ra2⟩ := hk S c H2 k
            refine ⟨fun i x hx => ?_, ws, sqb, ?_⟩
            · have hi : i < ds.length := by have := (List.getElem?_eq_some_iff.mp hx).1; simpa [enumL] using this
              have ex : x = .tuple [.int (i : Nat), ds[i]] := by simpa [enumL, hi] using hx.symm
              subst ex
              obtain ⟨w, M, e4, rw1, hm⟩ := ra2.get (List.getElem?_eq_getElem hi)
              refine ⟨⟨ws, w, sqb, e4⟩, fun v2 H3 y => ?_⟩
              obtain ⟨T, x1, rfl, nT, rfl, y⟩ := y
              have := y ws sqb
              rw [e4] at this
              cases this
              obtain ⟨sm, rp⟩ := sq_yield nT (.int (i : Nat)) rw1
              refine ⟨sm, _, rp, fun b hb => ?_⟩
              exact hl b (hm b (by simpa using hb))
            · have := ra2.length
              simp [enumL, this]
  · cases e2
theorem vi_zip {elts : List Expr} {kk : Nat} {tpos : Pos} (hg : Gl X "zip") (hm : X.mg "zip" = none) (ha : VA X [a, b] t)
    (hs : starEach [a, b] X.env = (false, eval a X.env) :: starEach [b] X.env := by rfl) (hpl : (backTo pos (starEach [b] X.env)).any (·.1) = false := by rfl) : VI X (.Tuple elts kk tpos) (.Call (.Name "zip" p) [a, b] [] pos) (aS zipG t) := by
  refine PI.to (pi_zipB hg hm ha hs hpl) fun σ H R ⟨F, env, xs, bw, ok, e, q⟩ => ?_
  obtain ⟨rs, e1, e2⟩ := bind2 e
  refine ⟨F, env, rs, ok, e1, fun vs H1 r1 => ?_⟩
  unfold zipG at e2
  split at e2
  · rename_i r r'
    obtain ⟨⟨ds, bw1⟩, e3, e2⟩ := bind2 e2
    cases e4 : seqOf r' with
    | none => rw [e4] at e2; cases e2
    | some pr =>
      obtain ⟨es, bw2⟩ := pr
      rw [e4] at e2
      cases e2
      cases r1 with
      | cons s r1 t1 =>
        cases t1 with
        | cons s1 r2 t2 =>
          cases t2 with
          | nil s2 =>
            obtain ⟨a, ws, sq⟩ := sq_of (r1.mono (s1.trans s2)) e3
            obtain ⟨a', ws', sq2⟩ := sq_of ((r2.back s).mono s2) e4
            have sq' := sq
            have sq2' := sq2
            obtain ⟨rfl, L, ra, hl, hk⟩ := sq
            obtain ⟨rfl, L', ra', hl', hk'⟩ := sq2
            refine ⟨seqTy r, seqTy r', a, a', ws, ws', rfl, sq'.sq, sq2'.sq, fun sz => q _ _ ((s.trans s1).trans s2) sz ?_ fun S c => ?_⟩
            · have := sqB_len sz sq'.sq
              rw [sq'.len] at this
              have h2 : (zipL ds es).length ≤ ds.length := by simp [zipL]; omega
              exact Nat.le_trans h2 this
            · obtain ⟨c1, c2⟩ := Cd.or c
              intro H2 k
              obtain ⟨sqb, ra2⟩ := hk S c1 H2 k
              obtain ⟨sqb', ra2'⟩ := hk' S c2 H2 k
              have hlen := ra2.length
              have hlen' := ra2'.length
              refine ⟨fun i x hx => ?_, ws, ws', sqb, sqb', ?_⟩
              · have hi : i < ds.length ∧ i < es.length := by have := (List.getElem?_eq_some_iff.mp hx).1; simp [zipL] at this; exact ⟨by omega, by omega⟩
                have ex : x = .tuple [ds[i]'hi.1, es[i]'hi.2] := by
                  have : (zipL ds es)[i]? = some (.tuple [ds[i]'hi.1, es[i]'hi.2]) := by simp [zipL, List.getElem?_zipWith, hi.1, hi.2]
                  rw [this] at hx
                  exact (Option.some.inj hx).symm
                subst ex
                obtain ⟨w, M, e5, rw1, hm⟩ := ra2.get (List.getElem?_eq_getElem hi.1)
                obtain ⟨w', M', e6, rw2, hm'⟩ := ra2'.get (List.getElem?_eq_getElem hi.2)
                refine ⟨⟨ws, ws', w, w', sqb, sqb', e5, e6⟩, fun v2 H3 y => ?_⟩
                obtain ⟨T, x1, x2, rfl, nT, rfl, y1, y2⟩ := y
                have q1 := y1 ws sqb
                rw [e5] at q1
                cases q1
                have q2 := y2 ws' sqb'
                rw [e6] at q2
                cases q2
                obtain ⟨sm, rp⟩ := sq_yield nT rw1 rw2
                refine ⟨sm, _, rp, fun b hb => ?_⟩
                rcases List.mem_append.mp hb with z | z
                · exact hl b (hm b z)
                · exact hl' b (hm' b (by simpa using z))
              · simp [zipL]; omega
  · cases e2
end
end Pl

set_option Elab.async false
set_option linter.all false
set_option maxRecDepth 100000
set_option maxHeartbeats 4000000
/-! Pl6: targets, comprehensions -/
namespace Pl
open PySem PySem.Spec PyProof.Rows L2

mutual
inductive Tg | nm (i : Nat) | tp (ts : Tgs)
inductive Tgs | nil | cons (t : Tg) (ts : Tgs)
end
mutual
def asT : Tg → D → En → Option En
  | .nm i, x, env => some (env.set i (some (x, .fz)))
  | .tp ts, .tuple ds, env => asTs ts ds env
  | .tp ts, .list ds, env => asTs ts ds env
  | .tp _, _, _ => none
def asTs : Tgs → List D → En → Option En
  | .nil, [], env => some env
  | .cons t ts, d :: ds, env => (asT t d env).bind fun e => asTs ts ds e
  | _, _, _ => none
end
mutual
def Tg.vars : Tg → List Nat
  | .nm i => [i]
  | .tp ts => ts.vars
def Tgs.vars : Tgs → List Nat
  | .nil => []
  | .cons t ts => t.vars ++ ts.vars
end
def Tgs.len : Tgs → Nat
  | .nil => 0
  | .cons _ ts => ts.len + 1
theorem asTs_len : ∀ (ts : Tgs) (ds : List D) (env env' : En), asTs ts ds env = some env' → ds.length = ts.len
  | .nil, [], _, _, _ => rfl
  | .nil, _ :: _, _, _, h => by simp [asTs] at h
  | .cons t ts, [], _, _, h => by simp [asTs] at h
  | .cons t ts, d :: ds, env, env', h => by
    rw [asTs] at h
    obtain ⟨e, _, h2⟩ := bind2 h
    have := asTs_len ts ds e env' h2
    simp [Tgs.len, this]
/-- only the slots vs have changed, to frozen values -/
def Chg (vs : List Nat) (env : En) (σ : L2.St) (env' : En) (σ' : L2.St) : Prop := σ'.length = σ.length ∧ ∀ i, (env'[i]? = env[i]? ∧ σ'[i]? = σ[i]?) ∨ (i ∈ vs ∧ ∃ d, env'[i]? = some (some (d, .fz)))
theorem Chg.refl {vs env σ} : Chg vs env σ env σ := ⟨rfl, fun _ => .inl ⟨rfl, rfl⟩⟩
theorem Chg.trans {vs ws env σ env1 σ1 env2 σ2} (h : Chg vs env σ env1 σ1) (h' : Chg ws env1 σ1 env2 σ2) : Chg (vs ++ ws) env σ env2 σ2 :=
  ⟨h'.1.trans h.1, fun i => by
    rcases h'.2 i with ⟨e1, e2⟩ | ⟨m, d, e⟩
    · rcases h.2 i with ⟨e3, e4⟩ | ⟨m, d, e⟩
      · exact .inl ⟨e1.trans e3, e2.trans e4⟩
      · exact .inr ⟨List.mem_append_left _ m, d, e1.trans e⟩
    · exact .inr ⟨List.mem_append_right _ m, d, e⟩⟩
theorem Chg.imp {vs ws env σ env1 σ1} (h : Chg vs env σ env1 σ1) (hv : ∀ i ∈ vs, i ∈ ws) : Chg ws env σ env1 σ1 := ⟨h.1, fun i => (h.2 i).imp id fun z => ⟨hv i z.1, z.2⟩⟩
section
variable {K : PySem.W.Frag} {F F' : Addr → Prop} {H H1 H' : Hp} {σ : L2.St} {env : En} {v : V} {d : D} {i : Nat}
theorem getElem?_set' {α : Type} (l : List α) (i j : Nat) (x : α) : (l.set i x)[j]? = if i = j ∧ j < l.length then some x else l[j]? := by
  rw [List.getElem?_set]
  by_cases h : i = j
  · subst h
    by_cases h2 : i < l.length
    · simp [h2]
    · simp [h2]
  · simp [h]
/-- slot i gets a frozen value -/
theorem Ok.set_fz (ok : Ok K F σ H env) {L : List Addr} (r : Rp K H v d L) (hl : ∀ b ∈ L, F b) : Ok K F (σ.set i (some v)) H (env.set i (some (d, .fz))) ∧ Chg [i] env σ (env.set i (some (d, .fz))) (σ.set i (some v)) := by
  have hlen := ok.len
  have look : ∀ j r0, (env.set i (some (d, .fz)))[j]? = some (some r0) → (i = j ∧ j < σ.length ∧ r0 = (d, .fz) ∧ (σ.set i (some v))[j]? = some (some v)) ∨ (env[j]? = some (some r0) ∧ (σ.set i (some v))[j]? = σ[j]?) := fun j r0 e => by
    rw [getElem?_set'] at e ⊢
    rw [hlen] at e
    by_cases c : i = j ∧ j < σ.length
    · rw [if_pos c] at e ⊢
      exact .inl ⟨c.1, c.2, by cases e; rfl, rfl⟩
    · rw [if_neg c] at e ⊢
      exact .inr ⟨e, rfl⟩
  refine ⟨⟨by simp [hlen], ok.dom, fun j r0 e => ?_, fun j k d1 d2 a hjk e1 e2 e3 e4 => ?_⟩, by simp, fun j => ?_⟩
  · rcases look j r0 e with ⟨_, _, rfl, e2⟩ | ⟨e1, e2⟩
    · exact ⟨v, e2, L, r, hl⟩
    · obtain ⟨w, e3, s⟩ := ok.slot j r0 e1
      exact ⟨w, e2.trans e3, s⟩
  · rcases look j _ e1 with ⟨_, _, q, _⟩ | ⟨p1, p2⟩
    · cases q
    rcases look k _ e2 with ⟨_, _, q, _⟩ | ⟨q1, q2⟩
    · cases q
    exact ok.sep j k d1 d2 a hjk p1 q1 (p2.symm.trans e3) (q2.symm.trans e4)
  · rw [getElem?_set', getElem?_set', hlen]
    by_cases c : i = j ∧ j < σ.length
    · rw [if_pos c, if_pos c]
      exact .inr ⟨by simp [c.1], d, rfl⟩
    · rw [if_neg c, if_neg c]
      exact .inl ⟨rfl, rfl⟩
/-- more is frozen: none of it owned -/
theorem Ok.grow (ok : Ok K F σ H env) (hi : ∀ b, F b → F' b) (hd : ∀ b, F' b → H b ≠ none) (ho : ∀ (i : Nat) (d : D) (a : Addr), env[i]? = some (some (d, .ow)) → σ[i]? = some (some (.ref a)) → ¬ F' a) : Ok K F' σ H env := by
  refine ⟨ok.len, hd, fun i r e => ?_, ok.sep⟩
  obtain ⟨v, e1, s⟩ := ok.slot i r e
  refine ⟨v, e1, ?_⟩
  obtain ⟨d, fl⟩ := r
  cases fl with
  | fz => obtain ⟨L, h1, h2⟩ := s; exact ⟨L, h1, fun b hb => hi b (h2 b hb)⟩
  | ow => obtain ⟨a, rfl, h2, h3⟩ := s; exact ⟨a, rfl, ho i d a e e1, h3.imp hi⟩
  | bw => obtain ⟨a, h1, h3⟩ := s; exact ⟨a, h1, h3.imp hi⟩
  | sc => exact s
theorem Ok.own (ok : Ok K F σ H env) {a : Addr} (e : env[i]? = some (some (d, .ow))) (e1 : σ[i]? = some (some (.ref a))) : ¬ F a ∧ H a ≠ none ∧ Obj1 K F H a d := by
  obtain ⟨v, e2, a', rfl, h2, h3⟩ := ok.slot i _ e
  rw [e2] at e1
  cases e1
  exact ⟨h2, h3.isn, h3⟩
/-- what came new is frozen too -/
theorem Ok.new (ok : Ok K F σ H env) (s : Same H H') : Ok K (fun b => F b ∨ (H b = none ∧ H' b ≠ none)) σ H' env := by
  refine (ok.mono s).grow (fun b hb => .inl hb) (fun b hb => hb.elim (fun z => (ok.mono s).dom b z) fun z => z.2) fun i d a e e1 z => ?_
  have h := ok.own e e1
  exact z.elim h.1 fun z => h.2.1 z.1
end
def TG' (K : PySem.W.Frag) (t : Tg) : TG := fun v σ H Q => ∃ F env env' x L, Ok K F σ H env ∧ Rp K H v x L ∧ (∀ b ∈ L, F b) ∧ asT t x env = some env' ∧ ∀ σ', Chg t.vars env σ env' σ' → Ok K F σ' H env' → Q σ' H
def TGs' (K : PySem.W.Frag) (t : Tgs) : TGs := fun vs σ H Q => ∃ F env env' xs L, Ok K F σ H env ∧ RpA K H vs xs L ∧ (∀ b ∈ L, F b) ∧ asTs t xs env = some env' ∧ ∀ σ', Chg t.vars env σ env' σ' → Ok K F σ' H env' → Q σ' H
def VG (X : Cx) (e : Expr) (t : Tg) : Prop := PG X e (TG' X.K t)
def VGs (X : Cx) (e : List Expr) (t : Tgs) : Prop := PGs X e (TGs' X.K t)
theorem PG.to {X : Cx} {e : Expr} {t t' : TG} (h : PG X e t) (i : ∀ v σ H Q, t' v σ H Q → t v σ H Q) : PG X e t' := ⟨fun pins s σ H v u Q I r w => h.run pins s σ H v u Q I r (i v σ H Q w)⟩
theorem PG.or {X : Cx} {e : Expr} {t t' : TG} (h : PG X e t) (h' : PG X e t') : PG X e (fun v σ H Q => t v σ H Q ∨ t' v σ H Q) := ⟨fun pins s σ H v u Q I r w => w.elim (h.run pins s σ H v u Q I r) (h'.run pins s σ H v u Q I r)⟩
theorem PGs.to {X : Cx} {e : List Expr} {t t' : TGs} (h : PGs X e t) (i : ∀ v σ H Q, t' v σ H Q → t v σ H Q) : PGs X e t' := ⟨fun pins s σ H v u Q I r w => h.run pins s σ H v u Q I r (i v σ H Q w)⟩
section
variable {X : Cx} {pos : Pos} {e : Expr} {es : List Expr}
theorem vg_name (i : Nat) {x : Str} (hN : X.N.Nodup) (hi : X.N[i]? = some x := by rfl) (hx : Loc X.env.scope x := by first | exact Or.inl rfl | exact Or.inr rfl) (hf : X.fn x = true ∨ X.env.scope.names.lookup x = some .local := by first | exact .inl rfl | exact .inr rfl) : VG X (.Name x pos) (.nm i) :=
  PG.to (pg_name hN hi hx hf) fun v σ H Q ⟨F, env, env', x, L, ok, r, hl, e, q⟩ => by
    rw [asT] at e
    cases e
    obtain ⟨o, c⟩ := ok.set_fz (i := i) r hl
    exact q _ c o
theorem vgs_nil : VGs X [] .nil := PGs.to pgs_nil fun vs σ H Q ⟨F, env, env', xs, L, ok, r, hl, e, q⟩ => by
  have := asTs_len _ _ _ _ e
  cases xs with
  | nil =>
    rw [asTs] at e
    cases e
    cases r
    exact ⟨rfl, q _ Chg.refl ok⟩
  | cons _ _ => simp [Tgs.len] at this
theorem vgs_cons {t : Tg} {ts : Tgs} (h : VG X e t) (h' : VGs X es ts) (hs : (assignEach (e :: es) X.env).map (·.2) = assign e X.env :: (assignEach es X.env).map (·.2) := by rfl) : VGs X (e :: es) (.cons t ts) :=
  PGs.to (pgs_cons h h' hs) fun vs σ H Q ⟨F, env, env', xs, L, ok, r, hl, e, q⟩ => by
    cases xs with
    | nil => rw [asTs] at e <;> first | cases e | exact fun z => nomatch z
    | cons d ds =>
      rw [asTs] at e
      obtain ⟨e1, a1, a2⟩ := bind2 e
      cases r with
      | @cons v vs _ _ L M r1 r2 =>
        refine ⟨v, vs, rfl, F, env, e1, d, L, ok, r1, fun b hb => hl b (List.mem_append_left _ hb), a1, fun σ1 c1 o1 => ?_⟩
        exact ⟨F, e1, env', ds, M, o1, r2, fun b hb => hl b (List.mem_append_right _ hb), a2, fun σ2 c2 o2 => q σ2 (by rw [Tgs.vars]; exact c1.trans c2) o2⟩
theorem vg_tup {ts : Tgs} {k : Nat} (hc : X.calm = true) (h : VGs X es ts) (hn : (assignEach es X.env).length = ts.len := by rfl) (hst : (assignEach es X.env).findIdx? (·.1) = none := by rfl) : VG X (.Tuple es k pos) (.tp ts) :=
  PG.to (PG.or (pg_tup hc h hn hst) (pg_unl hc h hn hst)) fun v σ H Q ⟨F, env, env', x, L, ok, r, hl, e, q⟩ => by
    cases x <;> try (rw [asT] at e <;> first | cases e | (intros; exact fun z => nomatch z))
    · rename_i ds
      obtain ⟨a, vs, M, rfl, sq, ra, hm⟩ := r.list
      exact .inr ⟨a, vs, rfl, .inl (.inl sq), ra.length.trans (asTs_len _ _ _ _ e), F, env, env', _, M, ok, ra, fun b hb => hl b (hm b hb), e, fun σ' c o => q σ' (by rw [Tg.vars]; exact c) o⟩
    · obtain ⟨a, vs, rfl, sq, ra⟩ := r.tuple
      exact .inl ⟨a, vs, rfl, sq, ra.length.trans (asTs_len _ _ _ _ e), F, env, env', _, L, ok, ra, hl, e, fun σ' c o => q σ' (by rw [Tg.vars]; exact c) o⟩
end

/-! ### comprehensions -/
def wipeE (env : En) : List Nat → En
  | [] => env
  | v :: vs => (wipeE env vs).set v none
theorem wipeE_length (env : En) : ∀ vs, (wipeE env vs).length = env.length
  | [] => rfl
  | v :: vs => by rw [wipeE, List.length_set, wipeE_length env vs]
theorem wipeE_some {env : En} {i : Nat} {r : RV} : ∀ {vs : List Nat}, (wipeE env vs)[i]? = some (some r) → env[i]? = some (some r) ∧ i ∉ vs
  | [], h => ⟨h, by simp⟩
  | v :: vs, h => by
    rw [wipeE, getElem?_set'] at h
    split at h
    · cases h
    · rename_i hc
      obtain ⟨h1, h2⟩ := wipeE_some h
      refine ⟨h1, ?_⟩
      simp only [List.mem_cons, not_or]
      refine ⟨fun e => hc ⟨e.symm, ?_⟩, h2⟩
      obtain ⟨hh, _⟩ := List.getElem?_eq_some_iff.mp h
      exact hh
theorem Ok.wipe {K F σ H env} (ok : Ok K F σ H env) (vs : List Nat) : Ok K F (L2.wipe σ vs) H (wipeE env vs) := by
  refine ⟨by rw [wipeE_length, wipe_length]; exact ok.len, ok.dom, fun i r e => ?_, fun i j d d' a hij e1 e2 e3 e4 => ?_⟩
  · obtain ⟨e1, hi⟩ := wipeE_some e
    obtain ⟨v, e2, s⟩ := ok.slot i r e1
    exact ⟨v, by rw [wipe_out hi]; exact e2, s⟩
  · obtain ⟨a1, b1⟩ := wipeE_some e1
    obtain ⟨a2, b2⟩ := wipeE_some e2
    rw [wipe_out b1] at e3
    rw [wipe_out b2] at e4
    exact ok.sep i j d d' a hij a1 a2 e3 e4
theorem wipe_in {σ : L2.St} {i : Nat} : ∀ {vs : List Nat}, i ∈ vs → (wipe σ vs)[i]? = if i < σ.length then some none else none
  | [], h => by simp at h
  | v :: vs, h => by
    unfold wipe
    rw [getElem?_set', wipe_length]
    by_cases hv : v = i
    · subst hv
      by_cases h2 : v < σ.length
      · simp [h2]
      · rw [if_neg (fun z => h2 z.2), if_neg h2, List.getElem?_eq_none (by rw [wipe_length]; omega)]
    · rw [if_neg (fun z => hv z.1)]
      rcases List.mem_cons.mp h with z | z
      · exact absurd z.symm hv
      · exact wipe_in z
theorem wipe_ext {σ τ : L2.St} {vs : List Nat} (hl : σ.length = τ.length) (h : ∀ i, i ∉ vs → σ[i]? = τ[i]?) : wipe σ vs = wipe τ vs := by
  apply List.ext_getElem?
  intro i
  by_cases hi : i ∈ vs
  · rw [wipe_in hi, wipe_in hi, hl]
  · rw [wipe_out hi, wipe_out hi, h i hi]
theorem Chg.wipe {vs ws env σ env' σ'} (c : Chg vs env σ env' σ') (h : ∀ i ∈ vs, i ∈ ws) : L2.wipe σ' ws = L2.wipe σ ws :=
  wipe_ext c.1 fun i hi => (c.2 i).elim (fun z => z.2) fun z => absurd (h i z.1) hi
theorem wipe_wipe {σ : L2.St} {vs : List Nat} : wipe (wipe σ vs) vs = wipe σ vs := wipe_ext (wipe_length _ _) fun i hi => wipe_out hi

def lcGo (f : D → Option (Option D)) : List D → Option (List D)
  | [] => some []
  | x :: xs => (f x).bind fun o => (lcGo f xs).map fun ys => o.toList ++ ys
theorem lcGo_snoc (f : D → Option (Option D)) (x : D) : ∀ xs : List D, lcGo f (xs ++ [x]) = (lcGo f xs).bind fun ys => (f x).map fun o => ys ++ o.toList
  | [] => by simp [lcGo]; cases f x <;> simp
  | y :: xs => by
    rw [List.cons_append, lcGo, lcGo_snoc f x xs, lcGo]
    cases f y <;> cases lcGo f xs <;> cases f x <;> simp
theorem lcGo_get {f : D → Option (Option D)} : ∀ {xs ys : List D} {i : Nat} {x : D}, lcGo f xs = some ys → xs[i]? = some x → ∃ zs o, lcGo f (xs.take i) = some zs ∧ f x = some o ∧ lcGo f (xs.take (i + 1)) = some (zs ++ o.toList)
  | [], _, _, _, _, e => by simp at e
  | y :: xs, ys, 0, x, h, e => by
    simp at e
    subst e
    rw [lcGo] at h
    obtain ⟨o, h1, _⟩ := bind2 h
    exact ⟨[], o, rfl, h1, by simp [lcGo, h1]⟩
  | y :: xs, ys, i + 1, x, h, e => by
    rw [lcGo] at h
    obtain ⟨o, h1, h2⟩ := bind2 h
    cases h3 : lcGo f xs with
    | none => rw [h3] at h2; cases h2
    | some ws =>
      obtain ⟨zs, p, q1, q2, q3⟩ := lcGo_get h3 (by simpa using e)
      refine ⟨o.toList ++ zs, p, by simp [lcGo, h1, q1], q2, ?_⟩
      rw [List.take_succ_cons, lcGo, h1, q3]
      simp
def bYes : GB := fun _ => some true
/-- one turn -/
def lcT (tg : Tg) (tt : GB) (te : GE) (W : En) (x : D) : Option (Option D) :=
  (asT tg x W).bind fun e => (tt e).bind fun b => if b = true then (te e).bind fun r => if plainFl r.2 = true then some (some r.1) else none else some none
def lcF (own : List Nat) (tg : Tg) (tt : GB) (te : GE) (env : En) (x : D) : Option (Option D) := lcT tg tt te (wipeE env own) x
def eLc (own : List Nat) (tg : Tg) (src : Src) (tt : GB) (te : GE) : GE := fun env => (src env).bind fun p => (lcGo (lcF own tg tt te env) p.1).map fun ys => (.list ys, .ow)
/-- some of a comprehension's loop: the new list at D -/
structure LcI (K : PySem.W.Frag) (F : Addr → Prop) (H0 H1 : Hp) (A0 : Addr) (ys : List D) (n : Nat) (H : Hp) : Prop where
  same : Same H1 H
  acc : ∃ acc L, H A0 = some (.lst acc) ∧ acc.length ≤ n ∧ RpA K H acc ys L ∧ ∀ b ∈ L, (F b ∨ H0 b = none) ∧ b ≠ A0
theorem sqt_upd {K : PySem.W.Frag} {H : Hp} {D : Addr} {xs ys : List V} (h : H D = some (.lst xs)) : ∀ b zs, SqT K H b zs → SqT K (upd H D (.lst ys)) b zs := fun b zs q => by
  rcases q with (q | ⟨o, q⟩) | q
  · exact .inl (.inl (by rw [upd_ne (ne_of q h (fun z => nomatch z))]; exact q))
  · exact .inl (.inr ⟨o, by rw [upd_ne (ne_of q h (fun z => nomatch z))]; exact q⟩)
  · exact .inr q
theorem LcI.start {K F H0 H1 D} (n : H1 D = none) : LcI K F H0 H1 D [] 0 (upd H1 D (.lst [])) := ⟨same_new n, [], [], upd_same, Nat.le_refl _, .nil, by simp⟩
theorem LcI.skip {K F H0 H1 D ys n H H'} (h : LcI K F H0 H1 D ys n H) (s : Same H H') : LcI K F H0 H1 D ys (n + 1) H' := by
  obtain ⟨acc, L, e, hl, ra, hb⟩ := h.acc
  exact ⟨h.same.trans s, acc, L, s _ _ e, Nat.le_succ_of_le hl, ra.mono s, hb⟩
theorem LcI.push {K F H0 H1 D ys n H H' v d L} (h : LcI K F H0 H1 D ys n H) (s : Same H H') (hD : H1 D = none) (r : Rp K H' v d L) (hl : ∀ b ∈ L, (F b ∨ H0 b = none) ∧ b ≠ D) :
    ∃ acc, H' D = some (.lst acc) ∧ acc.length ≤ n ∧ LcI K F H0 H1 D (ys ++ [d]) (n + 1) (upd H' D (.lst (acc ++ [v]))) := by
  obtain ⟨acc, M, e, hn, ra, hm⟩ := h.acc
  refine ⟨acc, s _ _ e, hn, fun b o q => ?_, acc ++ [v], M ++ (L ++ []), upd_same, by simp; omega, ?_, fun b hb => ?_⟩
  · have nb : b ≠ D := fun z => by rw [z, hD] at q; cases q
    rw [upd_ne nb]
    exact s _ _ (h.same _ _ q)
  · have k := sqt_upd (K := K) (ys := acc ++ [v]) (s _ _ e)
    have k1 : ∀ b ∈ M, ∀ o, H' b = some o → (upd H' D (.lst (acc ++ [v]))) b = some o := fun b hb o q => by rw [upd_ne (hm b hb).2]; exact q
    have k2 : ∀ b ∈ L, ∀ o, H' b = some o → (upd H' D (.lst (acc ++ [v]))) b = some o := fun b hb o q => by rw [upd_ne (hl b hb).2]; exact q
    exact ((ra.mono s).keep k ys k1).append (.cons (r.keep k d k2) .nil)
  · rcases List.mem_append.mp hb with z | z
    · exact hm b z
    · exact hl b (by simpa using z)
/-- one turn's inner part: target, tests, element -/
theorem turn_core {K : PySem.W.Frag} {F Fc : Addr → Prop} {σw : L2.St} {H0 H1 Hc H2 : Hp} {W : En} {own : List Nat} {tg : Tg} {tt : GB} {te : GE} {x : D} {v : V} {L : List Addr} {o : Option D} {D0 : Addr} {ys : List D} {n : Nat} {Nx : Hp → Prop}
    (okc : Ok K Fc σw Hc W) (hF : ∀ b, Fc b → (F b ∨ H0 b = none) ∧ b ≠ D0) (s0 : Same H0 H1) (nD : H1 D0 = none) (inv : LcI K F H0 H1 D0 ys n Hc) (s2 : Same Hc H2) (r : Rp K H2 v x L) (hl : ∀ b ∈ L, Fc b) (hv : ∀ i ∈ tg.vars, i ∈ own) (hn : o ≠ none → n < sizeLine)
    (e : lcT tg tt te W x = some o) (q : ∀ H', (∀ b u, Hc b = some u → b ≠ D0 → H' b = some u) → LcI K F H0 H1 D0 (ys ++ o.toList) (n + 1) H' → Nx H') :
    TG' K tg v σw H2 fun σ2 H3 => wipe σ2 own = wipe σw own ∧ TB' K tt σ2 H3 fun b H4 => if b = true then TE' K te σ2 H4 fun y H5 => ∃ acc, H5 D0 = some (.lst acc) ∧ acc.length < sizeLine ∧ Nx (upd H5 D0 (.lst (acc ++ [y]))) else Nx H4 := by
  unfold lcT at e
  obtain ⟨e1, a1, e⟩ := bind2 e
  obtain ⟨b, a2, e⟩ := bind2 e
  refine ⟨_, W, e1, x, L, okc.mono s2, r, hl, a1, fun σ2 c ok2 => ⟨c.wipe hv, _, e1, b, ok2, a2, fun H4 s4 z4 => ?_⟩⟩
  cases b with
  | false =>
    rw [if_neg Bool.false_ne_true] at e ⊢
    cases e
    exact q H4 (fun b u hb _ => s4 _ _ (s2 _ _ hb)) (by simpa using inv.skip (s2.trans s4))
  | true =>
    rw [if_pos rfl] at e ⊢
    obtain ⟨y, a3, e⟩ := bind2 e
    split at e
    · rename_i hp
      cases e
      obtain ⟨d, f⟩ := y
      obtain ⟨n1, n2⟩ := plain_ne hp
      refine ⟨_, e1, (d, f), ok2.mono s4, a3, fun w H5 s5 z5 rw => ?_⟩
      obtain ⟨M, rm, hm⟩ := rw.frz n1 n2
      have D4 : H4 D0 ≠ none := by
        obtain ⟨acc, _, eD, _⟩ := inv.acc
        rw [s4 _ _ (s2 _ _ eD)]
        exact fun z => nomatch z
      obtain ⟨acc, eD, hacc, inv'⟩ := inv.push ((s2.trans s4).trans s5) nD rm fun b hb => by
        rcases hm b hb with z | z
        · exact hF b z
        · exact ⟨.inr (s0.free (inv.same.free (s2.free (s4.free z)))), fun w => D4 (by rw [← w]; exact z)⟩
      refine ⟨acc, eD, Nat.lt_of_le_of_lt hacc (hn (fun z => nomatch z)), q _ (fun b u hb nb => ?_) inv'⟩
      rw [upd_ne nb]
      exact s5 _ _ (s4 _ _ (s2 _ _ hb))
    · cases e
theorem lc_reads {K : PySem.W.Frag} {F : Addr → Prop} {σ : L2.St} {H : Hp} {Q : VK} {env : En} {own : List Nat} {tg : Tg} {src : Src} {tt : GB} {te : GE} {r : RV} (ok : Ok K F σ H env) (hv : ∀ i ∈ tg.vars, i ∈ own) (e : eLc own tg src tt te env = some r)
    (q : ∀ v H', Same H H' → Res K F H H' v r → Q v H') : tLc (TI' K src) (TG' K tg) (TB' K tt) (TE' K te) own σ H Q := by
  obtain ⟨⟨xs, bw⟩, e1, e⟩ := bind2 e
  cases e2 : lcGo (lcF own tg tt te env) xs with
  | none => rw [e2] at e; cases e
  | some ys =>
    rw [e2] at e
    cases e
    refine ⟨F, env, xs, bw, ok, e1, fun J H1 s1 sz1 hx wk D nD => ?_⟩
    have wk := wk _ Cd.all
    refine ⟨fun i m H2 => m = xs.length - i ∧ i ≤ xs.length ∧ ∃ zs, lcGo (lcF own tg tt te env) (xs.take i) = some zs ∧ LcI K F H H1 D zs i H2, ⟨_, rfl, Nat.zero_le _, [], rfl, LcI.start nD⟩, ?_⟩
    rintro i m H2 ⟨rfl, hi, zs, ez, inv⟩
    obtain ⟨w1, w2⟩ := wk H2 (Same.kp inv.same)
    by_cases hlt : i < xs.length
    · obtain ⟨go, wy⟩ := w1 i xs[i] (List.getElem?_eq_getElem hlt)
      obtain ⟨zs', o, ez', eo, en⟩ := lcGo_get e2 (List.getElem?_eq_getElem hlt)
      rw [ez] at ez'
      cases ez'
      refine .inr ⟨go, fun H' => LcI K F H H1 D (zs ++ o.toList) (i + 1) H', fun H' p => ⟨xs.length - (i + 1), by omega, rfl, hlt, _, en, p⟩, fun v H3 y => ?_⟩
      obtain ⟨s3, L, rv, hl⟩ := wy v H3 y
      have okc := ((ok.new s1).wipe own).mono inv.same
      have hF : ∀ b, (F b ∨ (H b = none ∧ H1 b ≠ none)) → (F b ∨ H b = none) ∧ b ≠ D := fun b z => ⟨z.imp id fun z => z.1, fun w => z.elim (fun z => ok.dom b z (s1.free (by rw [w]; exact nD))) fun z => z.2 (by rw [w]; exact nD)⟩
      have t := turn_core (Nx := fun H' => LcI K F H H1 D (zs ++ o.toList) (i + 1) H') okc hF s1 nD inv s3 rv hl hv (fun _ => Nat.lt_of_lt_of_le hlt hx) eo fun H' _ p => p
      rwa [wipe_wipe] at t
    · have ei : i = xs.length := by omega
      subst ei
      refine .inl ⟨w2, q _ H2 (s1.trans inv.same) ?_⟩
      rw [List.take_length, e2] at ez
      cases ez
      obtain ⟨acc, L, eD, _, ra, hb⟩ := inv.acc
      exact ⟨D, rfl, s1.free nD, acc, L, eD, ra, hb⟩
section
variable {X : Cx} {elt tge iter : Expr} {ifs : List Expr} {scope : Scope} {own : List (Str × Nat)} {pos : Pos} {src : Src} {tg : Tg} {tt : GB} {te : GE}
def VTs (X : Cx) (ifs : List Expr) (g : GB) : Prop := PTs X ifs (TB' X.K g)
theorem PTs.to {X : Cx} {e : List Expr} {t t' : TT} (h : PTs X e t) (i : ∀ σ H Q, t' σ H Q → t σ H (fun v H' => Sz X.K H' → Q v H')) : PTs X e t' :=
  ⟨fun pins s σ H Q I w => thn (h.run pins s σ H _ I (i σ H Q w)) fun u s' ⟨H', I', q⟩ => ⟨H', I', q (szs_of I')⟩⟩
theorem vts_nil : VTs X [] bYes := PTs.to pts_nil fun σ H Q ⟨F, env, r, ok, e, q⟩ => by cases e; exact fun sz => q H (Same.refl H) sz
theorem vts_one {c : Expr} (h : VB X c tt) : VTs X [c] tt := pts_one h
/-- what a clause asks within the block -/
def Blk (X : Cx) (scope : Scope) (P : Cx → Prop) : Prop := ∀ (s : Shared) (H : Hp) (C : Addr) (cl : List (Str × Addr)) (fp : List Addr), P (X.blk s H scope (compEnvC scope cl C X.env) fp)
def memAll (vs ws : List Nat) : Bool := vs.all fun i => ws.contains i
theorem memAll_of {vs ws : List Nat} (h : memAll vs ws = true) : ∀ i ∈ vs, i ∈ ws := fun i hi => by
  unfold memAll at h
  have := List.all_eq_true.mp h i hi
  simpa using this
theorem ve_lc (hc : X.calm = true) (hN : X.N.Nodup) (hi : VI X tge iter src) (ok : BlkOk X.N X.env.scope scope own) (hv : memAll tg.vars (own.map (·.2)) = true)
    (hg : Blk X scope fun Y => VG Y tge tg) (ht : Blk X scope fun Y => VTs Y ifs tt) (he : Blk X scope fun Y => VE Y elt te) (hs : ∀ x, foldedSetIterable iter X.env x = pure x := by intro _; rfl) :
    VE X (.ListComp elt [⟨tge, iter, ifs, 0⟩] scope pos) (eLc (own.map (·.2)) tg src tt te) :=
  PE.to (pe_lc (g := TG' X.K tg) (tt := TB' X.K tt) (te := TE' X.K te) hc hN hi ok (fun s H C cl fp => hg s H C cl fp) (fun s H C cl fp => ht s H C cl fp) (fun s H C cl fp => he s H C cl fp) hs) fun σ H Q ⟨F, env, r, ok, e, q⟩ => lc_reads ok (memAll_of hv) e fun v H' s r sz => q v H' s sz r
end

/-! ### two clauses -/
theorem Ok.keep {K F σ H H' env} (ok : Ok K F σ H env) (t : ∀ b xs, SqT K H b xs → SqT K H' b xs) (f : ∀ b, F b → ∀ o, H b = some o → H' b = some o) (z : ∀ b o u, H b = some (.frz o u) → H' b = some (.frz o u))
    (w : ∀ (i : Nat) (d : D) (fl : Fl) (a : Addr), (fl = .ow ∨ fl = .bw) → env[i]? = some (some (d, fl)) → σ[i]? = some (some (.ref a)) → ∀ o, H a = some o → H' a = some o) : Ok K F σ H' env := by
  refine ⟨ok.len, fun b hb => ?_, fun i r e => ?_, ok.sep⟩
  · cases q : H b with
    | none => exact absurd q (ok.dom b hb)
    | some o => rw [f b hb o q]; exact fun z => nomatch z
  · obtain ⟨v, e1, s⟩ := ok.slot i r e
    refine ⟨v, e1, ?_⟩
    obtain ⟨d, fl⟩ := r
    cases fl with
    | fz => obtain ⟨L, h1, h2⟩ := s; exact ⟨L, h1.keep t d fun b hb => f b (h2 b hb), h2⟩
    | ow => obtain ⟨a, rfl, h2, h3⟩ := s; exact ⟨a, rfl, h2, h3.keep t (w i d _ a (.inl rfl) e e1) f⟩
    | bw => obtain ⟨a, rfl, h3⟩ := s; exact ⟨a, rfl, h3.keep t (w i d _ a (.inr rfl) e e1) f⟩
    | sc => obtain ⟨a, ns, h1, h2, h3⟩ := s; exact ⟨a, ns, h1, h2, h3.imp (fun ⟨o, q⟩ => ⟨o, z _ _ _ q⟩) id⟩
theorem Ok.ownA {K F σ H env} {i : Nat} {d : D} {fl : Fl} {a : Addr} (ok : Ok K F σ H env) (hf : fl = .ow ∨ fl = .bw) (e : env[i]? = some (some (d, fl))) (e1 : σ[i]? = some (some (.ref a))) : H a ≠ none := by
  obtain ⟨v, e2, s⟩ := ok.slot i _ e
  rw [e2] at e1
  cases e1
  rcases hf with rfl | rfl
  · obtain ⟨a', e3, _, h3⟩ := s; cases e3; exact h3.isn
  · obtain ⟨a', e3, h3⟩ := s; cases e3; exact h3.isn
def ccat (f : D → Option (List D)) : List D → Option (List D)
  | [] => some []
  | x :: xs => (f x).bind fun o => (ccat f xs).map fun ys => o ++ ys
theorem ccat_get {f : D → Option (List D)} : ∀ {xs ys : List D} {i : Nat} {x : D}, ccat f xs = some ys → xs[i]? = some x → ∃ zs o rest, ccat f (xs.take i) = some zs ∧ f x = some o ∧ ccat f (xs.take (i + 1)) = some (zs ++ o) ∧ ys = (zs ++ o) ++ rest
  | [], _, _, _, _, e => by simp at e
  | y :: xs, ys, 0, x, h, e => by
    simp at e
    subst e
    rw [ccat] at h
    obtain ⟨o, h1, h2⟩ := bind2 h
    cases h3 : ccat f xs with
    | none => rw [h3] at h2; cases h2
    | some ws => rw [h3] at h2; cases h2; exact ⟨[], o, ws, rfl, h1, by simp [ccat, h1], rfl⟩
  | y :: xs, ys, i + 1, x, h, e => by
    rw [ccat] at h
    obtain ⟨o, h1, h2⟩ := bind2 h
    cases h3 : ccat f xs with
    | none => rw [h3] at h2; cases h2
    | some ws =>
      rw [h3] at h2
      cases h2
      obtain ⟨zs, p, rest, q1, q2, q3, rfl⟩ := ccat_get h3 (by simpa using e)
      refine ⟨o ++ zs, p, rest, by simp [ccat, h1, q1], q2, ?_, by simp⟩
      rw [List.take_succ_cons, ccat, h1, q3]
      simp
theorem lcGo_pre {f : D → Option (Option D)} : ∀ {xs ys : List D} {i : Nat} {zs : List D}, lcGo f xs = some ys → lcGo f (xs.take i) = some zs → ∃ rest, ys = zs ++ rest
  | xs, ys, 0, zs, h, e => by
    rw [List.take_zero, lcGo] at e
    cases e
    exact ⟨ys, rfl⟩
  | [], ys, i + 1, zs, h, e => by
    rw [List.take_nil] at e
    rw [h] at e
    cases e
    exact ⟨[], by simp⟩
  | x :: xs, ys, i + 1, zs, h, e => by
    rw [List.take_succ_cons, lcGo] at e
    rw [lcGo] at h
    obtain ⟨o, h1, h2⟩ := bind2 h
    rw [h1] at e
    cases h3 : lcGo f xs with
    | none => rw [h3] at h2; cases h2
    | some ws =>
      rw [h3] at h2
      cases h2
      cases e3 : lcGo f (xs.take i) with
      | none => simp [e3] at e
      | some us =>
        simp [e3] at e
        subst e
        obtain ⟨rest, rfl⟩ := lcGo_pre h3 e3
        exact ⟨rest, by simp⟩
def lc2F (own own1 : List Nat) (tg : Tg) (tt : GB) (src1 : Src) (tg1 : Tg) (tt1 : GB) (te : GE) (env : En) (x : D) : Option (List D) :=
  (asT tg x (wipeE env own)).bind fun e => (tt e).bind fun b => if b = true then (src1 e).bind fun p => if p.2 = true then none else lcGo (lcT tg1 tt1 te (wipeE e own1)) p.1 else some []
def eLc2 (own own1 : List Nat) (tg : Tg) (src : Src) (tt : GB) (tg1 : Tg) (src1 : Src) (tt1 : GB) (te : GE) : GE := fun env =>
  (src env).bind fun p => (ccat (lc2F own own1 tg tt src1 tg1 tt1 te env) p.1).bind fun ys => if ys.length ≤ 16777216 then some (.list ys, .ow) else none
theorem LcI.fit {K F H0 H1 D0 ys n H} (h : LcI K F H0 H1 D0 ys n H) : LcI K F H0 H1 D0 ys ys.length H := by
  obtain ⟨acc, L, e, hl, ra, hb⟩ := h.acc
  exact ⟨h.same, acc, L, e, Nat.le_of_eq ra.length, ra, hb⟩
theorem iteF {a b : Prop} (h : b) : (if false = true then a else b) := by rw [if_neg Bool.false_ne_true]; exact h
theorem iteT {a b : Prop} (h : a) : (if true = true then a else b) := by rw [if_pos rfl]; exact h
theorem lc2_reads {K : PySem.W.Frag} {F : Addr → Prop} {σ : L2.St} {H : Hp} {Q : VK} {env : En} {own own1 : List Nat} {tg tg1 : Tg} {src src1 : Src} {tt tt1 : GB} {te : GE} {r : RV} (ok : Ok K F σ H env) (hv : ∀ i ∈ tg.vars, i ∈ own) (hv1 : ∀ i ∈ tg1.vars, i ∈ own1)
    (e : eLc2 own own1 tg src tt tg1 src1 tt1 te env = some r) (q : ∀ v H', Same H H' → Res K F H H' v r → Q v H') : tLc2 (TI' K src) (TG' K tg) (TB' K tt) (TI' K src1) (TG' K tg1) (TB' K tt1) (TE' K te) own own1 σ H Q := by
  obtain ⟨⟨xs, bw⟩, e1, e⟩ := bind2 e
  obtain ⟨ys, e2, e⟩ := bind2 e
  split at e
  rotate_left
  · cases e
  rename_i hsz
  cases e
  refine ⟨F, env, xs, bw, ok, e1, fun J H1 s1 sz1 hx wk D0 nD => ?_⟩
  have wk := wk _ Cd.all
  refine ⟨fun i m H2 => m = xs.length - i ∧ i ≤ xs.length ∧ ∃ zs, ccat (lc2F own own1 tg tt src1 tg1 tt1 te env) (xs.take i) = some zs ∧ LcI K F H H1 D0 zs zs.length H2, ⟨_, rfl, Nat.zero_le _, [], rfl, LcI.start nD⟩, ?_⟩
  rintro i m H2 ⟨rfl, hi, zs, ez, inv⟩
  obtain ⟨w1, w2⟩ := wk H2 (Same.kp inv.same)
  by_cases hlt : i < xs.length
  · obtain ⟨go, wy⟩ := w1 i xs[i] (List.getElem?_eq_getElem hlt)
    obtain ⟨zs', o, rest, ez', eo, en, eys⟩ := ccat_get e2 (List.getElem?_eq_getElem hlt)
    rw [ez] at ez'
    cases ez'
    have hsz2 : zs.length + o.length ≤ sizeLine := by
      rw [sizeLine_eq]
      rw [eys] at hsz
      simp at hsz
      omega
    refine .inr ⟨go, fun H' => LcI K F H H1 D0 (zs ++ o) (zs ++ o).length H', fun H' p => ⟨xs.length - (i + 1), by omega, rfl, hlt, _, en, p⟩, fun v H3 y => ?_⟩
    obtain ⟨s3, L, rv, hl⟩ := wy v H3 y
    have okc := ((ok.new s1).wipe own).mono (inv.same.trans s3)
    have hF : ∀ b, (F b ∨ (H b = none ∧ H1 b ≠ none)) → (F b ∨ H b = none) ∧ b ≠ D0 := fun b z => ⟨z.imp id fun z => z.1, fun w => z.elim (fun z => ok.dom b z (s1.free (by rw [w]; exact nD))) fun z => z.2 (by rw [w]; exact nD)⟩
    unfold lc2F at eo
    obtain ⟨ee, a1, eo⟩ := bind2 eo
    obtain ⟨b, a2, eo⟩ := bind2 eo
    refine ⟨_, _, ee, xs[i], L, okc, rv, hl, a1, fun σ2 c ok2 => ⟨by rw [c.wipe hv, wipe_wipe], _, ee, b, ok2, a2, fun H4 s4 z4 => ?_⟩⟩
    have slots : ∀ (i : Nat) (d : D) (fl : Fl) (a : Addr), (fl = .ow ∨ fl = .bw) → ee[i]? = some (some (d, fl)) → σ2[i]? = some (some (.ref a)) → a ≠ D0 := fun i d fl a hf f1 f2 => by
      rcases c.2 i with ⟨g1, g2⟩ | ⟨_, d', g1⟩
      · rw [f1] at g1
        rw [f2] at g2
        obtain ⟨g3, g4⟩ := wipeE_some g1.symm
        rw [wipe_out g4] at g2
        have := ok.ownA hf g3 g2.symm
        rintro rfl
        exact this (s1.free nD)
      · rw [g1] at f1
        cases f1
        rcases hf with z | z <;> cases z
    cases b with
    | false =>
      refine iteF ?_
      rw [if_neg Bool.false_ne_true] at eo
      cases eo
      have := (inv.skip (s3.trans s4)).fit
      simpa using this
    | true =>
      refine iteT ?_
      rw [if_pos rfl] at eo
      obtain ⟨⟨xs1, bw1⟩, a3, eo⟩ := bind2 eo
      split at eo
      · cases eo
      rename_i hb1
      have hb1 : bw1 = false := eq_false_of_ne_true hb1
      subst hb1
      have inv4 := inv.same.trans (s3.trans s4)
      have D4 : H4 D0 ≠ none := by
        obtain ⟨acc, _, eD, _⟩ := inv.acc
        rw [s4 _ _ (s3 _ _ eD)]
        exact fun z => nomatch z
      have ok4 := ok2.mono s4
      refine ⟨_, ee, xs1, false, ok4, a3, fun J1 H5 s5 z5 hx1 wk1 => ?_⟩
      have wk1 := wk1 (fun b => H5 b ≠ none ∧ b ≠ D0) (.inr ⟨rfl, fun b hb => by
        rcases hb with hb | hb
        · exact ⟨(ok4.mono s5).dom b hb, (hF b hb).2⟩
        · exact ⟨hb.2, fun w => D4 (by rw [← w]; exact hb.1)⟩⟩)
      have ok5 := ok4.new s5
      have inv5 : LcI K F H H1 D0 zs zs.length H5 := by
        obtain ⟨acc, L2, eD, hl2, ra2, hb2⟩ := inv.acc
        exact ⟨inv4.trans s5, acc, L2, s5 _ _ (s4 _ _ (s3 _ _ eD)), hl2, ra2.mono ((s3.trans s4).trans s5), hb2⟩
      have hF5 : ∀ b, ((F b ∨ (H b = none ∧ H1 b ≠ none)) ∨ (H4 b = none ∧ H5 b ≠ none)) → (F b ∨ H b = none) ∧ b ≠ D0 := fun b z => by
        rcases z with z | z
        · exact hF b z
        · exact ⟨.inr (s1.free (inv4.free z.1)), fun w => D4 (by rw [← w]; exact z.1)⟩
      refine ⟨fun j k H6 => k = xs1.length - j ∧ j ≤ xs1.length ∧ ∃ us, lcGo (lcT tg1 tt1 te (wipeE ee own1)) (xs1.take j) = some us ∧ LcI K F H H1 D0 (zs ++ us) (zs ++ us).length H6 ∧ ∀ b u, H5 b = some u → b ≠ D0 → H6 b = some u,
        ⟨_, rfl, Nat.zero_le _, [], rfl, by simpa using inv5, fun b u z _ => z⟩, ?_⟩
      rintro j k H6 ⟨rfl, hj, us, eu, inv6, k6⟩
      have kp6 : Kp (fun b => H5 b ≠ none ∧ b ≠ D0) H5 H6 := fun b u hb hm => by
        by_cases nb : b = D0
        · subst nb
          rcases hm with hm | hm
          · exact absurd rfl hm.2
          · obtain ⟨acc, _, eD, _⟩ := inv5.acc
            rw [eD] at hb
            cases hb
            exact absurd trivial hm
        · exact k6 b u hb nb
      obtain ⟨y1, y2⟩ := wk1 H6 kp6
      by_cases hjt : j < xs1.length
      · obtain ⟨go1, wy1⟩ := y1 j xs1[j] (List.getElem?_eq_getElem hjt)
        obtain ⟨us', p, eu', ep, en'⟩ := lcGo_get eo (List.getElem?_eq_getElem hjt)
        rw [eu] at eu'
        cases eu'
        obtain ⟨rest1, eo1⟩ := lcGo_pre eo en'
        refine .inr ⟨go1, fun H' => LcI K F H H1 D0 ((zs ++ us) ++ p.toList) ((zs ++ us) ++ p.toList).length H' ∧ ∀ b u, H5 b = some u → b ≠ D0 → H' b = some u, fun H' pp => ⟨xs1.length - (j + 1), by omega, rfl, hjt, _, en', by simpa [List.append_assoc] using pp.1, pp.2⟩, fun v1 H7 y7 => ?_⟩
        obtain ⟨s7, M, rv1, hm⟩ := wy1 v1 H7 y7
        have okc6 := (ok5.keep (H' := H6) kp6.sqt (fun b hb u hu => k6 b u hu (hF5 b hb).2) (fun b o u hb => kp6 _ _ hb (.inr not_mut_frz)) (fun i d fl a hf f1 f2 u hu => k6 a u hu (slots i d fl a hf f1 f2))).wipe own1
        have t := turn_core (Nx := fun H' => LcI K F H H1 D0 ((zs ++ us) ++ p.toList) ((zs ++ us) ++ p.toList).length H' ∧ ∀ b u, H5 b = some u → b ≠ D0 → H' b = some u) okc6 hF5 s1 nD inv6 s7 rv1 hm hv1 (fun hp => by
          cases p with
          | none => exact absurd rfl hp
          | some d =>
            rw [eo1] at hsz2
            simp at hsz2 ⊢
            omega) ep fun H' kk pp => ⟨pp.fit, fun b u hb nb => kk b u (k6 b u hb nb) nb⟩
        rwa [wipe_wipe] at t
      · have ej : j = xs1.length := by omega
        subst ej
        rw [List.take_length, eo] at eu
        cases eu
        exact .inl ⟨y2, inv6⟩
  · have ei : i = xs.length := by omega
    subst ei
    refine .inl ⟨w2, q _ H2 (s1.trans inv.same) ?_⟩
    rw [List.take_length, e2] at ez
    cases ez
    obtain ⟨acc, L, eD, _, ra, hb⟩ := inv.acc
    exact ⟨D0, rfl, s1.free nD, acc, L, eD, ra, hb⟩
section
variable {X : Cx} {elt tge iter tge1 iter1 : Expr} {ifs ifs1 : List Expr} {scope : Scope} {own : List (Str × Nat)} {own1 : List Nat} {pos : Pos} {src src1 : Src} {tg tg1 : Tg} {tt tt1 : GB} {te : GE}
theorem ve_lc2 (hc : X.calm = true) (hN : X.N.Nodup) (hi : VI X tge iter src) (ok : BlkOk X.N X.env.scope scope own) (ho : memAll own1 (own.map (·.2)) = true) (hv : memAll tg.vars (own.map (·.2)) = true) (hv1 : memAll tg1.vars own1 = true)
    (hg : Blk X scope fun Y => VG Y tge tg) (ht : Blk X scope fun Y => VTs Y ifs tt) (hi1 : Blk X scope fun Y => VI Y tge1 iter1 src1) (hg1 : Blk X scope fun Y => VG Y tge1 tg1) (ht1 : Blk X scope fun Y => VTs Y ifs1 tt1) (he : Blk X scope fun Y => VE Y elt te)
    (hs : ∀ x, foldedSetIterable iter X.env x = pure x := by intro _; rfl) (hs1 : ∀ env x, foldedSetIterable iter1 env x = pure x := by intro _ _; rfl) :
    VE X (.ListComp elt [⟨tge, iter, ifs, 0⟩, ⟨tge1, iter1, ifs1, 0⟩] scope pos) (eLc2 (own.map (·.2)) own1 tg src tt tg1 src1 tt1 te) :=
  PE.to (pe_lc2 (g := TG' X.K tg) (tt := TB' X.K tt) (wi1 := TI' X.K src1) (g1 := TG' X.K tg1) (tt1 := TB' X.K tt1) (te := TE' X.K te) hc hN hi ok (memAll_of ho) (fun s H C cl fp => hg s H C cl fp) (fun s H C cl fp => ht s H C cl fp)
    (fun s H C cl fp => hi1 s H C cl fp) (fun s H C cl fp => hg1 s H C cl fp) (fun s H C cl fp => ht1 s H C cl fp) (fun s H C cl fp => he s H C cl fp) hs hs1) fun σ H Q ⟨F, env, r, ok, e, q⟩ => lc2_reads ok (memAll_of hv) (memAll_of hv1) e fun v H' s r sz => q v H' s sz r
end
end Pl

set_option Elab.async false
set_option linter.all false
set_option maxRecDepth 100000
set_option maxHeartbeats 4000000
/-! Pl7: statements -/
namespace Pl
open PySem PySem.Spec PyProof.Rows L2

inductive Out | nx (e : En) | rt (r : RV) | bk (e : En) | ct (e : En)
abbrev GS := En → Option Out

/-- the state of a def's body. B: the heap at its entry; F0: what was frozen there; P: what nobody writes; F: what is frozen -/
structure SOk (K : PySem.W.Frag) (B : Hp) (F0 P F : Addr → Prop) (σ : L2.St) (H : Hp) (env : En) : Prop where
  ok : Ok K F σ H env
  sB : Same B H
  fr : ∀ b, F b → F0 b ∨ B b = none
  FP : ∀ b, F b → P b
  BP : ∀ b, B b ≠ none → P b
  Pd : ∀ b, P b → H b ≠ none
  ow : ∀ (i : Nat) (d : D) (a : Addr), env[i]? = some (some (d, .ow)) → σ[i]? = some (some (.ref a)) → ¬ P a
  bw : ∀ (i : Nat) (d : D) (a : Addr), env[i]? = some (some (d, .bw)) → σ[i]? = some (some (.ref a)) → P a
/-- a step -/
structure Stp (P F : Addr → Prop) (σ : L2.St) (H : Hp) (env : En) (P' F' : Addr → Prop) (σ' : L2.St) (H' : Hp) (env' : En) : Prop where
  pP : ∀ b, P b → P' b
  pF : ∀ b, F b → F' b
  kp : Kp P H H'
  dom : ∀ b, H b ≠ none → H' b ≠ none
  nw : ∀ b, F' b → F b ∨ H b = none ∨ ¬ P b
  bw : ∀ (i : Nat) (d : D), env'[i]? = some (some (d, .bw)) → env[i]? = some (some (d, .bw)) ∧ σ'[i]? = σ[i]?
  ln : env'.length = env.length
section
variable {K : PySem.W.Frag} {B H H1 H' H2 : Hp} {F0 P F P' F' P2 F2 : Addr → Prop} {σ σ' σ2 : L2.St} {env env' env2 : En} {D' : Ends} {v : V} {d : D} {r : RV}
theorem Stp.refl : Stp P F σ H env P F σ H env := ⟨fun _ z => z, fun _ z => z, Kp.refl, fun _ z => z, fun _ z => .inl z, fun _ _ z => ⟨z, rfl⟩, rfl⟩
theorem Stp.trans (h : Stp P F σ H env P' F' σ' H' env') (h' : Stp P' F' σ' H' env' P2 F2 σ2 H2 env2) : Stp P F σ H env P2 F2 σ2 H2 env2 := by
  refine ⟨fun b z => h'.pP b (h.pP b z), fun b z => h'.pF b (h.pF b z), h.kp.trans (h'.kp.imp h.pP), fun b z => h'.dom b (h.dom b z), fun b z => ?_, fun i d e => ?_, h'.ln.trans h.ln⟩
  · rcases h'.nw b z with z | z | z
    · exact h.nw b z
    · refine .inr (.inl ?_)
      cases q : H b with
      | none => rfl
      | some o => exact absurd z (h.dom b (by rw [q]; exact fun z => nomatch z))
    · exact .inr (.inr fun w => z (h.pP b w))
  · obtain ⟨e1, e2⟩ := h'.bw i d e
    obtain ⟨e3, e4⟩ := h.bw i d e1
    exact ⟨e3, e2.trans e4⟩
theorem Stp.later (s : Same H H') : Stp P F σ H env P F σ H' env := ⟨fun _ z => z, fun _ z => z, Same.kp s, fun b z => Same.dom s z, fun _ z => .inl z, fun _ _ z => ⟨z, rfl⟩, rfl⟩
theorem SOk.later (h : SOk K B F0 P F σ H env) (s : Same H H') : SOk K B F0 P F σ H' env := ⟨h.ok.mono s, h.sB.trans s, h.fr, h.FP, h.BP, fun b z => Same.dom s (h.Pd b z), h.ow, h.bw⟩
/-- what came new is frozen -/
theorem SOk.new (h : SOk K B F0 P F σ H env) (s : Same H H') : SOk K B F0 (fun b => P b ∨ (F b ∨ (H b = none ∧ H' b ≠ none))) (fun b => F b ∨ (H b = none ∧ H' b ≠ none)) σ H' env ∧
    Stp P F σ H env (fun b => P b ∨ (F b ∨ (H b = none ∧ H' b ≠ none))) (fun b => F b ∨ (H b = none ∧ H' b ≠ none)) σ H' env := by
  refine ⟨⟨h.ok.new s, h.sB.trans s, fun b z => ?_, fun b z => .inr z, fun b z => .inl (h.BP b z), fun b z => ?_, fun i d a e e1 z => ?_, fun i d a e e1 => .inl (h.bw i d a e e1)⟩,
    fun b z => .inl z, fun b z => .inl z, Same.kp s, fun b z => Same.dom s z, fun b z => z.imp id fun z => .inl z.1, fun i d z => ⟨z, rfl⟩, rfl⟩
  · exact z.elim (h.fr b) fun z => .inr (h.sB.free z.1)
  · rcases z with z | z | z
    · exact Same.dom s (h.Pd b z)
    · exact Same.dom s (h.ok.dom b z)
    · exact z.2
  · rcases z with z | z | z
    · exact h.ow i d a e e1 z
    · exact (h.ok.own e e1).1 z
    · exact h.ok.ownA (.inl rfl) e e1 z.1
theorem SOk.forget (h : SOk K B F0 P F σ H env) (ws : List Nat) : SOk K B F0 P F σ H (wipeE env ws) ∧ Stp P F σ H env P F σ H (wipeE env ws) := by
  have k : Ok K F σ H (wipeE env ws) := by
    refine ⟨by rw [wipeE_length]; exact h.ok.len, h.ok.dom, fun i r e => h.ok.slot i r (wipeE_some e).1, fun i j d d' a hij e1 e2 e3 e4 => h.ok.sep i j d d' a hij (wipeE_some e1).1 (wipeE_some e2).1 e3 e4⟩
  exact ⟨⟨k, h.sB, h.fr, h.FP, h.BP, h.Pd, fun i d a e e1 => h.ow i d a (wipeE_some e).1 e1, fun i d a e e1 => h.bw i d a (wipeE_some e).1 e1⟩,
    fun _ z => z, fun _ z => z, Kp.refl, fun _ z => z, fun _ z => .inl z, fun i d z => ⟨(wipeE_some z).1, rfl⟩, wipeE_length _ _⟩
/-- targets have been set to frozen values -/
theorem SOk.chg (h : SOk K B F0 P F σ H env) {vs : List Nat} (c : Chg vs env σ env' σ') (ok : Ok K F σ' H env') : SOk K B F0 P F σ' H env' ∧ Stp P F σ H env P F σ' H env' := by
  have back : ∀ (i : Nat) (d : D) (fl : Fl), fl ≠ .fz → env'[i]? = some (some (d, fl)) → env[i]? = some (some (d, fl)) ∧ σ'[i]? = σ[i]? := fun i d fl hf e => by
    rcases c.2 i with ⟨e1, e2⟩ | ⟨_, d', e1⟩
    · exact ⟨e1.symm.trans e, e2⟩
    · rw [e] at e1
      cases e1
      exact absurd rfl hf
  refine ⟨⟨ok, h.sB, h.fr, h.FP, h.BP, h.Pd, fun i d a e e1 => ?_, fun i d a e e1 => ?_⟩, fun _ z => z, fun _ z => z, Kp.refl, fun _ z => z, fun _ z => .inl z, fun i d z => back i d .bw (fun w => nomatch w) z, by rw [ok.len, c.1, h.ok.len]⟩
  · obtain ⟨e2, e3⟩ := back i d .ow (fun w => nomatch w) e
    exact h.ow i d a e2 (e3.symm.trans e1)
  · obtain ⟨e2, e3⟩ := back i d .bw (fun w => nomatch w) e
    exact h.bw i d a e2 (e3.symm.trans e1)
theorem Obj1.impA {G G' : Addr → Prop} {a : Addr} (h : Obj1 K G H a d) (hg : ∀ b, G b → H b ≠ none → G' b) : Obj1 K G' H a d := by
  cases d with
  | list ds => obtain ⟨vs, L, h1, h2, h3⟩ := h; exact ⟨vs, L, h1, h2, fun b hb => hg b (h3 b hb) (h2.addr b hb)⟩
  | dict ds =>
    rcases h with ⟨vs, L, h1, h2, h3, h4⟩ | ⟨vs, L, h1, hk, h2, h3, h4⟩
    · exact .inl ⟨vs, L, h1, h2, h3, fun b hb => hg b (h4 b hb) (h3.addr b hb)⟩
    · exact .inr ⟨vs, L, h1, hk, h2, h3, fun b hb => hg b (h4 b hb) (h3.addr b hb)⟩
  | _ => exact h
/-- a value that comes into a slot -/
def asgV (own : Bool) : RV → Option RV
  | (d, .fz) => some (d, .fz)
  | (d, .ow) => some (d, if own = true then .ow else .fz)
  | _ => none
theorem SOk.set (h : SOk K B F0 P F σ H env) (s : Same H H') (rv : Res K F H H' v r) {own : Bool} {r1 : RV} (e : asgV own r = some r1) (i : Nat) :
    ∃ P' F', SOk K B F0 P' F' (σ.set i (some v)) H' (env.set i (some r1)) ∧ Stp P F σ H env P' F' (σ.set i (some v)) H' (env.set i (some r1)) := by
  have frozen : ∀ d, Res K F H H' v (d, .fz) → ∃ P' F', SOk K B F0 P' F' (σ.set i (some v)) H' (env.set i (some (d, .fz))) ∧ Stp P F σ H env P' F' (σ.set i (some v)) H' (env.set i (some (d, .fz))) := fun d rv => by
    obtain ⟨L, rp, hl⟩ := rv
    obtain ⟨k1, s1⟩ := h.new s
    obtain ⟨o, c⟩ := k1.ok.set_fz (i := i) rp fun b hb => (hl b hb).imp id fun z => ⟨z, rp.addr b hb⟩
    obtain ⟨k2, s2⟩ := k1.chg c o
    exact ⟨_, _, k2, s1.trans s2⟩
  obtain ⟨d, fl⟩ := r
  cases fl with
  | bw => cases e
  | sc => cases e
  | fz => cases e; exact frozen d rv
  | ow =>
    have e' : some (d, if own = true then Fl.ow else Fl.fz) = some r1 := e
    cases e'
    by_cases ho : own = true
    rotate_left
    · rw [if_neg ho]
      exact frozen d (rv.frz (fun z => nomatch z) (fun z => nomatch z))
    rw [if_pos ho]
    obtain ⟨a, rfl, na, ob⟩ := rv
    have hlen := h.ok.len
    have aH : H' a ≠ none := ob.isn
    -- F'
    refine ⟨fun b => P b ∨ (H b = none ∧ H' b ≠ none ∧ b ≠ a), fun b => F b ∨ (H b = none ∧ H' b ≠ none ∧ b ≠ a), ?_, ?_⟩
    · have nFa : ¬ (F a ∨ (H a = none ∧ H' a ≠ none ∧ a ≠ a)) := fun z => z.elim (fun z => h.ok.dom a z na) fun z => z.2.2 rfl
      have look : ∀ j r0, (env.set i (some (d, .ow)))[j]? = some (some r0) → (i = j ∧ j < σ.length ∧ r0 = (d, .ow) ∧ (σ.set i (some (.ref a)))[j]? = some (some (.ref a))) ∨ (env[j]? = some (some r0) ∧ (σ.set i (some (.ref a)))[j]? = σ[j]?) := fun j r0 e => by
        rw [getElem?_set'] at e ⊢
        rw [hlen] at e
        by_cases c : i = j ∧ j < σ.length
        · rw [if_pos c] at e ⊢
          exact .inl ⟨c.1, c.2, by cases e; rfl, rfl⟩
        · rw [if_neg c] at e ⊢
          exact .inr ⟨e, rfl⟩
      have k0 : Ok K (fun b => F b ∨ (H b = none ∧ H' b ≠ none ∧ b ≠ a)) σ H' env := (h.ok.mono s).grow (fun b z => .inl z) (fun b z => z.elim (fun z => Same.dom s (h.ok.dom b z)) fun z => z.2.1) fun j d a' e e1 z => by
        have := h.ok.own e e1
        exact z.elim this.1 fun z => this.2.1 z.1
      refine ⟨⟨by simp [hlen], k0.dom, fun j r0 e => ?_, fun j k d1 d2 a' hjk e1 e2 e3 e4 => ?_⟩, h.sB.trans s, fun b z => ?_, fun b z => z.imp (h.FP b) id, fun b z => .inl (h.BP b z), fun b z => ?_, fun j d1 a' e e1 z => ?_, fun j d1 a' e e1 => ?_⟩
      · rcases look j r0 e with ⟨_, _, rfl, e2⟩ | ⟨e1, e2⟩
        · exact ⟨_, e2, a, rfl, nFa, ob.impA fun b z w => z.1.imp id fun y => ⟨y, w, z.2⟩⟩
        · obtain ⟨w, e3, sl⟩ := k0.slot j r0 e1
          exact ⟨w, e2.trans e3, sl⟩
      · rcases look j _ e1 with ⟨q1, _, _, q4⟩ | ⟨p1, p2⟩
        · rcases look k _ e2 with ⟨r1, _, _, r4⟩ | ⟨g1, g2⟩
          · exact hjk (q1.symm.trans r1)
          · rw [q4] at e3
            cases e3
            rw [g2] at e4
            exact h.ok.ownA (.inl rfl) g1 e4 na
        · rcases look k _ e2 with ⟨r1, _, _, r4⟩ | ⟨g1, g2⟩
          · rw [r4] at e4
            cases e4
            rw [p2] at e3
            exact h.ok.ownA (.inl rfl) p1 e3 na
          · exact h.ok.sep j k d1 d2 a' hjk p1 g1 (p2.symm.trans e3) (g2.symm.trans e4)
      · exact z.elim (h.fr b) fun z => .inr (h.sB.free z.1)
      · exact z.elim (fun z => Same.dom s (h.Pd b z)) fun z => z.2.1
      · rcases look j _ e with ⟨_, _, _, q4⟩ | ⟨p1, p2⟩
        · rw [q4] at e1
          cases e1
          exact z.elim (fun z => h.Pd a z na) fun z => z.2.2 rfl
        · rw [p2] at e1
          exact z.elim (h.ow j d1 a' p1 e1) fun z => h.ok.ownA (.inl rfl) p1 e1 z.1
      · rcases look j _ e with ⟨_, _, q3, _⟩ | ⟨p1, p2⟩
        · cases q3
        · rw [p2] at e1
          exact .inl (h.bw j d1 a' p1 e1)
    · refine ⟨fun b z => .inl z, fun b z => .inl z, Same.kp s, fun b z => Same.dom s z, fun b z => z.imp id fun z => .inl z.1, fun j d1 e => ?_, List.length_set⟩
      rw [getElem?_set'] at e ⊢
      rw [hlen] at e
      split at e
      · cases e
      · rename_i c
        rw [if_neg c]
        exact ⟨e, rfl⟩
/-- an own value is frozen -/
def fzS (env : En) (i : Nat) : En := match env[i]? with
  | some (some (d, .ow)) => env.set i (some (d, .fz))
  | _ => env
theorem SOk.freeze (h : SOk K B F0 P F σ H env) (i : Nat) : ∃ P' F', SOk K B F0 P' F' σ H (fzS env i) ∧ Stp P F σ H env P' F' σ H (fzS env i) := by
  unfold fzS
  split
  rotate_left
  · exact ⟨P, F, h, Stp.refl⟩
  rename_i d e
  obtain ⟨v, ev, a, rfl, nF, ob⟩ := h.ok.slot i _ e
  obtain ⟨L, rp, hl⟩ := ob.rp
  have nP := h.ow i d a e ev
  have hlen := h.ok.len
  have hL : ∀ b, b = a → H b ≠ none := fun b z => by rw [z]; exact ob.isn
  have look : ∀ j r0, (env.set i (some (d, .fz)))[j]? = some (some r0) → (i = j ∧ r0 = (d, .fz)) ∨ (i ≠ j ∧ env[j]? = some (some r0)) := fun j r0 e1 => by
    rw [getElem?_set'] at e1
    by_cases c : i = j
    · subst c
      have hi : i < env.length := (List.getElem?_eq_some_iff.mp e).1
      rw [if_pos ⟨rfl, hi⟩] at e1
      exact .inl ⟨rfl, by cases e1; rfl⟩
    · rw [if_neg fun z => c z.1] at e1
      exact .inr ⟨c, e1⟩
  have fr : ∀ b, F b ∨ b = a → F0 b ∨ B b = none := fun b z => z.elim (h.fr b) fun z => by
    subst z
    refine .inr ?_
    cases q : B b with
    | none => rfl
    | some o => exact absurd (h.BP b (by rw [q]; exact fun z => nomatch z)) nP
  refine ⟨fun b => P b ∨ b = a, fun b => F b ∨ b = a, ⟨⟨by simp [hlen], fun b z => z.elim (h.ok.dom b) (hL b), fun j r0 e1 => ?_, fun j k d1 d2 a' hjk e1 e2 e3 e4 => ?_⟩, h.sB, fr, fun b z => z.imp (h.FP b) id, fun b z => .inl (h.BP b z), fun b z => z.elim (h.Pd b) (hL b), fun j d1 a' e1 e2 z => ?_, fun j d1 a' e1 e2 => ?_⟩, ?_⟩
  · rcases look j r0 e1 with ⟨rfl, rfl⟩ | ⟨hij, e2⟩
    · exact ⟨_, ev, L, rp, hl⟩
    · obtain ⟨w, e3, sl⟩ := h.ok.slot j r0 e2
      refine ⟨w, e3, ?_⟩
      obtain ⟨d0, fl⟩ := r0
      cases fl with
      | fz => obtain ⟨L, h1, h2⟩ := sl; exact ⟨L, h1, fun b hb => .inl (h2 b hb)⟩
      | ow =>
        obtain ⟨a2, rfl, h2, h3⟩ := sl
        refine ⟨a2, rfl, fun z => z.elim h2 fun z => ?_, h3.imp fun b z => .inl z⟩
        subst z
        exact h.ok.sep i j _ _ _ hij e e2 ev e3
      | bw => obtain ⟨a2, h1, h3⟩ := sl; exact ⟨a2, h1, h3.imp fun b z => .inl z⟩
      | sc => exact sl
  · rcases look j _ e1 with ⟨_, q⟩ | ⟨_, p1⟩
    · cases q
    rcases look k _ e2 with ⟨_, q⟩ | ⟨_, p2⟩
    · cases q
    exact h.ok.sep j k d1 d2 a' hjk p1 p2 e3 e4
  · rcases look j _ e1 with ⟨_, q⟩ | ⟨hij, p1⟩
    · cases q
    rcases z with z | z
    · exact h.ow j d1 a' p1 e2 z
    · subst z
      exact h.ok.sep i j _ _ _ hij e p1 ev e2
  · rcases look j _ e1 with ⟨_, q⟩ | ⟨hij, p1⟩
    · cases q
    exact .inl (h.bw j d1 a' p1 e2)
  · refine ⟨fun b z => .inl z, fun b z => .inl z, Kp.refl, fun b z => z, fun b z => z.imp id fun z => .inr ?_, fun j d1 e1 => ?_, List.length_set⟩
    · subst z; exact nP
    · rcases look j _ e1 with ⟨_, q⟩ | ⟨hij, p1⟩
      · cases q
      · exact ⟨p1, rfl⟩
end

/-! ### readings -/
def Post (D : Ends) (K : PySem.W.Frag) (B : Hp) (F0 P F : Addr → Prop) (σ : L2.St) (H : Hp) (env : En) : Out → Prop
  | .nx e => ∀ P' F' σ' H', SOk K B F0 P' F' σ' H' e → Stp P F σ H env P' F' σ' H' e → D.nx σ' H'
  | .bk e => ∀ P' F' σ' H', SOk K B F0 P' F' σ' H' e → Stp P F σ H env P' F' σ' H' e → D.bk σ' H'
  | .ct e => ∀ P' F' σ' H', SOk K B F0 P' F' σ' H' e → Stp P F σ H env P' F' σ' H' e → D.ct σ' H'
  | .rt r => ∀ v H', Same B H' → Res K F0 B H' v r → D.rt v H'
def TS' (K : PySem.W.Frag) (g : GS) : TS := fun D σ H => ∃ B F0 P F env out, SOk K B F0 P F σ H env ∧ g env = some out ∧ Post D K B F0 P F σ H env out
def VS (X : Cx) (st : Stmt) (g : GS) : Prop := PS X st (TS' X.K g)
def VSs (X : Cx) (st : List Stmt) (g : GS) : Prop := PSs X st (TS' X.K g)
section
variable {K : PySem.W.Frag} {B H H1 H' H2 : Hp} {F0 P F P' F' P2 F2 : Addr → Prop} {σ σ' σ2 : L2.St} {env env' env2 : En} {Dd : Ends} {v : V} {d : D} {r : RV} {out : Out}
theorem Post.step (s : Stp P F σ H env P' F' σ' H' env') (p : Post Dd K B F0 P F σ H env out) : Post Dd K B F0 P' F' σ' H' env' out := by
  cases out with
  | nx e => exact fun P' F' σ' H' h s' => p P' F' σ' H' h (s.trans s')
  | bk e => exact fun P' F' σ' H' h s' => p P' F' σ' H' h (s.trans s')
  | ct e => exact fun P' F' σ' H' h s' => p P' F' σ' H' h (s.trans s')
  | rt r => exact p
theorem SOk.ret (h : SOk K B F0 P F σ H env) (rv : Res K F H H' v r) : Res K F0 B H' v r := (rv.back h.sB).imp h.fr
end
section
variable {X : Cx} {st : Stmt} {rest a b : List Stmt} {ga gr gb : GS} {pos : Pos}
theorem PS.to {t t' : TS} (h : PS X st t) (i : ∀ D σ H, t' D σ H → t D σ H) : PS X st t' := ⟨fun pins s σ H D I w => h.run pins s σ H D I (i D σ H w)⟩
theorem PSs.to {t t' : TS} (h : PSs X rest t) (i : ∀ D σ H, t' D σ H → t D σ H) : PSs X rest t' := ⟨fun pins s σ H D I w => h.run pins s σ H D I (i D σ H w)⟩
def sSkip : GS := fun env => some (.nx env)
def sSeq (g h : GS) : GS := fun env => (g env).bind fun o => match o with
  | .nx e => h e
  | o => some o
theorem vss_nil : VSs X [] sSkip := PSs.to pss_nil fun D σ H ⟨B, F0, P, F, env, out, h, e, p⟩ => by
  cases e
  exact p P F σ H h Stp.refl
theorem vs_pass : VS X (.Pass pos) sSkip := PS.to ps_pass fun D σ H ⟨B, F0, P, F, env, out, h, e, p⟩ => by
  cases e
  exact p P F σ H h Stp.refl
def sBk : GS := fun env => some (.bk env)
def sCt : GS := fun env => some (.ct env)
theorem vs_break : VS X (.Break pos) sBk := PS.to ps_break fun D σ H ⟨B, F0, P, F, env, out, h, e, p⟩ => by
  cases e
  exact p P F σ H h Stp.refl
theorem vs_continue : VS X (.Continue pos) sCt := PS.to ps_continue fun D σ H ⟨B, F0, P, F, env, out, h, e, p⟩ => by
  cases e
  exact p P F σ H h Stp.refl
theorem vss_cons (h1 : VS X st ga) (h2 : VSs X rest gr) : VSs X (st :: rest) (sSeq ga gr) := PSs.to (pss_cons h1 h2) fun D σ H ⟨B, F0, P, F, env, out, h, e, p⟩ => by
  obtain ⟨o, e1, e2⟩ := bind2 e
  refine ⟨B, F0, P, F, env, o, h, e1, ?_⟩
  cases o with
  | nx e3 => exact fun P' F' σ' H' h' s' => ⟨B, F0, P', F', e3, out, h', e2, p.step s'⟩
  | bk _ => cases e2; exact p
  | ct _ => cases e2; exact p
  | rt _ => cases e2; exact p
theorem vss_one (h1 : VS X st ga) : VSs X [st] ga := pss_one h1
/-- own values frozen ahead of a statement -/
def sPre (i : Nat) (g : GS) : GS := fun env => g (fzS env i)
theorem TS'.pre {K : PySem.W.Frag} {g : GS} {D : Ends} {σ : L2.St} {H : Hp} {i : Nat} (h : TS' K (sPre i g) D σ H) : TS' K g D σ H := by
  obtain ⟨B, F0, P, F, env, out, h, e, p⟩ := h
  obtain ⟨P', F', h', s'⟩ := h.freeze i
  exact ⟨B, F0, P', F', _, out, h', e, p.step s'⟩
theorem vs_pre (i : Nat) (h : VS X st ga) : VS X st (sPre i ga) := PS.to h fun D σ H q => q.pre
/-- slots forgotten behind a statement -/
def fgO (ws : List Nat) : Out → Out
  | .nx e => .nx (wipeE e ws)
  | o => o
def sFg (ws : List Nat) (g : GS) : GS := fun env => (g env).map (fgO ws)
theorem vs_fg (ws : List Nat) (h : VS X st ga) : VS X st (sFg ws ga) := PS.to h fun D σ H ⟨B, F0, P, F, env, out, h, e, p⟩ => by
  unfold sFg at e
  cases e1 : ga env with
  | none => rw [e1] at e; cases e
  | some o =>
    rw [e1] at e
    cases e
    refine ⟨B, F0, P, F, env, o, h, e1, ?_⟩
    cases o with
    | nx e => exact fun P' F' σ' H' h' s' => p P' F' σ' H' (h'.forget ws).1 (s'.trans (h'.forget ws).2)
    | bk _ => exact p
    | ct _ => exact p
    | rt _ => exact p
def sIf (c : GB) (g h : GS) : GS := fun env => (c env).bind fun k => if k = true then g env else h env
theorem vs_if {c : Expr} {gc : GB} (hc : VB X c gc) (ha : VSs X a ga) (hb : VSs X b gb) : VS X (.If c a b pos) (sIf gc ga gb) := PS.to (ps_if hc ha hb) fun D σ H ⟨B, F0, P, F, env, out, h, e, p⟩ => by
  obtain ⟨k, e1, e2⟩ := bind2 e
  refine ⟨F, env, k, h.ok, e1, fun H' s _ => ?_⟩
  have h' := h.later s
  have p' := p.step (Stp.later (P := P) (F := F) (σ := σ) (env := env) s)
  cases k with
  | true => exact iteT ⟨B, F0, P, F, env, out, h', e2, p'⟩
  | false => exact iteF ⟨B, F0, P, F, env, out, h', e2, p'⟩
/-! return -/
def retV : RV → Option RV
  | (d, .fz) => some (d, .fz)
  | (d, .ow) => some (d, .ow)
  | _ => none
def sRet (g : GE) : GS := fun env => ((g env).bind retV).map .rt
theorem retV_of {r r' : RV} (h : retV r = some r') : r' = r := by
  obtain ⟨d, f⟩ := r
  cases f <;> cases h <;> rfl
theorem vs_ret {e : Expr} {g : GE} (he : VE X e g) : VS X (.Return (some e) pos) (sRet g) := PS.to (ps_ret he) fun D σ H ⟨B, F0, P, F, env, out, h, e, p⟩ => by
  unfold sRet at e
  cases e1 : (g env).bind retV with
  | none => rw [e1] at e; cases e
  | some r =>
    rw [e1] at e
    cases e
    obtain ⟨r0, e2, e3⟩ := bind2 e1
    cases retV_of e3
    exact ⟨F, env, _, h.ok, e2, fun v H' s _ rv => p v H' (h.sB.trans s) (h.ret rv)⟩
def sRetN : GS := fun _ => some (.rt (.none, .fz))
theorem vs_retN : VS X (.Return none pos) sRetN := PS.to ps_retN fun D σ H ⟨B, F0, P, F, env, out, h, e, p⟩ => by
  cases e
  exact p .non H h.sB Res.ofNone
/-- return of a name whose own value goes out -/
def sRetM (i : Nat) : GS := fun env => match env[i]? with
  | some (some (d, .ow)) => some (.rt (d, .ow))
  | some (some (d, .fz)) => some (.rt (d, .fz))
  | _ => none
theorem vs_retM (i : Nat) {x : Str} {p2 : Pos} (hN : X.N[i]? = some x := by rfl) (hv : Vis X.env.scope x := by first | exact Or.inl rfl | exact Or.inr (Or.inl rfl) | exact Or.inr (Or.inr rfl)) (hd : (x == ("__debug__" : Str)) = false := by decide)
    (hcd : (x == ("__classdict__" : Str)) = false := by decide) : VS X (.Return (some (.Name x p2)) pos) (sRetM i) := PS.to (ps_ret (pe_var hN hv hd hcd)) fun D σ H ⟨B, F0, P, F, env, out, h, e, p⟩ => by
  unfold sRetM at e
  split at e
  · rename_i d e1
    cases e
    obtain ⟨v, e2, a, rfl, nF, ob⟩ := h.ok.slot i _ e1
    refine ⟨_, e2, p _ H h.sB ⟨a, rfl, ?_, ob.imp fun b hb => ⟨h.fr b hb, fun z => nF (by rw [← z]; exact hb)⟩⟩⟩
    cases q : B a with
    | none => rfl
    | some o => exact absurd (h.BP a (by rw [q]; exact fun z => nomatch z)) (h.ow i d a e1 e2)
  · rename_i d e1
    cases e
    obtain ⟨v, e2, L, rp, hl⟩ := h.ok.slot i _ e1
    exact ⟨_, e2, p _ H h.sB ⟨L, rp, fun b hb => h.fr b (hl b hb)⟩⟩
  · cases e
/-! name = value -/
def sAsg (i : Nat) (own : Bool) (g : GE) : GS := fun env => ((g env).bind (asgV own)).map fun r => .nx (env.set i (some r))
theorem asg_reads {K : PySem.W.Frag} {i : Nat} {own : Bool} {g : GE} {D : Ends} {σ : L2.St} {H : Hp} (h : TS' K (sAsg i own g) D σ H) :
    ∃ F env r, Ok K F σ H env ∧ g env = some r ∧ ∀ v H', Same H H' → Res K F H H' v r → D.nx (σ.set i (some v)) H' := by
  obtain ⟨B, F0, P, F, env, out, h, e, p⟩ := h
  unfold sAsg at e
  cases e1 : (g env).bind (asgV own) with
  | none => rw [e1] at e; cases e
  | some r1 =>
    rw [e1] at e
    cases e
    obtain ⟨r, e2, e3⟩ := bind2 e1
    refine ⟨F, env, r, h.ok, e2, fun v H' s rv => ?_⟩
    obtain ⟨P', F', k, st⟩ := h.set s rv e3 i
    exact p P' F' _ H' k st
theorem vs_asg (i : Nat) (own : Bool) {x : Str} {e : Expr} {g : GE} {pos' : Pos} (hN : X.N.Nodup) (he : VE X e g) (hi : X.N[i]? = some x := by rfl) (hx : Loc X.env.scope x := by first | exact Or.inl rfl | exact Or.inr rfl) (hs : swapsWith e (some (.Name x pos')) pos.line X.env = pure false := by rfl)
    (hf : X.fn x = true ∨ X.env.scope.names.lookup x = some .local := by first | exact .inl rfl | exact .inr rfl) : VS X (.Assign [.Name x pos'] e pos) (sAsg i own g) :=
  PS.to (ps_set hN hi hx he hs hf) fun D σ H q => by
    obtain ⟨F, env, r, ok, e1, p⟩ := asg_reads q
    exact ⟨F, env, r, ok, e1, fun v H' s _ rv => p v H' s rv⟩
theorem vs_asgLc (i : Nat) (own : Bool) {y : Str} {py : Pos} {elt tge iter : Expr} {ifs : List Expr} {scope : Scope} {ownL : List (Str × Nat)} {pos spos : Pos} {src : Src} {tg : Tg} {tt : GB} {te : GE} (hc : X.calm = true) (hN : X.N.Nodup)
    (hi : VI X tge iter src) (ok : BlkOk X.N X.env.scope scope ownL) (hv : memAll tg.vars (ownL.map (·.2)) = true)
    (hg : Blk X scope fun Y => VG Y tge tg) (ht : Blk X scope fun Y => VTs Y ifs tt) (he : Blk X scope fun Y => VE Y elt te) (hy : X.N[i]? = some y := by rfl) (hyl : X.env.scope.names.lookup y = some .local := by rfl)
    (hsw : swapsWith (.ListComp elt [⟨tge, iter, ifs, 0⟩] scope pos) (some (.Name y py)) spos.line X.env = pure true := by first | exact sw_true rfl rfl rfl rfl | rfl) (hs : ∀ x, foldedSetIterable iter X.env x = pure x := by intro _; rfl) :
    VS X (.Assign [.Name y py] (.ListComp elt [⟨tge, iter, ifs, 0⟩] scope pos) spos) (sAsg i own (eLc (ownL.map (·.2)) tg src tt te)) :=
  PS.to (ps_setLc (g := TG' X.K tg) (tt := TB' X.K tt) (te := TE' X.K te) hc hN hy hyl hsw hi ok (fun s H C cl fp => hg s H C cl fp) (fun s H C cl fp => ht s H C cl fp) (fun s H C cl fp => he s H C cl fp) hs) fun D σ H q => by
    obtain ⟨F, env, r, ok, e1, p⟩ := asg_reads q
    exact lc_reads ok (memAll_of hv) e1 fun v H' s rv => p v H' s rv
theorem vs_asgLc2 (i : Nat) (own : Bool) {y : Str} {py : Pos} {elt tge iter tge1 iter1 : Expr} {ifs ifs1 : List Expr} {scope : Scope} {ownL : List (Str × Nat)} {own1 : List Nat} {pos spos : Pos} {src src1 : Src} {tg tg1 : Tg} {tt tt1 : GB} {te : GE} (hc : X.calm = true) (hN : X.N.Nodup)
    (hi : VI X tge iter src) (ok : BlkOk X.N X.env.scope scope ownL) (ho : memAll own1 (ownL.map (·.2)) = true) (hv : memAll tg.vars (ownL.map (·.2)) = true) (hv1 : memAll tg1.vars own1 = true)
    (hg : Blk X scope fun Y => VG Y tge tg) (ht : Blk X scope fun Y => VTs Y ifs tt) (hi1 : Blk X scope fun Y => VI Y tge1 iter1 src1) (hg1 : Blk X scope fun Y => VG Y tge1 tg1) (ht1 : Blk X scope fun Y => VTs Y ifs1 tt1) (he : Blk X scope fun Y => VE Y elt te)
    (hy : X.N[i]? = some y := by rfl) (hyl : X.env.scope.names.lookup y = some .local := by rfl)
    (hsw : swapsWith (.ListComp elt [⟨tge, iter, ifs, 0⟩, ⟨tge1, iter1, ifs1, 0⟩] scope pos) (some (.Name y py)) spos.line X.env = pure true := by first | exact sw_true rfl rfl rfl rfl | rfl)
    (hs : ∀ x, foldedSetIterable iter X.env x = pure x := by intro _; rfl) (hs1 : ∀ env x, foldedSetIterable iter1 env x = pure x := by intro _ _; rfl) :
    VS X (.Assign [.Name y py] (.ListComp elt [⟨tge, iter, ifs, 0⟩, ⟨tge1, iter1, ifs1, 0⟩] scope pos) spos) (sAsg i own (eLc2 (ownL.map (·.2)) own1 tg src tt tg1 src1 tt1 te)) :=
  PS.to (ps_setLc2 (g := TG' X.K tg) (tt := TB' X.K tt) (wi1 := TI' X.K src1) (g1 := TG' X.K tg1) (tt1 := TB' X.K tt1) (te := TE' X.K te) hc hN hy hyl hsw hi ok (memAll_of ho) (fun s H C cl fp => hg s H C cl fp) (fun s H C cl fp => ht s H C cl fp)
    (fun s H C cl fp => hi1 s H C cl fp) (fun s H C cl fp => hg1 s H C cl fp) (fun s H C cl fp => ht1 s H C cl fp) (fun s H C cl fp => he s H C cl fp) hs hs1) fun D σ H q => by
    obtain ⟨F, env, r, ok, e1, p⟩ := asg_reads q
    exact lc2_reads ok (memAll_of hv) (memAll_of hv1) e1 fun v H' s rv => p v H' s rv
/-! a, b = value -/
def sAsgT (tg : Tg) (g : GE) : GS := fun env => (g env).bind fun r => if plainFl r.2 = true then (asT tg r.1 env).map .nx else none
theorem vs_asgT {tge e : Expr} {tg : Tg} {g : GE} (he : VE X e g) (hg : VG X tge tg) (hs : swapsWithSole [tge] e pos.line X.env = pure false := by rfl) (hw : swappedStores [tge] e X.env = pure none := by rfl)
    (h1 : (assignEach [tge] X.env).map (·.2) = [assign tge X.env] := by rfl) : VS X (.Assign [tge] e pos) (sAsgT tg g) :=
  PS.to (ps_asg he hg hs hw h1) fun D σ H ⟨B, F0, P, F, env, out, h, e, p⟩ => by
    obtain ⟨r, e1, e2⟩ := bind2 e
    split at e2
    rotate_left
    · cases e2
    rename_i hp
    obtain ⟨d, fl⟩ := r
    obtain ⟨n1, n2⟩ := plain_ne hp
    cases e3 : asT tg d env with
    | none =>
      have e2' : (asT tg d env).map Out.nx = some out := e2
      rw [e3] at e2'; cases e2'
    | some env' =>
      have e2' : (asT tg d env).map Out.nx = some out := e2
      rw [e3] at e2'
      cases e2'
      refine ⟨F, env, _, h.ok, e1, fun v H' s _ rv => ?_⟩
      obtain ⟨L, rp, hl⟩ := rv.frz n1 n2
      obtain ⟨k1, s1⟩ := h.new s
      refine ⟨_, env, env', d, L, k1.ok, rp, fun b hb => (hl b hb).imp id fun z => ⟨z, rp.addr b hb⟩, e3, fun σ' c o => ?_⟩
      obtain ⟨k2, s2⟩ := k1.chg c o
      exact p _ _ _ _ k2 (s1.trans s2)
end
end Pl

set_option Elab.async false
set_option linter.all false
set_option maxRecDepth 100000
set_option maxHeartbeats 4000000
/-! Pl8: statements that write, several targets, loops -/
namespace Pl
open PySem PySem.Spec PyProof.Rows L2

/-! ### several names at once -/
def parE : List (Nat × Bool) → List RV → En → Option En
  | [], [], env => some env
  | (i, o) :: ts, r :: rs, env => (asgV o r).bind fun r1 => parE ts rs (env.set i (some r1))
  | _, _, _ => none
def setAll : L2.St → List Nat → List V → L2.St
  | σ, i :: is, v :: vs => setAll (σ.set i (some v)) is vs
  | σ, _, _ => σ
theorem ResL.imp {K} {F F' : Addr → Prop} (g : ∀ b, F b → F' b) : ∀ {H H' : Hp} {vs : List V} {rs : List RV}, ResL K F H H' vs rs → ResL K F' H H' vs rs
  | _, _, _, _, .nil s => .nil s
  | _, _, _, _, .cons s r t => .cons s (r.imp fun b z => .inl (g b z)) (ResL.imp g t)
theorem parE_len : ∀ (ts : List (Nat × Bool)) (rs : List RV) (env env' : En), parE ts rs env = some env' → rs.length = ts.length
  | [], [], _, _, _ => rfl
  | [], _ :: _, _, _, h => by simp [parE] at h
  | _ :: _, [], _, _, h => by simp [parE] at h
  | (i, o) :: ts, r :: rs, env, env', h => by
    rw [parE] at h
    obtain ⟨r1, _, h2⟩ := bind2 h
    simp [parE_len ts rs _ _ h2]
section
variable {K : PySem.W.Frag} {B : Hp} {F0 : Addr → Prop}
theorem SOk.par : ∀ (ts : List (Nat × Bool)) (rs : List RV) {vs : List V} {env env' : En} {P F : Addr → Prop} {σ : L2.St} {H H1 : Hp}, SOk K B F0 P F σ H env → ResL K F H H1 vs rs → parE ts rs env = some env' →
    ∃ P' F', SOk K B F0 P' F' (setAll σ (ts.map (·.1)) vs) H1 env' ∧ Stp P F σ H env P' F' (setAll σ (ts.map (·.1)) vs) H1 env'
  | [], [], _, _, _, P, F, _, _, _, h, .nil s, e => by
    rw [parE] at e
    cases e
    exact ⟨P, F, h.later s, Stp.later s⟩
  | [], _ :: _, _, _, _, _, _, _, _, _, _, _, e => by simp [parE] at e
  | _ :: _, [], _, _, _, _, _, _, _, _, _, _, e => by simp [parE] at e
  | (i, o) :: ts, r :: rs, _, _, _, _, _, _, _, _, h, .cons s rv t, e => by
    rw [parE] at e
    obtain ⟨r1, e1, e2⟩ := bind2 e
    obtain ⟨P1, F1, k1, s1⟩ := h.set s rv e1 i
    obtain ⟨P2, F2, k2, s2⟩ := SOk.par ts rs k1 (t.imp s1.pF) e2
    exact ⟨P2, F2, k2, s1.trans s2⟩
end
def sPar (ts : List (Nat × Bool)) (g : GA) : GS := fun env => ((g env).bind fun rs => parE ts rs env).map .nx
theorem par_reads {K : PySem.W.Frag} {ts : List (Nat × Bool)} {g : GA} {D : Ends} {σ : L2.St} {H : Hp} (h : TS' K (sPar ts g) D σ H) :
    ∃ F env rs, Ok K F σ H env ∧ g env = some rs ∧ rs.length = ts.length ∧ ∀ vs H1 H2, ResL K F H H1 vs rs → Same H1 H2 → D.nx (setAll σ (ts.map (·.1)) vs) H2 := by
  obtain ⟨B, F0, P, F, env, out, h, e, p⟩ := h
  unfold sPar at e
  cases e1 : (g env).bind fun rs => parE ts rs env with
  | none => rw [e1] at e; cases e
  | some env' =>
    rw [e1] at e
    cases e
    obtain ⟨rs, e2, e3⟩ := bind2 e1
    refine ⟨F, env, rs, h.ok, e2, parE_len _ _ _ _ e3, fun vs H1 H2 rl s => ?_⟩
    obtain ⟨P', F', k, st⟩ := h.par ts rs rl e3
    exact p P' F' _ H2 (k.later s) (st.trans (Stp.later s))
def gNs : List Nat → TGs
  | [] => gNil
  | i :: is => gCons (gName i) (gNs is)
theorem gNs_run {H : Hp} {Q : L2.St → Hp → Prop} : ∀ (is : List Nat) (vs : List V) (σ : L2.St), vs.length = is.length → Q (setAll σ is vs) H → gNs is vs σ H Q
  | [], [], _, _, q => ⟨rfl, q⟩
  | [], _ :: _, _, h, _ => by simp at h
  | _ :: _, [], _, h, _ => by simp at h
  | i :: is, v :: vs, σ, h, q => ⟨v, vs, rfl, gNs_run is vs (σ.set i (some v)) (by simpa using h) q⟩
section
variable {X : Cx} {pos : Pos} {g : GA}
theorem pgn_nil : PGs X [] (gNs []) := pgs_nil
theorem pgn_cons {e : Expr} {es : List Expr} {i : Nat} {is : List Nat} (h : PG X e (gName i)) (h' : PGs X es (gNs is)) (hs : (assignEach (e :: es) X.env).map (·.2) = assign e X.env :: (assignEach es X.env).map (·.2) := by rfl) : PGs X (e :: es) (gNs (i :: is)) := pgs_cons h h' hs
theorem pgn_name (i : Nat) {x : Str} (hN : X.N.Nodup) (hi : X.N[i]? = some x := by rfl) (hx : Loc X.env.scope x := by first | exact Or.inl rfl | exact Or.inr rfl) (hf : X.fn x = true ∨ X.env.scope.names.lookup x = some .local := by first | exact .inl rfl | exact .inr rfl) : PG X (.Name x pos) (gName i) := pg_name hN hi hx hf
theorem vs_par2 {i j : Nat} {o1 o2 : Bool} {x y : Str} {a b : Expr} {px py pt : Pos} {kt k2 pt2} (hc : X.calm = true) (hN : X.N.Nodup) (ha : VA X [a, b] g) (hi : X.N[i]? = some x := by rfl) (hj : X.N[j]? = some y := by rfl) (hij : i ≠ j := by decide)
    (hx : X.env.scope.names.lookup x = some .local := by rfl) (hy : X.env.scope.names.lookup y = some .local := by rfl)
    (hw : swappedStores [.Tuple [.Name x px, .Name y py] kt pt] (.Tuple [a, b] k2 pt2) X.env = pure (some [x, y]) := by rfl)
    (hs : swapsWithSole [.Tuple [.Name x px, .Name y py] kt pt] (.Tuple [a, b] k2 pt2) pos.line X.env = pure false := by rfl) :
    VS X (.Assign [.Tuple [.Name x px, .Name y py] kt pt] (.Tuple [a, b] k2 pt2) pos) (sPar [(i, o1), (j, o2)] g) :=
  PS.to (ps_par hc hN hi hj hij hx hy ha hw hs) fun D σ H q => by
    obtain ⟨F, env, rs, ok, e, hl, p⟩ := par_reads q
    refine ⟨F, env, rs, ok, e, fun vs H' rl => ?_⟩
    have hv := rl.length.trans hl
    match vs, hv, rl with
    | [v, w], _, rl => exact ⟨v, w, rfl, p _ _ _ rl (Same.refl _)⟩
theorem vs_par3 {i j l : Nat} {o1 o2 o3 : Bool} {x y z : Str} {a b c : Expr} {px py pz pt : Pos} {kt k2 pt2} (hc : X.calm = true) (hN : X.N.Nodup) (ha : VA X [a, b, c] g) (hi : X.N[i]? = some x := by rfl) (hj : X.N[j]? = some y := by rfl) (hl : X.N[l]? = some z := by rfl) (hij : i ≠ j := by decide) (hil : i ≠ l := by decide) (hjl : j ≠ l := by decide)
    (hx : X.env.scope.names.lookup x = some .local := by rfl) (hy : X.env.scope.names.lookup y = some .local := by rfl) (hz : X.env.scope.names.lookup z = some .local := by rfl)
    (hw : swappedStores [.Tuple [.Name x px, .Name y py, .Name z pz] kt pt] (.Tuple [a, b, c] k2 pt2) X.env = pure (some [x, y, z]) := by rfl)
    (hs : swapsWithSole [.Tuple [.Name x px, .Name y py, .Name z pz] kt pt] (.Tuple [a, b, c] k2 pt2) pos.line X.env = pure false := by rfl) :
    VS X (.Assign [.Tuple [.Name x px, .Name y py, .Name z pz] kt pt] (.Tuple [a, b, c] k2 pt2) pos) (sPar [(i, o1), (j, o2), (l, o3)] g) :=
  PS.to (ps_par3 hc hN hi hj hl hij hil hjl hx hy hz ha hw hs) fun D σ H q => by
    obtain ⟨F, env, rs, ok, e, hl, p⟩ := par_reads q
    refine ⟨F, env, rs, ok, e, fun vs H' rl => ?_⟩
    have hv := rl.length.trans hl
    match vs, hv, rl with
    | [v, w, u], _, rl => exact ⟨v, w, u, rfl, p _ _ _ rl (Same.refl _)⟩
theorem vs_parN {ts : List (Nat × Bool)} {tgs es : List Expr} {pt : Pos} {kt k2 pt2} (hc : X.calm = true) (ha : VA X es g) (hg : PGs X tgs (gNs (ts.map (·.1)))) (hz : ts.length ≤ 16777216 := by decide)
    (hn : (assignEach tgs X.env).length = ts.length := by rfl) (hst : (assignEach tgs X.env).findIdx? (·.1) = none := by rfl)
    (hs : swapsWithSole [.Tuple tgs kt pt] (.Tuple es k2 pt2) pos.line X.env = pure false := by rfl) (hw : swappedStores [.Tuple tgs kt pt] (.Tuple es k2 pt2) X.env = pure none := by rfl)
    (h1 : (assignEach [.Tuple tgs kt pt] X.env).map (·.2) = [assign (.Tuple tgs kt pt) X.env] := by rfl) : VS X (.Assign [.Tuple tgs kt pt] (.Tuple es k2 pt2) pos) (sPar ts g) :=
  PS.to (ps_asg (pe_tup ha) (pg_tup (n := ts.length) hc hg hn hst) hs hw h1) fun D σ H q => by
    obtain ⟨F, env, rs, ok, e, hl, p⟩ := par_reads q
    refine ⟨F, env, rs, ok, e, fun vs H' rl => ⟨by rw [rl.length, hl, sizeLine_eq]; exact hz, fun a n => ?_⟩⟩
    exact ⟨a, vs, rfl, .inl (.inl upd_same), rl.length.trans hl, gNs_run _ _ _ (by simpa using rl.length.trans hl) (p _ _ _ rl (same_new n))⟩
end

/-! ### writing an own list -/
section
variable {K : PySem.W.Frag} {B H H1 H' H2 : Hp} {F0 P F P' F' P2 F2 : Addr → Prop} {σ σ' σ2 : L2.St} {env env' env2 : En} {Dd : Ends} {v : V} {d d' : D} {r : RV} {a : Addr} {o u : HO} {i : Nat}
theorem mut_sqt (h : H a = some u) (m : Mut (some u)) : ∀ b zs, SqT K H b zs → SqT K (upd H a o) b zs := fun b zs q => by
  have ne : ∀ w, H b = some w → ¬ Mut (some w) → b ≠ a := fun w e n z => by
    subst z
    rw [h] at e
    cases e
    exact n m
  rcases q with (q | ⟨w, q⟩) | q
  · exact .inl (.inl (by rw [upd_ne (ne _ q not_mut_tup)]; exact q))
  · exact .inl (.inr ⟨w, by rw [upd_ne (ne _ q not_mut_frz)]; exact q⟩)
  · exact .inr q
theorem Obj1.mut {G : Addr → Prop} (h : Obj1 K G H a d) : ∃ u, H a = some u ∧ Mut (some u) := by
  cases d with
  | list ds => obtain ⟨vs, L, h1, _⟩ := h; exact ⟨_, h1, trivial⟩
  | dict ds => rcases h with ⟨vs, L, h1, _⟩ | ⟨vs, L, h1, _⟩ <;> exact ⟨_, h1, trivial⟩
  | _ => exact h.elim
theorem SOk.mut (h : SOk K B F0 P F σ H env) (e : env[i]? = some (some (d, .ow))) (e1 : σ[i]? = some (some (.ref a))) (ob : Obj1 K F (upd H a o) a d') :
    SOk K B F0 P F σ (upd H a o) (env.set i (some (d', .ow))) ∧ Stp P F σ H env P F σ (upd H a o) (env.set i (some (d', .ow))) := by
  obtain ⟨v, ev, a', rfl, nF, ob0⟩ := h.ok.slot i _ e
  rw [ev] at e1
  cases e1
  have nP := h.ow i d a e ev
  obtain ⟨u, hu, mu⟩ := ob0.mut
  have sqt := mut_sqt (K := K) (o := o) hu mu
  have kF : ∀ b, F b → ∀ w, H b = some w → (upd H a o) b = some w := fun b hb w q => by
    rw [upd_ne (fun z => nF (by rw [← z]; exact hb))]; exact q
  have hi : i < env.length := (List.getElem?_eq_some_iff.mp e).1
  have look : ∀ j r0, (env.set i (some (d', .ow)))[j]? = some (some r0) → (i = j ∧ r0 = (d', .ow)) ∨ (i ≠ j ∧ env[j]? = some (some r0)) := fun j r0 e1 => by
    rw [getElem?_set'] at e1
    by_cases c : i = j
    · subst c
      rw [if_pos ⟨rfl, hi⟩] at e1
      exact .inl ⟨rfl, by cases e1; rfl⟩
    · rw [if_neg fun z => c z.1] at e1
      exact .inr ⟨c, e1⟩
  have dm : ∀ b, H b ≠ none → (upd H a o) b ≠ none := fun b z => by
    by_cases c : b = a
    · subst c; rw [upd_same]; exact fun z => nomatch z
    · rw [upd_ne c]; exact z
  have kP : Kp P H (upd H a o) := fun b w q m => by
    rw [upd_ne ?_]
    · exact q
    · rintro rfl
      rw [hu] at q
      cases q
      exact m.elim nP fun m => m mu
  refine ⟨⟨⟨by rw [List.length_set]; exact h.ok.len, fun b z => dm b (h.ok.dom b z), fun j r0 e1 => ?_, fun j k d1 d2 a' hjk e1 e2 e3 e4 => ?_⟩, ?_, h.fr, h.FP, h.BP, fun b z => dm b (h.Pd b z), fun j d1 a' e1 e2 => ?_, fun j d1 a' e1 e2 => ?_⟩, fun _ z => z, fun _ z => z, kP, dm, fun _ z => .inl z, fun j d1 e1 => ?_, List.length_set⟩
  · rcases look j r0 e1 with ⟨rfl, rfl⟩ | ⟨hij, e2⟩
    · exact ⟨_, ev, a, rfl, nF, ob⟩
    · obtain ⟨w, e3, sl⟩ := h.ok.slot j r0 e2
      refine ⟨w, e3, ?_⟩
      obtain ⟨d0, fl⟩ := r0
      cases fl with
      | fz => obtain ⟨L, h1, h2⟩ := sl; exact ⟨L, h1.keep sqt d0 fun b hb => kF b (h2 b hb), h2⟩
      | ow =>
        obtain ⟨a2, rfl, h2, h3⟩ := sl
        have na : a2 ≠ a := fun z => h.ok.sep i j _ _ _ hij e e2 ev (z ▸ e3)
        exact ⟨a2, rfl, h2, h3.keep sqt (fun w q => by rw [upd_ne na]; exact q) kF⟩
      | bw =>
        obtain ⟨a2, rfl, h3⟩ := sl
        have na : a2 ≠ a := fun z => nP (z ▸ h.bw j _ _ e2 e3)
        exact ⟨a2, rfl, h3.keep sqt (fun w q => by rw [upd_ne na]; exact q) kF⟩
      | sc =>
        obtain ⟨a2, ns, h1, h2, h3⟩ := sl
        exact ⟨a2, ns, h1, h2, h3.imp (fun ⟨w, q⟩ => ⟨w, kP _ _ q (.inr not_mut_frz)⟩) id⟩
  · rcases look j _ e1 with ⟨rfl, q⟩ | ⟨c1, p1⟩
    · rcases look k _ e2 with ⟨rfl, _⟩ | ⟨c2, p2⟩
      · exact hjk rfl
      · exact h.ok.sep i k _ _ _ hjk e p2 e3 e4
    · rcases look k _ e2 with ⟨rfl, _⟩ | ⟨c2, p2⟩
      · exact h.ok.sep j i _ _ _ hjk p1 e e3 e4
      · exact h.ok.sep j k _ _ _ hjk p1 p2 e3 e4
  · intro b w q
    have nb : b ≠ a := fun z => nP (by rw [← z]; exact h.BP b (by rw [q]; exact fun z => nomatch z))
    rw [upd_ne nb]
    exact h.sB _ _ q
  · rcases look j _ e1 with ⟨rfl, q⟩ | ⟨c1, p1⟩
    · rw [ev] at e2; cases e2; exact nP
    · exact h.ow j d1 a' p1 e2
  · rcases look j _ e1 with ⟨rfl, q⟩ | ⟨c1, p1⟩
    · cases q
    · exact h.bw j d1 a' p1 e2
  · rcases look j _ e1 with ⟨rfl, q⟩ | ⟨c1, p1⟩
    · cases q
    · exact ⟨p1, rfl⟩
/-- the list at a slot, as it stands -/
theorem SOk.lst {ds : List D} (h : SOk K B F0 P F σ H env) (e : env[i]? = some (some (.list ds, .ow))) : ∃ a vs L, σ[i]? = some (some (.ref a)) ∧ H a = some (.lst vs) ∧ RpA K H vs ds L ∧ (∀ b ∈ L, F b) ∧ ¬ F a := by
  obtain ⟨v, ev, a, rfl, nF, vs, L, h1, h2, h3⟩ := h.ok.slot i _ e
  exact ⟨a, vs, L, ev, h1, h2, h3, nF⟩
theorem Obj1.lst {ws : List V} {es : List D} {L : List Addr} (hm : Mut (H a)) (nF : ¬ F a) (ra : RpA K H ws es L) (hl : ∀ b ∈ L, F b) : Obj1 K F (upd H a (.lst ws)) a (.list es) := by
  cases q : H a with
  | none => rw [q] at hm; exact hm.elim
  | some u =>
    rw [q] at hm
    exact ⟨ws, L, upd_same, ra.keep (mut_sqt q hm) es fun b hb w e => by rw [upd_ne (fun z => nF (by rw [← z]; exact hl b hb))]; exact e, hl⟩
end
section
variable {X : Cx} {x : Str} {p pos apos cpos : Pos} {e ix : Expr} {g gi : GE} {t : GA}
abbrev mL (env : En) (i : Nat) (f : List D → Option (List D)) : Option Out := match env[i]? with
  | some (some (.list ds, .ow)) => (f ds).map fun es => .nx (env.set i (some (.list es, .ow)))
  | _ => none
theorem mL_of {env : En} {i : Nat} {f : List D → Option (List D)} {out : Out} (h : mL env i f = some out) : ∃ ds es, env[i]? = some (some (.list ds, .ow)) ∧ f ds = some es ∧ out = .nx (env.set i (some (.list es, .ow))) := by
  unfold mL at h
  split at h
  · rename_i ds e
    cases e2 : f ds with
    | none => rw [e2] at h; cases h
    | some es => rw [e2] at h; cases h; exact ⟨ds, es, e, e2, rfl⟩
  · cases h
/-- x.append(e) -/
def sApp (i : Nat) (t : GA) : GS := fun env => (t env).bind fun rs => match rs with
  | [(d, f)] => mL env i fun ds => if plainFl f = true ∧ ds.length < 16777216 then some (ds ++ [d]) else none
  | _ => none
theorem tyl {K : PySem.W.Frag} {H : Hp} {a : Addr} {vs : List V} (h : H a = some (.lst vs)) : tyV K "list" (.ref a) H := .inl ⟨rfl, vs, .inl (.inl h)⟩
theorem SOk.lstMut {K : PySem.W.Frag} {B H H1 : Hp} {F0 P F : Addr → Prop} {σ : L2.St} {env : En} {i : Nat} {ds : List D} {En0 : Ends} (h : SOk K B F0 P F σ H env) (s : Same H H1) (e : env[i]? = some (some (.list ds, .ow))) {es : List D} (p : Post En0 K B F0 P F σ H env (.nx (env.set i (some (.list es, .ow))))) :
    ∃ a vs L, σ[i]? = some (some (.ref a)) ∧ H1 a = some (.lst vs) ∧ RpA K H1 vs ds L ∧ (∀ b ∈ L, F b) ∧ ∀ ws M, RpA K H1 ws es M → (∀ b ∈ M, F b ∨ H b = none) → En0.nx σ (upd H1 a (.lst ws)) := by
  obtain ⟨a, vs, L, e1, e2, ra, hl, nF⟩ := (h.later s).lst e
  refine ⟨a, vs, L, e1, e2, ra, hl, fun ws M rm hm => ?_⟩
  obtain ⟨k1, s1⟩ := h.new s
  have na : ¬ (F a ∨ (H a = none ∧ H1 a ≠ none)) := fun z => z.elim nF fun z => h.ok.ownA (.inl rfl) e e1 z.1
  have ob := Obj1.lst (F := fun b => F b ∨ (H b = none ∧ H1 b ≠ none)) (a := a) (by rw [e2]; trivial) na rm fun b hb => (hm b hb).imp id fun z => ⟨z, rm.addr b hb⟩
  obtain ⟨k2, s2⟩ := k1.mut e e1 ob
  exact p _ _ _ _ k2 (s1.trans s2)
theorem vs_app (i : Nat) (he : VA X [e] t) (hN : X.N[i]? = some x := by rfl) (hv : Vis X.env.scope x := by first | exact Or.inl rfl | exact Or.inr (Or.inl rfl) | exact Or.inr (Or.inr rfl)) (hd : (x == ("__debug__" : Str)) = false := by decide)
    (hcd : (x == ("__classdict__" : Str)) = false := by decide) (hbase : attributeBase (.Name x p) "append" X.env (eval (.Name x p) X.env) = eval (.Name x p) X.env := by rfl)
    (hfew : ((backTo cpos (starEach [e] X.env)).all (fun x => !x.1) && (backToKw cpos (keywordEach [] X.env)).all (fun x => x.1.isSome)
      && decide ([e].length + ([] : List Keyword).length + (if ([] : List Keyword).isEmpty then 0 else 1) < 30)) = true := by rfl)
    (hline : (apos.endLine == cpos.line) = true := by rfl) (hs : starEach [e] X.env = (false, eval e X.env) :: starEach [] X.env := by rfl) (hplain : (backTo cpos (starEach [] X.env)).any (·.1) = false := by rfl)
    (hsw : swapsWith (.Call (.Attribute (.Name x p) "append" apos) [e] [] cpos) none pos.line X.env = pure false := by rfl) :
    VS X (.Expr (.Call (.Attribute (.Name x p) "append" apos) [e] [] cpos) pos) (sApp i t) :=
  PS.to (ps_expr (pe_bm PySem.F.plainAttrs_list PySem.F.slot_list_append PySem.F.type_list_append mt_append (pe_var hN hv hd hcd) he hbase hfew hline hs hplain) hsw) fun D σ H ⟨B, F0, P, F, env, out, h, e, p⟩ => by
    obtain ⟨rs, e1, e2⟩ := bind2 e
    split at e2
    rotate_left
    · cases e2
    rename_i d f
    obtain ⟨ds, es, e3, e4, rfl⟩ := mL_of e2
    split at e4
    rotate_left
    · cases e4
    rename_i hc
    cases e4
    obtain ⟨n1, n2⟩ := plain_ne hc.1
    obtain ⟨a0, vs0, L0, f1, f2, _⟩ := h.lst e3
    refine ⟨_, f1, tyl f2, F, env, _, h.ok, e1, fun vs H1 rl => ?_⟩
    cases rl with
    | cons s rv t =>
      cases t with
      | nil s2 =>
        obtain ⟨a, vs, L, g1, g2, ra, hl, q⟩ := h.lstMut (s.trans s2) e3 p
        rw [f1] at g1
        cases g1
        obtain ⟨M, rm, hm⟩ := (rv.mono s2).frz n1 n2
        refine ⟨_, vs, _, rfl, rfl, g2, by rw [ra.length, sizeLine_eq]; exact hc.2, q _ _ (ra.append (.cons rm .nil)) fun b hb => ?_⟩
        rcases List.mem_append.mp hb with z | z
        · exact .inl (hl b z)
        · exact hm b (by simpa using z)
/-- x.extend(e) -/
def sExt (i : Nat) (t : GA) : GS := fun env => (t env).bind fun rs => match rs with
  | [(.list xs, f)] => mL env i fun ds => if isSc f = false ∧ ds.length + xs.length ≤ 16777216 then some (ds ++ xs) else none
  | _ => none
theorem vs_ext (i : Nat) (he : VA X [e] t) (hN : X.N[i]? = some x := by rfl) (hv : Vis X.env.scope x := by first | exact Or.inl rfl | exact Or.inr (Or.inl rfl) | exact Or.inr (Or.inr rfl)) (hd : (x == ("__debug__" : Str)) = false := by decide)
    (hcd : (x == ("__classdict__" : Str)) = false := by decide) (hbase : attributeBase (.Name x p) "extend" X.env (eval (.Name x p) X.env) = eval (.Name x p) X.env := by rfl)
    (hfew : ((backTo cpos (starEach [e] X.env)).all (fun x => !x.1) && (backToKw cpos (keywordEach [] X.env)).all (fun x => x.1.isSome)
      && decide ([e].length + ([] : List Keyword).length + (if ([] : List Keyword).isEmpty then 0 else 1) < 30)) = true := by rfl)
    (hline : (apos.endLine == cpos.line) = true := by rfl) (hs : starEach [e] X.env = (false, eval e X.env) :: starEach [] X.env := by rfl) (hplain : (backTo cpos (starEach [] X.env)).any (·.1) = false := by rfl)
    (hsw : swapsWith (.Call (.Attribute (.Name x p) "extend" apos) [e] [] cpos) none pos.line X.env = pure false := by rfl) :
    VS X (.Expr (.Call (.Attribute (.Name x p) "extend" apos) [e] [] cpos) pos) (sExt i t) :=
  PS.to (ps_expr (pe_bm PySem.F.plainAttrs_list PySem.F.slot_list_extend PySem.F.type_list_extend mt_extend (pe_var hN hv hd hcd) he hbase hfew hline hs hplain) hsw) fun D σ H ⟨B, F0, P, F, env, out, h, e, p⟩ => by
    obtain ⟨rs, e1, e2⟩ := bind2 e
    split at e2
    rotate_left
    · cases e2
    rename_i xs f
    obtain ⟨ds, es, e3, e4, rfl⟩ := mL_of e2
    split at e4
    rotate_left
    · cases e4
    rename_i hc
    cases e4
    obtain ⟨a0, vs0, L0, f1, f2, _⟩ := h.lst e3
    refine ⟨_, f1, tyl f2, F, env, _, h.ok, e1, fun vs H1 rl => ?_⟩
    cases rl with
    | cons s rv t =>
      cases t with
      | nil s2 =>
        obtain ⟨a, vs, L, g1, g2, ra, hl, q⟩ := h.lstMut (s.trans s2) e3 p
        rw [f1] at g1
        cases g1
        obtain ⟨b1, ws, M, rfl, hw, rm, hm⟩ := (rv.mono s2).listT (not_sc hc.1)
        refine ⟨_, b1, vs, ws, rfl, rfl, g2, hw, by rw [ra.length, rm.length, sizeLine_eq]; exact hc.2, q _ _ (ra.append rm) fun b hb => ?_⟩
        rcases List.mem_append.mp hb with z | z
        · exact .inl (hl b z)
        · exact hm b z
/-- x.insert(k, e) -/
def sIns (i : Nat) (t : GA) : GS := fun env => (t env).bind fun rs => match rs with
  | [(.int k, _), (d, f)] => mL env i fun ds => if plainFl f = true ∧ ds.length < 16777216 ∧ 0 ≤ k ∧ k < 2 ^ 63 then some (ds.take k.toNat ++ [d] ++ ds.drop k.toNat) else none
  | _ => none
theorem vs_ins {e2 : Expr} (i : Nat) (he : VA X [e, e2] t) (hN : X.N[i]? = some x := by rfl) (hv : Vis X.env.scope x := by first | exact Or.inl rfl | exact Or.inr (Or.inl rfl) | exact Or.inr (Or.inr rfl)) (hd : (x == ("__debug__" : Str)) = false := by decide)
    (hcd : (x == ("__classdict__" : Str)) = false := by decide) (hbase : attributeBase (.Name x p) "insert" X.env (eval (.Name x p) X.env) = eval (.Name x p) X.env := by rfl)
    (hfew : ((backTo cpos (starEach [e, e2] X.env)).all (fun x => !x.1) && (backToKw cpos (keywordEach [] X.env)).all (fun x => x.1.isSome)
      && decide ([e, e2].length + ([] : List Keyword).length + (if ([] : List Keyword).isEmpty then 0 else 1) < 30)) = true := by rfl)
    (hline : (apos.endLine == cpos.line) = true := by rfl) (hs : starEach [e, e2] X.env = (false, eval e X.env) :: starEach [e2] X.env := by rfl) (hplain : (backTo cpos (starEach [e2] X.env)).any (·.1) = false := by rfl)
    (hsw : swapsWith (.Call (.Attribute (.Name x p) "insert" apos) [e, e2] [] cpos) none pos.line X.env = pure false := by rfl) :
    VS X (.Expr (.Call (.Attribute (.Name x p) "insert" apos) [e, e2] [] cpos) pos) (sIns i t) :=
  PS.to (ps_expr (pe_bm PySem.F.plainAttrs_list PySem.F.slot_list_insert PySem.F.type_list_insert mt_insert (pe_var hN hv hd hcd) he hbase hfew hline hs hplain) hsw) fun D σ H ⟨B, F0, P, F, env, out, h, e, p⟩ => by
    obtain ⟨rs, e1, e2⟩ := bind2 e
    split at e2
    rotate_left
    · cases e2
    rename_i k f0 d f
    obtain ⟨ds, es, e3, e4, rfl⟩ := mL_of e2
    split at e4
    rotate_left
    · cases e4
    rename_i hc
    cases e4
    obtain ⟨n1, n2⟩ := plain_ne hc.1
    obtain ⟨a0, vs0, L0, f1, f2, _⟩ := h.lst e3
    refine ⟨_, f1, tyl f2, F, env, _, h.ok, e1, fun vs H1 rl => ?_⟩
    cases rl with
    | cons s rk t =>
      cases t with
      | cons s1 rv t =>
        cases t with
        | nil s2 =>
          obtain ⟨a, vs, L, g1, g2, ra, hl, q⟩ := h.lstMut ((s.trans s1).trans s2) e3 p
          rw [f1] at g1
          cases g1
          obtain ⟨M, rm, hm⟩ := ((rv.back s).mono s2).frz n1 n2
          obtain ⟨M1, r1, hm1⟩ := ra.take k.toNat
          obtain ⟨M2, r2, hm2⟩ := ra.drop k.toNat
          refine ⟨_, vs, k, _, rfl, by rw [rk.int], g2, by rw [ra.length, sizeLine_eq]; exact hc.2.1, hc.2.2.1, hc.2.2.2, q _ _ ((r1.append (.cons rm .nil)).append r2) fun b hb => ?_⟩
          rcases List.mem_append.mp hb with z | z
          · rcases List.mem_append.mp z with z | z
            · exact .inl (hl b (hm1 b z))
            · exact hm b (by simpa using z)
          · exact .inl (hl b (hm2 b z))
/-- x[k] = e -/
def sSet (i : Nat) (gi g : GE) : GS := fun env => (g env).bind fun r => (gi env).bind fun k => (asI k).bind fun k => mL env i fun ds => if plainFl r.2 = true then (ixN ds.length k).map fun j => ds.set j r.1 else none
theorem vs_setI (i : Nat) {sp : Pos} (he : VE X e g) (hi : VE X ix gi) (hN : X.N[i]? = some x := by rfl) (hv : Vis X.env.scope x := by first | exact Or.inl rfl | exact Or.inr (Or.inl rfl) | exact Or.inr (Or.inr rfl)) (hd : (x == ("__debug__" : Str)) = false := by decide)
    (hcd : (x == ("__classdict__" : Str)) = false := by decide) (ha : ∀ v, assign (.Subscript (.Name x p) ix sp) X.env v = (do
      let ov ← holding [v] (eval (.Name x p) X.env)
      let iv ← holding [v, ov] (eval ix X.env)
      standAt sp
      holding [v, ov, iv] (setItem ov iv v)
      release [v, ov, iv] []) := by intro _; rfl) (hs : swapsWithSole [.Subscript (.Name x p) ix sp] e pos.line X.env = pure false := by rfl) (hw : swappedStores [.Subscript (.Name x p) ix sp] e X.env = pure none := by rfl)
    (h1 : (assignEach [.Subscript (.Name x p) ix sp] X.env).map (·.2) = [assign (.Subscript (.Name x p) ix sp) X.env] := by rfl) : VS X (.Assign [.Subscript (.Name x p) ix sp] e pos) (sSet i gi g) :=
  PS.to (ps_asg he (pg_sub (pe_var hN hv hd hcd) hi set_list ha) hs hw h1) fun D σ H ⟨B, F0, P, F, env, out, h, e, p⟩ => by
    obtain ⟨r, e1, e2⟩ := bind2 e
    obtain ⟨k0, e3, e4⟩ := bind2 e2
    obtain ⟨k, e5, e6⟩ := bind2 e4
    obtain ⟨f, rfl⟩ := asI_of e5
    obtain ⟨ds, es, e7, e8, rfl⟩ := mL_of e6
    split at e8
    rotate_left
    · cases e8
    rename_i hp
    cases e9 : ixN ds.length k with
    | none => rw [e9] at e8; cases e8
    | some j =>
      rw [e9] at e8
      cases e8
      obtain ⟨n1, n2⟩ := plain_ne hp
      obtain ⟨d, fl⟩ := r
      refine ⟨F, env, _, h.ok, e1, fun v H1 s _ rv => ?_⟩
      obtain ⟨a0, vs0, L0, f1, f2, _⟩ := h.lst e7
      refine ⟨_, f1, F, env, _, h.ok.mono s, e3, fun kv H2 s2 _ rk => ?_⟩
      obtain ⟨a, vs, L, g1, g2, ra, hl, q⟩ := h.lstMut (s.trans s2) e7 p
      rw [f1] at g1
      cases g1
      obtain ⟨M, rm, hm⟩ := (rv.mono s2).frz n1 n2
      obtain ⟨N, rn, hn⟩ := ra.set j rm
      exact ⟨_, vs, k, j, rfl, rk.int, g2, by rw [ra.length]; exact e9, q _ _ rn fun b hb => (hn b hb).elim (fun z => .inl (hl b z)) (hm b)⟩
/-- x[k] op= e -/
def sAugS (f : Int → Int → Int) (i : Nat) (gi g : GE) : GS := fun env => (gi env).bind fun k => (asI k).bind fun k => (g env).bind fun r => (asI r).bind fun z => mL env i fun ds => (ixN ds.length k).bind fun j => match ds[j]? with
  | some (.int y) => some (ds.set j (.int (f y z)))
  | _ => none
theorem get_listI : PGet X (rIxL X.K) := by
  intro pins s σ H o iv ov v Q I rx ry h
  obtain ⟨p, xs, i, z, rfl, rfl, hq, he, q⟩ := h
  cases rx
  obtain ⟨t, rfl⟩ := ry
  obtain ⟨its, r, pl, hz⟩ := I.list hq
  obtain ⟨j, h1, h2, h3, h4, h5⟩ := atI_get he
  obtain ⟨w, ew, rw'⟩ := r.get h2
  have hl := r.length
  have hn := line63
  have fin : EP X pins σ Q w s := ⟨z, H, I, rw', q⟩
  by_cases h0 : 0 ≤ i
  · have hj : i.toNat = j := by
      rw [seqIndex_of h0 h5] at h1
      exact Option.some.inj h1
    exact wpAny_getItem_list pl.isList h0 (by omega) (by rw [hj]; simpa using ew) fin
  · have hj : (i + (its.toArray.size : Int)).toNat = j := by
      rw [seqIndex_neg (by omega) h4] at h1
      rw [List.size_toArray, ← hl]
      exact Option.some.inj h1
    exact wpAny_getItem_list_neg pl.isList (by omega) (by rw [List.size_toArray] <;> omega) (by omega) (by rw [hj]; simpa using ew) fin
theorem vs_augS (f : Int → Int → Int) {op : Operator} (i : Nat) {sp : Pos} (hi : VE X ix gi) (he : VE X e g) (ho : PIp X op (ipI f)) (hN : X.N[i]? = some x := by rfl) (hv : Vis X.env.scope x := by first | exact Or.inl rfl | exact Or.inr (Or.inl rfl) | exact Or.inr (Or.inr rfl)) (hd : (x == ("__debug__" : Str)) = false := by decide)
    (hcd : (x == ("__classdict__" : Str)) = false := by decide) (ha : ∀ ov iv new, augStore ix ov iv new = (do holding [new, ov, iv] (setItem ov iv new); release [new, ov, iv] []; pure .next) := by intros; rfl) : VS X (.AugAssign (.Subscript (.Name x p) ix sp) op e pos) (sAugS f i gi g) :=
  PS.to (ps_augS (pe_var hN hv hd hcd) hi get_listI he ho set_list ha) fun D σ H ⟨B, F0, P, F, env, out, h, e, p⟩ => by
    obtain ⟨k0, e1, ea⟩ := bind2 e
    obtain ⟨k, e2, eb⟩ := bind2 ea
    obtain ⟨f1, rfl⟩ := asI_of e2
    obtain ⟨r, e3, ec⟩ := bind2 eb
    obtain ⟨z, e4, ed⟩ := bind2 ec
    obtain ⟨f2, rfl⟩ := asI_of e4
    obtain ⟨ds, es, e7, ee, rfl⟩ := mL_of ed
    obtain ⟨j, e9, e8⟩ := bind2 ee
    split at e8
    rotate_left
    · cases e8
    rename_i y ey
    cases e8
    obtain ⟨a0, vs0, L0, g1, g2, _⟩ := h.lst e7
    refine ⟨_, g1, F, env, _, h.ok, e1, fun kv H1 s _ rk => ?_⟩
    obtain ⟨a, vs, L, k1, k2, ra, hl, q⟩ := (h.later s).lstMut (Same.refl _) e7 (p.step (Stp.later s))
    rw [g1] at k1
    cases k1
    obtain ⟨w, M, ew, rw1, hm⟩ := ra.get ey
    cases rw1
    refine ⟨_, vs, k, _, rfl, rk.int, .inl (.inl k2), by unfold L2.atI; rw [ra.length, e9]; exact ew, F, env, _, h.ok.mono s, e3, fun v H2 s2 _ rv => ?_⟩
    obtain ⟨a, vs', L, k1, k3, ra, hl, q⟩ := h.lstMut (s.trans s2) e7 p
    rw [g1] at k1
    cases k1
    obtain ⟨N, rn, hn⟩ := ra.set j (.int (f y z))
    exact ⟨y, z, rfl, rv.int, _, vs', k, j, rfl, rk.int, k3, by rw [ra.length]; exact e9, q _ _ rn fun b hb => (hn b hb).elim (fun z => .inl (hl b z)) fun z => by simp at z⟩
/-- name op= e, of ints -/
def sAug (f : Int → Int → Int) (i : Nat) (g : GE) : GS := fun env => match env[i]? with
  | some (some (.int y, .fz)) => (g env).bind fun r => (asI r).map fun z => .nx (env.set i (some (.int (f y z), .fz)))
  | _ => none
theorem vs_aug (f : Int → Int → Int) {op : Operator} (i : Nat) (hNd : X.N.Nodup) (he : VE X e g) (ho : PIp X op (ipI f)) (hi : X.N[i]? = some x := by rfl) (hx : Loc X.env.scope x := by first | exact Or.inl rfl | exact Or.inr rfl)
    (hf : X.fn x = true ∨ X.env.scope.names.lookup x = some .local := by first | exact .inl rfl | exact .inr rfl) : VS X (.AugAssign (.Name x p) op e pos) (sAug f i g) :=
  PS.to (ps_aug hNd hi hx he ho hf) fun D σ H ⟨B, F0, P, F, env, out, h, e, p⟩ => by
    unfold sAug at e
    split at e
    rotate_left
    · cases e
    rename_i y ey
    obtain ⟨r, e1, e2⟩ := bind2 e
    cases e3 : asI r with
    | none => rw [e3] at e2; cases e2
    | some z =>
      rw [e3] at e2
      cases e2
      obtain ⟨f1, rfl⟩ := asI_of e3
      obtain ⟨v, ev, L, rp, hl⟩ := h.ok.slot i _ ey
      cases rp
      refine ⟨_, ev, F, env, _, h.ok, e1, fun w H1 s _ rw => ⟨y, z, rfl, rw.int, ?_⟩⟩
      obtain ⟨P', F', k, st⟩ := h.set s (Res.ofInt (i := f y z)) (own := false) (r1 := (.int (f y z), .fz)) rfl i
      exact p P' F' _ H1 k st
end
end Pl

set_option Elab.async false
set_option linter.all false
set_option maxRecDepth 100000
set_option maxHeartbeats 4000000
/-! Pl9: loops, defs, calls -/
namespace Pl
open PySem PySem.Spec PyProof.Rows L2

/-! ### for -/
def forGo (tg : Tg) (body : GS) (ws : List Nat) : List D → En → Option Out
  | [], env => some (.nx env)
  | x :: xs, env => (asT tg x env).bind fun e => (body e).bind fun o => match o with
    | .nx e => forGo tg body ws xs (wipeE e ws)
    | .ct e => forGo tg body ws xs (wipeE e ws)
    | .bk e => some (.nx (wipeE e ws))
    | .rt r => some (.rt r)
def lockS : Slot → Slot
  | some (d, .ow) => some (d, .bw)
  | s => s
def lockE (env : En) : En := env.map lockS
def unlS : Slot → Slot → Slot
  | some (_, .ow), some (d, .bw) => some (d, .ow)
  | _, s => s
def unlE (e0 e : En) : En := List.zipWith unlS e0 e
def unlO (e0 : En) : Out → Out
  | .nx e => .nx (unlE e0 e)
  | o => o
def sFor (ws : List Nat) (tg : Tg) (src : Src) (body : GS) : GS := fun env => (src env).bind fun p =>
  if p.2 = true then (forGo tg body ws p.1 (lockE (wipeE env ws))).map (unlO (wipeE env ws)) else forGo tg body ws p.1 (wipeE env ws)
section
variable {K : PySem.W.Frag} {B H H1 H' H2 : Hp} {F0 P F P' F' P2 F2 : Addr → Prop} {σ σ' σ2 : L2.St} {env env' env2 : En} {Dd : Ends} {v : V} {d d' : D} {r : RV} {a : Addr} {o u : HO} {i : Nat} {out : Out}
theorem for_reads {J : It} {xs : List D} {tg : Tg} {body : GS} {ws : List Nat} (h0 : SOk K B F0 P F σ H env) (wk : Wk K P H J xs F) (e : forGo tg body ws xs env = some out) (p : Post Dd K B F0 P F σ H env out) :
    ∃ W : Nat → Nat → L2.St → Hp → Prop, (∃ m, W 0 m σ H) ∧ ∀ i m σ H, W i m σ H → (J.stop i H ∧ Dd.nx σ H) ∨ (J.go i H ∧ ∃ N : L2.St → Hp → Prop, (∀ σ' H', N σ' H' → ∃ m', m' < m ∧ W (i + 1) m' σ' H') ∧
      ∀ x H', J.yld i H x H' → TG' K tg x σ H' fun σ2 H2 => TS' K body { Dd with nx := N, ct := N, bk := Dd.nx } σ2 H2) := by
  refine ⟨fun i m σ1 H1 => m = xs.length - i ∧ i ≤ xs.length ∧ ∃ P' F' e1, SOk K B F0 P' F' σ1 H1 e1 ∧ Stp P F σ H env P' F' σ1 H1 e1 ∧ forGo tg body ws (xs.drop i) e1 = some out, ⟨_, rfl, Nat.zero_le _, P, F, env, h0, Stp.refl, by simpa using e⟩, ?_⟩
  rintro i m σ1 H1 ⟨rfl, hi, P', F', e1, h1, s1, eg⟩
  obtain ⟨w1, w2⟩ := wk H1 s1.kp
  by_cases hlt : i < xs.length
  · obtain ⟨go, wy⟩ := w1 i xs[i] (List.getElem?_eq_getElem hlt)
    rw [List.drop_eq_getElem_cons hlt, forGo] at eg
    obtain ⟨e2, a1, eg2⟩ := bind2 eg
    obtain ⟨o, a2, eg3⟩ := bind2 eg2
    refine .inr ⟨go, fun σ' H' => ∃ P2 F2 e3, SOk K B F0 P2 F2 σ' H' e3 ∧ Stp P F σ H env P2 F2 σ' H' e3 ∧ forGo tg body ws (xs.drop (i + 1)) e3 = some out, fun σ' H' hN => ⟨xs.length - (i + 1), by omega, rfl, hlt, hN⟩, fun x H3 y => ?_⟩
    obtain ⟨sm, L, rx, hl⟩ := wy x H3 y
    have h3 := h1.later sm
    have s3 := s1.trans (Stp.later (P := P') (F := F') (σ := σ1) (env := e1) sm)
    refine ⟨F', e1, e2, _, L, h3.ok, rx, fun b hb => s1.pF b (hl b hb), a1, fun σ4 c ok4 => ?_⟩
    obtain ⟨h4, s4⟩ := h3.chg c ok4
    have s5 := s3.trans s4
    refine ⟨B, F0, P', F', e2, o, h4, a2, ?_⟩
    cases o with
    | nx e5 => exact fun P6 F6 σ6 H6 h6 s6 => ⟨P6, F6, _, (h6.forget ws).1, (s5.trans s6).trans (h6.forget ws).2, eg3⟩
    | ct e5 => exact fun P6 F6 σ6 H6 h6 s6 => ⟨P6, F6, _, (h6.forget ws).1, (s5.trans s6).trans (h6.forget ws).2, eg3⟩
    | bk e5 =>
      cases eg3
      exact fun P6 F6 σ6 H6 h6 s6 => p P6 F6 σ6 H6 (h6.forget ws).1 ((s5.trans s6).trans (h6.forget ws).2)
    | rt r =>
      cases eg3
      exact p
  · have ei : i = xs.length := by omega
    subst ei
    rw [List.drop_length, forGo] at eg
    cases eg
    exact .inl ⟨w2, p P' F' σ1 H1 h1 s1⟩
theorem forGo_no {tg : Tg} {body : GS} {ws : List Nat} : ∀ (xs : List D) (env e : En), forGo tg body ws xs env ≠ some (.bk e) ∧ forGo tg body ws xs env ≠ some (.ct e)
  | [], env, e => ⟨fun z => (by cases z), fun z => (by cases z)⟩
  | x :: xs, env, e => by
    have key : ∀ o, (o = .bk e ∨ o = .ct e) → forGo tg body ws (x :: xs) env ≠ some o := fun o ho z => by
      rw [forGo] at z
      obtain ⟨e1, _, z2⟩ := bind2 z
      obtain ⟨o1, _, z3⟩ := bind2 z2
      have ih := fun e1 => forGo_no (tg := tg) (body := body) (ws := ws) xs e1 e
      cases o1 with
      | nx e5 => rcases ho with rfl | rfl; exact (ih _).1 z3; exact (ih _).2 z3
      | ct e5 => rcases ho with rfl | rfl; exact (ih _).1 z3; exact (ih _).2 z3
      | bk e5 => rcases ho with rfl | rfl <;> cases z3
      | rt e5 => rcases ho with rfl | rfl <;> cases z3
    exact ⟨key _ (.inl rfl), key _ (.inr rfl)⟩
theorem lock_get {e : En} {i : Nat} : (lockE e)[i]? = (e[i]?).map lockS := by unfold lockE; rw [List.getElem?_map]
theorem lock_of {e : En} {i : Nat} {d : D} {fl : Fl} (h : (lockE e)[i]? = some (some (d, fl))) : (fl = .bw ∧ e[i]? = some (some (d, .ow))) ∨ (fl ≠ .ow ∧ e[i]? = some (some (d, fl))) := by
  rw [lock_get] at h
  cases q : e[i]? with
  | none => rw [q] at h; cases h
  | some s =>
    rw [q] at h
    have h' : lockS s = some (d, fl) := Option.some.inj h
    cases s with
    | none => cases h'
    | some r =>
      obtain ⟨d0, f0⟩ := r
      cases f0 with
      | ow => cases h'; exact .inl ⟨rfl, rfl⟩
      | fz => cases h'; exact .inr ⟨(fun z => nomatch z), rfl⟩
      | bw => cases h'; exact .inr ⟨(fun z => nomatch z), rfl⟩
      | sc => cases h'; exact .inr ⟨(fun z => nomatch z), rfl⟩
theorem SOk.lock (h : SOk K B F0 P F σ H env) : SOk K B F0 (fun b => H b ≠ none) F σ H (lockE env) := by
  refine ⟨⟨by unfold lockE; rw [List.length_map]; exact h.ok.len, h.ok.dom, fun i r e => ?_, fun i j d d' a _ e1 _ _ _ => ?_⟩, h.sB, h.fr, h.ok.dom, fun b z => Same.dom h.sB z, fun b z => z, fun i d a e _ => ?_, fun i d a e e1 => ?_⟩
  · obtain ⟨d, fl⟩ := r
    rcases lock_of e with ⟨rfl, e1⟩ | ⟨_, e1⟩
    · obtain ⟨v, e2, a, rfl, _, h3⟩ := h.ok.slot i _ e1
      exact ⟨_, e2, a, rfl, h3⟩
    · exact h.ok.slot i _ e1
  · rcases lock_of e1 with ⟨q, _⟩ | ⟨q, _⟩
    · cases q
    · exact absurd rfl q
  · rcases lock_of e with ⟨q, _⟩ | ⟨q, _⟩
    · cases q
    · exact absurd rfl q
  · rcases lock_of e with ⟨_, e2⟩ | ⟨_, e2⟩
    · exact h.ok.ownA (.inl rfl) e2 e1
    · exact h.ok.ownA (.inr rfl) e2 e1
theorem unl_of {e0 e : En} {i : Nat} {d : D} {fl : Fl} (h : (unlE e0 e)[i]? = some (some (d, fl))) : (fl = .ow ∧ e[i]? = some (some (d, .bw)) ∧ ∃ d0, e0[i]? = some (some (d0, .ow))) ∨ (e[i]? = some (some (d, fl)) ∧ (fl = .bw → ∀ d0, e0[i]? ≠ some (some (d0, .ow)))) := by
  unfold unlE at h
  rw [List.getElem?_zipWith] at h
  cases q0 : e0[i]? with
  | none => rw [q0] at h; cases h
  | some s0 =>
    cases q : e[i]? with
    | none => rw [q0, q] at h; cases h
    | some s =>
      rw [q0, q] at h
      have h' : unlS s0 s = some (d, fl) := Option.some.inj h
      cases s with
      | none =>
        rcases s0 with _ | ⟨d0, f0⟩
        · cases h'
        · cases f0 <;> cases h'
      | some r =>
        obtain ⟨d1, f1⟩ := r
        rcases s0 with _ | ⟨d0, f0⟩
        · cases f1 <;> (cases h'; exact .inr ⟨rfl, fun _ _ z => nomatch z⟩)
        · cases f0 <;> cases f1 <;> cases h' <;> first | exact .inl ⟨rfl, rfl, _, rfl⟩ | (refine .inr ⟨rfl, ?_⟩; intro q; cases q; done) | (refine .inr ⟨rfl, ?_⟩; intro _ d0 z; cases z)
theorem SOk.unlock (h : SOk K B F0 P F σ H env) (s : Stp (fun b => H b ≠ none) F σ H (lockE env) P' F' σ' H' env') (k : SOk K B F0 P' F' σ' H' env') :
    ∃ P2, SOk K B F0 P2 F' σ' H' (unlE env env') ∧ Stp P F σ H env P2 F' σ' H' (unlE env env') := by
  -- the unlocked slots
  have unl : ∀ (i : Nat) (d d0 : D) (a : Addr), env'[i]? = some (some (d, .bw)) → env[i]? = some (some (d0, .ow)) → σ'[i]? = some (some (.ref a)) → σ[i]? = some (some (.ref a)) ∧ ¬ P a ∧ ¬ F' a ∧ P' a := fun i d d0 a e1 e2 e3 => by
    obtain ⟨q1, q2⟩ := s.bw i d e1
    have e4 := q2.symm.trans e3
    refine ⟨e4, h.ow i d0 a e2 e4, fun z => ?_, k.bw i d a e1 e3⟩
    have hn := h.ok.ownA (.inl rfl) e2 e4
    rcases s.nw a z with w | w | w
    · exact (h.ok.own e2 e4).1 w
    · exact hn w
    · exact w hn
  have locked : ∀ (i : Nat) (d : D), env'[i]? = some (some (d, .bw)) → (∀ d0, env[i]? ≠ some (some (d0, .ow))) → env[i]? = some (some (d, .bw)) ∧ σ'[i]? = σ[i]? := fun i d e1 e2 => by
    obtain ⟨q1, q2⟩ := s.bw i d e1
    rcases lock_of q1 with ⟨_, z⟩ | ⟨_, z⟩
    · exact absurd z (e2 d)
    · exact ⟨z, q2⟩
  have PH : ∀ b, P b → P' b := fun b z => s.pP b (h.Pd b z)
  have hlen : env'.length = env.length := by
    have := s.ln
    unfold lockE at this
    rwa [List.length_map] at this
  have hul : (unlE env env').length = env'.length := by
    unfold unlE
    rw [List.length_zipWith, hlen, Nat.min_self]
  refine ⟨fun b => P b ∨ F' b, ⟨⟨?_, k.ok.dom, fun i r e => ?_, fun i j d d' a hij e1 e2 e3 e4 => ?_⟩, k.sB, k.fr, fun b z => .inr z, fun b z => .inl (h.BP b z), fun b z => z.elim (fun z => s.dom b (h.Pd b z)) (k.ok.dom b), fun i d a e e1 z => ?_, fun i d a e e1 => ?_⟩, ?_⟩
  · rw [hul]
    exact k.ok.len
  · obtain ⟨d, fl⟩ := r
    rcases unl_of e with ⟨rfl, e1, d0, e2⟩ | ⟨e1, _⟩
    · obtain ⟨v, e3, a, rfl, ob⟩ := k.ok.slot i _ e1
      exact ⟨_, e3, a, rfl, (unl i d d0 a e1 e2 e3).2.2.1, ob⟩
    · exact k.ok.slot i _ e1
  · rcases unl_of e1 with ⟨_, f1, d0, g1⟩ | ⟨f1, _⟩
    · rcases unl_of e2 with ⟨_, f2, d0', g2⟩ | ⟨f2, _⟩
      · exact h.ok.sep i j _ _ a hij g1 g2 (unl i d d0 a f1 g1 e3).1 (unl j d' d0' a f2 g2 e4).1
      · exact k.ow j d' a f2 e4 (unl i d d0 a f1 g1 e3).2.2.2
    · rcases unl_of e2 with ⟨_, f2, d0', g2⟩ | ⟨f2, _⟩
      · exact k.ow i d a f1 e3 (unl j d' d0' a f2 g2 e4).2.2.2
      · exact k.ok.sep i j d d' a hij f1 f2 e3 e4
  · rcases unl_of e with ⟨_, f1, d0, g1⟩ | ⟨f1, _⟩
    · exact z.elim (unl i d d0 a f1 g1 e1).2.1 (unl i d d0 a f1 g1 e1).2.2.1
    · exact k.ow i d a f1 e1 (z.elim (PH a) (k.FP a))
  · rcases unl_of e with ⟨q, _⟩ | ⟨f1, hf⟩
    · cases q
    · obtain ⟨g1, g2⟩ := locked i d f1 (hf rfl)
      exact .inl (h.bw i d a g1 (g2.symm.trans e1))
  · refine ⟨fun b z => .inl z, s.pF, s.kp.imp h.Pd, s.dom, fun b z => ?_, fun i d e => ?_, hul.trans hlen⟩
    · rcases s.nw b z with w | w | w
      · exact .inl w
      · exact .inr (.inl w)
      · refine .inr (.inl ?_)
        cases q : H b with
        | none => rfl
        | some o => exact absurd (by rw [q]; exact fun z => nomatch z) w
    · rcases unl_of e with ⟨q, _⟩ | ⟨f1, hf⟩
      · cases q
      · exact locked i d f1 (hf rfl)
end
section
variable {X : Cx} {pos : Pos} {b : List Stmt} {gb : GS}
theorem vs_for (ws : List Nat) {tge iter : Expr} {tg : Tg} {src : Src} (hp : PassesOwn (model X.prog X.w) X.A X.env X.xe) (hc : X.calm = true) (hi : VI X tge iter src) (hg : VG X tge tg) (hb : VSs X b gb)
    (hs : ∀ x, foldedSetIterable iter X.env x = pure x := by intro _; rfl) : VS X (.For tge iter b [] pos) (sFor ws tg src gb) :=
  PS.to (ps_for hp hc hi hg hb hs) fun D σ H ⟨B, F0, P, F, env, out, h, e, p⟩ => by
    obtain ⟨⟨xs, bw⟩, e1, e2⟩ := bind2 e
    refine ⟨F, env, xs, bw, h.ok, e1, fun J H1 s1 z1 hx wk => ?_⟩
    obtain ⟨k1, t1⟩ := h.new s1
    obtain ⟨k2, t2⟩ := k1.forget ws
    have p2 := p.step (t1.trans t2)
    by_cases hb : bw = true
    · subst hb
      rw [if_pos rfl] at e2
      cases e3 : forGo tg gb ws xs (lockE (wipeE env ws)) with
      | none => rw [e3] at e2; cases e2
      | some o =>
        rw [e3] at e2
        cases e2
        refine for_reads k2.lock (wk _ (.inl fun b z => z)) e3 ?_
        cases o with
        | nx e4 =>
          intro P' F' σ' H' k s
          obtain ⟨P3, k3, s3⟩ := k2.unlock s k
          exact p2 P3 F' σ' H' k3 s3
        | rt r => exact p2
        | bk e4 =>
          intro P' F' σ' H' k s
          exact absurd e3 (forGo_no xs _ e4).1
        | ct e4 =>
          intro P' F' σ' H' k s
          exact absurd e3 (forGo_no xs _ e4).2
    · rw [if_neg hb] at e2
      exact for_reads k2 (wk _ (.inr ⟨eq_false_of_ne_true hb, fun b z => .inr z⟩)) e2 p2
/-! ### while -/
def whileN (c : GB) (body : GS) (ws : List Nat) : Nat → En → Option Out
  | 0, _ => none
  | n + 1, env => (c env).bind fun k => if k = true then (body env).bind fun o => match o with
    | .nx e => whileN c body ws n (wipeE e ws)
    | .ct e => whileN c body ws n (wipeE e ws)
    | .bk e => some (.nx (wipeE e ws))
    | .rt r => some (.rt r)
    else some (.nx env)
def fuel : Nat := 1099511627776
def sWhile (ws : List Nat) (c : GB) (body : GS) : GS := fun env => whileN c body ws fuel (wipeE env ws)
theorem vs_while (ws : List Nat) {c : Expr} {gc : GB} (hp : PassesOwn (model X.prog X.w) X.A X.env X.xe) (hc : VB X c gc) (hb : VSs X b gb) : VS X (.While c b [] pos) (sWhile ws gc gb) :=
  PS.to (ps_while hp hc hb) fun D σ H ⟨B, F0, P, F, env, out, h, e, p⟩ => by
    obtain ⟨k1, t1⟩ := h.forget ws
    refine ⟨fun m σ1 H1 => ∃ P' F' e1, SOk X.K B F0 P' F' σ1 H1 e1 ∧ Stp P F σ H env P' F' σ1 H1 e1 ∧ whileN gc gb ws m e1 = some out, ⟨fuel, P, F, _, k1, t1, e⟩, ?_⟩
    rintro m σ1 H1 ⟨P', F', e1, h1, s1, eg⟩
    cases m with
    | zero => cases eg
    | succ n =>
      rw [whileN] at eg
      obtain ⟨k, a1, eg2⟩ := bind2 eg
      refine ⟨F', e1, k, h1.ok, a1, fun H2 sm _ => ?_⟩
      have h2 := h1.later sm
      have s2 := s1.trans (Stp.later (P := P') (F := F') (σ := σ1) (env := e1) sm)
      cases k with
      | false =>
        rw [if_neg Bool.false_ne_true] at eg2
        cases eg2
        exact iteF (p P' F' σ1 H2 h2 s2)
      | true =>
        rw [if_pos rfl] at eg2
        obtain ⟨o, a2, eg3⟩ := bind2 eg2
        refine iteT ⟨fun σ' H' => ∃ P2 F2 e3, SOk X.K B F0 P2 F2 σ' H' e3 ∧ Stp P F σ H env P2 F2 σ' H' e3 ∧ whileN gc gb ws n e3 = some out, fun σ' H' hN => ⟨n, Nat.lt_succ_self n, hN⟩, B, F0, P', F', e1, o, h2, a2, ?_⟩
        cases o with
        | nx e5 => exact fun P6 F6 σ6 H6 h6 s6 => ⟨P6, F6, _, (h6.forget ws).1, (s2.trans s6).trans (h6.forget ws).2, eg3⟩
        | ct e5 => exact fun P6 F6 σ6 H6 h6 s6 => ⟨P6, F6, _, (h6.forget ws).1, (s2.trans s6).trans (h6.forget ws).2, eg3⟩
        | bk e5 =>
          cases eg3
          exact fun P6 F6 σ6 H6 h6 s6 => p P6 F6 σ6 H6 (h6.forget ws).1 ((s2.trans s6).trans (h6.forget ws).2)
        | rt r =>
          cases eg3
          exact p
/-! ### defs -/
def argF : RV → RV
  | (d, .ow) => (d, .fz)
  | r => r
/-- a def of n names, np of them parameters -/
def fnG (np n : Nat) (body : GS) (rs : List RV) : Option RV := if rs.length = np then (body (rs.map (fun r => some (argF r)) ++ List.replicate (n - np) none)).bind fun o => match o with
  | .nx _ => some (.none, .fz)
  | .rt r => some r
  | _ => none else none
def ArgsOk (K : PySem.W.Frag) (F : Addr → Prop) (H : Hp) (vs : List V) (rs : List RV) : Prop := vs.length = rs.length ∧ ∀ (i : Nat) (r : RV), rs[i]? = some r → ∃ v, vs[i]? = some v ∧ SlOk K F H v (argF r)
/-- what a def with the function g promises -/
def spG (K : PySem.W.Frag) (g : List RV → Option RV) : Sp := fun vs H Q _ => ∃ F rs r, ArgsOk K F H vs rs ∧ (∀ b, F b → H b ≠ none) ∧ g rs = some r ∧ ∀ v H', Same H H' → Res K F H H' v r → Q v H'
theorem fnG_len {np n : Nat} {g : GS} {rs : List RV} {r : RV} (h : fnG np n g rs = some r) : rs.length = np := by
  unfold fnG at h
  split at h
  · assumption
  · cases h
theorem argF_ow (r : RV) (d : D) : argF r ≠ (d, .ow) := by
  obtain ⟨d0, f⟩ := r
  cases f <;> exact fun z => nomatch z
theorem start_get {N : List Str} {vs : List V} {i : Nat} {v : V} (h : vs[i]? = some v) : (L2.start N vs)[i]? = some (some v) := by
  unfold L2.start
  have hi : i < vs.length := (List.getElem?_eq_some_iff.mp h).1
  rw [List.getElem?_append_left (by simpa using hi), List.getElem?_map, h]
  rfl
theorem start_ok {K : PySem.W.Frag} {F : Addr → Prop} {H : Hp} {vs : List V} {rs : List RV} {N : List Str} {np n : Nat} (hn : N.length = n) (hp : np ≤ n) (hl : rs.length = np) (ha : ArgsOk K F H vs rs) (hF : ∀ b, F b → H b ≠ none) :
    SOk K H F (fun b => H b ≠ none) F (L2.start N vs) H (rs.map (fun r => some (argF r)) ++ List.replicate (n - np) none) := by
  have look : ∀ (i : Nat) (r0 : RV), (rs.map (fun r => some (argF r)) ++ List.replicate (n - np) (none : Slot))[i]? = some (some r0) → ∃ r, rs[i]? = some r ∧ r0 = argF r := fun i r0 e => by
    by_cases hi : i < rs.length
    · rw [List.getElem?_append_left (by simpa using hi), List.getElem?_map, List.getElem?_eq_getElem hi] at e
      exact ⟨rs[i], List.getElem?_eq_getElem hi, by cases e; rfl⟩
    · rw [List.getElem?_append_right (by simpa using Nat.le_of_not_lt hi), List.getElem?_replicate] at e
      split at e <;> cases e
  refine ⟨⟨?_, hF, fun i r0 e => ?_, fun i j d d' a _ e1 _ _ _ => ?_⟩, Same.refl H, fun b z => .inl z, hF, fun b z => z, fun b z => z, fun i d a e _ => ?_, fun i d a e e1 => ?_⟩
  · unfold L2.start
    simp [hn, hl, ha.1]
  · obtain ⟨r, e1, rfl⟩ := look i r0 e
    obtain ⟨v, e2, s⟩ := ha.2 i r e1
    exact ⟨v, start_get e2, s⟩
  · obtain ⟨r, _, q⟩ := look i _ e1
    exact absurd q.symm (argF_ow r d)
  · obtain ⟨r, _, q⟩ := look i _ e
    exact absurd q.symm (argF_ow r d)
  · obtain ⟨r, f1, q⟩ := look i _ e
    obtain ⟨v, e2, s⟩ := ha.2 i r f1
    rw [start_get e2] at e1
    cases e1
    rw [← q] at s
    obtain ⟨a', h1, h3⟩ := s
    cases h1
    exact h3.isn
theorem body_reads {K : PySem.W.Frag} {vs : List V} {H : Hp} {Q : VK} {E : XK} {N : List Str} {np n : Nat} {g : GS} (hn : N.length = n) (hp : np ≤ n) (h : spG K (fnG np n g) vs H Q E) : TS' K g { nx := fun _ H' => Q .non H', rt := Q } (L2.start N vs) H := by
  obtain ⟨F, rs, r, ha, hF, e, q⟩ := h
  have hl := fnG_len e
  unfold fnG at e
  rw [if_pos hl] at e
  obtain ⟨o, e1, e2⟩ := bind2 e
  refine ⟨H, F, _, F, _, o, start_ok hn hp hl ha hF, e1, ?_⟩
  cases o with
  | nx e => cases e2; exact fun P' F' σ' H' k s => q .non H' k.sB Res.ofNone
  | rt r => cases e2; exact fun v H' s rv => q v H' s rv
  | bk e => cases e2
  | ct e => cases e2
/-- a def keeps its promise -/
theorem fn_ok {P : Program} {w : World} {K : PySem.W.Frag} {mg : Str → Option Value} {base : Heap} {x qual : Str} {st : Stmt} {f : Addr} {fd : FuncData} {N ps : List Str} {k np n : Nat} {g : GS} (Fn : Fun K x qual st f fd) (S : FnScope N ps (defScope st)) (hn : N.length = n) (hps : ps.length = np) (hp : np ≤ n)
    (hbody : ∀ (cdv : Value) (A : Around) (outer : List Env) (s : Shared) (H : Hp) (E : XK), Room k (A.deeper (envOfC qual (defScope st) s.heap.objs.size f cdv)) → VSs (cxOf CX0 P w K mg base N qual (defScope st) f cdv A outer s H E).nox (defBody st) g) :
    FnOk P w K mg base CX0 (k + 1) f fd ps (spG K (fnG np n g)) :=
  Fn.ok S (fun vs H Q E ⟨F, rs, r, ha, _, e, _⟩ => by rw [ha.1, fnG_len e, hps]) fun cdv A outer s H vs Q E hr h => ⟨_, hbody cdv A outer s H E hr, body_reads hn hp h⟩
/-! ### calls -/
theorem args_of {K : PySem.W.Frag} {F : Addr → Prop} {H H' : Hp} {vs : List V} {rs : List RV} (h : ResL K F H H' vs rs) : ArgsOk K (fun b => F b ∨ (H b = none ∧ H' b ≠ none)) H' vs rs := by
  refine ⟨h.length, fun i r e => ?_⟩
  obtain ⟨v, e1, rv⟩ := h.get e
  refine ⟨v, e1, ?_⟩
  obtain ⟨d, fl⟩ := r
  cases fl with
  | fz => obtain ⟨L, rp, hl⟩ := rv; exact ⟨L, rp, fun b hb => (hl b hb).imp id fun z => ⟨z, rp.addr b hb⟩⟩
  | ow => obtain ⟨L, rp, hl⟩ := rv.frz (fun z => nomatch z) (fun z => nomatch z); exact ⟨L, rp, fun b hb => (hl b hb).imp id fun z => ⟨z, rp.addr b hb⟩⟩
  | bw => obtain ⟨a, rfl, ob⟩ := rv; exact ⟨a, rfl, ob.impA fun b z w => z.imp id fun z => ⟨z, w⟩⟩
  | sc => exact rv
variable {e : Expr} {es : List Expr} {x : Str} {p : Pos} {t : GA}
theorem call_reads {K : PySem.W.Frag} {g : List RV → Option RV} {E : XK} {F : Addr → Prop} {env : En} {σ : L2.St} {H : Hp} {Q : VK} {r : RV} (ok : Ok K F σ H env) (e : eA g t env = some r) (q : ∀ v H', Same H H' → Res K F H H' v r → Q v H') :
    tCall (spG K g) [] E (TA' K t) σ H Q := by
  obtain ⟨rs, e1, e2⟩ := bind2 e
  refine ⟨F, env, rs, ok, e1, fun vs H1 rl => ?_⟩
  show spG K g (vs ++ []) H1 Q E
  rw [List.append_nil]
  refine ⟨_, rs, r, args_of rl, fun b z => z.elim (fun z => Same.dom rl.same (ok.dom b z)) fun z => z.2, e2, fun v H' s rv => q v H' (rl.same.trans s) ((rv.back rl.same).imp fun b z => z.imp id fun z => z.1)⟩
/-- a def of the module that does what g says, at k calls' room -/
structure Cl (P : Program) (w : World) (K : PySem.W.Frag) (mg : Str → Option Value) (base : Heap) (k : Nat) (x : Str) (g : List RV → Option RV) : Prop where
  ex : ∃ (f : Addr) (fd : FuncData) (ps : List Str), FnOk P w K mg base CX0 k f fd ps (spG K g) ∧ mg x = some (.ref f) ∧ PySem.W.keepIn K (.ref f) = true ∧ Binds K fd ps []
/-- a def as it stands behind the top -/
structure Tp (K : PySem.W.Frag) (mg : Str → Option Value) (x : Str) (st : Stmt) : Prop where
  ex : ∃ (f : Addr) (fd : FuncData), Fun K x x st f fd ∧ mg x = some (.ref f)
theorem cl_of {P : Program} {w : World} {K : PySem.W.Frag} {mg : Str → Option Value} {base : Heap} {x : Str} {st : Stmt} {N ps : List Str} {k np n : Nat} {g : GS} (T : Tp K mg x st) (S : FnScope N ps (defScope st)) (hn : N.length = n) (hps : ps.length = np) (hp : np ≤ n)
    (hb : ∀ (kV doc pm : Value) (an : Option Addr) (cdv ct : Value) (us : List Value), us.length = ps.length → bindArgs (PySem.W.fnOf x x (defArgs st) (defBody st) (defScope st) .none kV doc pm an cdv ct) ⟨us, []⟩ = pure (ps.zip us))
    (hbody : ∀ (f : Addr) (cdv : Value) (A : Around) (outer : List Env) (s : Shared) (H : Hp) (E : XK), Room k (A.deeper (envOfC x (defScope st) s.heap.objs.size f cdv)) → VSs (cxOf CX0 P w K mg base N x (defScope st) f cdv A outer s H E).nox (defBody st) g) :
    Cl P w K mg base (k + 1) x (fnG np n g) := by
  obtain ⟨f, fd, F, hm⟩ := T.ex
  exact ⟨f, fd, ps, fn_ok F S hn hps hp fun cdv A outer s H E hr => hbody f cdv A outer s H E hr, hm, F.kp, F.binds hb⟩
theorem Cl.mono {P : Program} {w : World} {K : PySem.W.Frag} {mg : Str → Option Value} {base : Heap} {k j : Nat} {x : Str} {g : List RV → Option RV} (c : Cl P w K mg base k x g) (h : k ≤ j) : Cl P w K mg base j x g := by
  obtain ⟨f, fd, ps, h1, h2⟩ := c.ex
  exact ⟨f, fd, ps, h1.mono h, h2⟩
theorem cl_none {P : Program} {w : World} {K : PySem.W.Frag} {mg : Str → Option Value} {base : Heap} {k : Nat} {x : Str} {st : Stmt} (T : Tp K mg x st) {ps : List Str}
    (hb : ∀ (kV doc pm : Value) (an : Option Addr) (cdv ct : Value) (us : List Value), us.length = ps.length → bindArgs (PySem.W.fnOf x x (defArgs st) (defBody st) (defScope st) .none kV doc pm an cdv ct) ⟨us, []⟩ = pure (ps.zip us)) : Cl P w K mg base k x (fun _ => none) := by
  obtain ⟨f, fd, F, hm⟩ := T.ex
  exact ⟨f, fd, ps, ⟨fun vs H Q E ⟨_, _, _, _, _, e, _⟩ => (nomatch e), fun A outer s H args us vs Q E _ _ _ _ ⟨_, _, _, _, _, e, _⟩ => (nomatch e)⟩, hm, F.kp, F.binds hb⟩
theorem ve_call {k j : Nat} {g : List RV → Option RV} (c : Cl X.prog X.w X.K X.mg X.base k x g) (hr : Room j X.A) (hk : k ≤ j) (hg : Gl X x) (ha : VA X (e :: es) t)
    (hdb : (x == ("__debug__" : Str)) = false := by decide) (he : starEach (e :: es) X.env = (false, eval e X.env) :: starEach es X.env := by rfl) (hpl : (backTo pos (starEach es X.env)).any (·.1) = false := by rfl) :
    VE X (.Call (.Name x p) (e :: es) [] pos) (eA g t) := by
  obtain ⟨f, fd, ps, Fo, hm, kp, hb⟩ := c.ex
  exact PE.to (pe_call (E := E0) Fo (hr.mono hk) hg hm kp hb .nil pass0 ha hdb he hpl) fun σ H Q ⟨F, env, r, ok, e, q⟩ => call_reads ok e fun v H' s rv sz => q v H' s sz rv
theorem ve_call0 {k j : Nat} {g : List RV → Option RV} (c : Cl X.prog X.w X.K X.mg X.base k x g) (hr : Room j X.A) (hk : k ≤ j) (hg : Gl X x)
    (hdb : (x == ("__debug__" : Str)) = false := by decide) : VE X (.Call (.Name x p) [] [] pos) (eA g aNil) := by
  obtain ⟨f, fd, ps, Fo, hm, kp, hb⟩ := c.ex
  exact PE.to (pe_call0 (E := E0) Fo (hr.mono hk) hg hm kp hb .nil pass0 hdb) fun σ H Q ⟨F, env, r, ok, e, q⟩ =>
    ⟨F, [], r, ⟨rfl, fun i r z => by simp at z⟩, ok.dom, e, fun v H' s rv sz => q v H' s sz rv⟩
end
end Pl

set_option Elab.async false
set_option linter.all false
set_option maxRecDepth 100000
set_option maxHeartbeats 4000000
/-! Pl10: built-in calls -/
namespace Pl
open PySem PySem.Spec PyProof.Rows L2

section
variable {X : Cx}
def CallF (X : Cx) (f : Value) (g : List RV → Option RV) : Prop :=
  ∃ r, CallR X f r ∧ ∀ (F : Addr → Prop) (H0 H : Hp) (vs : List V) (rs : List RV) (c : RV) (Q : VK), ResL X.K F H0 H vs rs → g rs = some c → (∀ v H', Same H H' → Res X.K F H0 H' v c → Q v H') → r vs H Q
theorem CallF.or {f : Value} {g g' : List RV → Option RV} (h : CallF X f g) (h' : CallF X f g') : CallF X f (fun rs => (g rs).or (g' rs)) := by
  obtain ⟨r, h1, h2⟩ := h
  obtain ⟨r', k1, k2⟩ := h'
  refine ⟨_, h1.or k1, fun F H0 H vs rs c Q rl e q => ?_⟩
  cases e1 : g rs with
  | some z =>
    have e : (g rs).or (g' rs) = some c := e
    rw [e1] at e
    cases e
    exact .inl (h2 F H0 H vs rs _ Q rl e1 q)
  | none =>
    have e : (g rs).or (g' rs) = some c := e
    rw [e1] at e
    exact .inr (k2 F H0 H vs rs _ Q rl e q)
theorem CallF.congr {f : Value} {g g' : List RV → Option RV} (h : CallF X f g) (e : ∀ rs, g' rs = g rs) : CallF X f g' := by
  have : g' = g := funext e
  rw [this]
  exact h
/-- a call of one argument -/
def one (g : RV → Option RV) (rs : List RV) : Option RV := match rs with
  | [a] => g a
  | _ => none
def two (g : RV → RV → Option RV) (rs : List RV) : Option RV := match rs with
  | [a, b] => g a b
  | _ => none
theorem one_of {g : RV → Option RV} {rs : List RV} {c : RV} (h : one g rs = some c) : ∃ a, rs = [a] ∧ g a = some c := by
  unfold one at h
  split at h
  · exact ⟨_, rfl, h⟩
  · cases h
theorem two_of {g : RV → RV → Option RV} {rs : List RV} {c : RV} (h : two g rs = some c) : ∃ a b, rs = [a, b] ∧ g a b = some c := by
  unfold two at h
  split at h
  · exact ⟨_, _, rfl, h⟩
  · cases h
theorem ResL.one {K : PySem.W.Frag} {F : Addr → Prop} {H0 H : Hp} {vs : List V} {a : RV} (h : ResL K F H0 H vs [a]) : ∃ v, vs = [v] ∧ Res K F H0 H v a := by
  cases h with
  | cons s r t =>
    cases t with
    | nil s2 => exact ⟨_, rfl, r.mono s2⟩
theorem ResL.two {K : PySem.W.Frag} {F : Addr → Prop} {H0 H : Hp} {vs : List V} {a b : RV} (h : ResL K F H0 H vs [a, b]) : ∃ v w, vs = [v, w] ∧ Res K F H0 H v a ∧ Res K F H0 H w b := by
  cases h with
  | cons s r t =>
    obtain ⟨w, rfl, r2⟩ := t.one
    exact ⟨_, w, rfl, r.mono t.same, r2.back s⟩
theorem ResL.three {K : PySem.W.Frag} {F : Addr → Prop} {H0 H : Hp} {vs : List V} {a b c : RV} (h : ResL K F H0 H vs [a, b, c]) : ∃ v w u, vs = [v, w, u] ∧ Res K F H0 H v a ∧ Res K F H0 H w b ∧ Res K F H0 H u c := by
  cases h with
  | cons s r t =>
    obtain ⟨w, u, rfl, r2, r3⟩ := t.two
    exact ⟨_, w, u, rfl, r.mono t.same, r2.back s, r3.back s⟩
theorem call1 {f : Value} {g : RV → Option RV} {r : V → Hp → VK → Prop} (h : CallR X f (fun xs H Q => ∃ x, xs = [x] ∧ r x H Q)) (k : ∀ (F : Addr → Prop) (H0 H : Hp) (v : V) (a c : RV) (Q : VK), Res X.K F H0 H v a → Same H0 H → g a = some c → (∀ v H', Same H H' → Res X.K F H0 H' v c → Q v H') → r v H Q) :
    CallF X f (one g) := by
  refine ⟨_, h, fun F H0 H vs rs c Q rl e q => ?_⟩
  obtain ⟨a, rfl, e2⟩ := one_of e
  obtain ⟨v, rfl, rv⟩ := rl.one
  exact ⟨v, rfl, k F H0 H v a c Q rv rl.same e2 q⟩
theorem call2 {f : Value} {g : RV → RV → Option RV} {r : V → V → Hp → VK → Prop} (h : CallR X f (fun xs H Q => ∃ x y, xs = [x, y] ∧ r x y H Q)) (k : ∀ (F : Addr → Prop) (H0 H : Hp) (v w : V) (a b c : RV) (Q : VK), Res X.K F H0 H v a → Res X.K F H0 H w b → Same H0 H → g a b = some c → (∀ v H', Same H H' → Res X.K F H0 H' v c → Q v H') → r v w H Q) :
    CallF X f (two g) := by
  refine ⟨_, h, fun F H0 H vs rs c Q rl e q => ?_⟩
  obtain ⟨a, b, rfl, e2⟩ := two_of e
  obtain ⟨v, w, rfl, rv, rw⟩ := rl.two
  exact ⟨v, w, rfl, k F H0 H v w a b c Q rv rw rl.same e2 q⟩
theorem CallR.imp {f : Value} {r r' : List V → Hp → VK → Prop} (h : CallR X f r) (i : ∀ xs H Q, r' xs H Q → r xs H Q) : CallR X f r' := fun pins s σ H xs us Q I rv q => h pins s σ H xs us Q I rv (i xs H Q q)
/-! len -/
def lenG : RV → Option RV
  | (.list ds, _) => some (.int (ds.length : Nat), .fz)
  | (.tuple ds, _) => some (.int (ds.length : Nat), .fz)
  | (.str x, _) => if x.length ≤ 16777216 then some (.int (x.length : Nat), .fz) else none
  | _ => none
theorem callF_len : CallF X (.builtin "len") (one lenG) := by
  refine call1 (r := fun x H Q => ∃ n, LenV X.K x H n ∧ Q (.int (n : Nat)) H) (CallR.imp call_len fun xs H Q ⟨x, e, n, l, q⟩ => ⟨x, n, e, l, q⟩) fun F H0 H v a c Q rv sm e q => ?_
  obtain ⟨d, f⟩ := a
  cases d <;> try (cases (show (none : Option RV) = some c from e))
  · rename_i x
    have e' : (if x.length ≤ 16777216 then some ((.int (x.length : Nat), .fz) : RV) else none) = some c := e
    split at e'
    · rename_i hc
      cases e'
      rw [rv.str]
      exact ⟨x.length, ⟨by rw [sizeLine_eq]; exact hc, rfl⟩, q _ H (Same.refl H) Res.ofInt⟩
    · cases e'
  · rename_i ds
    cases e
    obtain ⟨p, vs, L, rfl, s, r, _⟩ := rv.list
    exact ⟨ds.length, .inl ⟨vs, s, r.length.symm⟩, q _ H (Same.refl H) Res.ofInt⟩
  · rename_i ds
    cases e
    obtain ⟨p, vs, L, rfl, s, r, _⟩ := rv.tuple
    exact ⟨ds.length, .inr ⟨vs, s, r.length.symm⟩, q _ H (Same.refl H) Res.ofInt⟩
/-! abs, int, min, max of ints -/
def absG : RV → Option RV
  | (.int i, _) => some (.int (if i < 0 then -i else i), .fz)
  | _ => none
theorem callF_abs : CallF X (.builtin "abs") (one absG) := by
  refine call1 (r := fun x H Q => ∃ i, x = .int i ∧ Q (.int (if i < 0 then -i else i)) H) (CallR.imp call_abs fun xs H Q ⟨x, e, i, e2, q⟩ => ⟨i, by rw [e, e2], q⟩) fun F H0 H v a c Q rv sm e q => ?_
  obtain ⟨d, f⟩ := a
  cases d <;> try (cases (show (none : Option RV) = some c from e))
  cases e
  exact ⟨_, rv.int, q _ H (Same.refl H) Res.ofInt⟩
def intG : RV → Option RV
  | (.int i, _) => some (.int i, .fz)
  | (.bool b, _) => some (.int (if b then 1 else 0), .fz)
  | _ => none
theorem callF_int : CallF X (.type "int") (one intG) := by
  refine call1 (r := fun x H Q => (∃ i, x = .int i ∧ Q (.int i) H) ∨ ∃ k, x = .bl k ∧ Q (.int (if k then 1 else 0)) H) (CallR.imp call_int1 fun xs H Q ⟨x, e, h⟩ => h.imp (fun ⟨i, e2, q⟩ => ⟨i, by rw [e, e2], q⟩) fun ⟨i, e2, q⟩ => ⟨i, by rw [e, e2], q⟩) fun F H0 H v a c Q rv sm e q => ?_
  obtain ⟨d, f⟩ := a
  cases d <;> try (cases (show (none : Option RV) = some c from e))
  · cases e
    exact .inr ⟨_, rv.bool, q _ H (Same.refl H) Res.ofInt⟩
  · cases e
    exact .inl ⟨_, rv.int, q _ H (Same.refl H) Res.ofInt⟩
def int2G (k : Int → Int → Int) : RV → RV → Option RV
  | (.int i, _), (.int j, _) => some (.int (k i j), .fz)
  | _, _ => none
theorem callF_int2 {f : Value} {k : Int → Int → Int} (h : CallR X f (fun xs H Q => ∃ i j, xs = [.int i, .int j] ∧ Q (.int (k i j)) H)) : CallF X f (two (int2G k)) := by
  refine call2 (r := fun x y H Q => ∃ i j, x = .int i ∧ y = .int j ∧ Q (.int (k i j)) H) (CallR.imp h fun xs H Q ⟨x, y, e, i, j, e1, e2, q⟩ => ⟨i, j, by rw [e, e1, e2], q⟩) fun F H0 H v w a b c Q rv rw sm e q => ?_
  obtain ⟨d, f⟩ := a
  obtain ⟨d2, f2⟩ := b
  cases d <;> try (cases (show (none : Option RV) = some c from e))
  cases d2 <;> try (cases (show (none : Option RV) = some c from e))
  cases e
  exact ⟨_, _, rv.int, rw.int, q _ H (Same.refl H) Res.ofInt⟩
def maxI (i j : Int) : Int := if j > i then j else i
def minI (i j : Int) : Int := if j < i then j else i
theorem callF_max2 (hc : X.calm = true) : CallF X (.builtin "max") (two (int2G maxI)) := callF_int2 (call_max2 hc)
theorem callF_min2 (hc : X.calm = true) : CallF X (.builtin "min") (two (int2G minI)) := callF_int2 (call_min2 hc)
def min3G : List RV → Option RV
  | [(.int a, _), (.int b, _), (.int c, _)] => some (.int (minI (minI a b) c), .fz)
  | _ => none
theorem callF_min3 (hc : X.calm = true) : CallF X (.builtin "min") min3G := by
  refine ⟨fun xs H Q => ∃ a b c, xs = [.int a, .int b, .int c] ∧ Q (.int (minI (minI a b) c)) H, ?_, fun F H0 H vs rs c Q rl e q => ?_⟩
  · intro pins s σ H xs us Q I r h
    obtain ⟨a, b, c, rfl, q⟩ := h
    cases r with
    | cons r1 r =>
      cases r with
      | cons r2 r =>
        cases r with
        | cons r3 r =>
          cases r
          obtain ⟨t, rfl⟩ := r1
          obtain ⟨u, rfl⟩ := r2
          obtain ⟨x, rfl⟩ := r3
          refine min_three_ints (I.ok.hd hc) fun h' tk k => ⟨.int _, H, I.kept k, ?_, q⟩
          unfold minI
          by_cases h1 : b < a
          · simp only [if_pos h1]
            by_cases h2 : c < b <;> simp only [h2, if_true, if_false] <;> exact ⟨_, rfl⟩
          · simp only [if_neg h1]
            by_cases h2 : c < a <;> simp only [h2, if_true, if_false] <;> exact ⟨_, rfl⟩
  · unfold min3G at e
    split at e
    · cases e
      obtain ⟨v, w, u, rfl, r1, r2, r3⟩ := rl.three
      exact ⟨_, _, _, by rw [r1.int, r2.int, r3.int], q _ H (Same.refl H) Res.ofInt⟩
    · cases e
/-! list, tuple -/
def listG : RV → Option RV
  | (.list ds, _) => some (.list ds, .ow)
  | (.tuple ds, _) => some (.list ds, .ow)
  | _ => none
theorem callF_list : CallF X (.type "list") (one listG) := by
  refine call1 (r := fun x H Q => ∃ p ys, x = .ref p ∧ (SqL X.K H p ys ∨ SqT X.K H p ys) ∧ ∀ l, H l = none → Q (.ref l) (upd H l (.lst ys))) (CallR.imp call_list_of fun xs H Q ⟨x, e, p, ys, e2, q⟩ => ⟨p, ys, by rw [e, e2], q⟩) fun F H0 H v a c Q rv sm e q => ?_
  obtain ⟨d, f⟩ := a
  cases d <;> try (cases (show (none : Option RV) = some c from e))
  · cases e
    obtain ⟨p, vs, L, rfl, s, r, hl⟩ := rv.list
    refine ⟨p, vs, rfl, .inl s, fun l n => q _ _ (same_new n) ⟨l, rfl, sm.free n, vs, L, upd_same, r.mono (same_new n), fun b hb => ⟨hl b hb, fun z => r.addr b hb (z ▸ n)⟩⟩⟩
  · cases e
    obtain ⟨p, vs, L, rfl, s, r, hl⟩ := rv.tuple
    refine ⟨p, vs, rfl, .inr s, fun l n => q _ _ (same_new n) ⟨l, rfl, sm.free n, vs, L, upd_same, r.mono (same_new n), fun b hb => ⟨hl b hb, fun z => r.addr b hb (z ▸ n)⟩⟩⟩
def tupleG : RV → Option RV
  | (.list ds, _) => some (.tuple ds, .fz)
  | (.tuple ds, _) => some (.tuple ds, .fz)
  | _ => none
theorem callF_tuple : CallF X (.type "tuple") (one tupleG) := by
  refine call1 (r := fun x H Q => ∃ p ys, x = .ref p ∧ ((SqL X.K H p ys ∧ ∀ l, H l = none → Q (.ref l) (upd H l (.tup ys))) ∨ (SqT X.K H p ys ∧ Q (.ref p) H))) (CallR.imp call_tuple_of fun xs H Q ⟨x, e, p, ys, e2, q⟩ => ⟨p, ys, by rw [e, e2], q⟩) fun F H0 H v a c Q rv sm e q => ?_
  obtain ⟨d, f⟩ := a
  cases d <;> try (cases (show (none : Option RV) = some c from e))
  · cases e
    obtain ⟨p, vs, L, rfl, s, r, hl⟩ := rv.list
    exact ⟨p, vs, rfl, .inl ⟨s, fun l n => q _ _ (same_new n) ⟨L, .tup (.inl (.inl upd_same)) (r.mono (same_new n)), hl⟩⟩⟩
  · cases e
    obtain ⟨p, vs, L, rfl, s, r, hl⟩ := rv.tuple
    exact ⟨p, vs, rfl, .inr ⟨s, q _ _ (Same.refl H) ⟨L, .tup s r, hl⟩⟩⟩
/-! sum, any, all -/
def intsOf : List D → Option (List Int)
  | [] => some []
  | .int i :: ds => (intsOf ds).map fun r => i :: r
  | _ :: _ => none
theorem intsOf_of : ∀ {ds : List D} {ns : List Int}, intsOf ds = some ns → ds = ns.map .int
  | [], _, h => by cases h; rfl
  | d :: ds, ns, h => by
    cases d <;> try (cases (show (none : Option (List Int)) = some ns from h))
    rename_i i
    have h' : (intsOf ds).map (fun r => i :: r) = some ns := h
    cases e : intsOf ds with
    | none => rw [e] at h'; cases h'
    | some r => rw [e] at h'; cases h'; rw [intsOf_of e]; rfl
theorem rpa_ints_inv {K : PySem.W.Frag} {H : Hp} : ∀ {ns : List Int} {vs : List V} {L : List Addr}, RpA K H vs (ns.map .int) L → vs = ns.map V.int
  | [], _, _, h => by cases h; rfl
  | n :: ns, _, _, h => by
    cases h with
    | cons h1 h2 => cases h1; rw [rpa_ints_inv h2]; rfl
def sumG : RV → Option RV
  | (.list ds, _) => (intsOf ds).map fun ns => (.int ns.sum, .fz)
  | (.tuple ds, _) => (intsOf ds).map fun ns => (.int ns.sum, .fz)
  | _ => none
theorem sum_tup (hc : X.calm = true) : CallR X (.builtin "sum") (fun vs H Q => ∃ (a : Addr) (ns : List Int), vs = [V.ref a] ∧ SqT X.K H a (ns.map V.int) ∧ Q (.int ns.sum) H) := by
  intro pins s σ H vs us Q I r h
  obtain ⟨a, ns, rfl, hs, q⟩ := h
  obtain ⟨its, rv, ht, _⟩ := I.tuple hs
  rw [Vals.ref1 r]
  have hi := rv.ints
  obtain ⟨xs, e⟩ := hi.allInts.items
  have hn : numsOf (intItems xs).toList = ns := by rw [← e]; exact hi.numsOf
  rw [nums_intItems] at hn
  have ht' : s.heap.IsTuple a (intItems xs) := by rw [← e]; exact ht
  refine PySem.W.ktm_sumG (I.ok.hd hc) ht' fun h' tk t' hk => ?_
  rw [preSum_eq, List.take_of_length_le (by simp), hn]
  exact ⟨.int _, H, I.kept hk, ⟨_, rfl⟩, q⟩
theorem callF_sum (hc : X.calm = true) : CallF X (.builtin "sum") (one sumG) := by
  refine call1 (r := fun x H Q => ∃ (a : Addr) (ns : List Int), x = .ref a ∧ (SqL X.K H a (ns.map V.int) ∨ SqT X.K H a (ns.map V.int)) ∧ Q (.int ns.sum) H)
    (CallR.imp ((cr_sum hc).or (sum_tup hc)) fun xs H Q ⟨x, e, a, ns, e2, h, q⟩ => h.imp (fun h => ⟨a, ns, by rw [e, e2], h, q⟩) fun h => ⟨a, ns, by rw [e, e2], h, q⟩) fun F H0 H v a c Q rv sm e q => ?_
  obtain ⟨d, f⟩ := a
  cases d <;> try (cases (show (none : Option RV) = some c from e))
  · rename_i ds
    have e' : (intsOf ds).map (fun ns => ((.int ns.sum, .fz) : RV)) = some c := e
    cases e1 : intsOf ds with
    | none => rw [e1] at e'; cases e'
    | some ns =>
      rw [e1] at e'
      cases e'
      cases intsOf_of e1
      obtain ⟨p, vs, L, rfl, s, r, hl⟩ := rv.list
      cases rpa_ints_inv r
      exact ⟨p, ns, rfl, .inl s, q _ H (Same.refl H) Res.ofInt⟩
  · rename_i ds
    have e' : (intsOf ds).map (fun ns => ((.int ns.sum, .fz) : RV)) = some c := e
    cases e1 : intsOf ds with
    | none => rw [e1] at e'; cases e'
    | some ns =>
      rw [e1] at e'
      cases e'
      cases intsOf_of e1
      obtain ⟨p, vs, L, rfl, s, r, hl⟩ := rv.tuple
      cases rpa_ints_inv r
      exact ⟨p, ns, rfl, .inr s, q _ H (Same.refl H) Res.ofInt⟩
def boolsOf : List D → Option (List Bool)
  | [] => some []
  | .bool i :: ds => (boolsOf ds).map fun r => i :: r
  | _ :: _ => none
theorem boolsOf_of : ∀ {ds : List D} {ns : List Bool}, boolsOf ds = some ns → ds = ns.map .bool
  | [], _, h => by cases h; rfl
  | d :: ds, ns, h => by
    cases d <;> try (cases (show (none : Option (List Bool)) = some ns from h))
    rename_i i
    have h' : (boolsOf ds).map (fun r => i :: r) = some ns := h
    cases e : boolsOf ds with
    | none => rw [e] at h'; cases h'
    | some r => rw [e] at h'; cases h'; rw [boolsOf_of e]; rfl
theorem rpa_bools_inv {K : PySem.W.Frag} {H : Hp} : ∀ {ns : List Bool} {vs : List V} {L : List Addr}, RpA K H vs (ns.map .bool) L → vs = ns.map V.bl
  | [], _, _, h => by cases h; rfl
  | n :: ns, _, _, h => by
    cases h with
    | cons h1 h2 => cases h1; rw [rpa_bools_inv h2]; rfl
def boolsG (k : List Bool → Bool) : RV → Option RV
  | (.list ds, _) => (boolsOf ds).map fun ns => (.bool (k ns), .fz)
  | _ => none
theorem callF_bools {f : Value} {k : List Bool → Bool} (h : CallR X f (fun vs H Q => ∃ (a : Addr) (bs : List Bool), vs = [V.ref a] ∧ SqL X.K H a (bs.map V.bl) ∧ Q (.bl (k bs)) H)) : CallF X f (one (boolsG k)) := by
  refine call1 (r := fun x H Q => ∃ (a : Addr) (bs : List Bool), x = .ref a ∧ SqL X.K H a (bs.map V.bl) ∧ Q (.bl (k bs)) H) (CallR.imp h fun xs H Q ⟨x, e, a, ns, e2, h, q⟩ => ⟨a, ns, by rw [e, e2], h, q⟩) fun F H0 H v a c Q rv sm e q => ?_
  obtain ⟨d, f⟩ := a
  cases d <;> try (cases (show (none : Option RV) = some c from e))
  rename_i ds
  have e' : (boolsOf ds).map (fun ns => ((.bool (k ns), .fz) : RV)) = some c := e
  cases e1 : boolsOf ds with
  | none => rw [e1] at e'; cases e'
  | some ns =>
    rw [e1] at e'
    cases e'
    cases boolsOf_of e1
    obtain ⟨p, vs, L, rfl, s, r, hl⟩ := rv.list
    cases rpa_bools_inv r
    exact ⟨p, ns, rfl, s, q _ H (Same.refl H) Res.ofBool⟩
def anyL (bs : List Bool) : Bool := bs.any id
def allL (bs : List Bool) : Bool := bs.all id
theorem callF_any (hc : X.calm = true) : CallF X (.builtin "any") (one (boolsG anyL)) := callF_bools (cr_any hc)
theorem callF_all (hc : X.calm = true) : CallF X (.builtin "all") (one (boolsG allL)) := callF_bools (cr_all hc)
/-! min, max of data -/
def alikeB (ds : List D) : Bool := okA 9 ds && (ds.all fun x => ds.all fun y => PySem.W.alike x y) && ds.all fun x => !isNone x
theorem alikeB_of {ds : List D} (h : alikeB ds = true) : okA 9 ds = true ∧ PySem.W.AlikeAll ds := by
  unfold alikeB at h
  rw [Bool.and_eq_true, Bool.and_eq_true] at h
  obtain ⟨⟨h1, h2⟩, h3⟩ := h
  refine ⟨h1, fun x hx y hy => ?_, fun x hx z => ?_⟩
  · exact List.all_eq_true.mp (List.all_eq_true.mp h2 x hx) y hy
  · have := List.all_eq_true.mp h3 x hx
    rw [z] at this
    simp [isNone] at this
def mmG (k : D → List D → D) : RV → Option RV
  | (.list (d :: ds), _) => if alikeB (d :: ds) = true then some (k d ds, .fz) else none
  | (.tuple (d :: ds), _) => if alikeB (d :: ds) = true then some (k d ds, .fz) else none
  | _ => none
def rMM (K : PySem.W.Frag) (k : D → List D → D) (x : V) (H : Hp) (Q : VK) : Prop := ∃ (t : Bool) (p : Addr) (xs : List V) (d : D) (ds : List D), x = .ref p ∧ SqB K H t p xs ∧ DpAll K H xs (d :: ds) ∧ alikeB (d :: ds) = true ∧ ∀ (i : Nat) (v : V), xs[i]? = some v → (d :: ds)[i]? = some (k d ds) → Q v H
theorem pick {pins : List (Addr × Obj)} {σ : L2.St} {H : Hp} {s : Shared} {xs : List V} {its : List Value} {d : D} {ds : List D} {as : List Addr} {Q : VK} {k : D → List D → D} (I : Inv X pins σ H s) (rv : Vals xs its) (hr : ReadsAll s.heap its (d :: ds) as) (al : PySem.W.AlikeAll (d :: ds)) (hm : k d ds ∈ d :: ds)
    (q : ∀ (i : Nat) (v : V), xs[i]? = some v → (d :: ds)[i]? = some (k d ds) → Q v H) {i : Nat} {v : Value} {h' : Heap} {tk : Nat} {bs : List Addr} (e : its.toArray[i]? = some v) (r : Reads h' v (k d ds) bs) (hk : ∀ b o, s.heap.get? b = some o → h'.get? b = some o) :
    EP X pins σ Q v { s with heap := h', toks := tk } := by
  obtain ⟨bs2, r2, h3, h4, _⟩ := PySem.W.readsAll_atA (vs := its.toArray) (by simpa using hr) i v e
  have ee := PySem.W.alike_unique _ _ _ _ _ (al.1 _ h4 _ hm) (PySem.W.reads_keeps hk r2) r
  have el : its[i]? = some v := by simpa using e
  have hl := rv.length
  have hi : i < xs.length := by rw [hl]; exact (List.getElem?_eq_some_iff.mp el).1
  obtain ⟨u, eu, ru⟩ := rv.get (List.getElem?_eq_getElem hi)
  rw [el] at eu
  cases eu
  refine ⟨xs[i], H, I.kept hk, ru, q i _ (List.getElem?_eq_getElem hi) ?_⟩
  rw [List.getElem?_eq_getElem h3, ← ee, List.getD_eq_getElem?_getD, List.getElem?_eq_getElem h3]
  rfl
theorem minD_mem (d : D) : ∀ ds : List D, ∀ e, PySem.W.minD e ds = e ∨ PySem.W.minD e ds ∈ ds
  | [], e => .inl rfl
  | x :: xs, e => by
    have : PySem.W.minD e (x :: xs) = PySem.W.minD (if PySem.W.dataLt x e then x else e) xs := rfl
    rw [this]
    rcases minD_mem d xs (if PySem.W.dataLt x e then x else e) with h | h
    · rw [h]
      by_cases c : PySem.W.dataLt x e = true
      · rw [if_pos c]; exact .inr List.mem_cons_self
      · rw [if_neg c]; exact .inl rfl
    · exact .inr (List.mem_cons_of_mem _ h)
theorem maxD_mem (d : D) : ∀ ds : List D, ∀ e, PySem.W.maxD e ds = e ∨ PySem.W.maxD e ds ∈ ds
  | [], e => .inl rfl
  | x :: xs, e => by
    have : PySem.W.maxD e (x :: xs) = PySem.W.maxD (if PySem.W.dataLt e x then x else e) xs := rfl
    rw [this]
    rcases maxD_mem d xs (if PySem.W.dataLt e x then x else e) with h | h
    · rw [h]
      by_cases c : PySem.W.dataLt e x = true
      · rw [if_pos c]; exact .inr List.mem_cons_self
      · rw [if_neg c]; exact .inl rfl
    · exact .inr (List.mem_cons_of_mem _ h)
theorem mm_mem {d : D} {ds : List D} {m : D} (h : m = d ∨ m ∈ ds) : m ∈ d :: ds := by
  rcases h with h | h
  · rw [h]; exact List.mem_cons_self
  · exact List.mem_cons_of_mem _ h
theorem roomA {n : Nat} (hu : X.A.units + 64 < cLine) (h : n ≤ 9) : X.A.units + 1 + n < cLine := by omega
theorem cr_minD (hc : X.calm = true) (hu : X.A.units + 64 < cLine) : CallR X (.builtin "min") (fun xs H Q => ∃ x, xs = [x] ∧ rMM X.K PySem.W.minD x H Q) := by
  intro pins s σ H vs us Q I r h
  obtain ⟨x, rfl, t, p, xs, d, ds, rfl, sq, dp, al, q⟩ := h
  rw [Vals.ref1 r]
  obtain ⟨ok, al⟩ := alikeB_of al
  obtain ⟨its, rv, hs⟩ := sqB_is I sq
  obtain ⟨as, hr⟩ := Dp.readsAll I _ _ _ dp rv
  have hd := (okA_of 9 _ ok).2.2
  cases t with
  | false => exact PySem.W.min_list_data (I.ok.hd hc) hs (by simpa using hr) al (roomA hu hd) fun i v h' tk bs e r hk => pick I rv hr al (mm_mem (minD_mem d ds d)) q e r hk
  | true => exact PySem.W.min_tuple_data (I.ok.hd hc) hs (by simpa using hr) al (roomA hu hd) fun i v h' tk bs e r hk => pick I rv hr al (mm_mem (minD_mem d ds d)) q e r hk
theorem cr_maxD (hc : X.calm = true) (hu : X.A.units + 64 < cLine) : CallR X (.builtin "max") (fun xs H Q => ∃ x, xs = [x] ∧ rMM X.K PySem.W.maxD x H Q) := by
  intro pins s σ H vs us Q I r h
  obtain ⟨x, rfl, t, p, xs, d, ds, rfl, sq, dp, al, q⟩ := h
  rw [Vals.ref1 r]
  obtain ⟨ok, al⟩ := alikeB_of al
  obtain ⟨its, rv, hs⟩ := sqB_is I sq
  obtain ⟨as, hr⟩ := Dp.readsAll I _ _ _ dp rv
  have hd := (okA_of 9 _ ok).2.2
  cases t with
  | false => exact PySem.W.max_list_data (I.ok.hd hc) hs (by simpa using hr) al (roomA hu hd) fun i v h' tk bs e r hk => pick I rv hr al (mm_mem (maxD_mem d ds d)) q e r hk
  | true => exact PySem.W.max_tuple_data (I.ok.hd hc) hs (by simpa using hr) al (roomA hu hd) fun i v h' tk bs e r hk => pick I rv hr al (mm_mem (maxD_mem d ds d)) q e r hk
theorem mm_reads {K : PySem.W.Frag} {k : D → List D → D} {F : Addr → Prop} {H0 H : Hp} {v : V} {a c : RV} {Q : VK} (rv : Res K F H0 H v a) (e : mmG k a = some c) (q : ∀ v H', Same H H' → Res K F H0 H' v c → Q v H') : rMM K k v H Q := by
  obtain ⟨d, f⟩ := a
  cases d <;> try (cases (show (none : Option RV) = some c from e))
  · rename_i ds
    cases ds with
    | nil => cases e
    | cons d ds =>
      have e' : (if alikeB (d :: ds) = true then some ((k d ds, Fl.fz) : RV) else none) = some c := e
      split at e'
      · rename_i hc
        cases e'
        obtain ⟨p, vs, L, rfl, s, r, hl⟩ := rv.list
        refine ⟨false, p, vs, d, ds, rfl, s, r.dp _ (okA_of 9 _ (alikeB_of hc).1).1, hc, fun i v e1 e2 => ?_⟩
        obtain ⟨w, M, e3, rw, hm⟩ := r.get e2
        rw [e1] at e3
        cases e3
        exact q v H (Same.refl H) ⟨M, rw, fun b hb => hl b (hm b hb)⟩
      · cases e'
  · rename_i ds
    cases ds with
    | nil => cases e
    | cons d ds =>
      have e' : (if alikeB (d :: ds) = true then some ((k d ds, Fl.fz) : RV) else none) = some c := e
      split at e'
      · rename_i hc
        cases e'
        obtain ⟨p, vs, L, rfl, s, r, hl⟩ := rv.tuple
        refine ⟨true, p, vs, d, ds, rfl, s, r.dp _ (okA_of 9 _ (alikeB_of hc).1).1, hc, fun i v e1 e2 => ?_⟩
        obtain ⟨w, M, e3, rw, hm⟩ := r.get e2
        rw [e1] at e3
        cases e3
        exact q v H (Same.refl H) ⟨M, rw, fun b hb => hl b (hm b hb)⟩
      · cases e'
theorem callF_minD (hc : X.calm = true) (hu : X.A.units + 64 < cLine) : CallF X (.builtin "min") (one (mmG PySem.W.minD)) := call1 (cr_minD hc hu) fun F H0 H v a c Q rv sm e q => mm_reads rv e q
theorem callF_maxD (hc : X.calm = true) (hu : X.A.units + 64 < cLine) : CallF X (.builtin "max") (one (mmG PySem.W.maxD)) := call1 (cr_maxD hc hu) fun F H0 H v a c Q rv sm e q => mm_reads rv e q
/-! ### the calls -/
variable {e a : Expr} {es : List Expr} {x : Str} {p pos : Pos} {t : GA} {g : List RV → Option RV} {id T : String} {ga gb : GE}
theorem ve_callB (hc : CallF X (.builtin id) g) (hg : Gl X x) (hm : X.mg x = none) (hv : bootBuiltins x = some (.builtin id)) (ha : VA X (e :: es) t) (hn : x ≠ "__name__" := by decide) (hdb : (x == ("__debug__" : Str)) = false := by decide)
    (he : starEach (e :: es) X.env = (false, eval e X.env) :: starEach es X.env := by rfl) (hpl : (backTo pos (starEach es X.env)).any (·.1) = false := by rfl) : VE X (.Call (.Name x p) (e :: es) [] pos) (eA g t) := by
  obtain ⟨r, h1, h2⟩ := hc
  refine PE.to (pe_callB h1 hg hm hv ha hn hdb he hpl) fun σ H Q ⟨F, env, r, ok, e, q⟩ => ?_
  obtain ⟨rs, e1, e2⟩ := bind2 e
  exact ⟨F, env, rs, ok, e1, fun vs H1 rl => h2 F H H1 vs rs r _ rl e2 fun v H' s rv sz => q v H' (rl.same.trans s) sz rv⟩
theorem ve_callTy (hc : CallF X (.type T) g) (hg : Gl X x) (hm : X.mg x = none) (hv : bootBuiltins x = some (.type T)) (ha : VA X (e :: es) t) (hn : x ≠ "__name__" := by decide) (hdb : (x == ("__debug__" : Str)) = false := by decide)
    (he : starEach (e :: es) X.env = (false, eval e X.env) :: starEach es X.env := by rfl) (hpl : (backTo pos (starEach es X.env)).any (·.1) = false := by rfl) : VE X (.Call (.Name x p) (e :: es) [] pos) (eA g t) := by
  obtain ⟨r, h1, h2⟩ := hc
  refine PE.to (pe_callTy h1 hg hm hv ha hn hdb he hpl) fun σ H Q ⟨F, env, r, ok, e, q⟩ => ?_
  obtain ⟨rs, e1, e2⟩ := bind2 e
  exact ⟨F, env, rs, ok, e1, fun vs H1 rl => h2 F H H1 vs rs r _ rl e2 fun v H' s rv sz => q v H' (rl.same.trans s) sz rv⟩
/-- isinstance(e, T) -/
def tyN : D → String
  | .none => "NoneType"
  | .bool _ => "bool"
  | .int _ => "int"
  | .str _ => "str"
  | .list _ => "list"
  | .tuple _ => "tuple"
  | .dict _ => "dict"
def eIsi (T : String) (g : GE) : GE := fun env => (g env).bind fun r => match r.1 with
  | .dict _ => none
  | d => (kitB (tyN d) T).map fun b => (.bool b, .fz)
theorem tyX_of {K : PySem.W.Frag} {F : Addr → Prop} {H0 H : Hp} {v : V} {d : D} {f : Fl} (rv : Res K F H0 H v (d, f)) (hd : ∀ l, d ≠ .dict l) : TyX K H v (.type (tyN d)) := by
  cases d with
  | none => rw [rv.non1]; exact .base .non
  | bool b => rw [rv.bool]; exact .base (.bl b)
  | int b => rw [rv.int]; exact .base (.int b)
  | str b => rw [rv.str]; exact .base (.str b)
  | list ds =>
    obtain ⟨p, vs, L, rfl, s, _⟩ := rv.list
    rcases s with (s | ⟨o, s⟩) | ⟨o, its, n, hk, hc, _⟩
    · exact .base (.lst s)
    · exact .base (.frz s)
    · exact .kList hk hc
  | tuple ds =>
    obtain ⟨p, vs, L, rfl, s, _⟩ := rv.tuple
    rcases s with (s | ⟨o, s⟩) | ⟨o, its, n, hk, hc, _⟩
    · exact .base (.tup s)
    · exact .fTuple s
    · exact .kTuple hk hc
  | dict l => exact absurd rfl (hd l)
theorem ve_isi (T : String) {y : Str} {q : Pos} (he : VE X e ga) (hg : Gl X "isinstance") (hm : X.mg "isinstance" = none) (hgT : Gl X y) (hmT : X.mg y = none) (hT : bootBuiltins y = some (.type T)) (hn : y ≠ "__name__" := by decide) (hd : (y == ("__debug__" : Str)) = false := by decide)
    (hs : starEach [e, .Name y q] X.env = (false, eval e X.env) :: starEach [.Name y q] X.env := by rfl) (hs2 : starEach [.Name y q] X.env = (false, eval (.Name y q) X.env) :: starEach [] X.env := by rfl) (hpl : (backTo pos (starEach [.Name y q] X.env)).any (·.1) = false := by rfl) :
    VE X (.Call (.Name "isinstance" p) [e, .Name y q] [] pos) (eIsi T ga) := by
  refine PE.to (pe_callB (x := "isinstance") call_isi hg hm boot_isinstance (pa_cons he (pa_cons (pe_bltn (v := .ty T) hgT hmT hT rfl hn hd) pa_nil hs2) hs) (by decide) (by decide) hs hpl) fun σ H Q ⟨F, env, r, ok, e, q⟩ => ?_
  obtain ⟨r0, e1, e2⟩ := bind2 e
  obtain ⟨d, f⟩ := r0
  refine ⟨F, env, _, ok, e1, fun v H1 s1 z1 rv => ?_⟩
  have key : ∀ c, (kitB (tyN d) T).map (fun b => ((.bool b, .fz) : RV)) = some c → (∀ l, d ≠ .dict l) → c = r → rIsi X.K [v, .ty T] H1 (fun v H' => Sz X.K H' → Q v H') := fun c ec hd hcr => by
    cases e3 : kitB (tyN d) T with
    | none => rw [e3] at ec; cases ec
    | some b =>
      rw [e3] at ec
      cases ec
      subst hcr
      exact ⟨v, .ty T, _, _, b, rfl, .ty T, tyX_of rv hd, kit_ty e3, fun sz => q _ H1 s1 sz Res.ofBool⟩
  cases d with
  | dict l => cases e2
  | _ => exact key r e2 (fun l z => nomatch z) rfl
/-- list(range(..)), tuple(range(..)) -/
def eLR (own : Bool) (g : List RV → Option (List D × Bool)) (t : GA) : GE := fun env => (t env).bind fun rs => (g rs).map fun p => if own = true then (.list p.1, .ow) else (.tuple p.1, .fz)
theorem rgV_eq (a b : Int) : rgV a b = (rngL a (b - a).toNat).map fun d => match d with
  | .int i => V.int i
  | _ => V.non := by
  unfold rgV rngL
  rw [List.map_map]
  rfl
theorem rgV_rp {K : PySem.W.Frag} {H : Hp} (a b : Int) : RpA K H (rgV a b) (rngL a (b - a).toNat) [] := by
  have e : rgV a b = ((List.range (b - a).toNat).map fun i => a + (i : Nat)).map V.int := by unfold rgV; rw [List.map_map]; rfl
  have e2 : rngL a (b - a).toNat = ((List.range (b - a).toNat).map fun i => a + (i : Nat)).map .int := by unfold rngL; rw [List.map_map]; rfl
  rw [e, e2]
  exact rpa_ints _
theorem ve_listR1 {p2 pos2 : Pos} (hc : X.calm = true) (hg : Gl X "list") (hm : X.mg "list" = none) (hgr : Gl X "range") (hmr : X.mg "range" = none) (ha : VE X a ga) (na : starEach [a] X.env = (false, eval a X.env) :: starEach [] X.env := by rfl)
    (nb : starEach [.Call (.Name "range" p2) [a] [] pos2] X.env = (false, eval (.Call (.Name "range" p2) [a] [] pos2) X.env) :: starEach [] X.env := by rfl) : VE X (.Call (.Name "list" p) [.Call (.Name "range" p2) [a] [] pos2] [] pos) (eLR true rng1G (aCons ga aNil)) := by
  refine PE.to (pe_listRg hc hg hm (prg_1 hgr hmr ha na) nb) fun σ H Q ⟨F, env, r, ok, e, q⟩ => ?_
  obtain ⟨rs, e1, e2⟩ := bind2 e
  obtain ⟨r0, e3, e4⟩ := bind2 e1
  cases e4
  cases e5 : rng1G [r0] with
  | none => rw [e5] at e2; cases e2
  | some pr =>
    rw [e5] at e2
    cases e2
    obtain ⟨d, f⟩ := r0
    cases d <;> try (cases (show (none : Option (List D × Bool)) = some pr from e5))
    rename_i j
    have e6 : (if inB j = true ∧ j.toNat ≤ 16777216 then some (rngL 0 j.toNat, false) else none) = some pr := e5
    split at e6
    · rename_i hc
      cases e6
      obtain ⟨b1, b2⟩ := inB_of hc.1
      refine ⟨F, env, _, ok, e3, fun v H1 s1 z1 rv => ⟨j, rv.int, ⟨by decide, by decide, b1, b2, by have := hc.2; simpa using this⟩, fun l n sz => q _ _ (s1.trans (same_new n)) sz ?_⟩⟩
      have := Res.newList (F := F) (K := X.K) n s1 (rgV_rp 0 j) (by simp)
      simpa using this
    · cases e6
theorem ve_tupR1 {p2 pos2 : Pos} (hc : X.calm = true) (hg : Gl X "tuple") (hm : X.mg "tuple" = none) (hgr : Gl X "range") (hmr : X.mg "range" = none) (ha : VE X a ga) (na : starEach [a] X.env = (false, eval a X.env) :: starEach [] X.env := by rfl)
    (nb : starEach [.Call (.Name "range" p2) [a] [] pos2] X.env = (false, eval (.Call (.Name "range" p2) [a] [] pos2) X.env) :: starEach [] X.env := by rfl) : VE X (.Call (.Name "tuple" p) [.Call (.Name "range" p2) [a] [] pos2] [] pos) (eLR false rng1G (aCons ga aNil)) := by
  refine PE.to (pe_tupRg hc hg hm (prg_1 hgr hmr ha na) nb) fun σ H Q ⟨F, env, r, ok, e, q⟩ => ?_
  obtain ⟨rs, e1, e2⟩ := bind2 e
  obtain ⟨r0, e3, e4⟩ := bind2 e1
  cases e4
  cases e5 : rng1G [r0] with
  | none => rw [e5] at e2; cases e2
  | some pr =>
    rw [e5] at e2
    cases e2
    obtain ⟨d, f⟩ := r0
    cases d <;> try (cases (show (none : Option (List D × Bool)) = some pr from e5))
    rename_i j
    have e6 : (if inB j = true ∧ j.toNat ≤ 16777216 then some (rngL 0 j.toNat, false) else none) = some pr := e5
    split at e6
    · rename_i hc
      cases e6
      obtain ⟨b1, b2⟩ := inB_of hc.1
      refine ⟨F, env, _, ok, e3, fun v H1 s1 z1 rv => ⟨j, rv.int, ⟨by decide, by decide, b1, b2, by have := hc.2; simpa using this⟩, fun l n sz => q _ _ (s1.trans (same_new n)) sz ?_⟩⟩
      have := Res.newTup (F := F) (K := X.K) (H := H) n (rgV_rp 0 j) (by simp)
      simpa using this
    · cases e6
end
end Pl

set_option Elab.async false
set_option linter.all false
set_option maxRecDepth 100000
set_option maxHeartbeats 4000000
/-! Pl11: sorting lists of data -/
namespace Pl
open PySem PySem.Spec PyProof.Rows L2 PySem.W PySem.Calls PySem.SeqAt

section
variable {prog : Program} {w : World} {A : Around} {E : Value → Shared → Prop} {s : Shared}
theorem call_tuple_lt {Q : Value → Shared → Prop} {l b : Addr} {items items2 : Array Value} {e r : Nat → Bool} (hl : s.heap.IsTuple l items) (hb : s.heap.IsTuple b items2)
    (he : ∀ j (h1 : j < items.size) (h2 : j < items2.size), EqAt A.in1 s items[j] items2[j] (e j)) (hr : ∀ j (h1 : j < items.size) (h2 : j < items2.size), e j = false → RcLt A.in1 s items[j] items2[j] (r j))
    (h : Q (.bool (firstLt e r (decide (items.size < items2.size)) (List.range (min items.size items2.size)))) s) : wpAny (model prog w) A (call (.builtin "tuple.__lt__") [.ref l, .ref b]) Q E s := by
  obtain ⟨⟨cls, dd, data, sl⟩, ho, hc, n, hd⟩ := id hl
  obtain ⟨⟨cls2, dd2, data2, sl2⟩, ho2, hc2, n2, hd2⟩ := id hb
  simp only at hc hd hc2 hd2
  subst hc hd hc2 hd2
  exact call_meets F.slot_tuple_lt ⟨_, ho, rfl⟩ F.entry_tuple_lt (F.args_tuple_lt_2 _ _) (tuple_ltAt l b items items2 n n2 dd dd2 sl sl2 e r) ⟨ho, ho2, he, hr, h⟩
theorem oneLt_tup {xs ys : List D} {a b : Value} {as bs : List Addr} {Q : Bool → Shared → Prop} (ra : Reads s.heap a (.tuple xs) as) (rb : Reads s.heap b (.tuple ys) bs) (h : alike (.tuple xs) (.tuple ys) = true)
    (hu : A.units + min (PyData.depth (.tuple xs)) (PyData.depth (.tuple ys)) < cLine) (hq : Q (dataLt (.tuple xs) (.tuple ys)) s) : wpAny (model prog w) A (oneLt' true a b) Q E s := by
  have hal : alikeAll xs ys = true := by simpa [alike] using h
  cases ra with
  | @tuple l o vs n _ as₁ h1 h2 h3 h4 =>
    cases rb with
    | @tuple l' o' vs' n' _ bs₁ k1 k2 k3 k4 =>
      have n1 : vs.size = xs.length := by simpa using ReadsAll.length _ _ _ h4
      have n2 : vs'.size = ys.length := by simpa using ReadsAll.length _ _ _ k4
      rw [dataLt_tuple, ← firstLt_toks xs ys hal, ← n1, ← n2] at hq
      rw [oneLt'_eq]
      simp only [if_true]
      refine wpAny_bind (wpAny_cRoomFor (room_here hu) ?_)
      refine wpAny_bind (wpAny_callSpecialIfBound?_slot (T := "tuple") ⟨_, h1, h2⟩ F.slot_tuple_lt (call_tuple_lt (e := pairEq xs ys) (r := fun j => dataLt (xs.getD j .none) (ys.getD j .none)) ⟨_, h1, h2, _, h3⟩ ⟨_, k1, k2, _, k3⟩ (fun j j1 j2 => ?_) (fun j j1 j2 hj => ?_) ?_))
      · have := eqAt_alikeAll xs ys A.in1 s vs.toList vs'.toList _ _ h4 k4 hal (room_in hu) j (by simpa using j1) (by simpa using j2)
        simpa using this
      · have := rcLt_alikeAll xs ys A.in1 s vs.toList vs'.toList _ _ h4 k4 hal (room_in hu) j (by simpa using j1) (by simpa using j2) hj
        simpa using this
      · exact wpAny_truthy_bool hq
/-- what stands first in tuples -/
inductive Fsts (h : Heap) : List Value → List (Option Value) → Prop
  | nil : Fsts h [] []
  | cons {a : Addr} {o : Obj} {xs : Array Value} {n : Nat} {vs : List Value} {fs : List (Option Value)} (ho : h.get? a = some o) (hc : o.cls = .type "tuple") (hd : o.data = .seq xs n) (r : Fsts h vs fs) : Fsts h (.ref a :: vs) (xs[0]? :: fs)
theorem fsts_run {M : Model} : ∀ {vs : List Value} {fs : List (Option Value)} {Q : List (Option Value) → Shared → Prop}, Fsts s.heap vs fs → Q fs s → wpAny M A (vs.mapM firstOfTuple') Q E s
  | [], _, _, .nil, h => by rw [List.mapM_nil]; exact wpAny_pure h
  | _ :: vs, _, Q, .cons ho hc hd t, h => by
    rw [List.mapM_cons]
    refine wpAny_bind ?_
    rw [kas_first_eq]
    refine wpAny_bind (Looks.here (show Looks M s.heap (typeOf (.ref _)) _ from (Looks.ld ho).andThen .now) ?_)
    rw [hc, if_neg (by first | decide | simp)]
    refine wpAny_bind (listItems_at ho hd (wpAny_pure ?_))
    exact wpAny_bind (fsts_run (Q := fun bs s' => wpAny M A (pure (_ :: bs)) Q E s') t (wpAny_pure h))
theorem fsts_of {h : Heap} : ∀ {vs : List Value} {ds : List D}, EachIs (fun v d => ∃ as, Reads h v d as) vs ds → (∀ d ∈ ds, ∃ xs, d = .tuple xs) → ∃ fs, Fsts h vs fs ∧ fs.length = ds.length ∧ ∀ (i : Nat) (d : D), ds[i]? = some d → ∃ f : Option Value, fs[i]? = some f ∧ (f.isSome = true ↔ d ≠ .tuple [])
  | _, _, .nil, _ => ⟨[], .nil, rfl, fun i d e => by simp at e⟩
  | _, _, .cons (b := d) ⟨as, r⟩ t, ht => by
    obtain ⟨fs, h1, h2, h3⟩ := fsts_of t fun d hd => ht d (List.mem_cons_of_mem _ hd)
    obtain ⟨xs, rfl⟩ := ht d List.mem_cons_self
    cases r with
    | @tuple a o vs n _ _ ho hc hd hr =>
      refine ⟨_, .cons ho hc hd h1, by simp [h2], fun i d e => ?_⟩
      cases i with
      | succ i => exact h3 i d (by simpa using e)
      | zero =>
        simp at e
        subst e
        refine ⟨_, rfl, ?_⟩
        have hlen : vs.size = xs.length := by simpa using ReadsAll.length _ _ _ hr
        cases xs with
        | nil =>
          have h0 : vs[0]? = none := by simp; simpa using hlen
          rw [h0]
          simp
        | cons x r =>
          have h0 : 0 < vs.size := by rw [hlen]; simp
          rw [Array.getElem?_eq_getElem h0]
          simp
def isTup : D → Bool
  | .tuple _ => true
  | _ => false
theorem isTup_of {d : D} (h : isTup d = true) : ∃ xs, d = .tuple xs := by
  cases d <;> first | exact ⟨_, rfl⟩ | cases h
/-- lists of tuples can be sorted, empty ones among them -/
theorem SortsAt.tups {vs : List Value} {ds : List D} (e : EachIs (fun v d => ∃ as, Reads s.heap v d as) vs ds) (hal : AllAlike ds) (ht : ∀ d ∈ ds, ∃ xs, d = .tuple xs) (hu : ∀ d, d ∈ ds → A.units + d.depth < cLine) : SortsAt prog w A s (dataKind s.heap ds) vs := by
  by_cases hne : ∀ d ∈ ds, d ≠ .tuple []
  · refine SortsAt.data e hal (.inl fun d hd => ?_) hu
    obtain ⟨xs, rfl⟩ := ht d hd
    cases xs with
    | nil => exact absurd rfl (hne _ hd)
    | cons x r => exact ⟨x, r, rfl⟩
  have room : ∀ {d d' : D}, d ∈ ds → A.units + min d.depth d'.depth < cLine := fun {d d'} hd => Nat.lt_of_le_of_lt (Nat.add_le_add_left (Nat.min_le_left _ _) _) (hu d hd)
  have lt : ∀ f : Bool, ∀ (E : Value → Shared → Prop) (x y : Value) (a b : List (Int ⊕ List Nat)) (Q : Bool → Shared → Prop), (dataKind s.heap ds).keyOf x = some a → (dataKind s.heap ds).keyOf y = some b → Q ((dataKind s.heap ds).blt a b) s → wpAny (model prog w) A (oneLt' f x y) Q E s := fun f E x y a b Q ha hb hq => by
    obtain ⟨d, as, hd, ra, rfl⟩ := dataKind_inv ha
    obtain ⟨d', as', hd', rb, rfl⟩ := dataKind_inv hb
    obtain ⟨xs, rfl⟩ := ht d hd
    obtain ⟨ys, rfl⟩ := ht d' hd'
    cases f with
    | false => exact oneLt_alike (fun z => nomatch z) ra rb (hal _ hd _ hd') (fun z => nomatch z) (room hd) hq
    | true => exact oneLt_tup ra rb (hal _ hd _ hd') (room hd) hq
  have keys : ∀ v, v ∈ vs → ∃ a, (dataKind s.heap ds).keyOf v = some a := fun v hv => by
    obtain ⟨d, hd, as, r⟩ := e.left v hv
    exact ⟨_, dataKind_some hal hd r⟩
  obtain ⟨fs, hf, hfl, hfi⟩ := fsts_of e ht
  have hex : ∃ d ∈ ds, d = .tuple [] := by
    apply Classical.byContradiction
    intro hn
    exact hne fun d hd z => hn ⟨d, hd, z⟩
  have hno : (fs.toArray.all fun x => x.isSome) = false := by
    obtain ⟨d, hd, rfl⟩ := hex
    obtain ⟨i, hi, ei⟩ := List.getElem_of_mem hd
    obtain ⟨f, e1, e2⟩ := hfi i (.tuple []) (by rw [List.getElem?_eq_getElem hi, ei])
    have hff : f.isSome = false := by
      cases q : f.isSome with
      | false => rfl
      | true => exact absurd rfl (e2.mp q)
    rw [List.all_toArray, List.all_eq_false]
    exact ⟨f, List.mem_of_getElem? e1, by rw [hff]; exact fun z => nomatch z⟩
  cases ds with
  | nil => obtain ⟨d, hd, _⟩ := hex; exact absurd hd (by simp)
  | cons d0 ds0 =>
    obtain ⟨f0, g1, g2⟩ := hfi 0 d0 rfl
    have hf0 : (fs.toArray[0]?.bind id).isSome = f0.isSome := by
      rw [List.getElem?_toArray, g1]
      cases f0 <;> rfl
    by_cases h0 : d0 = .tuple []
    · have hf1 : f0.isSome = false := by
        cases q : f0.isSome with
        | false => rfl
        | true => exact absurd h0 (g2.mp q)
      refine ⟨keys, oneType', fun E x y a b Q ha hb hq => by rw [keyLt'_oneType]; exact lt true E x y a b Q ha hb hq, fun h2 E Q hq => ?_⟩
      rw [keyKind'_eq, List.mapM_toArray, map_eq_pure_bind]
      refine wpAny_bind (wpAny_bind (fsts_run hf (wpAny_pure ?_)))
      rw [if_neg (by rw [hno]; simp), if_neg (by rw [hf0, hf1]; simp)]
      rw [oneTypeOnly'_eq, List.mapM_toArray, map_eq_pure_bind]
      have hT : ∀ v ∈ vs, Looks (model prog w) s.heap (typeOf v) (.type "tuple") := fun v hv => by
        obtain ⟨d, hd, as, r⟩ := e.left v hv
        obtain ⟨xs, rfl⟩ := ht d hd
        exact looks_reads r
      refine wpAny_bind (wpAny_bind (wpAny_bind (kas_mapM (r := .type "tuple") _ (fun v hv Q' hq => (hT v hv).here hq) (wpAny_pure ?_))))
      cases vs with
      | nil => simp at h2
      | cons v vs =>
        have hall : ((List.map (fun _ => Value.type "tuple") (v :: vs)).toArray.all fun x => x == Value.type "tuple") = true := by
          simp only [List.all_toArray, List.all_map, List.all_eq_true]
          intro _ _
          exact beq_self_eq_true _
        have hz : (List.map (fun _ => Value.type "tuple") (v :: vs)).toArray[0]? = some (Value.type "tuple") := by simp
        rw [hz]
        simp only [hall, if_true]
        exact wpAny_pure (wpAny_pure hq)
    · have hf1 : f0.isSome = true := g2.mpr h0
      refine ⟨keys, general', fun E x y a b Q ha hb hq => lt false E x y a b Q ha hb hq, fun h2 E Q hq => ?_⟩
      rw [keyKind'_eq, List.mapM_toArray, map_eq_pure_bind]
      refine wpAny_bind (wpAny_bind (fsts_run hf (wpAny_pure ?_)))
      rw [if_neg (by rw [hno]; simp), if_pos (by rw [hf0, hf1])]
      exact wpAny_pure hq
/-- what sorted() takes -/
def sortB (ds : List D) : Bool := okA 9 ds && (ds.all fun x => ds.all fun y => alike x y) && (ds.all isTup || ds.all fun x => !isNone x && !isTup x)
theorem SortsAt.dat {vs : List Value} {ds : List D} (e : EachIs (fun v d => ∃ as, Reads s.heap v d as) vs ds) (h : sortB ds = true) (hu : A.units + 9 < cLine) : AllAlike ds ∧ SortsAt prog w A s (dataKind s.heap ds) vs := by
  unfold sortB at h
  rw [Bool.and_eq_true, Bool.and_eq_true] at h
  obtain ⟨⟨h1, h2⟩, h3⟩ := h
  have hal : AllAlike ds := fun x hx y hy => List.all_eq_true.mp (List.all_eq_true.mp h2 x hx) y hy
  have hd : ∀ d, d ∈ ds → A.units + d.depth < cLine := fun d hd => by
    rw [okA_all] at h1
    have := (okD_of 9 d (List.all_eq_true.mp h1 d hd)).2.2
    omega
  refine ⟨hal, ?_⟩
  rw [Bool.or_eq_true] at h3
  rcases h3 with h3 | h3
  · exact SortsAt.tups e hal (fun d hd => isTup_of (List.all_eq_true.mp h3 d hd)) hd
  · refine SortsAt.data e hal (.inr fun d hd => ?_) hd
    have := List.all_eq_true.mp h3 d hd
    rw [Bool.and_eq_true] at this
    refine ⟨fun z => ?_, fun xs z => ?_⟩
    · rw [z] at this; simp [isNone] at this
    · rw [z] at this; simp [isTup] at this
end
/-- the order of sorted() -/
def leD (a b : D) : Bool := !dataLt b a
theorem leD_eq : dataLe false (fun d : D => d) = leD := by
  rw [dataLe_eq]
  rfl
theorem rpa_pairs {K : PySem.W.Frag} {H : Hp} {G : Addr → Prop} : ∀ (ps : List (V × D)), (∀ p ∈ ps, ∃ M, Rp K H p.1 p.2 M ∧ ∀ b ∈ M, G b) → ∃ L, RpA K H (ps.map (·.1)) (ps.map (·.2)) L ∧ ∀ b ∈ L, G b
  | [], _ => ⟨[], .nil, by simp⟩
  | p :: ps, h => by
    obtain ⟨M, r, hm⟩ := h p List.mem_cons_self
    obtain ⟨L, ra, hl⟩ := rpa_pairs ps fun q hq => h q (List.mem_cons_of_mem _ hq)
    exact ⟨M ++ L, .cons r ra, fun b hb => (List.mem_append.mp hb).elim (hm b) (hl b)⟩
theorem rpa_zip {K : PySem.W.Frag} {H : Hp} : ∀ {vs : List V} {ds : List D} {L : List Addr}, RpA K H vs ds L → ∀ p ∈ vs.zip ds, ∃ M, Rp K H p.1 p.2 M ∧ ∀ b ∈ M, b ∈ L
  | [], _, _, h, p, hp => by simp at hp
  | v :: vs, _, _, h, p, hp => by
    cases h with
    | cons h1 h2 =>
      rw [List.zip_cons_cons] at hp
      rcases List.mem_cons.mp hp with z | z
      · rw [z]; exact ⟨_, h1, fun b hb => List.mem_append_left _ hb⟩
      · obtain ⟨M, r, hm⟩ := rpa_zip h2 p z
        exact ⟨M, r, fun b hb => List.mem_append_right _ (hm b hb)⟩
section
variable {X : Cx}
theorem each_of {pins : List (Addr × Obj)} {σ : L2.St} {H : Hp} {s : Shared} (I : Inv X pins σ H s) : ∀ {xs : List V} {ds : List D} {us : List Value}, DpAll X.K H xs ds → Vals xs us → EachIs (fun v (b : V × D) => RelV b.1 v ∧ Dp X.K H b.1 b.2) us (xs.zip ds)
  | [], _, _, h, r => by cases h; cases r; exact .nil
  | x :: xs, _, _, h, r => by
    cases h with
    | cons h1 h2 =>
      cases r with
      | cons r1 r2 => exact .cons ⟨r1, h1⟩ (each_of I h2 r2)
theorem zip_snd {xs : List V} {ds : List D} (h : xs.length = ds.length) : (xs.zip ds).map (·.2) = ds := by
  rw [← List.unzip_snd, List.unzip_zip_right (by omega)]
def sortG : RV → Option RV
  | (.list ds, _) => if sortB ds = true ∧ ds.length ≤ 16777216 then some (.list (ds.mergeSort leD), .ow) else none
  | _ => none
def rSortD (K : PySem.W.Frag) (x : V) (H : Hp) (Q : VK) : Prop := ∃ (p : Addr) (xs : List V) (ds : List D), x = .ref p ∧ SqL K H p xs ∧ DpAll K H xs ds ∧ xs.length = ds.length ∧ sortB ds = true ∧ ds.length ≤ 16777216 ∧
  ∀ l, H l = none → Q (.ref l) (upd H l (.lst (((xs.zip ds).mergeSort (dataLe false (fun b : V × D => b.2))).map (·.1))))
theorem vals_each : ∀ {us : List Value} {ps : List (V × D)} {R : V × D → Prop}, EachIs (fun v (b : V × D) => RelV b.1 v ∧ R b) us ps → Vals (ps.map (·.1)) us
  | _, _, _, .nil => .nil
  | _, _, _, .cons h t => .cons h.1 (vals_each t)
theorem cr_sortedD (hu : X.A.units + 64 < cLine) : CallR X (.builtin "sorted") (fun xs H Q => ∃ x, xs = [x] ∧ rSortD X.K x H Q) := by
  intro pins s σ H vs us Q I r h
  obtain ⟨x, rfl, p, xs, ds, rfl, sq, dp, hlen, hb, hz, q⟩ := h
  rw [Vals.ref1 r]
  obtain ⟨its, rv, pl, hzz⟩ := I.list sq
  have e := each_of I dp rv
  have hds : (xs.zip ds).map (fun b : V × D => b.2) = ds := zip_snd hlen
  have er : EachIs (fun v (b : V × D) => ∃ as, Reads (sortingHeap (copyHeap s.heap its) (s.heap.objs.size + 1) its) v b.2 as) its (xs.zip ds) := e.mono fun v b ⟨r1, d1⟩ => by
    obtain ⟨as, r2⟩ := Dp.reads I b.2 b.1 v d1 r1
    exact ⟨as, PyProof.Rows.Reads.keeps (fun _ _ => sorting_copy_old) r2⟩
  have er2 : EachIs (fun v d => ∃ as, Reads (sortingHeap (copyHeap s.heap its) (s.heap.objs.size + 1) its) v d as) its ds := by
    have := each_map (R := fun v d => ∃ as, Reads (sortingHeap (copyHeap s.heap its) (s.heap.objs.size + 1) its) v d as) (fun b : V × D => b.2) er
    rwa [hds] at this
  have hbl : (xs.zip ds).length = ds.length := by rw [List.length_zip, hlen, Nat.min_self]
  obtain ⟨hal, S⟩ := SortsAt.dat (prog := X.prog) (w := X.w) (A := X.A.in1.in1) (s := { s with heap := sortingHeap (copyHeap s.heap its) (s.heap.objs.size + 1) its }) er2 hb (by show X.A.units + 1 + 1 + 9 < _; omega)
  have hal' : AllAlike ((xs.zip ds).map fun b : V × D => b.2) := by rw [hds]; exact hal
  have S' : SortsAt X.prog X.w X.A.in1.in1 { s with heap := sortingHeap (copyHeap s.heap its) (s.heap.objs.size + 1) its } (dataKind (sortingHeap (copyHeap s.heap its) (s.heap.objs.size + 1) its) ((xs.zip ds).map fun b : V × D => b.2)) its := by
    rw [hds]; exact S
  have hI : its.length ≤ sizeLine := by rw [← rv.length]; exact hzz
  refine sorted_vals pl.isList S' hI ?_
  have eo := sortVals_data (R := fun v (b : V × D) => RelV b.1 v ∧ Dp X.K H b.1 b.2) (enc := fun b : V × D => b.2) false e er hal'
  have hl2 := sortVals_length (κ := dataKind (sortingHeap (copyHeap s.heap its) (s.heap.objs.size + 1) its) ((xs.zip ds).map fun b : V × D => b.2)) false (ks := its) (vs := its) rfl
  obtain ⟨ep, he'⟩ := PyProof.Rows.sortedAll_at s.heap its (List.toArray (sortVals (dataKind (sortingHeap (copyHeap s.heap its) (s.heap.objs.size + 1) its) ((xs.zip ds).map fun b : V × D => b.2)) false its its))
  have rv2 := vals_each eo
  have hlen2 : (((xs.zip ds).mergeSort (dataLe false (fun b : V × D => b.2))).map (·.1)).length ≤ sizeLine := by
    rw [List.length_map, List.length_mergeSort, hbl, sizeLine_eq]; exact hz
  exact ⟨.ref _, upd H (s.heap.objs.size + 1) (.lst (((xs.zip ds).mergeSort (dataLe false (fun b : V × D => b.2))).map (·.1))), I.laid (t' := s.toks) (fun _ _ => PyProof.Rows.sortedAll_old) (Nat.le_succ _) ⟨hlen2, _, ep, rv2, he'⟩, rfl, q _ (I.hok.fresh (Nat.le_succ _))⟩
theorem callF_sorted (hu : X.A.units + 64 < cLine) : CallF X (.builtin "sorted") (one sortG) := by
  refine call1 (cr_sortedD hu) fun F H0 H v a c Q rv sm e q => ?_
  obtain ⟨d, f⟩ := a
  cases d <;> try (cases (show (none : Option RV) = some c from e))
  rename_i ds
  have e' : (if sortB ds = true ∧ ds.length ≤ 16777216 then some ((.list (ds.mergeSort leD), .ow) : RV) else none) = some c := e
  split at e'
  · rename_i hc
    cases e'
    obtain ⟨p, vs, L, rfl, s, r, hl⟩ := rv.list
    have hok := hc.1
    unfold sortB at hok
    rw [Bool.and_eq_true, Bool.and_eq_true] at hok
    refine ⟨p, vs, ds, rfl, s, r.dp _ (okA_of 9 _ hok.1.1).1, r.length, hc.1, hc.2, fun l n => q _ _ (same_new n) ?_⟩
    have hz := zip_snd r.length
    have hm : ((vs.zip ds).mergeSort (dataLe false (fun b : V × D => b.2))).map (·.2) = ds.mergeSort leD := by
      have := sort_maps (r := dataLe false (fun b : V × D => b.2)) (s := leD) (fun b : V × D => b.2) (l := vs.zip ds) (fun a _ b _ => rfl)
      rw [this, hz]
    obtain ⟨L2, ra2, hl2⟩ := rpa_pairs (K := X.K) (H := H) (G := fun b => b ∈ L) ((vs.zip ds).mergeSort (dataLe false (fun b : V × D => b.2))) fun p hp => rpa_zip r p (List.mem_mergeSort.mp hp)
    rw [hm] at ra2
    exact Res.newList n sm ra2 fun b hb => hl b (hl2 b hb)
  · cases e'
end
end Pl

set_option Elab.async false
set_option linter.all false
set_option maxRecDepth 100000
set_option maxHeartbeats 4000000
/-! Pl12: names for what the printed texts use -/
namespace Pl
open PySem PySem.Spec PyProof.Rows L2
theorem bt_len : bootBuiltins "len" = some (.builtin "len") := by decide +kernel
theorem bt_abs : bootBuiltins "abs" = some (.builtin "abs") := by decide +kernel
theorem bt_min : bootBuiltins "min" = some (.builtin "min") := by decide +kernel
theorem bt_max : bootBuiltins "max" = some (.builtin "max") := by decide +kernel
theorem bt_sum : bootBuiltins "sum" = some (.builtin "sum") := by decide +kernel
theorem bt_any : bootBuiltins "any" = some (.builtin "any") := by decide +kernel
theorem bt_all : bootBuiltins "all" = some (.builtin "all") := by decide +kernel
theorem bt_sorted : bootBuiltins "sorted" = some (.builtin "sorted") := by decide +kernel
theorem bt_int : bootBuiltins "int" = some (.type "int") := by decide +kernel
theorem bt_bool : bootBuiltins "bool" = some (.type "bool") := by decide +kernel
theorem bt_str : bootBuiltins "str" = some (.type "str") := by decide +kernel
theorem bt_tuple : bootBuiltins "tuple" = some (.type "tuple") := by decide +kernel
theorem bt_list : bootBuiltins "list" = some (.type "list") := by decide +kernel
def bl : List Str := ["len", "abs", "min", "max", "sum", "any", "all", "sorted", "int", "bool", "str", "tuple", "list", "range", "enumerate", "zip", "isinstance", "set", "dict"]
section
variable {X : Cx}
abbrev leG : RV → RV → Option RV := cmpG fun i j => decide (i ≤ j)
abbrev gtG : RV → RV → Option RV := cmpG fun i j => decide (j < i)
abbrev geG : RV → RV → Option RV := cmpG fun i j => decide (j ≤ i)
/-- < of ints, else of data -/
def ltA (a b : RV) : Option RV := (cmpG (fun i j => decide (i < j)) a b).or (ltG a b)
theorem opF_ltA (hu : X.A.units + 64 < cLine) : OpF X (compareOp .Lt) ltA := opF_ltI.or (opF_lt hu)
def minA (rs : List RV) : Option RV := (two (int2G minI) rs).or ((min3G rs).or (one (mmG PySem.W.minD) rs))
theorem callF_minA (hc : X.calm = true) (hu : X.A.units + 64 < cLine) : CallF X (.builtin "min") minA := (callF_min2 hc).or ((callF_min3 hc).or (callF_minD hc hu))
def maxA (rs : List RV) : Option RV := (two (int2G maxI) rs).or (one (mmG PySem.W.maxD) rs)
theorem callF_maxA (hc : X.calm = true) (hu : X.A.units + 64 < cLine) : CallF X (.builtin "max") maxA := (callF_max2 hc).or (callF_maxD hc hu)
end
end Pl

set_option Elab.async false
set_option linter.all false
set_option maxRecDepth 100000
set_option maxHeartbeats 4000000
/-! Pl13: a[i], b = x, y; ranges of two bounds; default=; xs.index(k) -/
namespace Pl
open PySem PySem.Spec PyProof.Rows L2

/-! ### a tuple of targets, items of own lists among them -/
inductive Tq | nm (i : Nat) | sub (i : Nat) (gi : GE)
def parQ : List Tq → List D → En → Option En
  | [], [], env => some env
  | .nm i :: ts, d :: ds, env => parQ ts ds (env.set i (some (d, .fz)))
  | .sub i gi :: ts, d :: ds, env => (gi env).bind fun k => (asI k).bind fun k => match env[i]? with
    | some (some (.list es, .ow)) => (ixN es.length k).bind fun j => parQ ts ds (env.set i (some (.list (es.set j d), .ow)))
    | _ => none
  | _, _, _ => none
theorem parQ_len : ∀ (ts : List Tq) (ds : List D) (env env' : En), parQ ts ds env = some env' → ds.length = ts.length
  | [], [], _, _, _ => rfl
  | [], _ :: _, _, _, h => by simp [parQ] at h
  | .nm _ :: _, [], _, _, h => by simp [parQ] at h
  | .sub _ _ :: _, [], _, _, h => by simp [parQ] at h
  | .nm i :: ts, d :: ds, env, env', h => by
    rw [parQ] at h
    simp [parQ_len ts ds _ _ h]
  | .sub i gi :: ts, d :: ds, env, env', h => by
    rw [parQ] at h
    obtain ⟨k, _, h⟩ := bind2 h
    obtain ⟨k, _, h⟩ := bind2 h
    split at h
    · obtain ⟨j, _, h⟩ := bind2 h
      simp [parQ_len ts ds _ _ h]
    · cases h
def TQs' (K : PySem.W.Frag) (ts : List Tq) : TGs := fun vs σ H Q => ∃ B F0 P F env env' ds L, SOk K B F0 P F σ H env ∧ RpA K H vs ds L ∧ (∀ b ∈ L, F b) ∧ parQ ts ds env = some env' ∧
  ∀ P' F' σ' H', SOk K B F0 P' F' σ' H' env' → Stp P F σ H env P' F' σ' H' env' → Q σ' H'
def VQs (X : Cx) (es : List Expr) (ts : List Tq) : Prop := PGs X es (TQs' X.K ts)
section
variable {X : Cx} {pos : Pos} {e : Expr} {es : List Expr} {ts : List Tq}
theorem vqs_nil : VQs X [] [] := PGs.to pgs_nil fun vs σ H Q ⟨B, F0, P, F, env, env', ds, L, h, r, hl, e, q⟩ => by
  cases ds with
  | nil =>
    rw [parQ] at e
    cases e
    cases r
    exact ⟨rfl, q _ _ _ _ h Stp.refl⟩
  | cons _ _ => simp [parQ] at e
theorem vqs_nm (i : Nat) {x : Str} (hN : X.N.Nodup) (h' : VQs X es ts) (hi : X.N[i]? = some x := by rfl) (hx : Loc X.env.scope x := by first | exact Or.inl rfl | exact Or.inr rfl) (hf : X.fn x = true ∨ X.env.scope.names.lookup x = some .local := by first | exact .inl rfl | exact .inr rfl)
    (hs : (assignEach (.Name x pos :: es) X.env).map (·.2) = assign (.Name x pos) X.env :: (assignEach es X.env).map (·.2) := by rfl) : VQs X (.Name x pos :: es) (.nm i :: ts) :=
  PGs.to (pgs_cons (pg_name hN hi hx hf) h' hs) fun vs σ H Q ⟨B, F0, P, F, env, env', ds, L, h, r, hl, e, q⟩ => by
    cases ds with
    | nil => simp [parQ] at e
    | cons d ds =>
      rw [parQ] at e
      cases r with
      | @cons v vs _ _ L1 L2 r1 r2 =>
        obtain ⟨o, c⟩ := h.ok.set_fz (i := i) r1 fun b hb => hl b (List.mem_append_left _ hb)
        obtain ⟨k, s⟩ := h.chg c o
        exact ⟨v, vs, rfl, B, F0, P, F, _, env', ds, L2, k, r2, fun b hb => hl b (List.mem_append_right _ hb), e, fun P' F' σ' H' k' s' => q P' F' σ' H' k' (s.trans s')⟩
theorem vqs_sub (i : Nat) {x : Str} {p : Pos} {ix : Expr} {gi : GE} (hi : VE X ix gi) (h' : VQs X es ts) (hN : X.N[i]? = some x := by rfl) (hv : Vis X.env.scope x := by first | exact Or.inl rfl | exact Or.inr (Or.inl rfl) | exact Or.inr (Or.inr rfl)) (hd : (x == ("__debug__" : Str)) = false := by decide)
    (hcd : (x == ("__classdict__" : Str)) = false := by decide) (ha : ∀ v, assign (.Subscript (.Name x p) ix pos) X.env v = (do
      let ov ← holding [v] (eval (.Name x p) X.env)
      let iv ← holding [v, ov] (eval ix X.env)
      standAt pos
      holding [v, ov, iv] (setItem ov iv v)
      release [v, ov, iv] []) := by intro _; rfl)
    (hs : (assignEach (.Subscript (.Name x p) ix pos :: es) X.env).map (·.2) = assign (.Subscript (.Name x p) ix pos) X.env :: (assignEach es X.env).map (·.2) := by rfl) : VQs X (.Subscript (.Name x p) ix pos :: es) (.sub i gi :: ts) :=
  PGs.to (pgs_cons (pg_sub (pe_var hN hv hd hcd) hi set_list ha) h' hs) fun vs σ H Q ⟨B, F0, P, F, env, env', ds, L, h, r, hl, e, q⟩ => by
    cases ds with
    | nil => simp [parQ] at e
    | cons d ds =>
      rw [parQ] at e
      obtain ⟨k0, e1, ea⟩ := bind2 e
      obtain ⟨k, e2, eb⟩ := bind2 ea
      obtain ⟨f, rfl⟩ := asI_of e2
      split at eb
      rotate_left
      · cases eb
      rename_i es0 e3
      obtain ⟨j, e4, e5⟩ := bind2 eb
      cases r with
      | @cons v vs _ _ L1 L2 r1 r2 =>
        obtain ⟨a, xs, M, f1, f2, ra, hm, nF⟩ := h.lst e3
        refine ⟨v, vs, rfl, _, f1, F, env, _, h.ok, e1, fun kv H2 s2 _ rk => ?_⟩
        have h2 := h.later s2
        obtain ⟨a', xs', M', g1, g2, ra', hm', nF'⟩ := h2.lst e3
        rw [f1] at g1
        cases g1
        obtain ⟨N, rn, hn⟩ := ra'.set j (r1.mono s2)
        have hN : ∀ b ∈ N, F b := fun b hb => (hn b hb).elim (hm' b) fun z => hl b (List.mem_append_left _ z)
        obtain ⟨k2, st2⟩ := h2.mut e3 f1 (Obj1.lst (a := a) (by rw [g2]; trivial) nF' rn hN)
        refine ⟨_, xs', k, j, rfl, rk.int, g2, by rw [ra'.length]; exact e4, B, F0, P, F, _, env', ds, L2, k2, ?_, fun b hb => hl b (List.mem_append_right _ hb), e5, fun P' F' σ' H' k' s' => q P' F' σ' H' k' (((Stp.later s2).trans st2).trans s')⟩
        exact (r2.mono s2).keep (mut_sqt g2 trivial) ds fun b hb w ew => by
          rw [upd_ne (fun z => nF' (by rw [← z]; exact hl b (List.mem_append_right _ hb)))]; exact ew
def sParS (ts : List Tq) (g : GA) : GS := fun env => (g env).bind fun rs => if plainAll rs = true then (parQ ts (rs.map (·.1)) env).map .nx else none
theorem vs_parS {tgs vals : List Expr} {g : GA} {pt : Pos} {kt k2 pt2} (hc : X.calm = true) (ha : VA X vals g) (hg : VQs X tgs ts) (hz : ts.length ≤ 16777216 := by decide)
    (hn : (assignEach tgs X.env).length = ts.length := by rfl) (hst : (assignEach tgs X.env).findIdx? (·.1) = none := by rfl)
    (hs : swapsWithSole [.Tuple tgs kt pt] (.Tuple vals k2 pt2) pos.line X.env = pure false := by rfl) (hw : swappedStores [.Tuple tgs kt pt] (.Tuple vals k2 pt2) X.env = pure none := by rfl)
    (h1 : (assignEach [.Tuple tgs kt pt] X.env).map (·.2) = [assign (.Tuple tgs kt pt) X.env] := by rfl) : VS X (.Assign [.Tuple tgs kt pt] (.Tuple vals k2 pt2) pos) (sParS ts g) :=
  PS.to (ps_asg (pe_tup ha) (pg_tup (n := ts.length) hc hg hn hst) hs hw h1) fun D σ H ⟨B, F0, P, F, env, out, h, e, p⟩ => by
    obtain ⟨rs, e1, e2⟩ := bind2 e
    split at e2
    rotate_left
    · cases e2
    rename_i hp
    cases e3 : parQ ts (rs.map (·.1)) env with
    | none => rw [e3] at e2; cases e2
    | some env' =>
      rw [e3] at e2
      cases e2
      have hl := parQ_len _ _ _ _ e3
      rw [List.length_map] at hl
      refine ⟨F, env, rs, h.ok, e1, fun vs H1 rl => ⟨by rw [rl.length, hl, sizeLine_eq]; exact hz, fun a n => ?_⟩⟩
      obtain ⟨L, ra, hL⟩ := rl.rpa hp
      have s2 := same_new (o := .tup vs) n
      obtain ⟨k1, st1⟩ := h.new rl.same
      refine ⟨a, vs, rfl, .inl (.inl upd_same), rl.length.trans hl, B, F0, _, _, env, env', rs.map (·.1), L, k1.later s2, ra.mono s2, fun b hb => (hL b hb).imp id fun z => ⟨z, ra.addr b hb⟩, e3, fun P' F' σ' H' k' s' => p P' F' σ' H' k' ((st1.trans (Stp.later s2)).trans s')⟩
/-! ### list(range(a, b)), tuple(range(a, b)) -/
variable {a b : Expr} {ga gb : GE} {p : Pos}
theorem rng2_run {K : PySem.W.Frag} {own : Bool} {F : Addr → Prop} {env : En} {σ : L2.St} {H : Hp} {Q : VK} {r : RV} {Z : Int → Int → Hp → Prop} (ok : Ok K F σ H env) (e : eLR own rng2G (aCons ga (aCons gb aNil)) env = some r)
    (z : ∀ i j H2, Same H H2 → RgOk i j → r = (if own = true then (.list (rngL i (j - i).toNat), .ow) else (.tuple (rngL i (j - i).toNat), .fz)) → Z i j H2) : tRg2 (TE' K ga) (TE' K gb) σ H Z := by
  obtain ⟨rs, e1, e2⟩ := bind2 e
  obtain ⟨r0, e3, e4⟩ := bind2 e1
  obtain ⟨rs1, e5, e6⟩ := bind2 e4
  obtain ⟨r1, e7, e8⟩ := bind2 e5
  cases e8
  cases e6
  cases e9 : rng2G [r0, r1] with
  | none => rw [e9] at e2; cases e2
  | some pr =>
    rw [e9] at e2
    cases e2
    obtain ⟨d, f⟩ := r0
    obtain ⟨d2, f2⟩ := r1
    cases d <;> try (cases (show (none : Option (List D × Bool)) = some pr from e9))
    cases d2 <;> try (cases (show (none : Option (List D × Bool)) = some pr from e9))
    rename_i i j
    have e10 : (if (inB i = true ∧ inB j = true) ∧ (j - i).toNat ≤ 16777216 then some (rngL i (j - i).toNat, false) else none) = some pr := e9
    split at e10
    · rename_i hc
      cases e10
      obtain ⟨b1, b2⟩ := inB_of hc.1.1
      obtain ⟨b3, b4⟩ := inB_of hc.1.2
      exact ⟨F, env, _, ok, e3, fun v H1 s1 z1 rv => ⟨F, env, _, ok.mono s1, e7, fun w H2 s2 z2 rw => ⟨i, j, rv.int, rw.int, z i j H2 (s1.trans s2) ⟨b1, b2, b3, b4, by have := hc.2; simpa using this⟩ rfl⟩⟩⟩
    · cases e10
theorem ve_listR2 {p2 pos2 : Pos} (hc : X.calm = true) (hg : Gl X "list") (hm : X.mg "list" = none) (hgr : Gl X "range") (hmr : X.mg "range" = none) (ha : VE X a ga) (hb : VE X b gb) (na : starEach [a, b] X.env = (false, eval a X.env) :: starEach [b] X.env := by rfl)
    (nb : starEach [b] X.env = (false, eval b X.env) :: starEach [] X.env := by rfl) (hp : (backTo pos2 (starEach [b] X.env)).any (·.1) = false := by rfl)
    (nc : starEach [.Call (.Name "range" p2) [a, b] [] pos2] X.env = (false, eval (.Call (.Name "range" p2) [a, b] [] pos2) X.env) :: starEach [] X.env := by rfl) : VE X (.Call (.Name "list" p) [.Call (.Name "range" p2) [a, b] [] pos2] [] pos) (eLR true rng2G (aCons ga (aCons gb aNil))) :=
  PE.to (pe_listRg hc hg hm (prg_2 hgr hmr ha hb na nb hp) nc) fun σ H Q ⟨F, env, r, ok, e, q⟩ => rng2_run (Q := Q) ok e fun i j H2 s rk er => ⟨rk, fun l n sz => by
    subst er
    exact q _ _ (s.trans (same_new n)) sz (Res.newList n s (rgV_rp i j) (by simp))⟩
theorem ve_tupR2 {p2 pos2 : Pos} (hc : X.calm = true) (hg : Gl X "tuple") (hm : X.mg "tuple" = none) (hgr : Gl X "range") (hmr : X.mg "range" = none) (ha : VE X a ga) (hb : VE X b gb) (na : starEach [a, b] X.env = (false, eval a X.env) :: starEach [b] X.env := by rfl)
    (nb : starEach [b] X.env = (false, eval b X.env) :: starEach [] X.env := by rfl) (hp : (backTo pos2 (starEach [b] X.env)).any (·.1) = false := by rfl)
    (nc : starEach [.Call (.Name "range" p2) [a, b] [] pos2] X.env = (false, eval (.Call (.Name "range" p2) [a, b] [] pos2) X.env) :: starEach [] X.env := by rfl) : VE X (.Call (.Name "tuple" p) [.Call (.Name "range" p2) [a, b] [] pos2] [] pos) (eLR false rng2G (aCons ga (aCons gb aNil))) :=
  PE.to (pe_tupRg hc hg hm (prg_2 hgr hmr ha hb na nb hp) nc) fun σ H Q ⟨F, env, r, ok, e, q⟩ => rng2_run (Q := Q) ok e fun i j H2 s rk er => ⟨rk, fun l n sz => by
    subst er
    exact q _ _ (s.trans (same_new n)) sz (Res.newTup n (rgV_rp i j) (by simp))⟩
/-! ### default= -/
def VK' (X : Cx) (kws : List Keyword) (g : GA) : Prop := PK X kws (TA' X.K g)
theorem vk_nil : VK' X [] aNil := ⟨fun pos pins s σ H Q I ⟨F, env, rs, ok, e, q⟩ => pk_nil.run pos pins s σ H Q I (by cases e; exact q [] H (.nil (Same.refl H)))⟩
theorem vk_cons {kws : List Keyword} {nm : Option Str} {kpos : Pos} {t : GA} (ha : VE X a ga) (hr : VK' X kws t) : VK' X (⟨nm, a, kpos⟩ :: kws) (aCons ga t) :=
  ⟨fun pos pins s σ H Q I ⟨F, env, rs, ok, e, q⟩ => (pk_cons ha hr).run pos pins s σ H Q I (by
    obtain ⟨r, e1, e2⟩ := bind2 e
    obtain ⟨rs', e3, e4⟩ := bind2 e2
    cases e4
    exact ⟨F, env, r, ok, e1, fun v H1 s1 z1 r1 => ⟨F, env, rs', ok.mono s1, e3, fun vs H2 q2 => q _ H2 (.cons s1 r1 q2)⟩⟩)⟩
/-- min(xs, default = d), max(xs, default = d) -/
def mmDG (k : D → List D → D) : RV → RV → Option RV
  | (.list [], _), (d, f) => if plainFl f = true then some (d, .fz) else none
  | (.tuple [], _), (d, f) => if plainFl f = true then some (d, .fz) else none
  | r, (d, f) => if plainFl f = true then mmG k r else none
def rMMD (K : PySem.W.Frag) (k : D → List D → D) (x z : V) (H : Hp) (Q : VK) : Prop := ∃ (t : Bool) (p : Addr) (xs : List V) (ds : List D), x = .ref p ∧ SqB K H t p xs ∧ DpAll K H xs ds ∧ alikeB ds = true ∧ (ds = [] → Q z H) ∧ ∀ (d : D) (es : List D) (i : Nat) (v : V), ds = d :: es → xs[i]? = some v → ds[i]? = some (k d es) → Q v H
theorem pickD {pins : List (Addr × Obj)} {σ : L2.St} {H : Hp} {s : Shared} {xs : List V} {its : List Value} {ds : List D} {as : List Addr} {Q : VK} {k : D → List D → D} (I : Inv X pins σ H s) (rv : Vals xs its) (hr : ReadsAll s.heap its ds as) (al : PySem.W.AlikeAll ds) (hm : ∀ d es, ds = d :: es → k d es ∈ ds)
    (q : ∀ (d : D) (es : List D) (i : Nat) (v : V), ds = d :: es → xs[i]? = some v → ds[i]? = some (k d es) → Q v H) {d : D} {es : List D} (ed : ds = d :: es) {i : Nat} {v : Value} {h' : Heap} {tk : Nat} {bs : List Addr} (e : its.toArray[i]? = some v) (r : Reads h' v (k d es) bs) (hk : ∀ b o, s.heap.get? b = some o → h'.get? b = some o) :
    EP X pins σ Q v { s with heap := h', toks := tk } := by
  subst ed
  exact pick I rv hr al (hm d es rfl) (fun i v e1 e2 => q d es i v rfl e1 e2) e r hk
theorem crk_min (hc : X.calm = true) (hu : X.A.units + 64 < cLine) : CallRK X (.builtin "min") [Str.ofString "default"] (fun vs zs H Q => ∃ x z, vs = [x] ∧ zs = [z] ∧ rMMD X.K PySem.W.minD x z H Q) := by
  intro pins s σ H vs zs us ws Q I r rz h
  obtain ⟨x, z, rfl, rfl, t, p, xs, ds, rfl, sq, dp, al, q0, q⟩ := h
  rw [Vals.ref1 r]
  obtain ⟨u, rfl, ru⟩ := vals1 rz
  obtain ⟨ok, al⟩ := alikeB_of al
  obtain ⟨its, rv, hs⟩ := sqB_is I sq
  obtain ⟨as, hr⟩ := Dp.readsAll I _ _ _ dp rv
  have hd := (okA_of 9 _ ok).2.2
  have hm : ∀ d es, ds = d :: es → PySem.W.minD d es ∈ ds := fun d es e => by rw [e]; exact mm_mem (minD_mem d es d)
  cases t with
  | false => exact PySem.W.min_list_default (I.ok.hd hc) hs (by simpa using hr) al (roomA hu hd) (fun e h' tk hk => ⟨z, H, I.kept hk, ru, q0 e⟩) fun y ys i v h' tk bs ey e r hk => pickD I rv hr al hm q ey e r hk
  | true => exact PySem.W.min_tuple_default (I.ok.hd hc) hs (by simpa using hr) al (roomA hu hd) (fun e h' tk hk => ⟨z, H, I.kept hk, ru, q0 e⟩) fun y ys i v h' tk bs ey e r hk => pickD I rv hr al hm q ey e r hk
theorem crk_max (hc : X.calm = true) (hu : X.A.units + 64 < cLine) : CallRK X (.builtin "max") [Str.ofString "default"] (fun vs zs H Q => ∃ x z, vs = [x] ∧ zs = [z] ∧ rMMD X.K PySem.W.maxD x z H Q) := by
  intro pins s σ H vs zs us ws Q I r rz h
  obtain ⟨x, z, rfl, rfl, t, p, xs, ds, rfl, sq, dp, al, q0, q⟩ := h
  rw [Vals.ref1 r]
  obtain ⟨u, rfl, ru⟩ := vals1 rz
  obtain ⟨ok, al⟩ := alikeB_of al
  obtain ⟨its, rv, hs⟩ := sqB_is I sq
  obtain ⟨as, hr⟩ := Dp.readsAll I _ _ _ dp rv
  have hd := (okA_of 9 _ ok).2.2
  have hm : ∀ d es, ds = d :: es → PySem.W.maxD d es ∈ ds := fun d es e => by rw [e]; exact mm_mem (maxD_mem d es d)
  cases t with
  | false => exact PySem.W.max_list_default (I.ok.hd hc) hs (by simpa using hr) al (roomA hu hd) (fun e h' tk hk => ⟨z, H, I.kept hk, ru, q0 e⟩) fun y ys i v h' tk bs ey e r hk => pickD I rv hr al hm q ey e r hk
  | true => exact PySem.W.max_tuple_default (I.ok.hd hc) hs (by simpa using hr) al (roomA hu hd) (fun e h' tk hk => ⟨z, H, I.kept hk, ru, q0 e⟩) fun y ys i v h' tk bs ey e r hk => pickD I rv hr al hm q ey e r hk
theorem mmD_reads {K : PySem.W.Frag} {k : D → List D → D} {F : Addr → Prop} {H0 H : Hp} {v z : V} {a b c : RV} {Q : VK} (rv : Res K F H0 H v a) (rz : Res K F H0 H z b) (e : mmDG k a b = some c) (q : ∀ v H', Same H H' → Res K F H0 H' v c → Q v H') : rMMD K k v z H Q := by
  obtain ⟨d2, f2⟩ := b
  have nil : ∀ ds f, a = (.list ds, f) ∨ a = (.tuple ds, f) → ds = [] → rMMD K k v z H Q := fun ds f ha hd => by
    subst hd
    have e' : (if plainFl f2 = true then some ((d2, Fl.fz) : RV) else none) = some c := by rcases ha with rfl | rfl <;> exact e
    split at e'
    · rename_i hp
      cases e'
      obtain ⟨n1, n2⟩ := plain_ne hp
      have rz' := rz.frz n1 n2
      rcases ha with rfl | rfl
      · obtain ⟨p, vs, L, rfl, s, r, hl⟩ := rv.list
        cases r
        exact ⟨false, p, [], [], rfl, s, .nil, rfl, fun _ => q z H (Same.refl H) rz', fun _ _ _ _ h => nomatch h⟩
      · obtain ⟨p, vs, L, rfl, s, r, hl⟩ := rv.tuple
        cases r
        exact ⟨true, p, [], [], rfl, s, .nil, rfl, fun _ => q z H (Same.refl H) rz', fun _ _ _ _ h => nomatch h⟩
    · cases e'
  have cons : ∀ d ds f, a = (.list (d :: ds), f) ∨ a = (.tuple (d :: ds), f) → rMMD K k v z H Q := fun d ds f ha => by
    have e' : (if plainFl f2 = true then mmG k a else none) = some c := by rcases ha with rfl | rfl <;> exact e
    split at e'
    · obtain ⟨t, p, xs, d', ds', h1, h2, h3, h4, h5⟩ := mm_reads rv e' q
      refine ⟨t, p, xs, d' :: ds', h1, h2, h3, h4, (fun z => nomatch z), fun d es i v e1 e2 e3 => ?_⟩
      cases e1
      exact h5 i v e2 e3
    · cases e'
  obtain ⟨d, f⟩ := a
  have bad : (∀ ds, d ≠ .list ds) → (∀ ds, d ≠ .tuple ds) → False := fun h1 h2 => by
    have e' : (if plainFl f2 = true then mmG k (d, f) else none) = some c := by
      cases d <;> first | exact e | exact absurd rfl (h1 _) | exact absurd rfl (h2 _)
    split at e'
    · cases d <;> first | cases e' | exact absurd rfl (h1 _) | exact absurd rfl (h2 _)
    · cases e'
  cases d with
  | list ds =>
    cases ds with
    | nil => exact nil [] f (.inl rfl) rfl
    | cons d ds => exact cons d ds f (.inl rfl)
  | tuple ds =>
    cases ds with
    | nil => exact nil [] f (.inr rfl) rfl
    | cons d ds => exact cons d ds f (.inr rfl)
  | none => exact (bad (fun _ z => nomatch z) fun _ z => nomatch z).elim
  | bool _ => exact (bad (fun _ z => nomatch z) fun _ z => nomatch z).elim
  | int _ => exact (bad (fun _ z => nomatch z) fun _ z => nomatch z).elim
  | str _ => exact (bad (fun _ z => nomatch z) fun _ z => nomatch z).elim
  | dict _ => exact (bad (fun _ z => nomatch z) fun _ z => nomatch z).elim
def eMD (k : D → List D → D) (ga gb : GE) : GE := e2 (mmDG k) ga gb
theorem ve_mmD {k : D → List D → D} {x : Str} {id : String} {nm : Option Str} {kpos : Pos} (hr : CallRK X (.builtin id) [Str.ofString "default"] (fun vs zs H Q => ∃ x z, vs = [x] ∧ zs = [z] ∧ rMMD X.K k x z H Q)) (hg : Gl X x) (hm : X.mg x = none) (hv : bootBuiltins x = some (.builtin id))
    (ha : VE X a ga) (hb : VE X b gb) (hn : x ≠ "__name__" := by decide) (hdb : (x == ("__debug__" : Str)) = false := by decide) (he : backTo pos (starEach [a] X.env) = (false, eval a X.env) :: backTo pos (starEach [] X.env) := by rfl) (hs : starEach [a] X.env = (false, eval a X.env) :: starEach [] X.env := by rfl) (hpl : (backTo pos (starEach [a] X.env)).any (·.1) = false := by rfl)
    (hall : (backToKw pos (keywordEach [⟨nm, b, kpos⟩] X.env)).all (·.1.isSome) = true := by rfl) (hnone : (backToKw pos (keywordEach [⟨nm, b, kpos⟩] X.env)).any (·.1.isNone) = false := by rfl) (hks : (backToKw pos (keywordEach [⟨nm, b, kpos⟩] X.env)).filterMap (·.1) = [Str.ofString "default"] := by rfl) :
    VE X (.Call (.Name x p) [a] [⟨nm, b, kpos⟩] pos) (eMD k ga gb) :=
  PE.to (pe_callBK hr hg hm hv (va_cons ha va_nil hs) (vk_cons hb vk_nil) hn hdb he hpl hall hnone hks) fun σ H Q ⟨F, env, c, ok, e, q⟩ => by
    obtain ⟨x, e1, e⟩ := bind2 e
    obtain ⟨y, e3, e⟩ := bind2 e
    refine ⟨F, env, [x], ok, by show (ga env).bind _ = _; rw [e1]; rfl, fun vs H1 r1 => ⟨F, env, [y], ok.mono r1.same, by show (gb env).bind _ = _; rw [e3]; rfl, fun zs H2 r2 => ?_⟩⟩
    obtain ⟨v, rfl, rv⟩ := r1.one
    obtain ⟨w, rfl, rw⟩ := r2.one
    exact ⟨v, w, rfl, rfl, mmD_reads (rv.mono r2.same) (rw.back r1.same) e fun u H' s r sz => q u H' ((r1.same.trans r2.same).trans s) sz r⟩
/-! ### xs.index(k), ints -/
def ixOfG : RV → RV → Option RV
  | (.list ds, _), (.int k, _) => (intsOf ds).bind fun ns => if k ∈ ns then some (.int (ns.idxOf k : Nat), .fz) else none
  | _, _ => none
theorem mt_indexI : MtR X "list.index" (fun x xs H Q => ∃ (a : Addr) (ns : List Int) (k : Int), x = V.ref a ∧ xs = [.int k] ∧ SqL X.K H a (ns.map V.int) ∧ k ∈ ns ∧ Q (.int (ns.idxOf k : Nat)) H) := by
  intro pins s σ H x xs v us Q I rx rv h
  obtain ⟨a, ns, k, rfl, rfl, sq, hk, q⟩ := h
  cases rx
  obtain ⟨u, rfl, ru⟩ := vals1 rv
  obtain ⟨t, rfl⟩ := ru
  obtain ⟨its, r, pl, hz⟩ := I.list sq
  exact PySem.SeqAt.list_index_ints pl.isList r.ints (by simpa using hz) hk ⟨.int _, H, I.tok _, ⟨_, rfl⟩, q⟩
theorem ve_index {o : Expr} {apos cpos : Pos} (ho : VE X o ga) (hb : VE X b gb) (hbase : attributeBase o "index" X.env (eval o X.env) = eval o X.env := by rfl)
    (hfew : ((backTo cpos (starEach [b] X.env)).all (fun x => !x.1) && (backToKw cpos (keywordEach [] X.env)).all (fun x => x.1.isSome)
      && decide ([b].length + ([] : List Keyword).length + (if ([] : List Keyword).isEmpty then 0 else 1) < 30)) = true := by rfl)
    (hline : (apos.endLine == cpos.line) = true := by rfl) (hs : starEach [b] X.env = (false, eval b X.env) :: starEach [] X.env := by rfl) (hplain : (backTo cpos (starEach [] X.env)).any (·.1) = false := by rfl) : VE X (.Call (.Attribute o "index" apos) [b] [] cpos) (e2 ixOfG ga gb) :=
  PE.to (pe_bm PySem.F.plainAttrs_list PySem.F.slot_list_index PySem.F.type_list_index mt_indexI ho (va_cons hb va_nil hs) hbase hfew hline hs hplain) fun σ H Q ⟨F, env, c, ok, e, q⟩ => by
    obtain ⟨x, e1, ea⟩ := bind2 e
    obtain ⟨y, e3, eb⟩ := bind2 ea
    clear e ea
    obtain ⟨d, f⟩ := x
    obtain ⟨d2, f2⟩ := y
    cases d <;> try (cases (show (none : Option RV) = some c from eb))
    cases d2 <;> try (cases (show (none : Option RV) = some c from eb))
    rename_i ds k
    obtain ⟨ns, e4, e5⟩ := bind2 (show (intsOf ds).bind (fun ns => if k ∈ ns then some ((.int (ns.idxOf k : Nat), .fz) : RV) else none) = some c from eb)
    split at e5
    · rename_i hk
      cases e5
      cases intsOf_of e4
      refine ⟨F, env, _, ok, e1, fun v H1 s1 z1 rv => ?_⟩
      obtain ⟨p, vs, L, rfl, sq, r, hl⟩ := rv.list
      cases rpa_ints_inv r
      refine ⟨.inl ⟨rfl, _, sq⟩, F, env, [(.int k, f2)], ok.mono s1, by show (gb env).bind _ = _; rw [e3]; rfl, fun zs H2 r2 => ?_⟩
      obtain ⟨w, rfl, rw⟩ := r2.one
      exact ⟨p, ns, k, rfl, by rw [rw.int], r2.same.seq sq, hk, fun sz => q _ H2 (s1.trans r2.same) sz Res.ofInt⟩
    · cases e5
end
end Pl

set_option Elab.async false
set_option linter.all false
set_option maxRecDepth 100000
set_option maxHeartbeats 4000000
/-! Pl14: sorted(xs, key = f) for f(x) = (len(x), x) or (-len(x), x) -/
namespace Pl
open PySem PySem.Spec PyProof.Rows L2 PySem.W

/-- e gives an int, with nothing changed but new objects: by the value of the name in slot 0 -/
def ExI (X : Cx) (e : Expr) (m : Nat → Int) : Prop := ∀ (pins : List (Addr × Obj)) (s : Shared) (σ : L2.St) (H : Hp) (E : Value → Shared → Prop) (Q : Value → Shared → Prop) (a : Addr) (xs : List V), Inv X pins σ H s → σ[0]? = some (some (.ref a)) → SqT X.K H a xs →
  (∀ tk t, Q (.int (m xs.length) t) { s with toks := tk }) → wpAny (model X.prog X.w) X.A (eval e X.env) Q E s
theorem ex_name {X : Cx} {x : Str} {p : Pos} {pins : List (Addr × Obj)} {s : Shared} {σ : L2.St} {H : Hp} {E : Value → Shared → Prop} {Q : Value → Shared → Prop} {a : Addr} (I : Inv X pins σ H s) (h0 : σ[0]? = some (some (.ref a))) (hN : X.N[0]? = some x) (hl : X.env.scope.names.lookup x = some .local) (hd : (x == ("__debug__" : Str)) = false) (q : Q (.ref a) s) :
    wpAny (model X.prog X.w) X.A (eval (.Name x p) X.env) Q E s := by
  obtain ⟨m, hn, hh⟩ := I.loc
  obtain ⟨u, r, l⟩ := hh 0 x (.ref a) hN h0 (.inl hl)
  cases r
  rcases l with ⟨hk, hm⟩ | ⟨hk, _⟩
  · exact wpAny_Name (wpAny_loadName_local I.ok.kind hk hn hm q) hd
  · have hk' : X.env.scope.names.lookup x = some .cell ∨ X.env.scope.names.lookup x = some .free := hk
    rw [hl] at hk'
    rcases hk' with z | z <;> cases z
theorem ex_len {X : Cx} {x : Str} {p q pos : Pos} (hg : Gl X "len") (hm : X.mg "len" = none) (hN : X.N[0]? = some x) (hl : X.env.scope.names.lookup x = some .local) (hd : (x == ("__debug__" : Str)) = false)
    (hs : starEach [.Name x p] X.env = (false, eval (.Name x p) X.env) :: starEach [] X.env) (hpl : (backTo pos (starEach [] X.env)).any (·.1) = false) : ExI X (.Call (.Name "len" q) [.Name x p] [] pos) (fun n => (n : Int)) := by
  intro pins s σ H E Q a xs I h0 sq k
  refine wpAny_Call_Name_kw (ld_blt I hg hm bt_len ?_ (by decide) (by decide))
  refine PyProof.Rows.callWith_builtin1 ?_ hs hpl
  rw [hs]
  refine Calls.spliced_cons (ex_name I h0 hN hl hd (Calls.spliced_nil ?_))
  obtain ⟨its, rv, pl, hz⟩ := I.tuple sq
  have e := rv.length
  have hn := line63
  refine PyProof.Rows.len_tuple pl (by simp only [List.size_toArray]; omega) ?_
  have := k (s.toks + 1 + 1) (s.toks + 1)
  rw [e] at this
  exact this
theorem ex_neg {X : Cx} {e : Expr} {m : Nat → Int} {pos : Pos} (h : ExI X e m) : ExI X (.UnaryOp .USub e pos) (fun n => -m n) := by
  intro pins s σ H E Q a xs I h0 sq k
  refine UnaryOp_ (h pins s σ H E _ a xs I h0 sq fun tk t => ?_)
  exact neg_int (k _ _)
mutual
theorem reads_lf {h : Heap} : ∀ (d : D) {v : Value} {as : List Addr}, Reads h v d as → lf d = true → as = []
  | .none, _, _, r, _ => by cases r; rfl
  | .bool _, _, _, r, _ => by cases r; rfl
  | .int _, _, _, r, _ => by cases r; rfl
  | .str _, _, _, r, _ => by cases r; rfl
  | .list _, _, _, _, n => by simp [lf] at n
  | .dict _, _, _, _, n => by simp [lf] at n
  | .tuple ds, _, _, r, n => by
    rw [lf] at n
    cases r with
    | tuple _ _ _ h4 => exact readsA_lf ds h4 n
theorem readsA_lf {h : Heap} : ∀ (ds : List D) {vs : List Value} {as : List Addr}, ReadsAll h vs ds as → lfA ds = true → as = []
  | [], _, _, r, _ => by cases r; rfl
  | d :: ds, _, _, r, n => by
    rw [lfA, Bool.and_eq_true] at n
    cases r with
    | cons r1 r2 => rw [reads_lf d r1 n.1, readsA_lf ds r2 n.2]; rfl
end
theorem dp_len {K : PySem.W.Frag} {H : Hp} : ∀ (ds : List D) {vs : List V}, DpAll K H vs ds → vs.length = ds.length
  | [], _, h => by cases h; rfl
  | d :: ds, _, h => by
    cases h with
    | cons h1 h2 => simp [dp_len ds h2]
/-- the key -/
def szKey (m : Nat → Int) : D → D
  | .tuple ds => .tuple [.int (m ds.length), .tuple ds]
  | d => d
/-- f may be a key: its calls change nothing -/
structure KeyF (P : Program) (w : World) (K : PySem.W.Frag) (mg : Str → Option Value) (base : Heap) (x : Str) (m : Nat → Int) : Prop where
  ex : ∃ f : Addr, mg x = some (.ref f) ∧ ∀ (A : Around) (outer : List Env) (s : Shared) (H : Hp) (a : Addr) (xs : List V) (ds : List D), Room 1 A → Env0 P w K mg base A outer s H → SqT K H a xs → DpAll K H xs ds → lfA ds = true →
    wpAny (model P w) A (call (.ref f) [.ref a]) (KeyPure (.tuple [.int (m ds.length), .tuple ds]) s) (fun _ _ => False) s
theorem key_of {P : Program} {w : World} {K : PySem.W.Frag} {mg : Str → Option Value} {base : Heap} {x y : Str} {st : Stmt} {m : Nat → Int} {e : Expr} {p1 p2 p3 : Pos} {k : Nat} (T : Tp K mg x st) (S : FnScope [y] [y] (defScope st)) (hb : defBody st = [.Return (some (.Tuple [e, .Name y p1] k p2)) p3])
    (hbi : ∀ (kV doc pm : Value) (an : Option Addr) (cdv ct : Value) (us : List Value), us.length = 1 → bindArgs (PySem.W.fnOf x x (defArgs st) (defBody st) (defScope st) .none kV doc pm an cdv ct) ⟨us, []⟩ = pure ([y].zip us))
    (hl : (defScope st).names.lookup y = some .local) (hd : (y == ("__debug__" : Str)) = false) (hcl : (defScope st).names.all (fun z => z.2 != .cell) = true)
    (he : ∀ (f : Addr) (cdv : Value) (A : Around) (outer : List Env) (s : Shared) (H : Hp) (E : XK), ExI (cxOf CX0 P w K mg base [y] x (defScope st) f cdv A outer s H E) e m)
    (hs : ∀ env, starEach [e, .Name y p1] env = (false, eval e env) :: (false, eval (.Name y p1) env) :: []) : KeyF P w K mg base x m := by
  obtain ⟨f, fd, F, hm⟩ := T.ex
  obtain ⟨oc, od, kV, doc, pm, an, cdv, ct, osl, rfl, lk, hcd⟩ := F.ex
  refine ⟨f, hm, fun A outer s H a xs ds hr e0 sq dp hlf => ?_⟩
  have KX : K.In s.heap := e0.mod.kin.keeps fun b o e => (e0.bs b o e).1
  have lim : s.heap.NoLimit := e0.mod.nolimit.keeps fun b o e => (e0.bs b o e).1
  refine wpAny_call ?_
  refine codeAny_call_function hr.depth (KX _ _ lk) rfl S.co S.gen rfl (PySem.W.codeRec_of KX hcd) ?_
  rw [hbi kV doc pm an cdv ct [.ref a] rfl]
  refine wpAny_pure ?_
  have hkind : ∀ z ∈ [y].zip [Value.ref a], (defScope st).names.lookup z.1 = some .local ∨ ((defScope st).names.lookup z.1 = some .cell ∧ ((cellsFrom (s.heap.objs.size + 1) (defScope st).names []).lookup z.1).isSome = true) := fun z hz => by
    have : z = (y, Value.ref a) := by simpa using hz
    subst this
    exact .inl hl
  refine wpAny_newFunctionEnv_cells S.kind hkind fun env he0 s1 ic => ?_
  subst he0
  refine ⟨lim.keeps ic.toInCall.keep, codeAny_func ?_⟩
  have I : Inv (cxOf CX0 P w K mg base [y] x (defScope st) f cdv A outer s H E0) [] (L2.start [y] [V.ref a]) H s1 := inv_start S hr.hd e0 rfl (.cons rfl .nil) ic
  obtain ⟨h1, tk1, hs1, hk1⟩ := ic.done
  show wpAny _ _ (execs (defBody st) _) _ _ _
  rw [hb]
  have h0 : (L2.start [y] [V.ref a])[0]? = some (some (V.ref a)) := rfl
  refine wpAny_execs_cons (wpAny_Return_some (wpAny_Tuple_spliced ?_))
  rw [hs]
  refine Calls.spliced_cons (he f cdv A outer s H E0 [] s1 _ H _ _ a xs I h0 sq fun tk t => ?_)
  have I2 := I.tok tk
  refine Calls.spliced_cons (ex_name (p := p1) I2 h0 rfl hl hd (Calls.spliced_nil ⟨by show 2 ≤ sizeLine; decide, ?_⟩))
  have hlen : xs.length = ds.length := dp_len ds dp
  subst hs1
  obtain ⟨as, hr1⟩ := Dp.reads I (.tuple ds) (.ref a) (.ref a) (.tup sq dp) rfl
  have has : as = [] := reads_lf (.tuple ds) hr1 (by rw [lf]; exact hlf)
  subst has
  refine ⟨h1.push { cls := .type "tuple", data := .seq [Value.int (m xs.length) t, Value.ref a].toArray }, tk, rfl, fun b o q => Heap.get?_push_of_some _ (hk1 b o q), ?_⟩
  have hr2 : Reads (h1.push { cls := .type "tuple", data := .seq [Value.int (m xs.length) t, Value.ref a].toArray }) (.ref a) (.tuple ds) [] := PyProof.Rows.Reads.keeps (fun b o q => Heap.get?_push_of_some _ q) hr1
  rw [← hlen]
  exact Reads.tuple (Heap.get?_push_size _ rfl) rfl rfl (ReadsAll.cons (.int _ _) (ReadsAll.cons hr2 .nil))

def keyB (m : Nat → Int) (ds : List D) : Bool := (ds.all fun d => isTup d && lf d) && okA 9 ds && sortB (ds.map (szKey m))
def sortKG (m : Nat → Int) : RV → Option RV
  | (.list ds, _) => if keyB m ds = true ∧ ds.length ≤ 16777216 then some (.list (ds.mergeSort fun a b => leD (szKey m a) (szKey m b)), .ow) else none
  | _ => none
def rSortK (K : PySem.W.Frag) (m : Nat → Int) (x : V) (H : Hp) (Q : VK) : Prop := ∃ (p : Addr) (xs : List V) (ds : List D), x = .ref p ∧ SqL K H p xs ∧ DpAll K H xs ds ∧ xs.length = ds.length ∧ keyB m ds = true ∧ ds.length ≤ 16777216 ∧
  ∀ l, H l = none → Q (.ref l) (upd H l (.lst (((xs.zip ds).mergeSort (dataLe false (fun b : V × D => szKey m b.2))).map (·.1))))
section
variable {X : Cx}
theorem each_mem2 {pins : List (Addr × Obj)} {σ : L2.St} {H : Hp} {s : Shared} (I : Inv X pins σ H s) {xs : List V} {ds : List D} {us : List Value} (dp : DpAll X.K H xs ds) (rv : Vals xs us) : EachIs (fun v (b : V × D) => (RelV b.1 v ∧ Dp X.K H b.1 b.2) ∧ b ∈ xs.zip ds) us (xs.zip ds) := each_mem (each_of I dp rv)
theorem crk_sort {x : Str} {m : Nat → Int} {f : Addr} (hu : X.A.units + 64 < cLine) (hr : Room 2 X.A) (hf : ∀ (A : Around) (outer : List Env) (s : Shared) (H : Hp) (a : Addr) (xs : List V) (ds : List D), Room 1 A → Env0 X.prog X.w X.K X.mg X.base A outer s H → SqT X.K H a xs → DpAll X.K H xs ds → lfA ds = true →
    wpAny (model X.prog X.w) A (call (.ref f) [.ref a]) (KeyPure (.tuple [.int (m ds.length), .tuple ds]) s) (fun _ _ => False) s) :
    CallRK X (.builtin "sorted") [Str.ofString "key"] (fun vs zs H Q => ∃ x, vs = [x] ∧ zs = [.ref f] ∧ rSortK X.K m x H Q) := by
  intro pins s σ H vs zs us ws Q I r rz h
  obtain ⟨x, rfl, rfl, p, xs, ds, rfl, sq, dp, hlen, hb, hz, q⟩ := h
  rw [Vals.ref1 r, Vals.ref1 rz]
  obtain ⟨its, rv, pl, hzz⟩ := I.list sq
  unfold keyB at hb
  rw [Bool.and_eq_true, Bool.and_eq_true] at hb
  obtain ⟨⟨hb1, hb0⟩, hb2⟩ := hb
  have e := each_mem2 I dp rv
  have hds : (xs.zip ds).map (fun b : V × D => szKey m b.2) = ds.map (szKey m) := by
    have := congrArg (List.map (szKey m)) (zip_snd hlen)
    rw [List.map_map] at this
    exact this
  have hbl : (xs.zip ds).length = ds.length := by rw [List.length_zip, hlen, Nat.min_self]
  have hs2 := hb2
  unfold sortB at hs2
  rw [Bool.and_eq_true, Bool.and_eq_true] at hs2
  obtain ⟨⟨s1, s2⟩, s3⟩ := hs2
  have hal : AllAlike ((xs.zip ds).map fun b : V × D => szKey m b.2) := by
    rw [hds]
    exact fun x hx y hy => List.all_eq_true.mp (List.all_eq_true.mp s2 x hx) y hy
  have tupd : ∀ b ∈ xs.zip ds, ∃ es, b.2 = .tuple es ∧ lfA es = true := fun b hbm => by
    have hb3 : b.2 ∈ ds := (List.of_mem_zip hbm).2
    have := List.all_eq_true.mp hb1 b.2 hb3
    rw [Bool.and_eq_true] at this
    obtain ⟨es, ee⟩ := isTup_of this.1
    exact ⟨es, ee, by have h2 := this.2; rw [ee, lf] at h2; exact h2⟩
  have hsk : Sortable ((xs.zip ds).map fun b : V × D => szKey m b.2) := .inl fun d hd => by
    obtain ⟨b, hbm, rfl⟩ := List.mem_map.mp hd
    obtain ⟨es, ee, _⟩ := tupd b hbm
    rw [ee]
    exact ⟨_, _, rfl⟩
  have hdep : ∀ b, b ∈ xs.zip ds → X.A.units + 2 + (szKey m b.2).depth < cLine := fun b hbm => by
    rw [okA_all] at s1
    have hm : szKey m b.2 ∈ ds.map (szKey m) := by
      rw [← hds]
      exact List.mem_map_of_mem hbm
    have := (okD_of 9 _ (List.all_eq_true.mp s1 _ hm)).2.2
    omega
  have hI : its.length ≤ sizeLine := by rw [← rv.length]; exact hzz
  refine sorted_key_data (b := false) (fun b : V × D => szKey m b.2) pl.isList e hal hsk (by rw [hbl, sizeLine_eq]; exact hz) hdep (ksk_s1 _ _) (fun _ => ksk_l1 _ _) (fun _ => ksk_t1 _ _) ?_ ?_
  · rintro v b ⟨⟨r1, d1⟩, hbm⟩ _ h tk kp
    obtain ⟨es, ee, hlf⟩ := tupd b hbm
    obtain ⟨b1, b2⟩ := b
    simp only at ee r1 d1
    subst ee
    cases d1 with
    | tup sqt dps =>
      cases r1
      have I2 : Inv X pins σ H { s with heap := h, toks := tk } := I.kept kp
      have e0 := I2.env0
      have hr2 : Room 1 X.A.in1.in1 := ⟨hr.hd, by have := hr.dp; show X.A.depth + 3 * 1 + 5 < _; omega, by have := hr.un; show X.A.units + 1 + 1 + 16 * 1 + 200 < _; omega⟩
      have e1 : Env0 X.prog X.w X.K X.mg X.base X.A.in1.in1 X.stack { s with heap := h, toks := tk } H := e0.in1.in1
      exact hf X.A.in1.in1 X.stack _ H _ _ es hr2 e1 sqt dps hlf
  · intro out c h' tk kp hn hD hlo eo
    have eo2 := eo.mono (R' := fun v (b : V × D) => RelV b.1 v ∧ Dp X.K H b.1 b.2) fun v b z => z.1
    have rv2 := vals_each eo2
    have hlen2 : (((xs.zip ds).mergeSort (dataLe false (fun b : V × D => szKey m b.2))).map (·.1)).length ≤ sizeLine := by
      rw [List.length_map, List.length_mergeSort, hbl, sizeLine_eq]; exact hz
    exact ⟨.ref _, upd H (s.heap.objs.size + 1) (.lst (((xs.zip ds).mergeSort (dataLe false (fun b : V × D => szKey m b.2))).map (·.1))), I.laid (t' := tk) kp (Nat.le_succ _) ⟨hlen2, _, c, rv2, hD⟩, rfl, q _ (I.hok.fresh (Nat.le_succ _))⟩
variable {a : Expr} {ga : GE} {p pos kp kpos : Pos} {y : Str} {nm : Option Str}
def eSK (m : Nat → Int) (ga : GE) : GE := fun env => (ga env).bind (sortKG m)
theorem ve_sortK {m : Nat → Int} {j : Nat} (kf : KeyF X.prog X.w X.K X.mg X.base y m) (hr : Room j X.A) (hj : 2 ≤ j) (hg : Gl X "sorted") (hm : X.mg "sorted" = none) (hgy : Gl X y) (ha : VE X a ga) (hdy : (y == ("__debug__" : Str)) = false := by decide)
    (he : backTo pos (starEach [a] X.env) = (false, eval a X.env) :: backTo pos (starEach [] X.env) := by rfl) (hs : starEach [a] X.env = (false, eval a X.env) :: starEach [] X.env := by rfl) (hpl : (backTo pos (starEach [a] X.env)).any (·.1) = false := by rfl)
    (hall : (backToKw pos (keywordEach [⟨nm, .Name y kp, kpos⟩] X.env)).all (·.1.isSome) = true := by rfl) (hnone : (backToKw pos (keywordEach [⟨nm, .Name y kp, kpos⟩] X.env)).any (·.1.isNone) = false := by rfl) (hks : (backToKw pos (keywordEach [⟨nm, .Name y kp, kpos⟩] X.env)).filterMap (·.1) = [Str.ofString "key"] := by rfl) :
    VE X (.Call (.Name "sorted" p) [a] [⟨nm, .Name y kp, kpos⟩] pos) (eSK m ga) := by
  obtain ⟨f, hmy, hf⟩ := kf.ex
  refine PE.to (pe_callBK (x := "sorted") (crk_sort (x := y) hr.units (hr.mono hj) hf) hg hm bt_sorted (va_cons ha va_nil hs) (pk_cons (pe_glob (v := .ref f) hgy hmy rfl hdy) pk_nil) (by decide) (by decide) he hpl hall hnone hks) fun σ H Q ⟨F, env, c, ok, e, q⟩ => ?_
  obtain ⟨x, e1, e2⟩ := bind2 e
  refine ⟨F, env, [x], ok, by show (ga env).bind _ = _; rw [e1]; rfl, fun vs H1 r1 => ?_⟩
  obtain ⟨v, rfl, rv⟩ := r1.one
  refine ⟨v, rfl, rfl, ?_⟩
  obtain ⟨d, fl⟩ := x
  cases d <;> try (cases (show (none : Option RV) = some c from e2))
  rename_i ds
  have e' : (if keyB m ds = true ∧ ds.length ≤ 16777216 then some ((.list (ds.mergeSort fun a b => leD (szKey m a) (szKey m b)), .ow) : RV) else none) = some c := e2
  split at e'
  · rename_i hc
    cases e'
    obtain ⟨p, vs, L, rfl, s, r, hl⟩ := rv.list
    have hb := hc.1
    unfold keyB at hb
    rw [Bool.and_eq_true, Bool.and_eq_true] at hb
    refine ⟨p, vs, ds, rfl, s, r.dp _ (okA_of 9 _ hb.1.2).1, r.length, hc.1, hc.2, fun l n sz => q _ _ (r1.same.trans (same_new n)) sz ?_⟩
    have hz := zip_snd r.length
    have hm : ((vs.zip ds).mergeSort (dataLe false (fun b : V × D => szKey m b.2))).map (·.2) = ds.mergeSort fun a b => leD (szKey m a) (szKey m b) := by
      have := sort_maps (r := dataLe false (fun b : V × D => szKey m b.2)) (s := fun a b => leD (szKey m a) (szKey m b)) (fun b : V × D => b.2) (l := vs.zip ds) (fun a _ b _ => rfl)
      rw [this, hz]
    obtain ⟨L2, ra2, hl2⟩ := rpa_pairs (K := X.K) (H := H1) (G := fun b => b ∈ L) ((vs.zip ds).mergeSort (dataLe false (fun b : V × D => szKey m b.2))) fun p hp => rpa_zip r p (List.mem_mergeSort.mp hp)
    rw [hm] at ra2
    exact Res.newList n r1.same ra2 fun b hb => hl b (hl2 b hb)
  · cases e'
end
end Pl

set_option Elab.async false
set_option linter.all false
set_option maxRecDepth 100000
set_option maxHeartbeats 4000000
/-! Pl15: sorted(set(xs)), len(set(xs)) of ints -/
namespace Pl
open PySem PySem.Spec PyProof.Rows L2

set_option maxHeartbeats 8000000 in
/-- set(xs) of a list of ints (the way L2.call_set_tupI goes for a tuple) -/
theorem call_set_listI {P : Program} {w : World} {A : Around} {E : Value → Shared → Prop} {s : Shared} {l : Addr} {items : Array Value} (ns : List Int) {Q : Value → Shared → Prop} (hh : A.handled = none) (hl : s.heap.IsList l items) (hit : IntsAre items.toList ns) (hb : ns.length + 1 < scanBound)
    (h : ∀ (h' : Heap) (tk c : Nat), SetR w h' s.heap.objs.size (fun j => decide (j ∈ ns)) c → c ≤ ns.length → (∀ b o, s.heap.get? b = some o → h'.get? b = some o) → Q (.ref s.heap.objs.size) { s with heap := h', toks := tk }) :
    wpAny (model P w) A (call (.type "set") [.ref l]) Q E s := by
  have hisz : items.size = ns.length := by
    have q := IntsAre.length hit
    rw [Array.length_toList] at q
    exact q
  obtain ⟨c, tl, hmro⟩ := F.called_set.mro
  have hmade := F.called_set.made
  have hsub := F.called_set.sub
  refine wpAny_call (codeAny_of_tree ?_)
  show wpAny _ _ (callAny (.type "set") _) _ _ _
  refine wpAny_pure ⟨Code.quiet_builtin _ (by decide +kernel), codeAny_builtin F.entry_type_call ?_⟩
  rw [Around.under_plain (weight_type_call_type "set" [.ref l] []) rfl]
  have h1 := F.called_set.notType
  have h2 := F.called_set.canCreate
  have hct := F.typeCall_set_1 (.ref l)
  repeat (any_goals (first | assumption | wp_step))
  refine codeAny_mono (code_set_led1 (.ref l) (E := E) (Q₁ := fun obj s₁ => obj = .ref s.heap.objs.size ∧ s₁ = { s with heap := s.heap.push { cls := .type "set", dict := none, data := .set #[] 0 (.fresh 0 0 (!w.params.followText "set-order")) } }) ⟨rfl, rfl⟩) fun r s₁ hr => ?_
  cases r with
  | error e => exact hr
  | ok fl =>
    cases fl with
    | ret obj =>
      obtain ⟨rfl, rfl⟩ := hr
      have hS : (s.heap.push { cls := .type "set", dict := none, data := .set #[] 0 (.fresh 0 0 (!w.params.followText "set-order")) }).get? s.heap.objs.size = some { cls := .type "set", dict := none, data := .set #[] 0 (.fresh 0 0 (!w.params.followText "set-order")) } := Heap.get?_push_size _ rfl
      have hT : Shared.TypeIs { s with heap := s.heap.push { cls := .type "set", dict := none, data := .set #[] 0 (.fresh 0 0 (!w.params.followText "set-order")) } } (.ref s.heap.objs.size) "set" := ⟨_, hS, rfl⟩
      have hli := F.called_set.init.lookup
      have hbi := F.called_set.init.bind (.ref s.heap.objs.size)
      repeat (any_goals (first | assumption | wp_step))
      refine codeAny_mono (codeAny_call_builtin (R := wants (fun r s₂ => r = .none ∧ ∃ h' tk c, s₂ = { s with heap := h', toks := tk } ∧ SetR w h' s.heap.objs.size (fun j => decide (j ∈ ns)) c ∧ c ≤ ns.length ∧
          (∀ b o, s.heap.get? b = some o → h'.get? b = some o)) E) F.called_set.init.plain F.entry_set_init (check_set_init_1 hT ?_)) fun r₂ s₂ hr₂ => ?_
      · obtain ⟨ol, hol, hcl, nl, hdl⟩ := hl
        obtain ⟨ocls, odict, odata, oslots⟩ := ol
        simp only at hcl hdl
        subst hcl; subst hdl
        have hol' : (s.heap.push { cls := .type "set", dict := none, data := .set #[] 0 (.fresh 0 0 (!w.params.followText "set-order")) }).get? l = some { cls := .type "list", dict := odict, data := .seq items nl, slots := oslots } := Heap.get?_push_of_some _ hol
        have hsls := F.sub_list_set
        have hslf := F.sub_list_frozenset
        have hne : (Value.type "list" == Value.type "dict") = false := by decide
        have hl1 : (s.heap.push { cls := .type "set", dict := none, data := .set #[] 0 (.fresh 0 0 (!w.params.followText "set-order")) }).IsList l items := ⟨_, hol', rfl, nl, rfl⟩
        unfold Builtin.«set.__init__» noKeywords Builtin.Frozenset.updateFrom
        generalize hPI : pyIter = PI
        wp_walk
        subst hPI
        refine wpAny_pyIter_list hl1 ?_
        refine wpAny_bind (wpAny_runValue ?_)
        have hlS : l < s.heap.objs.size := Heap.lt_size hol
        have hh3 : A.in1.in1.in1.handled = none := by simp [hh]
        have hneI : l ≠ (s.heap.push { cls := .type "set", dict := none, data := .set #[] 0 (.fresh 0 0 (!w.params.followText "set-order")) }).objs.size := by
          rw [Heap.size_push]; exact Nat.ne_of_lt (Nat.lt_succ_of_lt hlS)
        have hSf : s.heap.objs.size ∉ [(s.heap.push { cls := .type "set", dict := none, data := .set #[] 0 (.fresh 0 0 (!w.params.followText "set-order")) }).objs.size, l] := by
          rw [Heap.size_push]; simp only [List.mem_cons, List.mem_singleton, List.not_mem_nil, or_false, not_or]
          exact ⟨Nat.ne_of_lt (Nat.lt_succ_self _), Nat.ne_of_gt hlS⟩
        have hval : ∀ (i : Nat) (v : Value), items[i]? = some v → ∃ k t, ns[i]? = some k ∧ v = .int k t := fun i v hv => by
          have hi : i < ns.length := by rw [← hisz]; exact (Array.getElem?_eq_some_iff.mp hv).1
          obtain ⟨t, e⟩ := PyProof.Rows.IntsAre.int_at hit i v (by rw [Array.getElem?_toList]; exact hv)
          refine ⟨ns[i], t, List.getElem?_eq_getElem hi, ?_⟩
          rw [e, List.getD_eq_getElem?_getD, List.getElem?_eq_getElem hi] <;> rfl
        refine set_update_ints ((Walks.list hh3 _ l hneI items).toS) s.heap.objs.size
          hSf ns hisz hb hval (items.size - 0) 0 _ (by omega) (Nat.zero_le _)
          ⟨⟨_, Heap.get?_push_size _ rfl, rfl, rfl⟩, (hl1.push _)⟩ ?hS0 ?hR
        case hS0 =>
          have hget : ((s.heap.push { cls := .type "set", dict := none, data := .set #[] 0 (.fresh 0 0 (!w.params.followText "set-order")) }).push { cls := .type "list_iterator", data := .fields #[.ref l, .int 0 0] }).get? s.heap.objs.size
              = some { cls := .type "set", dict := none, data := .set #[] 0 (.fresh 0 0 (!w.params.followText "set-order")) } := Heap.get?_push_of_some _ hS
          exact ⟨0, Nat.le_refl 0, setR_new_at hget⟩
        case hR =>
          intro s' c' hm hc' hS'
          obtain ⟨h', g2, d', tk', os'⟩ := s'
          have eg : g2 = s.gens := hm.gens
          have ed : d' = s.drawn := hm.drawn
          have eo : os' = s.os := hm.os
          subst eg; subst ed; subst eo
          show wpAny _ _ _ _ _ _
          refine wpAny_pure ?_
          show wpAny _ _ (ret Value.none) _ _ _
          rw [hisz] at hc'
          refine wpAny_pure ⟨rfl, h', tk', c', rfl, hS', hc', fun b o e => ?_⟩
          have hb0 : b < s.heap.objs.size := Heap.lt_size e
          have hb1 : b ≠ s.heap.objs.size := Nat.ne_of_lt hb0
          have hb2 : b ≠ (s.heap.push { cls := .type "set", dict := none, data := .set #[] 0 (.fresh 0 0 (!w.params.followText "set-order")) }).objs.size := by
            rw [Heap.size_push]; exact Nat.ne_of_lt (Nat.lt_succ_of_lt hb0)
          exact hm.heap b o (by simp only [List.mem_cons, List.mem_singleton, List.not_mem_nil, or_false, not_or]; exact ⟨hb1, hb2⟩) (Heap.get?_push_of_some _ (Heap.get?_push_of_some _ e))
      · cases r₂ with
        | error e => exact hr₂
        | ok fl₂ =>
          cases fl₂ with
          | ret r =>
            obtain ⟨rfl, h', tk, c', rfl, hS', hc', hk'⟩ := hr₂
            repeat (any_goals (first | assumption | wp_step))
            exact h _ _ _ hS' hc' hk'
          | _ => exact hr₂.elim
    | _ => exact hr.elim
end Pl

set_option Elab.async false
set_option linter.all false
set_option maxRecDepth 100000
set_option maxHeartbeats 4000000
/-! Pl16: sorted(set(xs)), len(set(xs)) of ints: the rules -/
namespace Pl
open PySem PySem.Spec PyProof.Rows L2

/-- into a strictly rising list -/
def insS (k : Int) : List Int → List Int
  | [] => [k]
  | x :: xs => if k < x then k :: x :: xs else if k = x then x :: xs else x :: insS k xs
def ssort : List Int → List Int
  | [] => []
  | k :: ks => insS k (ssort ks)
theorem mem_insS {k j : Int} : ∀ {xs : List Int}, j ∈ insS k xs ↔ j = k ∨ j ∈ xs
  | [] => by simp [insS]
  | x :: xs => by
    unfold insS
    split
    · simp
    · split
      · rename_i h; subst h; simp
      · rw [List.mem_cons, mem_insS, List.mem_cons]
        constructor
        · rintro (h | h | h) <;> simp [h]
        · rintro (h | h | h) <;> simp [h]
theorem mem_ssort {j : Int} : ∀ {xs : List Int}, j ∈ ssort xs ↔ j ∈ xs
  | [] => by simp [ssort]
  | x :: xs => by rw [ssort, mem_insS, mem_ssort, List.mem_cons]
theorem insS_up {k : Int} : ∀ {xs : List Int}, xs.Pairwise (· < ·) → (insS k xs).Pairwise (· < ·)
  | [], _ => by simp [insS]
  | x :: xs, h => by
    obtain ⟨h1, h2⟩ := List.pairwise_cons.mp h
    unfold insS
    split
    · rename_i c
      refine List.pairwise_cons.mpr ⟨fun y hy => ?_, h⟩
      rcases List.mem_cons.mp hy with rfl | hy
      · exact c
      · exact Int.lt_trans c (h1 y hy)
    · split
      · exact h
      · refine List.pairwise_cons.mpr ⟨fun y hy => ?_, insS_up h2⟩
        rcases mem_insS.mp hy with rfl | hy
        · omega
        · exact h1 y hy
theorem ssort_up : ∀ xs : List Int, (ssort xs).Pairwise (· < ·)
  | [] => List.Pairwise.nil
  | x :: xs => insS_up (ssort_up xs)
theorem up_unique : ∀ {xs ys : List Int}, xs.Pairwise (· < ·) → ys.Pairwise (· < ·) → (∀ k, k ∈ xs ↔ k ∈ ys) → xs = ys
  | [], [], _, _, _ => rfl
  | [], y :: ys, _, _, h => by have := (h y).mpr List.mem_cons_self; simp at this
  | x :: xs, [], _, _, h => by have := (h x).mp List.mem_cons_self; simp at this
  | x :: xs, y :: ys, hx, hy, h => by
    obtain ⟨a1, a2⟩ := List.pairwise_cons.mp hx
    obtain ⟨b1, b2⟩ := List.pairwise_cons.mp hy
    have e : x = y := by
      rcases List.mem_cons.mp ((h x).mp List.mem_cons_self) with q | q
      · exact q
      · rcases List.mem_cons.mp ((h y).mpr List.mem_cons_self) with r | r
        · exact r.symm
        · have := a1 y r; have := b1 x q; omega
    subst e
    rw [up_unique a2 b2 fun k => ?_]
    have hk := h k
    rw [List.mem_cons, List.mem_cons] at hk
    constructor
    · intro q
      rcases hk.mp (.inr q) with r | r
      · subst r; exact absurd (a1 k q) (Int.lt_irrefl k)
      · exact r
    · intro q
      rcases hk.mpr (.inr q) with r | r
      · subst r; exact absurd (b1 k q) (Int.lt_irrefl k)
      · exact r
theorem nodup_up {xs : List Int} (h : xs.Pairwise (· < ·)) : xs.Nodup := h.imp fun h => Int.ne_of_lt h
/-- the members of a set, in order, and their number -/
theorem setR_count {w : World} {h : Heap} {a : Addr} {ns : List Int} {n : Nat} (R : SetR w h a (fun j => decide (j ∈ ns)) n) : n = (ssort ns).length := by
  obtain ⟨o, es, ep, t, ho, hex, hd, g, nd, hm, hb, hf, hn, hr, hl⟩ := R
  have p : (es.toList.map keyOf).Perm (ssort ns) := (List.perm_ext_iff_of_nodup nd (nodup_up (ssort_up ns))).mpr fun k => by
    rw [← hm k, mem_ssort]; simp
  have := p.length_eq
  rw [List.length_map, Array.length_toList] at this
  omega
section
variable {X : Cx} {a : Expr} {ga : GE} {p p2 pos q : Pos}
def setInts : RV → Option (List Int)
  | (.list ds, _) => intsOf ds
  | (.tuple ds, _) => intsOf ds
  | _ => none
def ssG : RV → Option RV := fun r => (setInts r).bind fun ns => if (ssort ns).length < 64 ∧ ns.length + 1 < 4096 then some (.list ((ssort ns).map .int), .ow) else none
def lsG : RV → Option RV := fun r => (setInts r).bind fun ns => if ns.length + 1 < 4096 then some (.int ((ssort ns).length : Nat), .fz) else none
def eU (g : RV → Option RV) (ga : GE) : GE := fun env => (ga env).bind g
theorem setInts_of {K : PySem.W.Frag} {F : Addr → Prop} {H0 H : Hp} {v : V} {r : RV} {ns : List Int} (rv : Res K F H0 H v r) (e : setInts r = some ns) : ∃ l, v = .ref l ∧ (SqL K H l (ns.map V.int) ∨ SqT K H l (ns.map V.int)) := by
  obtain ⟨d, f⟩ := r
  cases d <;> try (cases (show (none : Option (List Int)) = some ns from e))
  · rename_i ds
    cases intsOf_of (show intsOf ds = some ns from e)
    obtain ⟨l, vs, L, rfl, s, ra, _⟩ := rv.list
    cases rpa_ints_inv ra
    exact ⟨l, rfl, .inl s⟩
  · rename_i ds
    cases intsOf_of (show intsOf ds = some ns from e)
    obtain ⟨l, vs, L, rfl, s, ra, _⟩ := rv.tuple
    cases rpa_ints_inv ra
    exact ⟨l, rfl, .inr s⟩
/-- set(xs) evaluated: an untracked set, where the caller wants it -/
theorem set_run {pins : List (Addr × Obj)} {σ : L2.St} {H : Hp} {s : Shared} {l : Addr} {ns : List Int} {E : Value → Shared → Prop} {Q : Value → Shared → Prop} (hc : X.calm = true) (I : Inv X pins σ H s) (sq : SqL X.K H l (ns.map V.int) ∨ SqT X.K H l (ns.map V.int)) (hb : ns.length + 1 < 4096)
    (k : ∀ (h' : Heap) (tk c : Nat), SetR X.w h' s.heap.objs.size (fun j => decide (j ∈ ns)) c → (∀ b o, s.heap.get? b = some o → h'.get? b = some o) → Inv X pins σ H { s with heap := h', toks := tk } → Q (.ref s.heap.objs.size) { s with heap := h', toks := tk }) :
    wpAny (model X.prog X.w) X.A (call (.type "set") [.ref l]) Q E s := by
  rcases sq with sq | sq
  · obtain ⟨its, r, pl, hz⟩ := I.list sq
    exact call_set_listI ns (I.ok.hd hc) pl.isList (by simpa using r.ints) (by unfold scanBound; exact hb) fun h' tk c R _ hk => k h' tk c R hk (I.kept hk)
  · obtain ⟨its, r, pl, hz⟩ := I.tuple sq
    exact call_set_tupI ns (I.ok.hd hc) pl (by simpa using r.ints) (by unfold scanBound; exact hb) fun h' tk c R _ hk => k h' tk c R hk (I.kept hk)
theorem ve_lenSet (hc : X.calm = true) (hg : Gl X "len") (hm : X.mg "len" = none) (hg2 : Gl X "set") (hm2 : X.mg "set" = none) (ha : VE X a ga)
    (na : starEach [a] X.env = (false, eval a X.env) :: starEach [] X.env := by rfl) : VE X (.Call (.Name "len" p) [.Call (.Name "set" p2) [a] [] q] [] pos) (eU lsG ga) := by
  refine ⟨fun pins s σ H Q I ⟨F, env, r, ok, e, q⟩ => ?_⟩
  obtain ⟨r0, e1, e2⟩ := bind2 e
  obtain ⟨ns, e3, e4⟩ := bind2 e2
  split at e4
  rotate_left
  · cases e4
  rename_i hb
  cases e4
  refine Call_ (ld_blt I hg hm PySem.boot_len ?_)
  refine PyProof.Rows.callWith_builtin1 (PyProof.Rows.args_cons ?_ rfl) rfl rfl
  refine Call_ (ld_blt I hg2 hm2 PyProof.Rows.boot_set ?_)
  refine PyProof.Rows.callWith_type1 (PyProof.Rows.args_cons (thn (ha.run pins s σ H (fun v H1 => Same H H1 ∧ Sz X.K H1 ∧ Res X.K F H H1 v r0) I ⟨F, env, r0, ok, e1, fun v H1 s1 z1 rv => ⟨s1, z1, rv⟩⟩) fun v s1 ⟨x, H1, I1, r1, sm, sz, rv⟩ => PyProof.Rows.args_nil ?_) na) na rfl
  obtain ⟨l, rfl, sq⟩ := setInts_of rv e3
  cases r1
  refine set_run hc I1 sq hb fun h' tk c R hk I2 => ?_
  refine PyProof.Rows.args_nil ?_
  have hn := setR_count R
  have hle : c ≤ 4096 := by obtain ⟨o, es, ep, t, ho, hex, hd, g, nd, hm, hb, hf, hn, hr, hl⟩ := R; unfold scanBound at hb; omega
  obtain ⟨o, es, ep, t, ho, hex, hd, g, nd, hm', hb', hf, hn', hr, hl⟩ := R
  refine call_len_set ho hex hd hf (by omega) ⟨.int (ssort ns).length, H1, I2.tok _, ⟨_, by rw [hn', hn]⟩, q _ H1 sm sz Res.ofInt⟩
theorem ve_sortedSet (hc : X.calm = true) (hg : Gl X "sorted") (hm : X.mg "sorted" = none) (hg2 : Gl X "set") (hm2 : X.mg "set" = none) (ha : VE X a ga)
    (na : starEach [a] X.env = (false, eval a X.env) :: starEach [] X.env := by rfl) : VE X (.Call (.Name "sorted" p) [.Call (.Name "set" p2) [a] [] q] [] pos) (eU ssG ga) := by
  refine ⟨fun pins s σ H Q I ⟨F, env, r, ok, e, q⟩ => ?_⟩
  obtain ⟨r0, e1, e2⟩ := bind2 e
  obtain ⟨ns, e3, e4⟩ := bind2 e2
  split at e4
  rotate_left
  · cases e4
  rename_i hb
  cases e4
  refine Call_ (ld_blt I hg hm bt_sorted ?_)
  refine PyProof.Rows.callWith_builtin1 (PyProof.Rows.args_cons ?_ rfl) rfl rfl
  refine Call_ (ld_blt I hg2 hm2 PyProof.Rows.boot_set ?_)
  refine PyProof.Rows.callWith_type1 (PyProof.Rows.args_cons (thn (ha.run pins s σ H (fun v H1 => Same H H1 ∧ Res X.K F H H1 v r0) I ⟨F, env, r0, ok, e1, fun v H1 s1 z1 rv => ⟨s1, rv⟩⟩) fun v s1 ⟨x, H1, I1, r1, sm, rv⟩ => PyProof.Rows.args_nil ?_) na) na rfl
  obtain ⟨l, rfl, sq⟩ := setInts_of rv e3
  cases r1
  refine set_run hc I1 sq hb.2 fun h' tk c R hk I2 => ?_
  refine PyProof.Rows.args_nil ?_
  have hn := setR_count R
  refine sorted_set R (I2.ok.hd hc) (by rw [hn]; exact hb.1) fun s' p out c2 ns' k1 k2 k3 k4 k5 k6 k7 k8 k9 => ?_
  have en : ns' = ssort ns := up_unique k7 (ssort_up ns) fun k => by rw [k8 k, mem_ssort]; simp
  subst en
  obtain ⟨hp, g2, d2, tk2, os2⟩ := s'
  cases k2
  cases k3
  have I3 : Inv X pins σ H1 { heap := h', gens := s1.gens, drawn := d2, toks := tk2, os := s1.os } := I1.call (h' := h') (g' := s1.gens) (d' := d2) (t' := tk2) (ch := []) (Un.kept hk) (I1.hok.kept hk) I1.bare (fun b z => absurd z (by simp))
  have rv2 : Vals ((ssort ns).map V.int) out.toList := vals_of_ints k6
  have hlen : ((ssort ns).map V.int).length ≤ sizeLine := by
    rw [List.length_map, sizeLine_eq]
    have := hb.1
    omega
  have k5' : hp.get? p = some (seqObj "list" out c2) := k5
  refine ⟨.ref p, upd H1 p (.lst ((ssort ns).map V.int)), I3.laid (t' := tk2) k1 k4 (show ObjOk X.prog X.w _ _ _ (.lst ((ssort ns).map V.int)) from ⟨hlen, out.toList, c2, rv2, by rw [Array.toArray_toList]; exact k5'⟩), rfl, ?_⟩
  have hn2 : H1 p = none := I3.hok.fresh k4
  have I4 : Inv X pins σ (upd H1 p (.lst ((ssort ns).map V.int))) { heap := hp, gens := s1.gens, drawn := d2, toks := tk2, os := s1.os } := I3.laid (t' := tk2) k1 k4 (show ObjOk X.prog X.w _ _ _ (.lst ((ssort ns).map V.int)) from ⟨hlen, out.toList, c2, rv2, by rw [Array.toArray_toList]; exact k5'⟩)
  exact q _ _ (sm.trans (same_new hn2)) (szs_of I4) (Res.newList hn2 sm (rpa_ints _) (by simp))
end
end Pl

set_option Elab.async false
set_option linter.all false
set_option maxRecDepth 100000
set_option maxHeartbeats 4000000
/-! Pl17: the end of a law -/
namespace Pl
open PySem PySem.Spec PyProof.Rows L2
/-- what the top has written of a def -/
theorem tp_mk {K : PySem.W.Frag} {h : Heap} {mg : Str → Option Value} {x : Str} {st : Stmt} {f : Addr} {oc : Value} {od an : Option Addr} {osl : Array (Option Value)} {kV doc pm cdv ct : Value} (X : K.In h) (G : h.Ns mainGlobals mg)
    (a : PySem.W.nsIn K mainGlobals x = some (some (.ref f))) (l : K.lookup f = some ⟨oc, od, .func (PySem.W.fnOf x x (defArgs st) (defBody st) (defScope st) .none kV doc pm an cdv ct), osl⟩)
    (c : PySem.W.codeIn K cdv x = true) (k : PySem.W.keepIn K (.ref f) = true) : Tp K mg x st := ⟨f, _, fun_mk l c k, PySem.W.mg_of X G a⟩
abbrev TpAt {K : PySem.W.Frag} {h : Heap} (X : K.In h) (mg : Str → Option Value) (x : Str) (st : Stmt) : Prop := Tp K mg x st
/-- the built-in names stand -/
theorem bl_mk {K : PySem.W.Frag} {h : Heap} {mg : Str → Option Value} (X : K.In h) (G : h.Ns mainGlobals mg) (a : ∀ x ∈ bl, PySem.W.nsIn K mainGlobals x = some none) : ∀ x ∈ bl, mg x = none := fun x hx => PySem.W.mg_none_of X G (a x hx)
/-- the law's own promise, from its function -/
theorem law_sp {K : PySem.W.Frag} {H : Hp} {a : Addr} {ns : List Int} {g : List RV → Option RV} (hg : g [(.list (ns.map .int), .sc)] = some (.bool true, .fz)) (hO : Only H) (hS : SqL K H a (ns.map V.int)) : spG K g [.ref a] H (fun v _ => v = .bl true) fun _ _ _ => False := by
  refine ⟨fun _ => False, [(.list (ns.map .int), .sc)], (.bool true, .fz), ⟨rfl, fun i r e => ?_⟩, fun b z => z.elim, hg, fun v H' s rv => rv.bool⟩
  cases i with
  | succ i => simp at e
  | zero =>
    have e' : r = (.list (ns.map .int), .sc) := by simpa using e.symm
    subst e'
    refine ⟨_, rfl, a, ns, rfl, rfl, ?_⟩
    rcases hS with (q | ⟨o, q⟩) | q
    · rcases hO a with z | ⟨o, xs, z⟩
      · rw [z] at q; cases q
      · rw [z] at q; cases q
    · exact .inl ⟨o, q⟩
    · exact .inr (.inr q)
end Pl

set_option Elab.async false
set_option linter.all false
set_option maxRecDepth 100000
set_option maxHeartbeats 4000000
/-! Br1: from the printed functions to plain Lean functions -/
namespace Pl
open PySem L2
/-- one turn of a loop -/
def turn (tg : Tg) (body : GS) (x : D) (env : En) : Option Out := (asT tg x env).bind body
theorem forGo_nil {tg : Tg} {body : GS} {ws : List Nat} {env : En} : forGo tg body ws [] env = some (.nx env) := rfl
theorem forGo_cons {tg : Tg} {body : GS} {ws : List Nat} {x : D} {xs : List D} {env : En} : forGo tg body ws (x :: xs) env = (turn tg body x env).bind fun o => match o with
    | .nx e => forGo tg body ws xs (wipeE e ws)
    | .ct e => forGo tg body ws xs (wipeE e ws)
    | .bk e => some (.nx (wipeE e ws))
    | .rt r => some (.rt r) := by
  rw [forGo, turn]
  cases asT tg x env with
  | none => rfl
  | some e =>
    show (body e).bind _ = ((body e)).bind _
    cases body e with
    | none => rfl
    | some o => cases o <;> rfl
theorem forGo_step {tg : Tg} {body : GS} {ws : List Nat} {x : D} {xs : List D} {env e : En} (h : turn tg body x env = some (.nx e)) : forGo tg body ws (x :: xs) env = forGo tg body ws xs (wipeE e ws) := by
  rw [forGo_cons, h]; rfl
theorem forGo_ret {tg : Tg} {body : GS} {ws : List Nat} {x : D} {xs : List D} {env : En} {r : RV} (h : turn tg body x env = some (.rt r)) : forGo tg body ws (x :: xs) env = some (.rt r) := by
  rw [forGo_cons, h]; rfl
theorem forGo_brk {tg : Tg} {body : GS} {ws : List Nat} {x : D} {xs : List D} {env e : En} (h : turn tg body x env = some (.bk e)) : forGo tg body ws (x :: xs) env = some (.nx (wipeE e ws)) := by
  rw [forGo_cons, h]; rfl
/-- a loop as a fold over typed items: S the states, E how they lie in the slots, I what holds of them -/
theorem forGo_fold {α S : Type} {tg : Tg} {body : GS} {ws : List Nat} (enc : α → D) (E : S → En) (step : S → α → S) (I : List α → S → Prop) :
    ∀ (ys : List α) (s : S), I ys s → (∀ y ys s, I (y :: ys) s → ∃ e, turn tg body (enc y) (E s) = some (.nx e) ∧ wipeE e ws = E (step s y) ∧ I ys (step s y)) → forGo tg body ws (ys.map enc) (E s) = some (.nx (E (ys.foldl step s)))
  | [], s, _, _ => rfl
  | y :: ys, s, h, k => by
    obtain ⟨e, h1, h2, h3⟩ := k y ys s h
    rw [List.map_cons, forGo_step h1, h2, List.foldl_cons]
    exact forGo_fold enc E step I ys _ h3 k
/-- a comprehension over typed items -/
theorem lcGo_map {α β : Type} {f : D → Option (Option D)} (enc : α → D) (enc' : β → D) (g : α → Option β) : ∀ (ys : List α), (∀ y ∈ ys, f (enc y) = some ((g y).map enc')) → lcGo f (ys.map enc) = some ((ys.filterMap g).map enc')
  | [], _ => rfl
  | y :: ys, h => by
    rw [List.map_cons, lcGo, h y List.mem_cons_self, lcGo_map enc enc' g ys fun z hz => h z (List.mem_cons_of_mem _ hz)]
    cases e : g y <;> simp [e]
/-- encodings -/
def eInts (ns : List Int) : D := .tuple (ns.map .int)
def eNats (ns : List Nat) : D := .tuple (ns.map fun n => .int (n : Nat))
end Pl

set_option Elab.async false
set_option linter.all false
set_option maxRecDepth 100000
set_option maxHeartbeats 4000000
/-! Br2: rules for simp -/
namespace Pl
open PySem L2
/- not by rfl: the kernel must not look into the functions -/
@[simp high] theorem bindS {α β : Type} {a : α} {f : α → Option β} : (some a).bind f = f a := (rfl)
@[simp high] theorem mapS {α β : Type} {a : α} {f : α → β} : (some a).map f = some (f a) := (rfl)
section
variable {d d' : D} {e : En} {f : Fl} {r x y : RV} {i j : Int} {k : Bool} {n : Nat} {o o' : Slot}
@[simp] theorem ev_0z : eVar 0 (some (d, .fz) :: e) = some (d, .fz) := (rfl)
@[simp] theorem ev_0w : eVar 0 (some (d, .ow) :: e) = some (d, .bw) := (rfl)
@[simp] theorem ev_0b : eVar 0 (some (d, .bw) :: e) = some (d, .bw) := (rfl)
@[simp] theorem ev_0s : eVar 0 (some (d, .sc) :: e) = some (d, .sc) := (rfl)
@[simp] theorem ev_s : eVar (n + 1) (o :: e) = eVar n e := (rfl)
@[simp] theorem eC_ev : eC d e = some (d, .fz) := (rfl)
@[simp] theorem e2_ev {g : RV → RV → Option RV} {ga gb : GE} : e2 g ga gb e = (ga e).bind fun x => (gb e).bind fun y => g x y := (rfl)
@[simp] theorem asB_ev : asB (.bool k, f) = some k := (rfl)
@[simp] theorem eB_ev {g : GE} : eB g e = (g e).bind asB := (rfl)
@[simp] theorem eT_ev {g : GE} : eT g e = (g e).bind truD := (rfl)
@[simp] theorem tru_b : truD (.bool k, f) = some k := (rfl)
@[simp] theorem tru_i : truD (.int i, f) = some (i != 0) := (rfl)
@[simp] theorem tru_n : truD (.none, f) = some false := (rfl)
@[simp] theorem tru_l {ds : List D} : truD (.list ds, f) = some (!ds.isEmpty) := (rfl)
@[simp] theorem tru_t {ds : List D} : truD (.tuple ds, f) = some (!ds.isEmpty) := (rfl)
@[simp] theorem bYes_ev : bYes e = some true := (rfl)
@[simp] theorem bAnd_ev {ba bb : GB} : bAnd ba bb e = (ba e).bind fun k => if k = true then bb e else some false := (rfl)
@[simp] theorem bOr_ev {ba bb : GB} : bOr ba bb e = (ba e).bind fun k => if k = true then some true else bb e := (rfl)
@[simp] theorem bNot_ev {ba : GB} : bNot ba e = (ba e).map fun k => !k := (rfl)
@[simp] theorem eAnd_ev {ga gb : GE} : eAnd ga gb e = (ga e).bind fun r => (truD r).bind fun k => if k = true then gb e else some r := (rfl)
@[simp] theorem eOr_ev {ga gb : GE} : eOr ga gb e = (ga e).bind fun r => (truD r).bind fun k => if k = true then some r else gb e := (rfl)
@[simp] theorem eNot_ev {ga : GE} : eNot ga e = (ga e).bind fun r => (truD r).map fun k => (.bool (!k), .fz) := (rfl)
@[simp] theorem neg_i : negG (.int i, f) = some (.int (-i), .fz) := (rfl)
@[simp] theorem eNeg_ev {ga : GE} : eNeg ga e = (ga e).bind negG := (rfl)
@[simp] theorem eIf_ev {bc : GB} {ga gb : GE} : eIf bc ga gb e = (bc e).bind fun k => if k = true then ga e else gb e := (rfl)
@[simp] theorem aNil_ev : aNil e = some [] := (rfl)
@[simp] theorem aCons_ev {g : GE} {t : GA} : aCons g t e = (g e).bind fun r => (t e).bind fun rs => some (r :: rs) := (rfl)
@[simp] theorem eA_ev {g : List RV → Option RV} {t : GA} : eA g t e = (t e).bind g := (rfl)
@[simp] theorem eU_ev {g : RV → Option RV} {t : GE} : eU g t e = (t e).bind g := (rfl)
@[simp] theorem one_ev {g : RV → Option RV} : one g [r] = g r := (rfl)
@[simp] theorem two_ev {g : RV → RV → Option RV} : two g [x, y] = g x y := (rfl)
@[simp] theorem add_i {f'} : addG (.int i, f) (.int j, f') = some (.int (i + j), .fz) := (rfl)
@[simp] theorem sub_i {f'} : subG (.int i, f) (.int j, f') = some (.int (i - j), .fz) := (rfl)
theorem mul_i {f'} : mulG (.int i, f) (.int j, f') = if mulC i j then some (.int (i * j), .fz) else none := (rfl)
theorem div_i {f'} : divG (.int i, f) (.int j, f') = if divC i j then some (.int (i.fdiv j), .fz) else none := (rfl)
theorem mod_i {f'} : modG (.int i, f) (.int j, f') = if j ≠ 0 then some (.int (i.fmod j), .fz) else none := (rfl)
@[simp] theorem eq_i {f'} : eqG (.int i, f) (.int j, f') = some (.bool (decide (i = j)), .fz) := by
  by_cases h : i = j <;> simp [eqG, okD, PyData.eqv, h]
@[simp] theorem ne_i {f'} : neG (.int i, f) (.int j, f') = some (.bool (!decide (i = j)), .fz) := by
  by_cases h : i = j <;> simp [neG, okD, PyData.eqv, h]
@[simp] theorem cmp_i {p : Int → Int → Bool} {f'} : cmpG p (.int i, f) (.int j, f') = some (.bool (p i j), .fz) := (rfl)
@[simp] theorem ltA_i {f'} : ltA (.int i, f) (.int j, f') = some (.bool (decide (i < j)), .fz) := (rfl)
@[simp] theorem is_n {neg : Bool} {f'} : isG neg (d, f) (.none, f') = some (.bool (neg != isNone d), .fz) := by cases d <;> rfl
@[simp] theorem isn_n : isNone .none = true := (rfl)
@[simp] theorem isn_i : isNone (.int i) = false := (rfl)
@[simp] theorem isn_b : isNone (.bool k) = false := (rfl)
@[simp] theorem isn_t {ds : List D} : isNone (.tuple ds) = false := (rfl)
@[simp] theorem isn_l {ds : List D} : isNone (.list ds) = false := (rfl)
@[simp] theorem isn_s {s : Str} : isNone (.str s) = false := (rfl)
@[simp] theorem len_l {ds : List D} : lenG (.list ds, f) = some (.int (ds.length : Nat), .fz) := (rfl)
@[simp] theorem len_t {ds : List D} : lenG (.tuple ds, f) = some (.int (ds.length : Nat), .fz) := (rfl)
theorem abs_i : absG (.int i, f) = some (.int (i.natAbs : Nat), .fz) := by
  show some (PyData.int (if i < 0 then -i else i), Fl.fz) = _
  congr 2
  congr 1
  split <;> omega
@[simp] theorem int_i : intG (.int i, f) = some (.int i, .fz) := (rfl)
@[simp] theorem ix_l {ds : List D} : ixG (.list ds, f) (.int i, f') = (atI ds i).map fun d => (d, .fz) := (rfl)
@[simp] theorem ix_t {ds : List D} {f'} : ixG (.tuple ds, f) (.int i, f') = (atI ds i).map fun d => (d, .fz) := (rfl)
@[simp] theorem sSkip_ev : sSkip e = some (.nx e) := (rfl)
@[simp] theorem sBk_ev : sBk e = some (.bk e) := (rfl)
@[simp] theorem sCt_ev : sCt e = some (.ct e) := (rfl)
/-- what behind a statement comes -/
def nxt (h : GS) : Out → Option Out
  | .nx e => h e
  | o => some o
theorem sSeq_ev {g h : GS} : sSeq g h e = (g e).bind (nxt h) := by
  unfold sSeq
  cases g e with
  | none => rfl
  | some o => cases o <;> rfl
@[simp] theorem nxt_nx {h : GS} : nxt h (.nx e) = h e := (rfl)
@[simp] theorem nxt_rt {h : GS} : nxt h (.rt r) = some (.rt r) := (rfl)
@[simp] theorem nxt_bk {h : GS} : nxt h (.bk e) = some (.bk e) := (rfl)
@[simp] theorem nxt_ct {h : GS} : nxt h (.ct e) = some (.ct e) := (rfl)
@[simp] theorem sIf_ev {c : GB} {g h : GS} : sIf c g h e = (c e).bind fun k => if k = true then g e else h e := (rfl)
@[simp] theorem ret_z : retV (d, .fz) = some (d, .fz) := (rfl)
@[simp] theorem ret_w : retV (d, .ow) = some (d, .ow) := (rfl)
@[simp] theorem sRet_ev {g : GE} : sRet g e = ((g e).bind retV).map .rt := (rfl)
@[simp] theorem sRetN_ev : sRetN e = some (.rt (.none, .fz)) := (rfl)
theorem sRetM_ev {i : Nat} : sRetM i e = match e[i]? with
  | some (some (d, .ow)) => some (.rt (d, .ow))
  | some (some (d, .fz)) => some (.rt (d, .fz))
  | _ => none := (rfl)
@[simp] theorem asg_z {b : Bool} : asgV b (d, .fz) = some (d, .fz) := (rfl)
@[simp] theorem asg_w : asgV true (d, .ow) = some (d, .ow) := (rfl)
@[simp] theorem asg_f : asgV false (d, .ow) = some (d, .fz) := (rfl)
@[simp] theorem sAsg_ev {i : Nat} {own : Bool} {g : GE} : sAsg i own g e = ((g e).bind (asgV own)).map fun r => .nx (e.set i (some r)) := (rfl)
@[simp] theorem pf_z : plainFl .fz = true := (rfl)
@[simp] theorem pf_w : plainFl .ow = true := (rfl)
@[simp] theorem pa_nil : plainAll [] = true := (rfl)
@[simp] theorem pa_z {rs : List RV} : plainAll ((d, .fz) :: rs) = plainAll rs := (rfl)
@[simp] theorem pa_w {rs : List RV} : plainAll ((d, .ow) :: rs) = plainAll rs := (rfl)
@[simp] theorem sAsgT_ev {tg : Tg} {g : GE} : sAsgT tg g e = (g e).bind fun r => if plainFl r.2 = true then (asT tg r.1 e).map .nx else none := (rfl)
@[simp] theorem asT_nm {i : Nat} : asT (.nm i) d e = some (e.set i (some (d, .fz))) := by rw [asT]
@[simp] theorem asT_tp {ts : Tgs} {ds : List D} : asT (.tp ts) (.tuple ds) e = asTs ts ds e := by rw [asT]
@[simp] theorem asT_tl {ts : Tgs} {ds : List D} : asT (.tp ts) (.list ds) e = asTs ts ds e := by rw [asT]
@[simp] theorem asTs_n : asTs .nil [] e = some e := by rw [asTs]
@[simp] theorem asTs_c {t : Tg} {ts : Tgs} {ds : List D} : asTs (.cons t ts) (d :: ds) e = (asT t d e).bind fun e => asTs ts ds e := by rw [asTs]
@[simp] theorem parE_n : parE [] [] e = some e := (rfl)
@[simp] theorem parE_c {i : Nat} {o : Bool} {ts : List (Nat × Bool)} {rs : List RV} : parE ((i, o) :: ts) (r :: rs) e = (asgV o r).bind fun r1 => parE ts rs (e.set i (some r1)) := (rfl)
@[simp] theorem sPar_ev {ts : List (Nat × Bool)} {g : GA} : sPar ts g e = ((g e).bind fun rs => parE ts rs e).map .nx := (rfl)
theorem tupG_ev {rs : List RV} (h : plainAll rs = true) (h2 : rs.length ≤ 16777216 := by decide) : tupG rs = some (.tuple (rs.map (·.1)), .fz) := if_pos ⟨h, h2⟩
@[simp] theorem tupG_1 {a f} : tupG [(a, f)] = if plainFl f then some (.tuple [a], .fz) else none := by cases f <;> rfl
@[simp] theorem tupG_2 {a b : D} : tupG [(a, .fz), (b, .fz)] = some (.tuple [a, b], .fz) := (rfl)
@[simp] theorem tupG_3 {a b c : D} : tupG [(a, .fz), (b, .fz), (c, .fz)] = some (.tuple [a, b, c], .fz) := (rfl)
@[simp] theorem lstG_0 : lstG [] = some (.list [], .ow) := (rfl)
@[simp] theorem argF_z : argF (d, .fz) = (d, .fz) := (rfl)
@[simp] theorem argF_w : argF (d, .ow) = (d, .fz) := (rfl)
@[simp] theorem argF_b : argF (d, .bw) = (d, .bw) := (rfl)
@[simp] theorem argF_s : argF (d, .sc) = (d, .sc) := (rfl)
@[simp] theorem wipeE_n : wipeE e [] = e := (rfl)
@[simp] theorem wipeE_c {v : Nat} {vs : List Nat} : wipeE e (v :: vs) = (wipeE e vs).set v none := (rfl)
/-- what a def hands back -/
def fnO : Out → Option RV
  | .nx _ => some (.none, .fz)
  | .rt r => some r
  | _ => none
@[simp] theorem fnO_nx : fnO (.nx e) = some (.none, .fz) := (rfl)
@[simp] theorem fnO_rt : fnO (.rt r) = some r := (rfl)
theorem fnG_ev {np n : Nat} {body : GS} {rs : List RV} (h : rs.length = np) : fnG np n body rs = (body (rs.map (fun r => some (argF r)) ++ List.replicate (n - np) none)).bind fnO := by
  unfold fnG
  rw [if_pos h]
  congr 1
@[simp] theorem seq_l {ds : List D} : seqOf (.list ds, .ow) = some (ds, false) := (rfl)
@[simp] theorem seq_lz {ds : List D} : seqOf (.list ds, .fz) = some (ds, false) := (rfl)
@[simp] theorem seq_lb {ds : List D} : seqOf (.list ds, .bw) = some (ds, true) := (rfl)
@[simp] theorem seq_t {ds : List D} : seqOf (.tuple ds, f) = some (ds, false) := (rfl)
@[simp] theorem seqS_ev {g : GE} : seqS g e = (g e).bind seqOf := (rfl)
@[simp] theorem aS_ev {g : List RV → Option (List D × Bool)} {t : GA} : aS g t e = (t e).bind g := (rfl)
@[simp] theorem enumG_ev : enumG [r] = (seqOf r).map fun p => (enumL p.1, p.2) := (rfl)
theorem rng1_ev {m : Nat} {f} (h : m ≤ 16777216) : rng1G [(.int (m : Nat), f)] = some (rngL 0 m, false) := by
  show (if inB (m : Int) = true ∧ (m : Int).toNat ≤ 16777216 then some (rngL 0 (m : Int).toNat, false) else none) = _
  rw [if_pos ⟨by simp only [inB, Bool.and_eq_true, decide_eq_true_eq]; omega, by omega⟩]
  rfl
theorem rng2_ev {f f'} (h1 : -16777216 ≤ i) (h2 : j ≤ 1000000000000) (h3 : i ≤ 1000000000000) (h4 : -1000000000000 ≤ j) (h5 : (j - i).toNat ≤ 16777216) : rng2G [(.int i, f), (.int j, f')] = some (rngL i (j - i).toNat, false) := by
  show (if (inB i = true ∧ inB j = true) ∧ (j - i).toNat ≤ 16777216 then some (rngL i (j - i).toNat, false) else none) = _
  rw [if_pos ⟨⟨by simp only [inB, Bool.and_eq_true, decide_eq_true_eq]; omega, by simp only [inB, Bool.and_eq_true, decide_eq_true_eq]; omega⟩, h5⟩]
theorem eLc_ev {own : List Nat} {tg : Tg} {src : Src} {tt : GB} {te : GE} {p : List D × Bool} (h : src e = some p) : eLc own tg src tt te e = (lcGo (lcF own tg tt te e) p.1).map fun ys => (.list ys, .ow) := by
  unfold eLc; rw [h]; rfl
@[simp] theorem lcF_ev {own : List Nat} {tg : Tg} {tt : GB} {te : GE} : lcF own tg tt te e d = lcT tg tt te (wipeE e own) d := (rfl)
@[simp] theorem lcT_ev {tg : Tg} {tt : GB} {te : GE} : lcT tg tt te e d = (asT tg d e).bind fun e => (tt e).bind fun b => if b = true then (te e).bind fun r => if plainFl r.2 = true then some (some r.1) else none else some none := (rfl)
theorem sum_ints {ns : List Int} : sumG (.list (ns.map .int), f) = some (.int ns.sum, .fz) := by
  show (intsOf (ns.map .int)).map _ = _
  have : ∀ ns : List Int, intsOf (ns.map .int) = some ns := fun ns => by
    induction ns with
    | nil => rfl
    | cons n ns ih => show (intsOf (ns.map .int)).map _ = _; rw [ih]; rfl
  rw [this]; rfl
theorem mulC_l (h : -(2 ^ 64) < i ∧ i < 2 ^ 64) : mulC i j = true := by
  unfold mulC
  simp only [Bool.or_eq_true, Bool.and_eq_true, decide_eq_true_eq]
  exact .inl (.inl h)
theorem mulC_r (h : -(2 ^ 64) < j ∧ j < 2 ^ 64) : mulC i j = true := by
  unfold mulC
  simp only [Bool.or_eq_true, Bool.and_eq_true, decide_eq_true_eq]
  exact .inl (.inr h)
theorem divC_n (h : j ≠ 0 ∧ j.natAbs < 1073741824) : divC i j = true := by
  unfold divC
  simp only [Bool.or_eq_true, Bool.and_eq_true, decide_eq_true_eq]
  exact .inl h
theorem mul_l {f'} (h : -(2 ^ 64) < i ∧ i < 2 ^ 64) : mulG (.int i, f) (.int j, f') = some (.int (i * j), .fz) := if_pos (mulC_l h)
theorem mul_r {f'} (h : -(2 ^ 64) < j ∧ j < 2 ^ 64) : mulG (.int i, f) (.int j, f') = some (.int (i * j), .fz) := if_pos (mulC_r h)
theorem div_n {f'} (h : j ≠ 0 ∧ j.natAbs < 1073741824) : divG (.int i, f) (.int j, f') = some (.int (i.fdiv j), .fz) := if_pos (divC_n h)
theorem mod_n {f'} (h : j ≠ 0) : modG (.int i, f) (.int j, f') = some (.int (i.fmod j), .fz) := if_pos h
end
end Pl

set_option Elab.async false
set_option linter.all false
set_option maxRecDepth 100000
set_option maxHeartbeats 4000000
/-! Br3: the helpers that every law has -/
namespace Pl
open PySem L2
/-! ### _law_like -/
def q_isint : GS := (sRet (eAnd (eIsi "int" (eVar 0)) (eNot (eIsi "bool" (eVar 0)))))
def q_like (self isint : List RV → Option RV) : GS := (sSeq (sIf (eB (e2 (isG false) (eVar 1) (eC .none))) (sRet (e2 (isG false) (eVar 0) (eC .none))) sSkip)
  (sSeq (sIf (eT (eIsi "bool" (eVar 1))) (sRet (eAnd (eIsi "bool" (eVar 0)) (e2 eqG (eVar 0) (eVar 1)))) sSkip)
  (sSeq (sIf (eT (eIsi "tuple" (eVar 1))) (sSeq (sIf (bOr (bNot (eT (eIsi "tuple" (eVar 0)))) (eB (e2 neG (eA (one lenG) (aCons (eVar 0) aNil)) (eA (one lenG) (aCons (eVar 1) aNil))))) (sRet (eC (.bool false))) sSkip)
  (sRet (eA (one (boolsG allL)) (aCons (eLc [2] (.nm 2) (aS rng1G (aCons (eA (one lenG) (aCons (eVar 1) aNil)) aNil)) bYes (eA self (aCons (e2 ixG (eVar 0) (eVar 2)) (aCons (e2 ixG (eVar 1) (eVar 2)) aNil)))) aNil)))) sSkip)
  (sSeq (sIf (eT (eIsi "str" (eVar 1))) (sRet (eAnd (eIsi "str" (eVar 0)) (e2 eqG (eVar 0) (eVar 1)))) sSkip)
  (sRet (eAnd (eA isint (aCons (eVar 0) aNil)) (e2 eqG (eVar 0) (eVar 1))))))))
/-- plain data: no list, no dict, tuples at most n deep and of at most 1000 -/
def plD : Nat → D → Bool
  | _, .none => true
  | _, .bool _ => true
  | _, .int _ => true
  | n + 1, .tuple ds => decide (ds.length ≤ 1000) && ds.all (plD n)
  | _, _ => false
def q_r (like : (List RV → Option RV) → GS) : Nat → List RV → Option RV
  | 0 => fun _ => none
  | m + 1 => fnG 2 3 (like (q_r like m))
/-- isinstance of a value -/
def isiR (T : String) : RV → Option RV
  | (.none, _) => (kitB "NoneType" T).map fun b => (.bool b, .fz)
  | (.bool _, _) => (kitB "bool" T).map fun b => (.bool b, .fz)
  | (.int _, _) => (kitB "int" T).map fun b => (.bool b, .fz)
  | (.str _, _) => (kitB "str" T).map fun b => (.bool b, .fz)
  | (.list _, _) => (kitB "list" T).map fun b => (.bool b, .fz)
  | (.tuple _, _) => (kitB "tuple" T).map fun b => (.bool b, .fz)
  | (.dict _, _) => none
@[simp] theorem eIsi_ev {T : String} {g : GE} {e : En} : eIsi T g e = (g e).bind (isiR T) := by
  unfold eIsi
  congr 1
  funext r
  obtain ⟨d, f⟩ := r
  cases d <;> rfl
theorem k1 : kitB "int" "int" = some true := by decide +kernel
theorem k2 : kitB "int" "bool" = some false := by decide +kernel
theorem k3 : kitB "int" "tuple" = some false := by decide +kernel
theorem k4 : kitB "int" "str" = some false := by decide +kernel
theorem k5 : kitB "bool" "bool" = some true := by decide +kernel
theorem k6 : kitB "tuple" "bool" = some false := by decide +kernel
theorem k7 : kitB "tuple" "tuple" = some true := by decide +kernel
@[simp] theorem isi_ii {i : Int} {f : Fl} : isiR "int" (.int i, f) = some (.bool true, .fz) := by unfold isiR; rw [k1]; rfl
@[simp] theorem isi_ib {i : Int} {f : Fl} : isiR "bool" (.int i, f) = some (.bool false, .fz) := by unfold isiR; rw [k2]; rfl
@[simp] theorem isi_it {i : Int} {f : Fl} : isiR "tuple" (.int i, f) = some (.bool false, .fz) := by unfold isiR; rw [k3]; rfl
@[simp] theorem isi_is {i : Int} {f : Fl} : isiR "str" (.int i, f) = some (.bool false, .fz) := by unfold isiR; rw [k4]; rfl
@[simp] theorem isi_bb {i : Bool} {f : Fl} : isiR "bool" (.bool i, f) = some (.bool true, .fz) := by unfold isiR; rw [k5]; rfl
@[simp] theorem isi_tb {i : List D} {f : Fl} : isiR "bool" (.tuple i, f) = some (.bool false, .fz) := by unfold isiR; rw [k6]; rfl
@[simp] theorem isi_tt {i : List D} {f : Fl} : isiR "tuple" (.tuple i, f) = some (.bool true, .fz) := by unfold isiR; rw [k7]; rfl
theorem lcGo_all {f : D → Option (Option D)} {c : D} : ∀ {xs : List D}, (∀ x ∈ xs, f x = some (some c)) → lcGo f xs = some (List.replicate xs.length c)
  | [], _ => rfl
  | x :: xs, h => by
    rw [lcGo, h x List.mem_cons_self, lcGo_all fun y hy => h y (List.mem_cons_of_mem _ hy)]
    rfl
theorem bools_rep : ∀ n, boolsOf (List.replicate n (.bool true)) = some (List.replicate n true)
  | 0 => rfl
  | n + 1 => by
    rw [List.replicate_succ]
    show (boolsOf (List.replicate n (.bool true))).map _ = _
    rw [bools_rep n]
    rfl
theorem atI_nat {α : Type} {xs : List α} {i : Nat} : atI xs (i : Nat) = xs[i]? := by
  unfold atI ixN
  by_cases h : i < xs.length
  · simp [h]
  · have : xs[i]? = none := List.getElem?_eq_none (by omega)
    rw [this]
    simp [h]
theorem isint_int {i : Int} {f : Fl} : fnG 1 1 q_isint [(.int i, f)] = some (.bool true, .fz) := by
  rw [fnG_ev (by rfl)]
  cases f <;> simp [q_isint]
theorem eqb_b {b : Bool} {f f' : Fl} : eqG (.bool b, f) (.bool b, f') = some (.bool true, .fz) := by
  cases b <;> rfl

theorem like_tup {self : List RV → Option RV} {ds : List D} (hl : ds.length ≤ 1000) (hs : ∀ x ∈ ds, self [(x, .fz), (x, .fz)] = some (.bool true, .fz)) : fnG 2 3 (q_like self (fnG 1 1 q_isint)) [(.tuple ds, .fz), (.tuple ds, .fz)] = some (.bool true, .fz) := by
  have loop : lcGo (lcF [2] (.nm 2) bYes (eA self (aCons (e2 ixG (eVar 0) (eVar 2)) (aCons (e2 ixG (eVar 1) (eVar 2)) aNil))) [some (.tuple ds, .fz), some (.tuple ds, .fz), none]) (rngL 0 ds.length) = some (List.replicate ds.length (.bool true)) := by
    have := lcGo_all (f := lcF [2] (.nm 2) bYes (eA self (aCons (e2 ixG (eVar 0) (eVar 2)) (aCons (e2 ixG (eVar 1) (eVar 2)) aNil))) [some (.tuple ds, .fz), some (.tuple ds, .fz), none]) (c := .bool true) (xs := rngL 0 ds.length) ?_
    · rw [this]; simp [rngL]
    · intro x hx
      obtain ⟨i, hi, rfl⟩ := List.mem_map.mp hx
      have hi := List.mem_range.mp hi
      have e : ds[i]? = some ds[i] := List.getElem?_eq_getElem hi
      simp [atI_nat, e, hs _ (List.getElem_mem hi)]
  rw [fnG_ev (by rfl)]
  simp [q_like, sSeq_ev, eLc_ev, rng1_ev (m := ds.length) (by omega), loop, boolsG, bools_rep, allL]
theorem like_same : ∀ (n : Nat) (d : D), plD n d = true → q_r (fun s => q_like s (fnG 1 1 q_isint)) (n + 1) [(d, .fz), (d, .fz)] = some (.bool true, .fz) := by
  intro n
  induction n with
  | zero =>
    intro d h
    cases d <;> try (cases (show false = true from h))
    all_goals (show fnG 2 3 _ _ = _; rw [fnG_ev (by rfl)]; simp [q_like, sSeq_ev, isint_int, eqb_b])
  | succ n ih =>
    intro d h
    cases d <;> try (cases (show false = true from h))
    rotate_right
    · rename_i ds
      rw [plD, Bool.and_eq_true, List.all_eq_true] at h
      exact like_tup (of_decide_eq_true h.1) fun x hx => ih x (h.2 x hx)
    all_goals (show fnG 2 3 _ _ = _; rw [fnG_ev (by rfl)]; simp [q_like, sSeq_ev, isint_int, eqb_b])
end Pl

set_option Elab.async false
set_option linter.all false
set_option maxRecDepth 100000
set_option maxHeartbeats 4000000
/-! Br4: the row of numbers that every law draws -/
namespace Pl
open PySem L2
def q_mixT : GS := (sSeq (sAsg 3 false (e2 modG (eA (one intG) (aCons (e2 addG (e2 addG (e2 mulG (eVar 2) (eC (.int 48271))) (e2 mulG (eVar 1) (eC (.int 69621)))) (eC (.int 8191))) aNil)) (eC (.int 2147483647))))
  (sSeq (sAsg 4 false (e2 modG (eA (one intG) (aCons (e2 addG (e2 addG (e2 mulG (eVar 3) (eVar 3)) (e2 divG (eVar 3) (eC (.int 7)))) (e2 mulG (eVar 1) (eC (.int 16807)))) aNil)) (eC (.int 2147483629))))
  (sSeq (sAsg 5 false (e2 modG (eA (one intG) (aCons (e2 addG (e2 addG (e2 mulG (eVar 4) (eVar 4)) (e2 divG (eVar 4) (eC (.int 11)))) (eC (.int 40692))) aNil)) (eC (.int 2147483563))))
  (sRet (e2 modG (e2 divG (eVar 5) (eC (.int 5))) (eC (.int 1000003)))))))
def q_mixed : GS := (sSeq (sAsg 2 false (eC (.int 0)))
  (sSeq (sIf (eB (e2 gtG (eA (one lenG) (aCons (eVar 0) aNil)) (eC (.int 0)))) (sAsg 2 false (e2 ixG (eVar 0) (e2 modG (eVar 1) (eA (one lenG) (aCons (eVar 0) aNil))))) sSkip)
  q_mixT))
def q_row (mixed : List RV → Option RV) : GS := (sSeq (sAsg 2 false (eC (.int 0)))
  (sSeq (sIf (bAnd (eB (e2 gtG (eA (one lenG) (aCons (eVar 0) aNil)) (eC (.int 0)))) (eB (e2 geG (e2 ixG (eVar 0) (eC (.int 0))) (e2 powG (eC (.int 10)) (eC (.int 18)))))) (sAsg 2 false (e2 ixG (eVar 0) (eC (.int 0)))) sSkip)
  (sSeq (sAsg 3 true (eA lstG aNil))
  (sSeq (sFor [4] (.nm 4) (aS rng1G (aCons (eVar 1) aNil))
   (sIf (eB (e2 gtG (eVar 2) (eC (.int 0)))) (sSeq (sApp 3 (aCons (e2 modG (eA (one intG) (aCons (eVar 2) aNil)) (eC (.int 1000))) aNil))
  (sAsg 2 false (e2 divG (eVar 2) (eC (.int 1000))))) (sApp 3 (aCons (eA mixed (aCons (eVar 0) (aCons (eVar 4) aNil))) aNil))))
  (sRetM 3)))))
theorem atI_mem {α : Type} {xs : List α} (h : xs ≠ []) {i : Int} (h0 : 0 ≤ i) (h1 : i < xs.length) : ∃ x, atI xs i = some x ∧ x ∈ xs := by
  obtain ⟨n, rfl⟩ := Int.eq_ofNat_of_zero_le h0
  have h2 : n < xs.length := by omega
  exact ⟨xs[n], by rw [atI_nat, List.getElem?_eq_getElem h2], List.getElem_mem h2⟩
theorem fmod_in (i : Int) {j : Int} (h : 0 < j) : 0 ≤ i.fmod j ∧ i.fmod j < j := ⟨Int.fmod_nonneg_of_pos _ h, Int.fmod_lt_of_pos _ h⟩
theorem mixed_ok (ns : List Int) (k : Int) : ∃ m : Int, 0 ≤ m ∧ m < 1000003 ∧ fnG 2 6 q_mixed [(.list (ns.map .int), .sc), (.int k, .fz)] = some (.int m, .fz) := by
  have key : ∀ c : Int, ∃ m : Int, 0 ≤ m ∧ m < 1000003 ∧ (q_mixT [some (.list (ns.map .int), .sc), some (.int k, .fz), some (.int c, .fz), none, none, none]).bind fnO = some (.int m, .fz) := by
    intro c
    have h1 := fmod_in (c * 48271 + k * 69621 + 8191) (j := 2147483647) (by omega)
    generalize e1 : (c * 48271 + k * 69621 + 8191).fmod 2147483647 = x1 at h1
    have h2 := fmod_in (x1 * x1 + x1.fdiv 7 + k * 16807) (j := 2147483629) (by omega)
    generalize e2 : (x1 * x1 + x1.fdiv 7 + k * 16807).fmod 2147483629 = x2 at h2
    have h3 := fmod_in (x2 * x2 + x2.fdiv 11 + 40692) (j := 2147483563) (by omega)
    generalize e3 : (x2 * x2 + x2.fdiv 11 + 40692).fmod 2147483563 = x3 at h3
    have h4 := fmod_in (x3.fdiv 5) (j := 1000003) (by omega)
    refine ⟨(x3.fdiv 5).fmod 1000003, h4.1, h4.2, ?_⟩
    simp [q_mixT, sSeq_ev, mul_r (j := 48271) (by omega), mul_r (j := 69621) (by omega), mul_r (j := 16807) (by omega), mul_r (i := x1) (j := x1) (by omega), mul_r (i := x2) (j := x2) (by omega), div_n (j := 7) (by omega), div_n (j := 11) (by omega), div_n (j := 5) (by omega), mod_n (j := 2147483647) (by omega), mod_n (j := 2147483629) (by omega), mod_n (j := 2147483563) (by omega), mod_n (j := 1000003) (by omega), e1, e2, e3]
  rw [fnG_ev (by rfl)]
  by_cases hn : ns = []
  · subst hn
    obtain ⟨m, h1, h2, h3⟩ := key 0
    refine ⟨m, h1, h2, ?_⟩
    rw [← h3]
    simp [q_mixed, sSeq_ev]
  · have hp : (0 : Int) < (ns.length : Int) := by have := List.length_pos_iff.mpr hn; omega
    have hm := fmod_in k (j := (ns.length : Int)) hp
    obtain ⟨c, hc, hc'⟩ := atI_mem (xs := (ns.map PyData.int)) (by simpa using hn) hm.1 (by simpa using hm.2)
    obtain ⟨z, _, rfl⟩ := List.mem_map.mp hc'
    obtain ⟨m, h1, h2, h3⟩ := key z
    refine ⟨m, h1, h2, ?_⟩
    rw [← h3]
    have hz : (ns.length : Int) ≠ 0 := by omega
    have hl : 0 < ns.length := by omega
    have hL : (ns.map PyData.int).length = ns.length := by simp
    generalize ns.map PyData.int = ds at *
    simp [q_mixed, sSeq_ev, hL, mod_n hz, hc, hp, hl]
/-! the row -/
@[simp] theorem sFor_no {ws : List Nat} {tg : Tg} {src : Src} {body : GS} {env : En} {xs : List D} (h : src env = some (xs, false)) : sFor ws tg src body env = forGo tg body ws xs (wipeE env ws) := by
  unfold sFor; rw [h]; rfl
theorem forGo_inv {tg : Tg} {body : GS} {ws : List Nat} {N : Nat} (P : Nat → En → Prop) : ∀ (xs : List D) (i : Nat) (env : En), i + xs.length ≤ N → P i env → (∀ x ∈ xs, ∀ i env, i < N → P i env → ∃ e, turn tg body x env = some (.nx e) ∧ P (i + 1) (wipeE e ws)) → ∃ e, forGo tg body ws xs env = some (.nx e) ∧ P (i + xs.length) e
  | [], i, env, _, h, _ => ⟨env, rfl, h⟩
  | x :: xs, i, env, hN, h, k => by
    rw [List.length_cons] at hN
    obtain ⟨e, h1, h2⟩ := k x List.mem_cons_self i env (by omega) h
    obtain ⟨e', h3, h4⟩ := forGo_inv P xs (i + 1) _ (by omega) h2 fun y hy => k y (List.mem_cons_of_mem _ hy)
    exact ⟨e', by rw [forGo_step h1, h3], by rw [List.length_cons]; rwa [show i + (xs.length + 1) = i + 1 + xs.length by omega]⟩
theorem turn_nm {i : Nat} {body : GS} {x : D} {env : En} : turn (.nm i) body x env = body (env.set i (some (x, .fz))) := by
  unfold turn; rw [asT_nm]; rfl
/-- one more at the end -/
def appR (i : Nat) (env : En) : List RV → Option Out
  | [(d, f)] => mL env i fun ds => if plainFl f = true ∧ ds.length < 16777216 then some (ds ++ [d]) else none
  | _ => none
@[simp] theorem sApp_ev {i : Nat} {t : GA} {env : En} : sApp i t env = (t env).bind (appR i env) := by
  unfold sApp appR; rfl
theorem appR_ev {i : Nat} {env : En} {ds : List D} {d : D} {f : Fl} (h : env[i]? = some (some (.list ds, .ow))) (hf : plainFl f = true) (hl : ds.length < 16777216) : appR i env [(d, f)] = some (.nx (env.set i (some (.list (ds ++ [d]), .ow)))) := by
  unfold appR mL
  rw [h]
  simp [hf, hl]
@[simp] theorem atI_0 {α : Type} {xs : List α} : atI xs 0 = xs[0]? := atI_nat (i := 0)
@[simp] theorem atI_1 {α : Type} {xs : List α} : atI xs 1 = xs[1]? := atI_nat (i := 1)
@[simp] theorem atI_2 {α : Type} {xs : List α} : atI xs 2 = xs[2]? := atI_nat (i := 2)
@[simp] theorem atI_3 {α : Type} {xs : List α} : atI xs 3 = xs[3]? := atI_nat (i := 3)
@[simp] theorem atI_4 {α : Type} {xs : List α} : atI xs 4 = xs[4]? := atI_nat (i := 4)
@[simp] theorem atI_5 {α : Type} {xs : List α} : atI xs 5 = xs[5]? := atI_nat (i := 5)
@[simp] theorem atI_6 {α : Type} {xs : List α} : atI xs 6 = xs[6]? := atI_nat (i := 6)
@[simp] theorem atI_7 {α : Type} {xs : List α} : atI xs 7 = xs[7]? := atI_nat (i := 7)
@[simp] theorem atI_8 {α : Type} {xs : List α} : atI xs 8 = xs[8]? := atI_nat (i := 8)
@[simp] theorem atI_9 {α : Type} {xs : List α} : atI xs 9 = xs[9]? := atI_nat (i := 9)
@[simp] theorem atI_10 {α : Type} {xs : List α} : atI xs 10 = xs[10]? := atI_nat (i := 10)
@[simp] theorem atI_11 {α : Type} {xs : List α} : atI xs 11 = xs[11]? := atI_nat (i := 11)
@[simp] theorem atI_12 {α : Type} {xs : List α} : atI xs 12 = xs[12]? := atI_nat (i := 12)
@[simp] theorem atI_13 {α : Type} {xs : List α} : atI xs 13 = xs[13]? := atI_nat (i := 13)
@[simp] theorem atI_14 {α : Type} {xs : List α} : atI xs 14 = xs[14]? := atI_nat (i := 14)
@[simp] theorem atI_15 {α : Type} {xs : List α} : atI xs 15 = xs[15]? := atI_nat (i := 15)
@[simp] theorem atI_16 {α : Type} {xs : List α} : atI xs 16 = xs[16]? := atI_nat (i := 16)
@[simp] theorem atI_17 {α : Type} {xs : List α} : atI xs 17 = xs[17]? := atI_nat (i := 17)
@[simp] theorem atI_18 {α : Type} {xs : List α} : atI xs 18 = xs[18]? := atI_nat (i := 18)
@[simp] theorem atI_19 {α : Type} {xs : List α} : atI xs 19 = xs[19]? := atI_nat (i := 19)
@[simp] theorem atI_20 {α : Type} {xs : List α} : atI xs 20 = xs[20]? := atI_nat (i := 20)
@[simp] theorem atI_21 {α : Type} {xs : List α} : atI xs 21 = xs[21]? := atI_nat (i := 21)
@[simp] theorem atI_22 {α : Type} {xs : List α} : atI xs 22 = xs[22]? := atI_nat (i := 22)
@[simp] theorem atI_23 {α : Type} {xs : List α} : atI xs 23 = xs[23]? := atI_nat (i := 23)
@[simp] theorem atI_24 {α : Type} {xs : List α} : atI xs 24 = xs[24]? := atI_nat (i := 24)
@[simp] theorem atI_25 {α : Type} {xs : List α} : atI xs 25 = xs[25]? := atI_nat (i := 25)
@[simp] theorem atI_26 {α : Type} {xs : List α} : atI xs 26 = xs[26]? := atI_nat (i := 26)
@[simp] theorem atI_27 {α : Type} {xs : List α} : atI xs 27 = xs[27]? := atI_nat (i := 27)
@[simp] theorem atI_28 {α : Type} {xs : List α} : atI xs 28 = xs[28]? := atI_nat (i := 28)
@[simp] theorem atI_29 {α : Type} {xs : List α} : atI xs 29 = xs[29]? := atI_nat (i := 29)
@[simp] theorem atI_30 {α : Type} {xs : List α} : atI xs 30 = xs[30]? := atI_nat (i := 30)
@[simp] theorem atI_31 {α : Type} {xs : List α} : atI xs 31 = xs[31]? := atI_nat (i := 31)
@[simp] theorem atI_32 {α : Type} {xs : List α} : atI xs 32 = xs[32]? := atI_nat (i := 32)
@[simp] theorem atI_33 {α : Type} {xs : List α} : atI xs 33 = xs[33]? := atI_nat (i := 33)
@[simp] theorem atI_34 {α : Type} {xs : List α} : atI xs 34 = xs[34]? := atI_nat (i := 34)
@[simp] theorem atI_35 {α : Type} {xs : List α} : atI xs 35 = xs[35]? := atI_nat (i := 35)
@[simp] theorem atI_36 {α : Type} {xs : List α} : atI xs 36 = xs[36]? := atI_nat (i := 36)
@[simp] theorem atI_37 {α : Type} {xs : List α} : atI xs 37 = xs[37]? := atI_nat (i := 37)
@[simp] theorem atI_38 {α : Type} {xs : List α} : atI xs 38 = xs[38]? := atI_nat (i := 38)
@[simp] theorem atI_39 {α : Type} {xs : List α} : atI xs 39 = xs[39]? := atI_nat (i := 39)
@[simp] theorem atI_40 {α : Type} {xs : List α} : atI xs 40 = xs[40]? := atI_nat (i := 40)
@[simp] theorem atI_41 {α : Type} {xs : List α} : atI xs 41 = xs[41]? := atI_nat (i := 41)
@[simp] theorem atI_42 {α : Type} {xs : List α} : atI xs 42 = xs[42]? := atI_nat (i := 42)
@[simp] theorem atI_43 {α : Type} {xs : List α} : atI xs 43 = xs[43]? := atI_nat (i := 43)
@[simp] theorem atI_44 {α : Type} {xs : List α} : atI xs 44 = xs[44]? := atI_nat (i := 44)
@[simp] theorem atI_45 {α : Type} {xs : List α} : atI xs 45 = xs[45]? := atI_nat (i := 45)
@[simp] theorem atI_46 {α : Type} {xs : List α} : atI xs 46 = xs[46]? := atI_nat (i := 46)
@[simp] theorem atI_47 {α : Type} {xs : List α} : atI xs 47 = xs[47]? := atI_nat (i := 47)
@[simp] theorem atI_48 {α : Type} {xs : List α} : atI xs 48 = xs[48]? := atI_nat (i := 48)
@[simp] theorem atI_49 {α : Type} {xs : List α} : atI xs 49 = xs[49]? := atI_nat (i := 49)
@[simp] theorem atI_50 {α : Type} {xs : List α} : atI xs 50 = xs[50]? := atI_nat (i := 50)
@[simp] theorem atI_51 {α : Type} {xs : List α} : atI xs 51 = xs[51]? := atI_nat (i := 51)
@[simp] theorem atI_52 {α : Type} {xs : List α} : atI xs 52 = xs[52]? := atI_nat (i := 52)
@[simp] theorem atI_53 {α : Type} {xs : List α} : atI xs 53 = xs[53]? := atI_nat (i := 53)
@[simp] theorem atI_54 {α : Type} {xs : List α} : atI xs 54 = xs[54]? := atI_nat (i := 54)
@[simp] theorem atI_55 {α : Type} {xs : List α} : atI xs 55 = xs[55]? := atI_nat (i := 55)
@[simp] theorem atI_56 {α : Type} {xs : List α} : atI xs 56 = xs[56]? := atI_nat (i := 56)
@[simp] theorem atI_57 {α : Type} {xs : List α} : atI xs 57 = xs[57]? := atI_nat (i := 57)
@[simp] theorem atI_58 {α : Type} {xs : List α} : atI xs 58 = xs[58]? := atI_nat (i := 58)
@[simp] theorem atI_59 {α : Type} {xs : List α} : atI xs 59 = xs[59]? := atI_nat (i := 59)
@[simp] theorem atI_60 {α : Type} {xs : List α} : atI xs 60 = xs[60]? := atI_nat (i := 60)
@[simp] theorem atI_61 {α : Type} {xs : List α} : atI xs 61 = xs[61]? := atI_nat (i := 61)
@[simp] theorem atI_62 {α : Type} {xs : List α} : atI xs 62 = xs[62]? := atI_nat (i := 62)
@[simp] theorem atI_63 {α : Type} {xs : List α} : atI xs 63 = xs[63]? := atI_nat (i := 63)
theorem mL_ev {i : Nat} {env : En} {ds : List D} {f : List D → Option (List D)} (h : env[i]? = some (some (.list ds, .ow))) : mL env i f = (f ds).map fun es => .nx (env.set i (some (.list es, .ow))) := by
  unfold mL; rw [h]
theorem rngL_length {lo : Int} {n : Nat} : (rngL lo n).length = n := by simp [rngL]
def q_rowT (mixed : List RV → Option RV) : GS := (sIf (eB (e2 gtG (eVar 2) (eC (.int 0)))) (sSeq (sApp 3 (aCons (e2 modG (eA (one intG) (aCons (eVar 2) aNil)) (eC (.int 1000))) aNil))
  (sAsg 2 false (e2 divG (eVar 2) (eC (.int 1000))))) (sApp 3 (aCons (eA mixed (aCons (eVar 0) (aCons (eVar 4) aNil))) aNil)))
def q_rowU (mixed : List RV → Option RV) : GS := sSeq (sAsg 3 true (eA lstG aNil)) (sSeq (sFor [4] (.nm 4) (aS rng1G (aCons (eVar 1) aNil)) (q_rowT mixed)) (sRetM 3))
theorem row_ok {mixed : List RV → Option RV} {ns : List Int} {m : Nat} (hm : m ≤ 1000) (hmix : ∀ k : Int, ∃ x : Int, mixed [(.list (ns.map .int), .sc), (.int k, .fz)] = some (.int x, .fz)) :
    ∃ row : List Int, row.length = m ∧ fnG 2 5 (q_row mixed) [(.list (ns.map .int), .sc), (.int (m : Nat), .fz)] = some (.list (row.map .int), .ow) := by
  rw [fnG_ev (by rfl)]
  have hr : ∀ big : Int, ∃ row : List Int, row.length = m ∧ (q_rowU mixed [some (.list (ns.map .int), .sc), some (.int (m : Nat), .fz), some (.int big, .fz), none, none]).bind fnO = some (.list (row.map .int), .ow) := by
    intro big
    obtain ⟨e, h1, row, big', h2, rfl⟩ := forGo_inv (N := m) (tg := .nm 4) (ws := [4]) (body := q_rowT mixed)
      (fun i e => ∃ (row : List Int) (big : Int), row.length = i ∧ e = [some (.list (ns.map .int), .sc), some (.int (m : Nat), .fz), some (.int big, .fz), some (.list (row.map .int), .ow), none])
      (rngL 0 m) 0 [some (.list (ns.map .int), .sc), some (.int (m : Nat), .fz), some (.int big, .fz), some (.list [], .ow), none] (by rw [rngL_length]; omega) ⟨[], big, rfl, rfl⟩ (by
        rintro x hx i env hi ⟨row, big, hl, rfl⟩
        obtain ⟨k, hk, rfl⟩ := List.mem_map.mp hx
        obtain ⟨z, hz⟩ := hmix (0 + (k : Nat))
        rw [turn_nm]
        by_cases hb : 0 < big
        · refine ⟨[some (.list (ns.map .int), .sc), some (.int (m : Nat), .fz), some (.int (big.fdiv 1000), .fz), some (.list ((row ++ [big.fmod 1000]).map .int), .ow), some (.int (0 + (k : Nat)), .fz)], ?_, row ++ [big.fmod 1000], big.fdiv 1000, by simp [hl], by simp⟩
          have hlt : (row.map PyData.int).length < 16777216 := by simp; omega
          simp [q_rowT, sSeq_ev, hb, mod_n (j := 1000) (by omega), div_n (j := 1000) (by omega), appR_ev (ds := row.map PyData.int), show row.length < 16777216 by omega]
        · refine ⟨[some (.list (ns.map .int), .sc), some (.int (m : Nat), .fz), some (.int big, .fz), some (.list ((row ++ [z]).map .int), .ow), some (.int (0 + (k : Nat)), .fz)], ?_, row ++ [z], big, by simp [hl], by simp⟩
          simp only [Int.zero_add] at hz
          simp [q_rowT, sSeq_ev, hb, hz, appR_ev (ds := row.map PyData.int), show row.length < 16777216 by omega])
    refine ⟨row, by rw [h2, rngL_length]; omega, ?_⟩
    simp [q_rowU, sSeq_ev, rng1_ev (m := m) (by omega), sFor_no (xs := rngL 0 m), h1, sRetM_ev]
  by_cases hn : ns = []
  · subst hn
    obtain ⟨row, h1, h2⟩ := hr 0
    refine ⟨row, h1, ?_⟩
    rw [← h2, show q_row mixed = sSeq _ (sSeq _ (q_rowU mixed)) from rfl]
    simp [sSeq_ev]
  · obtain ⟨n, ns', rfl⟩ := List.exists_cons_of_ne_nil hn
    have hp : powG (.int 10, .fz) (.int 18, .fz) = some (.int 1000000000000000000, .fz) := by
      show (if powC 10 18 = true then some (PyData.int (10 ^ (18 : Int).toNat), Fl.fz) else none) = _
      rw [if_pos (by decide)]
      rfl
    by_cases hb : 1000000000000000000 ≤ n
    · obtain ⟨row, h1, h2⟩ := hr n
      refine ⟨row, h1, ?_⟩
      rw [← h2, show q_row mixed = sSeq _ (sSeq _ (q_rowU mixed)) from rfl]
      simp [sSeq_ev, hp, hb, atI_nat]
    · obtain ⟨row, h1, h2⟩ := hr 0
      refine ⟨row, h1, ?_⟩
      rw [← h2, show q_row mixed = sSeq _ (sSeq _ (q_rowU mixed)) from rfl]
      simp [sSeq_ev, hp, hb, atI_nat]
end Pl

set_option Elab.async false
set_option linter.all false
set_option maxRecDepth 100000
set_option maxHeartbeats 4000000
/-! Br5: least, greatest, sorted of data of one shape -/
namespace Pl
open PySem L2
theorem lcGo_tot {α : Type} {f : D → Option (Option D)} (enc : α → D) (h : α → D) : ∀ (ys : List α), (∀ y ∈ ys, f (enc y) = some (some (h y))) → lcGo f (ys.map enc) = some (ys.map h)
  | [], _ => rfl
  | y :: ys, k => by
    rw [List.map_cons, lcGo, k y List.mem_cons_self, lcGo_tot enc h ys fun z hz => k z (List.mem_cons_of_mem _ hz)]
    rfl
/-- shapes -/
inductive Sh | i | t (l : List Sh)
mutual
def hasSh : Sh → D → Bool
  | .i, .int _ => true
  | .t l, .tuple ds => hasShA l ds
  | _, _ => false
def hasShA : List Sh → List D → Bool
  | [], [] => true
  | s :: l, d :: ds => hasSh s d && hasShA l ds
  | _, _ => false
end
def Sh.isT : Sh → Bool
  | .t _ => true
  | _ => false
mutual
def Sh.dp : Sh → Nat
  | .i => 0
  | .t l => Sh.dpA l + 1
def Sh.dpA : List Sh → Nat
  | [] => 0
  | s :: l => max (Sh.dp s) (Sh.dpA l)
end
mutual
theorem sh_alike : ∀ (s : Sh) (x y : D), hasSh s x = true → hasSh s y = true → PySem.W.alike x y = true
  | .i, x, y, h, k => by
    cases x <;> simp [hasSh] at h
    cases y <;> simp [hasSh] at k
    simp [PySem.W.alike]
  | .t l, x, y, h, k => by
    cases x <;> simp [hasSh] at h
    cases y <;> simp [hasSh] at k
    simp only [PySem.W.alike]
    exact sh_alikeA l _ _ h k
theorem sh_alikeA : ∀ (l : List Sh) (xs ys : List D), hasShA l xs = true → hasShA l ys = true → PySem.W.alikeAll xs ys = true
  | [], xs, ys, h, k => by
    cases xs <;> simp [hasShA] at h
    simp [PySem.W.alikeAll]
  | s :: l, xs, ys, h, k => by
    cases xs <;> simp [hasShA] at h
    cases ys <;> simp [hasShA] at k
    simp only [PySem.W.alikeAll, Bool.and_eq_true]
    exact ⟨sh_alike s _ _ h.1 k.1, sh_alikeA l _ _ h.2 k.2⟩
end
mutual
theorem sh_ok : ∀ (s : Sh) (n : Nat) (x : D), hasSh s x = true → s.dp ≤ n → okD n x = true
  | .i, n, x, h, _ => by
    cases x <;> simp [hasSh] at h
    cases n <;> rfl
  | .t l, 0, x, h, k => by simp [Sh.dp] at k
  | .t l, n + 1, x, h, k => by
    cases x <;> simp [hasSh] at h
    rw [okD]
    exact sh_okA l n _ h (by simp [Sh.dp] at k; exact k)
theorem sh_okA : ∀ (l : List Sh) (n : Nat) (xs : List D), hasShA l xs = true → Sh.dpA l ≤ n → okA n xs = true
  | [], n, xs, h, _ => by
    cases xs <;> simp [hasShA] at h
    simp [okA]
  | s :: l, n, xs, h, k => by
    cases xs <;> simp [hasShA] at h
    simp only [Sh.dpA] at k
    rw [okA, Bool.and_eq_true]
    exact ⟨sh_ok s n _ h.1 (by omega), sh_okA l n _ h.2 (by omega)⟩
end
theorem sh_none {s : Sh} {x : D} (h : hasSh s x = true) : isNone x = false := by
  cases x <;> first | rfl | (cases s <;> simp [hasSh] at h)
theorem sh_tup {s : Sh} {x : D} (h : hasSh s x = true) : isTup x = s.isT := by
  cases s <;> cases x <;> simp [hasSh] at h <;> rfl
theorem okA_mk {n : Nat} : ∀ {ds : List D}, (∀ d ∈ ds, okD n d = true) → okA n ds = true
  | [], _ => by simp [okA]
  | d :: ds, h => by rw [okA, Bool.and_eq_true]; exact ⟨h d List.mem_cons_self, okA_mk fun x hx => h x (List.mem_cons_of_mem _ hx)⟩
theorem alikeB_sh {s : Sh} {ds : List D} (hs : s.dp ≤ 9) (h : ∀ d ∈ ds, hasSh s d = true) : alikeB ds = true := by
  unfold alikeB
  simp only [Bool.and_eq_true, List.all_eq_true]
  exact ⟨⟨okA_mk fun d hd => sh_ok s 9 d (h d hd) hs, fun x hx y hy => sh_alike s x y (h x hx) (h y hy)⟩, fun x hx => by rw [sh_none (h x hx)]; rfl⟩
theorem sortB_sh {s : Sh} {ds : List D} (hs : s.dp ≤ 9) (h : ∀ d ∈ ds, hasSh s d = true) : sortB ds = true := by
  unfold sortB
  simp only [Bool.and_eq_true, List.all_eq_true, Bool.or_eq_true]
  refine ⟨⟨okA_mk fun d hd => sh_ok s 9 d (h d hd) hs, fun x hx y hy => sh_alike s x y (h x hx) (h y hy)⟩, ?_⟩
  cases e : s.isT with
  | true => exact .inl fun d hd => by rw [sh_tup (h d hd), e]
  | false => exact .inr fun d hd => by rw [sh_none (h d hd), sh_tup (h d hd), e]; exact ⟨rfl, rfl⟩
theorem minA_sh {s : Sh} {d : D} {ds : List D} {f : Fl} (hs : s.dp ≤ 9) (h : ∀ x ∈ d :: ds, hasSh s x = true) : minA [(.list (d :: ds), f)] = some (PySem.W.minD d ds, .fz) := by
  show ((none : Option RV).or (none.or (mmG PySem.W.minD (.list (d :: ds), f)))) = _
  show (if alikeB (d :: ds) = true then some (PySem.W.minD d ds, Fl.fz) else none) = _
  rw [if_pos (alikeB_sh hs h)]
theorem maxA_sh {s : Sh} {d : D} {ds : List D} {f : Fl} (hs : s.dp ≤ 9) (h : ∀ x ∈ d :: ds, hasSh s x = true) : maxA [(.list (d :: ds), f)] = some (PySem.W.maxD d ds, .fz) := by
  show ((none : Option RV).or (mmG PySem.W.maxD (.list (d :: ds), f))) = _
  show (if alikeB (d :: ds) = true then some (PySem.W.maxD d ds, Fl.fz) else none) = _
  rw [if_pos (alikeB_sh hs h)]
theorem minA_ints {n : Int} {ns : List Int} {f : Fl} : minA [(.list (.int n :: ns.map .int), f)] = some (.int (ns.foldl min n), .fz) := by
  rw [minA_sh (s := .i) (by decide) (by
    intro x hx
    rcases List.mem_cons.mp hx with rfl | hx
    · rfl
    · obtain ⟨k, _, rfl⟩ := List.mem_map.mp hx; rfl), PySem.W.minD_ints]
theorem maxA_ints {n : Int} {ns : List Int} {f : Fl} : maxA [(.list (.int n :: ns.map .int), f)] = some (.int (ns.foldl max n), .fz) := by
  rw [maxA_sh (s := .i) (by decide) (by
    intro x hx
    rcases List.mem_cons.mp hx with rfl | hx
    · rfl
    · obtain ⟨k, _, rfl⟩ := List.mem_map.mp hx; rfl), PySem.W.maxD_ints]
theorem sortG_sh {s : Sh} {ds : List D} {f : Fl} (hs : s.dp ≤ 9) (h : ∀ x ∈ ds, hasSh s x = true) (hl : ds.length ≤ 16777216) : sortG (.list ds, f) = some (.list (ds.mergeSort leD), .ow) := by
  show (if sortB ds = true ∧ ds.length ≤ 16777216 then some (PyData.list (ds.mergeSort leD), Fl.ow) else none) = _
  rw [if_pos ⟨sortB_sh hs h, hl⟩]
mutual
def Sh.wd : Sh → Bool
  | .i => true
  | .t l => decide (l.length ≤ 1000) && Sh.wdA l
def Sh.wdA : List Sh → Bool
  | [] => true
  | s :: l => Sh.wd s && Sh.wdA l
end
theorem shA_len : ∀ {l : List Sh} {xs : List D}, hasShA l xs = true → xs.length = l.length
  | [], xs, h => by cases xs <;> simp [hasShA] at h; rfl
  | s :: l, xs, h => by
    cases xs <;> simp [hasShA] at h
    simp [shA_len h.2]
mutual
theorem sh_pl : ∀ (s : Sh) (n : Nat) (x : D), hasSh s x = true → s.dp ≤ n → s.wd = true → plD n x = true
  | .i, n, x, h, _, _ => by
    cases x <;> simp [hasSh] at h
    cases n <;> rfl
  | .t l, 0, x, h, k, _ => by simp [Sh.dp] at k
  | .t l, n + 1, x, h, k, w => by
    cases x <;> simp [hasSh] at h
    simp only [Sh.wd, Bool.and_eq_true, decide_eq_true_eq] at w
    rw [plD, Bool.and_eq_true, List.all_eq_true]
    exact ⟨decide_eq_true (by rw [shA_len h]; exact w.1), sh_plA l n _ h (by simp [Sh.dp] at k; exact k) w.2⟩
theorem sh_plA : ∀ (l : List Sh) (n : Nat) (xs : List D), hasShA l xs = true → Sh.dpA l ≤ n → Sh.wdA l = true → ∀ x ∈ xs, plD n x = true
  | [], n, xs, h, _, _ => by
    cases xs <;> simp [hasShA] at h
    simp
  | s :: l, n, xs, h, k, w => by
    cases xs <;> simp [hasShA] at h
    simp only [Sh.dpA] at k
    simp only [Sh.wdA, Bool.and_eq_true] at w
    intro x hx
    rcases List.mem_cons.mp hx with rfl | hx
    · exact sh_pl s n _ h.1 (by omega) w.1
    · exact sh_plA l n _ h.2 (by omega) w.2 x hx
end
end Pl

set_option Elab.async false
set_option linter.all false
set_option maxRecDepth 100000
set_option maxHeartbeats 4000000
/-! Pl18: any, all of lists of ints -/
namespace Pl
open PySem PySem.Spec PyProof.Rows L2
theorem ints_at : ∀ {us : List Value} {ns : List Int}, IntsAre us ns → us.length = ns.length ∧ ∀ (i : Nat) (v : Value), us[i]? = some v → ∃ t, v = .int (ns.getD i 0) t
  | [], _, .nil => ⟨rfl, fun i v h => by simp at h⟩
  | _ :: us, _ :: ns, .cons n t h2 => by
    obtain ⟨a, b⟩ := ints_at h2
    refine ⟨by simp [a], fun i v hv => ?_⟩
    cases i with
    | zero => simp at hv; subst hv; exact ⟨_, rfl⟩
    | succ i => simpa using b i v (by simpa using hv)
theorem truth_ints {prog : Program} {w : World} {A : Around} {ns : List Int} {its : List Value} (e : IntsAre its ns) :
    TruthOf prog w A (fun i v => its.toArray[i]? = some v) (fun i => ns.getD i 0 != 0) := fun i v s Q E hv hq => by
  have hv' : its[i]? = some v := by simpa using hv
  obtain ⟨t, rfl⟩ := (ints_at e).2 i v hv'
  exact PyProof.Rows.truthy_int hq
theorem any_rangeI : ∀ ns : List Int, (List.range ns.length).any (fun i => ns.getD i 0 != 0) = ns.any fun n => n != 0
  | [] => rfl
  | b :: bs => by
    rw [List.length_cons, List.range_succ_eq_map, List.any_cons, List.any_map, List.any_cons, ← any_rangeI bs]
    rfl
theorem all_rangeI : ∀ ns : List Int, (List.range ns.length).all (fun i => ns.getD i 0 != 0) = ns.all fun n => n != 0
  | [] => rfl
  | b :: bs => by
    rw [List.length_cons, List.range_succ_eq_map, List.all_cons, List.all_map, List.all_cons, ← all_rangeI bs]
    rfl
variable {X : Cx}
theorem cr_anyI (hc : X.calm = true) : CallR X (.builtin "any") (fun vs H Q => ∃ (a : Addr) (ns : List Int), vs = [V.ref a] ∧ SqL X.K H a (ns.map V.int) ∧ Q (.bl (ns.any fun n => n != 0)) H) := by
  intro pins s σ H vs us Q I r h
  obtain ⟨a, bs, rfl, hs, q⟩ := h
  obtain ⟨its, rv, hl, _⟩ := I.list hs
  rw [Vals.ref1 r]
  have hb := rv.ints
  refine call_any_walk (iter_any hl.isList fun s₂ e2 st hne => ?_)
  subst e2
  refine ⟨_, _, _, _, _, _, _, rfl, Walks.list (A := X.A.in1) (I.ok.hd hc) _ a hne its.toArray, st, truth_ints hb, fun h' tk hk => ?_⟩
  refine ⟨.bl _, H, I.kept fun b o eo => hk b o (fun hmem => ?_) (Heap.get?_push_of_some _ eo), ?_, q⟩
  · rcases List.mem_cons.mp hmem with e1 | hmem
    · exact absurd (e1 ▸ Heap.lt_size eo) (Nat.lt_irrefl _)
    · cases hmem
  · show Value.bool _ = Value.bool _
    rw [← any_rangeI, List.size_toArray, (ints_at hb).1]
theorem cr_allI (hc : X.calm = true) : CallR X (.builtin "all") (fun vs H Q => ∃ (a : Addr) (ns : List Int), vs = [V.ref a] ∧ SqL X.K H a (ns.map V.int) ∧ Q (.bl (ns.all fun n => n != 0)) H) := by
  intro pins s σ H vs us Q I r h
  obtain ⟨a, bs, rfl, hs, q⟩ := h
  obtain ⟨its, rv, hl, _⟩ := I.list hs
  rw [Vals.ref1 r]
  have hb := rv.ints
  refine call_all_walk (iter_any hl.isList fun s₂ e2 st hne => ?_)
  subst e2
  refine ⟨_, _, _, _, _, _, _, rfl, Walks.list (A := X.A.in1) (I.ok.hd hc) _ a hne its.toArray, st, truth_ints hb, fun h' tk hk => ?_⟩
  refine ⟨.bl _, H, I.kept fun b o eo => hk b o (fun hmem => ?_) (Heap.get?_push_of_some _ eo), ?_, q⟩
  · rcases List.mem_cons.mp hmem with e1 | hmem
    · exact absurd (e1 ▸ Heap.lt_size eo) (Nat.lt_irrefl _)
    · cases hmem
  · show Value.bool _ = Value.bool _
    rw [← all_rangeI, List.size_toArray, (ints_at hb).1]
def intsB (k : List Int → Bool) : RV → Option RV
  | (.list ds, _) => (intsOf ds).map fun ns => (.bool (k ns), .fz)
  | _ => none
theorem callF_intsB {f : Value} {k : List Int → Bool} (h : CallR X f (fun vs H Q => ∃ (a : Addr) (ns : List Int), vs = [V.ref a] ∧ SqL X.K H a (ns.map V.int) ∧ Q (.bl (k ns)) H)) : CallF X f (one (intsB k)) := by
  refine call1 (r := fun x H Q => ∃ (a : Addr) (bs : List Int), x = .ref a ∧ SqL X.K H a (bs.map V.int) ∧ Q (.bl (k bs)) H) (CallR.imp h fun xs H Q ⟨x, e, a, ns, e2, h, q⟩ => ⟨a, ns, by rw [e, e2], h, q⟩) fun F H0 H v a c Q rv sm e q => ?_
  obtain ⟨d, f⟩ := a
  cases d <;> try (cases (show (none : Option RV) = some c from e))
  rename_i ds
  have e' : (intsOf ds).map (fun ns => ((.bool (k ns), .fz) : RV)) = some c := e
  cases e1 : intsOf ds with
  | none => rw [e1] at e'; cases e'
  | some ns =>
    rw [e1] at e'
    cases e'
    cases intsOf_of e1
    obtain ⟨p, vs, L, rfl, s, r, hl⟩ := rv.list
    cases rpa_ints_inv r
    exact ⟨p, ns, rfl, s, q _ H (Same.refl H) Res.ofBool⟩
def anyI (ns : List Int) : Bool := ns.any fun n => n != 0
def anyA (rs : List RV) : Option RV := (one (boolsG anyL) rs).or (one (intsB anyI) rs)
theorem callF_anyA (hc : X.calm = true) : CallF X (.builtin "any") anyA := (callF_any hc).or (callF_intsB (cr_anyI hc))
end Pl

set_option Elab.async false
set_option linter.all false
set_option maxRecDepth 100000
set_option maxHeartbeats 4000000
/-! Ty1: typed reading of the printed functions: how values are encoded, and what is asked of them -/
namespace Pl
open PySem L2
section
variable {α β γ δ ε ζ : Type}
def cI : Int → D := PyData.int
def cB : Bool → D := PyData.bool
def cS : Str → D := PyData.str
def cZ : Unit → D := fun _ => .none
def cD : D → D := fun d => d
def cO (E : α → D) : Option α → D
  | none => .none
  | some a => E a
def cP0 : Unit → D := fun _ => .tuple []
def cP1 (E : α → D) : α → D := fun a => .tuple [E a]
def cP2 (E : α → D) (F : β → D) : α × β → D := fun p => .tuple [E p.1, F p.2]
def cP3 (E : α → D) (F : β → D) (G : γ → D) : α × β × γ → D := fun p => .tuple [E p.1, F p.2.1, G p.2.2]
def cP4 (E : α → D) (F : β → D) (G : γ → D) (H : δ → D) : α × β × γ × δ → D := fun p => .tuple [E p.1, F p.2.1, G p.2.2.1, H p.2.2.2]
def cP5 (E : α → D) (F : β → D) (G : γ → D) (H : δ → D) (J : ε → D) : α × β × γ × δ × ε → D := fun p => .tuple [E p.1, F p.2.1, G p.2.2.1, H p.2.2.2.1, J p.2.2.2.2]
def cP6 (E : α → D) (F : β → D) (G : γ → D) (H : δ → D) (J : ε → D) (L : ζ → D) : α × β × γ × δ × ε × ζ → D := fun p => .tuple [E p.1, F p.2.1, G p.2.2.1, H p.2.2.2.1, J p.2.2.2.2.1, L p.2.2.2.2.2]
def cT (E : α → D) : List α → D := fun xs => .tuple (xs.map E)
def cL (E : α → D) : List α → D := fun xs => .list (xs.map E)
/-- a value with its flag -/
abbrev zz (E : α → D) (a : α) : RV := (E a, .fz)
abbrev ww (E : α → D) (a : α) : RV := (E a, .ow)
/-! what is asked -/
class OkC (n : Nat) (E : α → D) : Prop where
  ok : ∀ a, okD n (E a) = true
class EqC [DecidableEq α] (E : α → D) : Prop where
  eqv : ∀ a b, PyData.eqv (E a) (E b) = decide (a = b)
/-- an order that python has on these -/
class LtC (E : α → D) (lt : outParam (α → α → Bool)) : Prop where
  al : ∀ a b, PySem.W.alike (E a) (E b) = true
  ltv : ∀ a b, PySem.W.dataLt (E a) (E b) = lt a b
  nn : ∀ a, isNone (E a) = false
  tp : (∀ a, isTup (E a) = true) ∨ ∀ a, isTup (E a) = false
theorem okA_map {n : Nat} {E : α → D} (h : ∀ a, okD n (E a) = true) : ∀ xs : List α, okA n (xs.map E) = true
  | [] => by simp [okA]
  | x :: xs => by simp [okA, h x, okA_map h xs]
instance {n : Nat} : OkC n cI := ⟨fun _ => by cases n <;> rfl⟩
instance {n : Nat} : OkC n cB := ⟨fun _ => by cases n <;> rfl⟩
instance {n : Nat} : OkC n cZ := ⟨fun _ => by cases n <;> rfl⟩
instance {n : Nat} {E : α → D} [OkC n E] : OkC n (cO E) := ⟨fun a => by cases a with
  | none => cases n <;> rfl
  | some a => exact OkC.ok a⟩
instance {n : Nat} : OkC (n + 1) cP0 := ⟨fun _ => by simp [cP0, okD, okA]⟩
instance {n : Nat} {E : α → D} [OkC n E] : OkC (n + 1) (cP1 E) := ⟨fun a => by simp [cP1, okD, okA, OkC.ok]⟩
instance {n : Nat} {E : α → D} {F : β → D} [OkC n E] [OkC n F] : OkC (n + 1) (cP2 E F) := ⟨fun a => by simp [cP2, okD, okA, OkC.ok]⟩
instance {n : Nat} {E : α → D} {F : β → D} {G : γ → D} [OkC n E] [OkC n F] [OkC n G] : OkC (n + 1) (cP3 E F G) := ⟨fun a => by simp [cP3, okD, okA, OkC.ok]⟩
instance {n : Nat} {E : α → D} {F : β → D} {G : γ → D} {H : δ → D} [OkC n E] [OkC n F] [OkC n G] [OkC n H] : OkC (n + 1) (cP4 E F G H) := ⟨fun a => by simp [cP4, okD, okA, OkC.ok]⟩
instance {n : Nat} {E : α → D} [OkC n E] : OkC (n + 1) (cT E) := ⟨fun a => by rw [cT, okD]; exact okA_map OkC.ok a⟩
instance {n : Nat} {E : α → D} [OkC n E] : OkC (n + 1) (cL E) := ⟨fun a => by rw [cL, okD]; exact okA_map OkC.ok a⟩
instance : EqC cI := ⟨fun a b => by simp [cI, PyData.eqv, Bool.beq_eq_decide_eq]⟩
instance : EqC cB := ⟨fun a b => by simp [cB, PyData.eqv, Bool.beq_eq_decide_eq]⟩
instance : EqC cP0 := ⟨fun a b => by simp [cP0, PyData.eqv, PyData.eqvAll]⟩
instance [DecidableEq α] {E : α → D} [EqC E] : EqC (cP1 E) := ⟨fun a b => by simp [cP1, PyData.eqv, PyData.eqvAll, EqC.eqv]⟩
instance [DecidableEq α] [DecidableEq β] {E : α → D} {F : β → D} [EqC E] [EqC F] : EqC (cP2 E F) := ⟨fun a b => by
  obtain ⟨a1, a2⟩ := a; obtain ⟨b1, b2⟩ := b
  simp [cP2, PyData.eqv, PyData.eqvAll, EqC.eqv]⟩
instance [DecidableEq α] [DecidableEq β] [DecidableEq γ] {E : α → D} {F : β → D} {G : γ → D} [EqC E] [EqC F] [EqC G] : EqC (cP3 E F G) := ⟨fun a b => by
  obtain ⟨a1, a2, a3⟩ := a; obtain ⟨b1, b2, b3⟩ := b
  simp [cP3, PyData.eqv, PyData.eqvAll, EqC.eqv]⟩
theorem eqvAll_map [DecidableEq α] {E : α → D} [EqC E] : ∀ xs ys : List α, PyData.eqvAll (xs.map E) (ys.map E) = decide (xs = ys)
  | [], [] => by simp [PyData.eqvAll]
  | [], _ :: _ => by simp [PyData.eqvAll]
  | _ :: _, [] => by simp [PyData.eqvAll]
  | x :: xs, y :: ys => by simp [PyData.eqvAll, EqC.eqv, eqvAll_map xs ys]
instance [DecidableEq α] {E : α → D} [EqC E] : EqC (cT E) := ⟨fun a b => by rw [cT, cT, PyData.eqv, eqvAll_map]⟩
instance [DecidableEq α] {E : α → D} [EqC E] : EqC (cL E) := ⟨fun a b => by rw [cL, cL, PyData.eqv, eqvAll_map]⟩
/-! orders -/
def ltI (a b : Int) : Bool := decide (a < b)
def ltB (a b : Bool) : Bool := !a && b
def ltP [DecidableEq α] (la : α → α → Bool) (lb : β → β → Bool) (p q : α × β) : Bool := if p.1 = q.1 then lb p.2 q.2 else la p.1 q.1
def ltP1 (la : α → α → Bool) (p q : α) : Bool := la p q
def ltL [DecidableEq α] (la : α → α → Bool) : List α → List α → Bool
  | _, [] => false
  | [], _ :: _ => true
  | x :: xs, y :: ys => if x = y then ltL la xs ys else la x y
theorem rowLt_nil : PyProof.Rows.lexLt PyProof.Rows.itemOrd (PySem.W.keyToksAll []) (PySem.W.keyToksAll []) = false := PyProof.Rows.lex_irrefl _
instance : LtC cI ltI := ⟨fun _ _ => by simp [cI, PySem.W.alike], fun a b => PySem.W.dataLt_int a b, fun _ => rfl, .inr fun _ => rfl⟩
instance : LtC cB ltB := ⟨fun _ _ => by simp [cB, PySem.W.alike], fun a b => by rw [cB, PySem.W.dataLt_bool]; cases a <;> cases b <;> rfl, fun _ => rfl, .inr fun _ => rfl⟩
theorem LtC.irr {E : α → D} {lt : α → α → Bool} [LtC E lt] (a : α) : lt a a = false := by rw [← LtC.ltv (E := E) a a]; exact PyProof.Rows.lex_irrefl _
instance [DecidableEq α] {E : α → D} {la : α → α → Bool} [EqC E] [LtC E la] : LtC (cP1 E) (ltP1 la) := ⟨fun a b => by simp [cP1, PySem.W.alike, PySem.W.alikeAll, LtC.al], fun a b => by
  rw [cP1, cP1, PySem.W.dataLt_tuple, PySem.W.dataLt_cons (LtC.al a b), rowLt_nil, EqC.eqv, LtC.ltv]
  by_cases h : a = b
  · subst h; simp [ltP1, LtC.irr (E := E)]
  · simp [h, ltP1], fun _ => rfl, .inl fun _ => rfl⟩
instance [DecidableEq α] [DecidableEq β] {E : α → D} {F : β → D} {la : α → α → Bool} {lb : β → β → Bool} [EqC E] [EqC F] [LtC E la] [LtC F lb] : LtC (cP2 E F) (ltP la lb) := ⟨fun a b => by simp [cP2, PySem.W.alike, PySem.W.alikeAll, LtC.al], fun a b => by
  rw [cP2, cP2, PySem.W.dataLt_tuple, PySem.W.dataLt_cons (LtC.al a.1 b.1), PySem.W.dataLt_cons (LtC.al a.2 b.2), rowLt_nil, EqC.eqv, EqC.eqv, LtC.ltv, LtC.ltv]
  by_cases h : a.1 = b.1
  · by_cases k : a.2 = b.2
    · simp [h, k, ltP, LtC.irr (E := F)]
    · simp [h, k, ltP]
  · simp [h, ltP], fun _ => rfl, .inl fun _ => rfl⟩
instance [DecidableEq α] [DecidableEq β] [DecidableEq γ] {E : α → D} {F : β → D} {G : γ → D} {la : α → α → Bool} {lb : β → β → Bool} {lc : γ → γ → Bool} [EqC E] [EqC F] [EqC G] [LtC E la] [LtC F lb] [LtC G lc] : LtC (cP3 E F G) (ltP la (ltP lb lc)) := ⟨fun a b => by simp [cP3, PySem.W.alike, PySem.W.alikeAll, LtC.al], fun a b => by
  rw [cP3, cP3, PySem.W.dataLt_tuple, PySem.W.dataLt_cons (LtC.al a.1 b.1), PySem.W.dataLt_cons (LtC.al a.2.1 b.2.1), PySem.W.dataLt_cons (LtC.al a.2.2 b.2.2), rowLt_nil, EqC.eqv, EqC.eqv, EqC.eqv, LtC.ltv, LtC.ltv, LtC.ltv]
  by_cases h : a.1 = b.1
  · by_cases k : a.2.1 = b.2.1
    · by_cases l : a.2.2 = b.2.2
      · simp [h, k, l, ltP, LtC.irr (E := G)]
      · simp [h, k, l, ltP]
    · simp [h, k, ltP]
  · simp [h, ltP], fun _ => rfl, .inl fun _ => rfl⟩
theorem alikeAll_map {E : α → D} {la : α → α → Bool} [LtC E la] : ∀ xs ys : List α, PySem.W.alikeAll (xs.map E) (ys.map E) = true
  | [], _ => by simp [PySem.W.alikeAll]
  | _ :: _, [] => by simp [PySem.W.alikeAll]
  | x :: xs, y :: ys => by simp [PySem.W.alikeAll, LtC.al, alikeAll_map xs ys]
theorem lexAll_map [DecidableEq α] {E : α → D} {la : α → α → Bool} [EqC E] [LtC E la] : ∀ xs ys : List α, PyProof.Rows.lexLt PyProof.Rows.itemOrd (PySem.W.keyToksAll (xs.map E)) (PySem.W.keyToksAll (ys.map E)) = ltL la xs ys
  | [], [] => by rw [List.map_nil, rowLt_nil]; rfl
  | [], y :: ys => by
    rw [ltL, List.map_cons, List.map_nil]
    exact lex_nil_cons
  | x :: xs, [] => by
    rw [ltL, List.map_cons, List.map_nil]
    exact lex_cons_nil
  | x :: xs, y :: ys => by
    rw [List.map_cons, List.map_cons, PySem.W.dataLt_cons (LtC.al x y), lexAll_map xs ys, EqC.eqv, LtC.ltv, ltL]
    by_cases h : x = y <;> simp [h]
where
  lex_nil_cons {y : α} {ys : List α} : PyProof.Rows.lexLt PyProof.Rows.itemOrd (PySem.W.keyToksAll []) (PySem.W.keyToksAll (E y :: ys.map E)) = true := by
    rw [PySem.W.keyToksAll, PySem.W.keyToksAll, PySem.W.lex_atom (by decide)]; rfl
  lex_cons_nil {y : α} {ys : List α} : PyProof.Rows.lexLt PyProof.Rows.itemOrd (PySem.W.keyToksAll (E y :: ys.map E)) (PySem.W.keyToksAll []) = false := by
    rw [PySem.W.keyToksAll, PySem.W.keyToksAll, PySem.W.lex_atom (by decide)]; rfl
instance [DecidableEq α] {E : α → D} {la : α → α → Bool} [EqC E] [LtC E la] : LtC (cT E) (ltL la) := ⟨fun a b => by rw [cT, cT, PySem.W.alike, alikeAll_map], fun a b => by rw [cT, cT, PySem.W.dataLt_tuple, lexAll_map], fun _ => rfl, .inl fun _ => rfl⟩
instance [DecidableEq α] {E : α → D} {la : α → α → Bool} [EqC E] [LtC E la] : LtC (cL E) (ltL la) := ⟨fun a b => by rw [cL, cL, PySem.W.alike, alikeAll_map], fun a b => by rw [cL, cL, PySem.W.dataLt_list, lexAll_map], fun _ => rfl, .inr fun _ => rfl⟩
end
end Pl

set_option Elab.async false
set_option linter.all false
set_option maxRecDepth 100000
set_option maxHeartbeats 4000000
/-! Ty2: typed operations, and what the printed operations are on typed values -/
namespace Pl
open PySem L2
section
variable {α β γ δ ε ζ : Type}
/-! operations -/
def mulT (i j : Int) : Option Int := if mulC i j then some (i * j) else none
def divT (i j : Int) : Option Int := if divC i j then some (i.fdiv j) else none
def modT (i j : Int) : Option Int := if j ≠ 0 then some (i.fmod j) else none
def powT (i j : Int) : Option Int := if powC i j then some (i ^ j.toNat) else none
def absT (i : Int) : Int := (i.natAbs : Int)
def catT (a b : List α) : Option (List α) := if a.length + b.length ≤ 16777216 then some (a ++ b) else none
def repT (a : List α) (k : Int) : Option (List α) := if -(2 ^ 62) ≤ k ∧ a.length * k.toNat ≤ 16777216 ∧ k < 2 ^ 62 then some (List.replicate k.toNat a).flatten else none
def repTT (a : List α) (k : Int) : Option (List α) := if a ≠ [] ∧ 2 ≤ k ∧ a.length ≤ 1000 ∧ k ≤ 1000 then some (List.replicate k.toNat a).flatten else none
def rngI (a : Int) (n : Nat) : List Int := (List.range n).map fun i : Nat => a + (i : Int)
def rngJ (a : Int) (n : Nat) : List Int := (List.range n).map fun i : Nat => a - (i : Int)
def rng1T (j : Int) : Option (List Int) := if inB j = true ∧ j.toNat ≤ 16777216 then some (rngI 0 j.toNat) else none
def rng2T (i j : Int) : Option (List Int) := if (inB i = true ∧ inB j = true) ∧ (j - i).toNat ≤ 16777216 then some (rngI i (j - i).toNat) else none
def rng3T (i j : Int) : Option (List Int) := if (inB i = true ∧ inB j = true) ∧ (i - j).toNat ≤ 16777216 then some (rngJ i (i - j).toNat) else none
def enumI (xs : List α) : List (Int × α) := xs.zipIdx.map fun p => ((p.2 : Int), p.1)
def sortT (lt : α → α → Bool) (xs : List α) : Option (List α) := if xs.length ≤ 16777216 then some (xs.mergeSort fun a b => !lt b a) else none
def minF (lt : α → α → Bool) (x : α) (xs : List α) : α := xs.foldl (fun a y => if lt y a = true then y else a) x
def maxF (lt : α → α → Bool) (x : α) (xs : List α) : α := xs.foldl (fun a y => if lt a y = true then y else a) x
def minT (lt : α → α → Bool) : List α → Option α
  | [] => none
  | x :: xs => some (minF lt x xs)
def maxT (lt : α → α → Bool) : List α → Option α
  | [] => none
  | x :: xs => some (maxF lt x xs)
def ssT (ns : List Int) : Option (List Int) := if (ssort ns).length < 64 ∧ ns.length + 1 < 4096 then some (ssort ns) else none
def lsT (ns : List Int) : Option Int := if ns.length + 1 < 4096 then some ((ssort ns).length : Int) else none
def idxT (ns : List Int) (k : Int) : Option Int := if k ∈ ns then some (ns.idxOf k : Int) else none
def limT (xs : List α) : Option (List α) := if xs.length ≤ 16777216 then some xs else none
def mapO (f : α → Option β) : List α → Option (List β)
  | [] => some []
  | x :: xs => (f x).bind fun y => (mapO f xs).map fun ys => y :: ys
def fmO (f : α → Option (Option β)) : List α → Option (List β)
  | [] => some []
  | x :: xs => (f x).bind fun y => (fmO f xs).map fun ys => y.toList ++ ys
def ccO (f : α → Option (List β)) : List α → Option (List β)
  | [] => some []
  | x :: xs => (f x).bind fun y => (ccO f xs).map fun ys => y ++ ys
/-! chains -/
theorem kb {ρ σ : Type} {o : Option ρ} {x : ρ} {K : ρ → Option σ} {R : Option σ} (h : o = some x) (k : K x = R) : o.bind K = R := by rw [h]; exact k
theorem ko {ρ σ : Type} {o : Option ρ} {t : Option α} {r : α → ρ} {K : ρ → Option σ} {T : α → Option β} {q : β → σ} (h : o = t.map r) (k : ∀ a, K (r a) = (T a).map q) : o.bind K = (t.bind T).map q := by
  rw [h]; cases t with
  | none => rfl
  | some a => exact k a
variable {e : En} {f f' f'' : Fl} {E : α → D} {F : β → D} {G : γ → D} {H : δ → D} {J : ε → D} {g : RV → RV → Option RV} {ga gb gc : GE} {R : Option RV} {i j k : Int} {b b' : Bool}
theorem e2_k {g : RV → RV → Option RV} (h : ((ga e).bind fun x => (gb e).bind fun y => g x y) = R) : e2 g ga gb e = R := h
theorem eU_k {g : RV → Option RV} (h : (ga e).bind g = R) : eU g ga e = R := h
theorem neg_k (h : (ga e).bind negG = R) : eNeg ga e = R := h
theorem eA_k {g : List RV → Option RV} {t : GA} (h : (t e).bind g = R) : eA g t e = R := h
theorem aN_k {ρ : Type} {K : List RV → Option ρ} {R : Option ρ} (h : K [] = R) : (aNil e).bind K = R := h
theorem aC_k {ρ : Type} {t : GA} {K : List RV → Option ρ} {R : Option ρ} (h : ((ga e).bind fun r => (t e).bind fun rs => K (r :: rs)) = R) : (aCons ga t e).bind K = R := by
  rw [← h]
  show ((ga e).bind fun r => (t e).bind fun rs => some (r :: rs)).bind K = _
  cases ga e with
  | none => rfl
  | some x => cases h : t e <;> simp [h]
/-! leaves -/
theorem add_l : addG (cI i, f) (cI j, f') = some (cI (i + j), .fz) := (rfl)
theorem sub_l : subG (cI i, f) (cI j, f') = some (cI (i - j), .fz) := (rfl)
theorem ite_map {c : Prop} [Decidable c] {a : α} {r : α → RV} : (if c then some (r a) else none) = (if c then some a else none).map r := by split <;> rfl
theorem mul_t : mulG (cI i, f) (cI j, f') = (mulT i j).map (zz cI) := by
  show (if mulC i j then some (zz cI (i * j)) else none) = _
  exact ite_map
theorem mulc_l (h : (-(2 ^ 64) < i ∧ i < 2 ^ 64) ∨ (-(2 ^ 64) < j ∧ j < 2 ^ 64)) : mulG (cI i, f) (cI j, f') = some (cI (i * j), .fz) := h.elim (fun h => mul_l h) fun h => mul_r h
theorem div_t : divG (cI i, f) (cI j, f') = (divT i j).map (zz cI) := by
  show (if divC i j then some (zz cI (i.fdiv j)) else none) = _
  exact ite_map
theorem divc_l (h : j ≠ 0 ∧ j.natAbs < 1073741824) : divG (cI i, f) (cI j, f') = some (cI (i.fdiv j), .fz) := div_n h
theorem mod_t : modG (cI i, f) (cI j, f') = (modT i j).map (zz cI) := by
  show (if j ≠ 0 then some (zz cI (i.fmod j)) else none) = _
  exact ite_map
theorem modc_l (h : j ≠ 0) : modG (cI i, f) (cI j, f') = some (cI (i.fmod j), .fz) := mod_n h
theorem pow_t : powG (cI i, f) (cI j, f') = (powT i j).map (zz cI) := by
  show (if powC i j then some (zz cI (i ^ j.toNat)) else none) = _
  exact ite_map
theorem neg_l : negG (cI i, f) = some (cI (-i), .fz) := (rfl)
theorem catT_l {a c : List α} : addG (cT E a, f) (cT E c, f') = (catT a c).map (zz (cT E)) := by
  show (if (a.map E).length + (c.map E).length ≤ 16777216 then some (PyData.tuple (a.map E ++ c.map E), Fl.fz) else none) = _
  rw [List.length_map, List.length_map, ← List.map_append]
  exact ite_map (r := zz (cT E))
theorem catL_l {a c : List α} (h : isSc f = false) (h' : isSc f' = false) : addG (cL E a, f) (cL E c, f') = (catT a c).map (ww (cL E)) := by
  show (if isSc f = false ∧ isSc f' = false ∧ (a.map E).length + (c.map E).length ≤ 16777216 then some (PyData.list (a.map E ++ c.map E), Fl.ow) else none) = _
  rw [List.length_map, List.length_map, ← List.map_append, h, h']
  simp only [true_and]
  exact ite_map (r := ww (cL E))
theorem repL_l {a : List α} (h : isSc f = false) : mulG (cL E a, f) (cI k, f') = (repT a k).map (ww (cL E)) := by
  show (if isSc f = false ∧ -(2 ^ 62) ≤ k ∧ (a.map E).length * k.toNat ≤ 16777216 ∧ k < 2 ^ 62 then some (PyData.list (List.replicate k.toNat (a.map E)).flatten, Fl.ow) else none) = _
  rw [List.length_map, h]
  simp only [true_and]
  have : (List.replicate k.toNat (a.map E)).flatten = (List.replicate k.toNat a).flatten.map E := by rw [List.map_flatten, List.map_replicate]
  rw [this]
  exact ite_map (r := ww (cL E))
theorem repTT_l {a : List α} : mulG (cT E a, f) (cI k, f') = (repTT a k).map (zz (cT E)) := by
  show (if a.map E ≠ [] ∧ 2 ≤ k ∧ (a.map E).length ≤ 1000 ∧ k ≤ 1000 then some (PyData.tuple (List.replicate k.toNat (a.map E)).flatten, Fl.fz) else none) = _
  have e1 : (a.map E ≠ []) = (a ≠ []) := by cases a <;> simp
  have : (List.replicate k.toNat (a.map E)).flatten = (List.replicate k.toNat a).flatten.map E := by rw [List.map_flatten, List.map_replicate]
  rw [this, List.length_map]
  by_cases h : a = []
  · subst h; simp [repTT]
  · unfold repTT
    simp only [ne_eq, h, List.map_eq_nil_iff, not_false_eq_true, true_and]
    exact ite_map (r := zz (cT E))
theorem addP_1_1 {a : α} {c : β} : addG (cP1 E a, f) (cP1 F c, f') = some (cP2 E F (a, c), .fz) := (rfl)
theorem addP_2_1 {a : α × β} {c : γ} : addG (cP2 E F a, f) (cP1 G c, f') = some (cP3 E F G (a.1, a.2, c), .fz) := (rfl)
theorem addP_1_2 {a : α} {c : β × γ} : addG (cP1 E a, f) (cP2 F G c, f') = some (cP3 E F G (a, c.1, c.2), .fz) := (rfl)
theorem addP_2_2 {a : α × β} {c : γ × δ} : addG (cP2 E F a, f) (cP2 G H c, f') = some (cP4 E F G H (a.1, a.2, c.1, c.2), .fz) := (rfl)
theorem addP_3_1 {a : α × β × γ} {c : δ} : addG (cP3 E F G a, f) (cP1 H c, f') = some (cP4 E F G H (a.1, a.2.1, a.2.2, c), .fz) := (rfl)
/-! comparisons -/
theorem eq_l [DecidableEq α] [EqC E] [OkC 9 E] {a c : α} : eqG (E a, f) (E c, f') = some (cB (decide (a = c)), .fz) := by
  show (if okD 9 (E a) && okD 9 (E c) then some (PyData.bool (PyData.eqv (E a) (E c)), Fl.fz) else none) = _
  rw [OkC.ok, OkC.ok, EqC.eqv]; rfl
theorem ne_l [DecidableEq α] [EqC E] [OkC 9 E] {a c : α} : neG (E a, f) (E c, f') = some (cB (!decide (a = c)), .fz) := by
  show (if okD 9 (E a) && okD 9 (E c) then some (PyData.bool (!PyData.eqv (E a) (E c)), Fl.fz) else none) = _
  rw [OkC.ok, OkC.ok, EqC.eqv]; rfl
theorem ltI_l : ltA (cI i, f) (cI j, f') = some (cB (decide (i < j)), .fz) := (rfl)
theorem le_l : leG (cI i, f) (cI j, f') = some (cB (decide (i ≤ j)), .fz) := (rfl)
theorem gt_l : gtG (cI i, f) (cI j, f') = some (cB (decide (j < i)), .fz) := (rfl)
theorem ge_l : geG (cI i, f) (cI j, f') = some (cB (decide (j ≤ i)), .fz) := (rfl)
theorem ltD_l {lt : α → α → Bool} [LtC E lt] [OkC 9 E] {a c : α} (hn : cmpG (fun i j => decide (i < j)) (E a, f) (E c, f') = none) : ltA (E a, f) (E c, f') = some (cB (lt a c), .fz) := by
  unfold ltA
  rw [hn]
  show (if okD 9 (E a) && okD 9 (E c) && PySem.W.alike (E a) (E c) && !isNone (E a) then some (PyData.bool (PySem.W.dataLt (E a) (E c)), Fl.fz) else none) = _
  rw [OkC.ok, OkC.ok, LtC.al, LtC.nn, LtC.ltv (E := E)]; rfl
theorem any_mem [DecidableEq α] [EqC E] {a : α} : ∀ xs : List α, ((xs.map E).any fun z => PyData.eqv z (E a)) = decide (a ∈ xs)
  | [] => by simp
  | x :: xs => by
    rw [List.map_cons, List.any_cons, any_mem xs, EqC.eqv]
    by_cases h : x = a
    · subst h; simp
    · have h' : ¬ a = x := fun z => h z.symm
      simp [h, h']
theorem inL_l [DecidableEq α] [EqC E] [OkC 9 E] [OkC 9 (cL E)] {a : α} {xs : List α} : inG b (E a, f) (cL E xs, f') = some (cB (b != decide (a ∈ xs)), .fz) := by
  show (if okD 9 (E a) && okA 9 (xs.map E) then some (PyData.bool (b != (xs.map E).any fun z => PyData.eqv z (E a)), Fl.fz) else none) = _
  rw [OkC.ok, okA_map OkC.ok, any_mem]; rfl
theorem inT_l [DecidableEq α] [EqC E] [OkC 9 E] {a : α} {xs : List α} : inG b (E a, f) (cT E xs, f') = some (cB (b != decide (a ∈ xs)), .fz) := by
  show (if okD 9 (E a) && okA 9 (xs.map E) then some (PyData.bool (b != (xs.map E).any fun z => PyData.eqv z (E a)), Fl.fz) else none) = _
  rw [OkC.ok, okA_map OkC.ok, any_mem]; rfl
class NnC (E : α → D) : Prop where
  nn : ∀ a, isNone (E a) = false
instance : NnC cI := ⟨fun _ => rfl⟩
instance : NnC cB := ⟨fun _ => rfl⟩
instance : NnC cP0 := ⟨fun _ => rfl⟩
instance : NnC (cP1 E) := ⟨fun _ => rfl⟩
instance : NnC (cP2 E F) := ⟨fun _ => rfl⟩
instance : NnC (cP3 E F G) := ⟨fun _ => rfl⟩
instance : NnC (cP4 E F G H) := ⟨fun _ => rfl⟩
instance : NnC (cT E) := ⟨fun _ => rfl⟩
instance : NnC (cL E) := ⟨fun _ => rfl⟩
theorem isO_l [NnC E] {o : Option α} : isG b (cO E o, f) (.none, f') = some (cB (b != o.isNone), .fz) := by
  show some (PyData.bool (b != isNone (cO E o)), Fl.fz) = _
  cases o with
  | none => rfl
  | some a => rw [show isNone (cO E (some a)) = false from NnC.nn a]; rfl
theorem is_l [NnC E] {a : α} : isG b (E a, f) (.none, f') = some (cB b, .fz) := by
  show some (PyData.bool (b != isNone (E a)), Fl.fz) = _
  rw [NnC.nn]; cases b <;> rfl
theorem isB_l {c d : Bool} : isG b (cB c, f) (.bool d, f') = some (cB (b != decide (c = d)), .fz) := (rfl)
/-! items, slices, numbers -/
theorem atI_map {xs : List α} : atI (xs.map E) i = (atI xs i).map E := by
  unfold atI
  rw [List.length_map]
  cases ixN xs.length i with
  | none => rfl
  | some j => exact List.getElem?_map ..
theorem ixL_l {xs : List α} : ixG (cL E xs, f) (cI i, f') = (atI xs i).map (zz E) := by
  show (atI (xs.map E) i).map (fun d => (d, Fl.fz)) = _
  rw [atI_map, Option.map_map]; rfl
theorem ixT_l {xs : List α} : ixG (cT E xs, f) (cI i, f') = (atI xs i).map (zz E) := by
  show (atI (xs.map E) i).map (fun d => (d, Fl.fz)) = _
  rw [atI_map, Option.map_map]; rfl
theorem ix1_0 {p : α} : ixG (cP1 E p, f) (.int 0, f') = some (E p, .fz) := (rfl)
theorem ix2_0 {p : α × β} : ixG (cP2 E F p, f) (.int 0, f') = some (E p.1, .fz) := (rfl)
theorem ix2_1 {p : α × β} : ixG (cP2 E F p, f) (.int 1, f') = some (F p.2, .fz) := (rfl)
theorem ix3_0 {p : α × β × γ} : ixG (cP3 E F G p, f) (.int 0, f') = some (E p.1, .fz) := (rfl)
theorem ix3_1 {p : α × β × γ} : ixG (cP3 E F G p, f) (.int 1, f') = some (F p.2.1, .fz) := (rfl)
theorem ix3_2 {p : α × β × γ} : ixG (cP3 E F G p, f) (.int 2, f') = some (G p.2.2, .fz) := (rfl)
theorem ix4_0 {p : α × β × γ × δ} : ixG (cP4 E F G H p, f) (.int 0, f') = some (E p.1, .fz) := (rfl)
theorem ix4_1 {p : α × β × γ × δ} : ixG (cP4 E F G H p, f) (.int 1, f') = some (F p.2.1, .fz) := (rfl)
theorem ix4_2 {p : α × β × γ × δ} : ixG (cP4 E F G H p, f) (.int 2, f') = some (G p.2.2.1, .fz) := (rfl)
theorem ix4_3 {p : α × β × γ × δ} : ixG (cP4 E F G H p, f) (.int 3, f') = some (H p.2.2.2, .fz) := (rfl)
theorem ix5_0 {p : α × β × γ × δ × ε} : ixG (cP5 E F G H J p, f) (.int 0, f') = some (E p.1, .fz) := (rfl)
theorem ix5_1 {p : α × β × γ × δ × ε} : ixG (cP5 E F G H J p, f) (.int 1, f') = some (F p.2.1, .fz) := (rfl)
theorem ix5_2 {p : α × β × γ × δ × ε} : ixG (cP5 E F G H J p, f) (.int 2, f') = some (G p.2.2.1, .fz) := (rfl)
theorem ix5_3 {p : α × β × γ × δ × ε} : ixG (cP5 E F G H J p, f) (.int 3, f') = some (H p.2.2.2.1, .fz) := (rfl)
theorem ix5_4 {p : α × β × γ × δ × ε} : ixG (cP5 E F G H J p, f) (.int 4, f') = some (J p.2.2.2.2, .fz) := (rfl)
theorem cutL_map {xs : List α} {lo hi : Option Int} : cutL (xs.map E) lo hi = (cutL xs lo hi).map E := by
  unfold cutL
  rw [List.length_map, ← List.map_drop, ← List.map_take]
theorem slL_l {xs : List α} {lo hi : Option Int} : slG (cL E xs, f) lo hi = some (cL E (cutL xs lo hi), .ow) := by
  show some (PyData.list (cutL (xs.map E) lo hi), Fl.ow) = _
  rw [cutL_map]; rfl
theorem slT_l {xs : List α} {lo hi : Option Int} : slG (cT E xs, f) lo hi = some (cT E (cutL xs lo hi), .fz) := by
  show some (PyData.tuple (cutL (xs.map E) lo hi), Fl.fz) = _
  rw [cutL_map]; rfl
theorem sl_k {gl gh : GO} {lo hi : Option Int} (hl : gl e = some lo) (hh : gh e = some hi) (h : (ga e).bind (fun x => slG x lo hi) = R) : eSl ga gl gh e = R := by
  rw [← h]
  show ((ga e).bind fun x => (gl e).bind fun lo => (gh e).bind fun hi => slG x lo hi) = _
  rw [hl, hh]; rfl
/-- a slice whose ends may fail -/
theorem sl_ok {gl gh : GO} (h : ((ga e).bind fun x => (gl e).bind fun lo => (gh e).bind fun hi => slG x lo hi) = R) : eSl ga gl gh e = R := h
theorem oN_l : oNone e = some none := (rfl)
theorem oS_l (h : ga e = some (cI i, f)) : oSome ga e = some (some i) := by
  show ((ga e).bind fun r => (asI r).map some) = _
  rw [h]; rfl
theorem oS_o {t : Option Int} (h : ga e = t.map (zz cI)) : oSome ga e = t.map some := by
  show ((ga e).bind fun r => (asI r).map some) = _
  rw [h]; cases t <;> rfl
theorem lenL_l {xs : List α} : one lenG [(cL E xs, f)] = some (cI (xs.length : Int), .fz) := by
  show some (PyData.int (xs.map E).length, Fl.fz) = _
  rw [List.length_map]; rfl
theorem lenT_l {xs : List α} : one lenG [(cT E xs, f)] = some (cI (xs.length : Int), .fz) := by
  show some (PyData.int (xs.map E).length, Fl.fz) = _
  rw [List.length_map]; rfl
theorem abs_l : one absG [(cI i, f)] = some (cI (absT i), .fz) := abs_i (f := f)
theorem int_l : one intG [(cI i, f)] = some (cI i, .fz) := (rfl)
theorem intB_l : one intG [(cB b, f)] = some (cI (if b = true then 1 else 0), .fz) := (rfl)
theorem tupL_l {xs : List α} : one tupleG [(cL E xs, f)] = some (cT E xs, .fz) := (rfl)
theorem tupT_l {xs : List α} : one tupleG [(cT E xs, f)] = some (cT E xs, .fz) := (rfl)
theorem listL_l {xs : List α} : one listG [(cL E xs, f)] = some (cL E xs, .ow) := (rfl)
theorem listT_l {xs : List α} : one listG [(cT E xs, f)] = some (cL E xs, .ow) := (rfl)
theorem intsOf_map : ∀ ns : List Int, intsOf (ns.map cI) = some ns
  | [] => rfl
  | n :: ns => by show (intsOf (ns.map cI)).map _ = _; rw [intsOf_map ns]; rfl
theorem sumL_l {ns : List Int} : one sumG [(cL cI ns, f)] = some (cI ns.sum, .fz) := by
  show (intsOf (ns.map cI)).map _ = _; rw [intsOf_map]; rfl
theorem sumT_l {ns : List Int} : one sumG [(cT cI ns, f)] = some (cI ns.sum, .fz) := by
  show (intsOf (ns.map cI)).map _ = _; rw [intsOf_map]; rfl
theorem boolsOf_map : ∀ ns : List Bool, boolsOf (ns.map cB) = some ns
  | [] => rfl
  | n :: ns => by show (boolsOf (ns.map cB)).map _ = _; rw [boolsOf_map ns]; rfl
theorem any_l {bs : List Bool} : anyA [(cL cB bs, f)] = some (cB (bs.any id), .fz) := by
  show ((boolsOf (bs.map cB)).map _).or _ = _; rw [boolsOf_map]; rfl
theorem anyI_l {ns : List Int} : anyA [(cL cI ns, f)] = some (cB (ns.any fun n => n != 0), .fz) := by
  cases ns with
  | nil => rfl
  | cons n ns =>
    have h : boolsOf ((n :: ns).map cI) = none := rfl
    show ((boolsOf ((n :: ns).map cI)).map (fun ns => ((.bool (anyL ns), .fz) : RV))).or ((intsOf ((n :: ns).map cI)).map fun ns => ((.bool (Pl.anyI ns), .fz) : RV)) = _
    rw [h, intsOf_map]; rfl
theorem all_l {bs : List Bool} : one (boolsG allL) [(cL cB bs, f)] = some (cB (bs.all id), .fz) := by
  show (boolsOf (bs.map cB)).map _ = _; rw [boolsOf_map]; rfl
theorem min2_l : minA [(cI i, f), (cI j, f')] = some (cI (minI i j), .fz) := (rfl)
theorem max2_l : maxA [(cI i, f), (cI j, f')] = some (cI (maxI i j), .fz) := (rfl)
theorem min3_l : minA [(cI i, f), (cI j, f'), (cI k, f'')] = some (cI (minI (minI i j) k), .fz) := (rfl)
section
variable {lt : α → α → Bool} [LtC E lt] [OkC 9 E]
theorem alikeB_map {E : α → D} (lt : α → α → Bool) [LtC E lt] [OkC 9 E] (xs : List α) : alikeB (xs.map E) = true := by
  unfold alikeB
  simp only [Bool.and_eq_true, List.all_eq_true]
  refine ⟨⟨okA_map OkC.ok xs, fun x hx y hy => ?_⟩, fun x hx => ?_⟩
  · obtain ⟨a, _, rfl⟩ := List.mem_map.mp hx
    obtain ⟨c, _, rfl⟩ := List.mem_map.mp hy
    exact LtC.al a c
  · obtain ⟨a, _, rfl⟩ := List.mem_map.mp hx
    rw [LtC.nn]; rfl
omit [OkC 9 E] in
theorem minD_map (x : α) (xs : List α) : PySem.W.minD (E x) (xs.map E) = E (minF lt x xs) := by
  unfold PySem.W.minD minF
  induction xs generalizing x with
  | nil => rfl
  | cons y ys ih =>
    rw [List.map_cons, List.foldl_cons, List.foldl_cons, LtC.ltv (E := E), ← ih]
    by_cases h : lt y x = true <;> simp [h]
omit [OkC 9 E] in
theorem maxD_map (x : α) (xs : List α) : PySem.W.maxD (E x) (xs.map E) = E (maxF lt x xs) := by
  unfold PySem.W.maxD maxF
  induction xs generalizing x with
  | nil => rfl
  | cons y ys ih =>
    rw [List.map_cons, List.foldl_cons, List.foldl_cons, LtC.ltv (E := E), ← ih]
    by_cases h : lt x y = true <;> simp [h]
theorem minL_l {xs : List α} : minA [(cL E xs, f)] = (minT lt xs).map (zz E) := by
  cases xs with
  | nil => rfl
  | cons x xs =>
    show (if alikeB ((x :: xs).map E) = true then some (PySem.W.minD (E x) (xs.map E), Fl.fz) else none) = _
    rw [alikeB_map lt, if_pos rfl, minD_map]; rfl
theorem minT_l {xs : List α} : minA [(cT E xs, f)] = (minT lt xs).map (zz E) := by
  cases xs with
  | nil => rfl
  | cons x xs =>
    show (if alikeB ((x :: xs).map E) = true then some (PySem.W.minD (E x) (xs.map E), Fl.fz) else none) = _
    rw [alikeB_map lt, if_pos rfl, minD_map]; rfl
theorem maxL_l {xs : List α} : maxA [(cL E xs, f)] = (maxT lt xs).map (zz E) := by
  cases xs with
  | nil => rfl
  | cons x xs =>
    show (if alikeB ((x :: xs).map E) = true then some (PySem.W.maxD (E x) (xs.map E), Fl.fz) else none) = _
    rw [alikeB_map lt, if_pos rfl, maxD_map]; rfl
theorem maxT_l {xs : List α} : maxA [(cT E xs, f)] = (maxT lt xs).map (zz E) := by
  cases xs with
  | nil => rfl
  | cons x xs =>
    show (if alikeB ((x :: xs).map E) = true then some (PySem.W.maxD (E x) (xs.map E), Fl.fz) else none) = _
    rw [alikeB_map lt, if_pos rfl, maxD_map]; rfl
/-- with a default -/
theorem minDO_l {xs : List α} : mmDG PySem.W.minD (cL E xs, f) (.none, .fz) = some (cO E (minT lt xs), .fz) := by
  cases xs with
  | nil => rfl
  | cons x xs =>
    show (if alikeB ((x :: xs).map E) = true then some (PySem.W.minD (E x) (xs.map E), Fl.fz) else none) = _
    rw [alikeB_map lt, if_pos rfl, minD_map]; rfl
theorem maxDO_l {xs : List α} : mmDG PySem.W.maxD (cL E xs, f) (.none, .fz) = some (cO E (maxT lt xs), .fz) := by
  cases xs with
  | nil => rfl
  | cons x xs =>
    show (if alikeB ((x :: xs).map E) = true then some (PySem.W.maxD (E x) (xs.map E), Fl.fz) else none) = _
    rw [alikeB_map lt, if_pos rfl, maxD_map]; rfl
theorem minDL_l {xs : List α} {d : α} : mmDG PySem.W.minD (cL E xs, f) (E d, .fz) = some (E ((minT lt xs).getD d), .fz) := by
  cases xs with
  | nil => rfl
  | cons x xs =>
    show (if alikeB ((x :: xs).map E) = true then some (PySem.W.minD (E x) (xs.map E), Fl.fz) else none) = _
    rw [alikeB_map lt, if_pos rfl, minD_map]; rfl
theorem maxDL_l {xs : List α} {d : α} : mmDG PySem.W.maxD (cL E xs, f) (E d, .fz) = some (E ((maxT lt xs).getD d), .fz) := by
  cases xs with
  | nil => rfl
  | cons x xs =>
    show (if alikeB ((x :: xs).map E) = true then some (PySem.W.maxD (E x) (xs.map E), Fl.fz) else none) = _
    rw [alikeB_map lt, if_pos rfl, maxD_map]; rfl
theorem maxDT_l {xs : List α} {d : α} : mmDG PySem.W.maxD (cT E xs, f) (E d, .fz) = some (E ((maxT lt xs).getD d), .fz) := by
  cases xs with
  | nil => rfl
  | cons x xs =>
    show (if alikeB ((x :: xs).map E) = true then some (PySem.W.maxD (E x) (xs.map E), Fl.fz) else none) = _
    rw [alikeB_map lt, if_pos rfl, maxD_map]; rfl
theorem minDT_l {xs : List α} {d : α} : mmDG PySem.W.minD (cT E xs, f) (E d, .fz) = some (E ((minT lt xs).getD d), .fz) := by
  cases xs with
  | nil => rfl
  | cons x xs =>
    show (if alikeB ((x :: xs).map E) = true then some (PySem.W.minD (E x) (xs.map E), Fl.fz) else none) = _
    rw [alikeB_map lt, if_pos rfl, minD_map]; rfl
theorem sortB_map {E : α → D} (lt : α → α → Bool) [LtC E lt] [OkC 9 E] (xs : List α) : sortB (xs.map E) = true := by
  unfold sortB
  simp only [Bool.and_eq_true, List.all_eq_true, Bool.or_eq_true]
  refine ⟨⟨okA_map OkC.ok xs, fun x hx y hy => ?_⟩, ?_⟩
  · obtain ⟨a, _, rfl⟩ := List.mem_map.mp hx
    obtain ⟨c, _, rfl⟩ := List.mem_map.mp hy
    exact LtC.al a c
  · rcases LtC.tp (E := E) with h | h
    · left; intro x hx
      obtain ⟨a, _, rfl⟩ := List.mem_map.mp hx
      exact h a
    · right; intro x hx
      obtain ⟨a, _, rfl⟩ := List.mem_map.mp hx
      rw [LtC.nn, h a]; exact ⟨rfl, rfl⟩
omit [OkC 9 E] in
theorem sort_map (xs : List α) : (xs.map E).mergeSort leD = (xs.mergeSort fun a b => !lt b a).map E := by
  rw [List.map_mergeSort]
  intro a _ c _
  rw [← LtC.ltv (E := E) c a]; rfl
theorem sortL_l {xs : List α} : one sortG [(cL E xs, f)] = (sortT lt xs).map (ww (cL E)) := by
  show (if sortB (xs.map E) = true ∧ (xs.map E).length ≤ 16777216 then some (PyData.list ((xs.map E).mergeSort leD), Fl.ow) else none) = _
  rw [sortB_map lt, List.length_map, sort_map]
  simp only [true_and]
  exact ite_map (r := ww (cL E))
end
theorem ssL_l {ns : List Int} : ssG (cL cI ns, f) = (ssT ns).map (ww (cL cI)) := by
  show ((intsOf (ns.map cI)).bind fun ns => if (ssort ns).length < 64 ∧ ns.length + 1 < 4096 then some (PyData.list ((ssort ns).map PyData.int), Fl.ow) else none) = _
  rw [intsOf_map]
  exact ite_map (r := ww (cL cI))
theorem ssT_l {ns : List Int} : ssG (cT cI ns, f) = (ssT ns).map (ww (cL cI)) := by
  show ((intsOf (ns.map cI)).bind fun ns => if (ssort ns).length < 64 ∧ ns.length + 1 < 4096 then some (PyData.list ((ssort ns).map PyData.int), Fl.ow) else none) = _
  rw [intsOf_map]
  exact ite_map (r := ww (cL cI))
theorem lsL_l {ns : List Int} : lsG (cL cI ns, f) = (lsT ns).map (zz cI) := by
  show ((intsOf (ns.map cI)).bind fun ns => if ns.length + 1 < 4096 then some (PyData.int ((ssort ns).length : Nat), Fl.fz) else none) = _
  rw [intsOf_map]
  exact ite_map (r := zz cI)
theorem lsT_l {ns : List Int} : lsG (cT cI ns, f) = (lsT ns).map (zz cI) := by
  show ((intsOf (ns.map cI)).bind fun ns => if ns.length + 1 < 4096 then some (PyData.int ((ssort ns).length : Nat), Fl.fz) else none) = _
  rw [intsOf_map]
  exact ite_map (r := zz cI)
theorem idx_l {ns : List Int} : ixOfG (cL cI ns, f) (cI k, f') = (idxT ns k).map (zz cI) := by
  show ((intsOf (ns.map cI)).bind fun ns => if k ∈ ns then some (PyData.int (ns.idxOf k : Nat), Fl.fz) else none) = _
  rw [intsOf_map]
  exact ite_map (r := zz cI)
/-! displays -/
theorem tup0 : tupG [] = some (cP0 (), .fz) := (rfl)
theorem tup1 {a : α} (h : plainAll [(E a, f)] = true := by rfl) : tupG [(E a, f)] = some (cP1 E a, .fz) := if_pos ⟨h, by simp⟩
theorem tup2 {a : α} {c : β} (h : plainAll [(E a, f), (F c, f')] = true := by rfl) : tupG [(E a, f), (F c, f')] = some (cP2 E F (a, c), .fz) := if_pos ⟨h, by simp⟩
theorem tupN {rs : List RV} (h : plainAll rs = true) (h2 : rs.length ≤ 16777216) : tupG rs = some (.tuple (rs.map (·.1)), .fz) := if_pos ⟨h, h2⟩
theorem lstN {rs : List RV} (h : plainAll rs = true) (h2 : rs.length ≤ 16777216) : lstG rs = some (.list (rs.map (·.1)), .ow) := if_pos ⟨h, h2⟩
theorem tup3 {a : α} {c : β} {d : γ} (h : plainAll [(E a, f), (F c, f'), (G d, f'')] = true := by rfl) : tupG [(E a, f), (F c, f'), (G d, f'')] = some (cP3 E F G (a, c, d), .fz) := tupN h (by simp)
theorem tup4 {a : α} {c : β} {d : γ} {x : δ} {f3 : Fl} (h : plainAll [(E a, f), (F c, f'), (G d, f''), (H x, f3)] = true := by rfl) : tupG [(E a, f), (F c, f'), (G d, f''), (H x, f3)] = some (cP4 E F G H (a, c, d, x), .fz) := tupN h (by simp)
theorem tup5 {a : α} {c : β} {d : γ} {x : δ} {y : ε} {f3 f4 : Fl} (h : plainAll [(E a, f), (F c, f'), (G d, f''), (H x, f3), (J y, f4)] = true := by rfl) : tupG [(E a, f), (F c, f'), (G d, f''), (H x, f3), (J y, f4)] = some (cP5 E F G H J (a, c, d, x, y), .fz) := tupN h (by simp)
theorem tupT0 : tupG [] = some (cT E [], .fz) := (rfl)
theorem tupT1 {a : α} (h : plainAll [(E a, f)] = true := by rfl) : tupG [(E a, f)] = some (cT E [a], .fz) := tupN h (by simp)
theorem tupT2 {a c : α} (h : plainAll [(E a, f), (E c, f')] = true := by rfl) : tupG [(E a, f), (E c, f')] = some (cT E [a, c], .fz) := tupN h (by simp)
theorem tupT3 {a c d : α} (h : plainAll [(E a, f), (E c, f'), (E d, f'')] = true := by rfl) : tupG [(E a, f), (E c, f'), (E d, f'')] = some (cT E [a, c, d], .fz) := tupN h (by simp)
theorem tupT4 {a c d x : α} {f3 : Fl} (h : plainAll [(E a, f), (E c, f'), (E d, f''), (E x, f3)] = true := by rfl) : tupG [(E a, f), (E c, f'), (E d, f''), (E x, f3)] = some (cT E [a, c, d, x], .fz) := tupN h (by simp)
theorem tupT5 {a c d x y : α} {f3 f4 : Fl} (h : plainAll [(E a, f), (E c, f'), (E d, f''), (E x, f3), (E y, f4)] = true := by rfl) : tupG [(E a, f), (E c, f'), (E d, f''), (E x, f3), (E y, f4)] = some (cT E [a, c, d, x, y], .fz) := tupN h (by simp)
theorem lst0 : lstG [] = some (cL E [], .ow) := (rfl)
theorem lst1 {a : α} (h : plainAll [(E a, f)] = true := by rfl) : lstG [(E a, f)] = some (cL E [a], .ow) := lstN h (by simp)
theorem lst2 {a c : α} (h : plainAll [(E a, f), (E c, f')] = true := by rfl) : lstG [(E a, f), (E c, f')] = some (cL E [a, c], .ow) := lstN h (by simp)
theorem lst3 {a c d : α} (h : plainAll [(E a, f), (E c, f'), (E d, f'')] = true := by rfl) : lstG [(E a, f), (E c, f'), (E d, f'')] = some (cL E [a, c, d], .ow) := lstN h (by simp)
theorem lst4 {a c d x : α} {f3 : Fl} (h : plainAll [(E a, f), (E c, f'), (E d, f''), (E x, f3)] = true := by rfl) : lstG [(E a, f), (E c, f'), (E d, f''), (E x, f3)] = some (cL E [a, c, d, x], .ow) := lstN h (by simp)
/-! tests -/
theorem tst {c : GE} (h : c e = some (cB b, f)) : eB c e = some b := by
  show (c e).bind asB = _; rw [h]; rfl
theorem tst_o {c : GE} {t : Option Bool} (h : c e = t.map (zz cB)) : eB c e = t := by
  show (c e).bind asB = _; rw [h]; cases t <;> rfl
theorem tru_l' {c : GE} {r : RV} (h : c e = some r) (h2 : truD r = some b) : eT c e = some b := by
  show (c e).bind truD = _; rw [h]; exact h2
theorem tru_o {c : GE} {t : Option α} {r : α → RV} {p : α → Bool} (h : c e = t.map r) (h2 : ∀ a, truD (r a) = some (p a)) : eT c e = t.map p := by
  show (c e).bind truD = _; rw [h]; cases t with
  | none => rfl
  | some a => exact h2 a
theorem truB : truD (cB b, f) = some b := (rfl)
theorem truI : truD (cI i, f) = some (i != 0) := (rfl)
theorem truL {xs : List α} : truD (cL E xs, f) = some (!xs.isEmpty) := by cases xs <;> rfl
theorem truT {xs : List α} : truD (cT E xs, f) = some (!xs.isEmpty) := by cases xs <;> rfl
variable {ca cb : GB} {ta tb : Option Bool}
theorem band (h : ca e = some b) (h' : cb e = some b') : bAnd ca cb e = some (b && b') := by
  show ((ca e).bind fun k => if k = true then cb e else some false) = _
  rw [h, h']; cases b <;> rfl
theorem bor (h : ca e = some b) (h' : cb e = some b') : bOr ca cb e = some (b || b') := by
  show ((ca e).bind fun k => if k = true then some true else cb e) = _
  rw [h, h']; cases b <;> rfl
theorem bnot (h : ca e = some b) : bNot ca e = some (!b) := by
  show (ca e).map _ = _
  rw [h]; rfl
def andO (a b : Option Bool) : Option Bool := a.bind fun k => if k = true then b else some false
def orO (a b : Option Bool) : Option Bool := a.bind fun k => if k = true then some true else b
theorem band_o (h : ca e = ta) (h' : cb e = tb) : bAnd ca cb e = andO ta tb := by
  show ((ca e).bind fun k => if k = true then cb e else some false) = _
  rw [h, h']; rfl
theorem bor_o (h : ca e = ta) (h' : cb e = tb) : bOr ca cb e = orO ta tb := by
  show ((ca e).bind fun k => if k = true then some true else cb e) = _
  rw [h, h']; rfl
theorem bnot_o (h : ca e = ta) : bNot ca e = ta.map (!·) := by
  show (ca e).map _ = _
  rw [h]
/-! truth as a value -/
theorem and_l (h : ga e = some (cB b, f)) (h' : gb e = some (cB b', f')) (p : f = .fz) (p' : f' = .fz) : eAnd ga gb e = some (cB (b && b'), .fz) := by
  show ((ga e).bind fun r => (truD r).bind fun k => if k = true then gb e else some r) = _
  rw [h, h', p, p']; cases b <;> rfl
theorem or_l (h : ga e = some (cB b, f)) (h' : gb e = some (cB b', f')) (p : f = .fz) (p' : f' = .fz) : eOr ga gb e = some (cB (b || b'), .fz) := by
  show ((ga e).bind fun r => (truD r).bind fun k => if k = true then some r else gb e) = _
  rw [h, h', p, p']; cases b <;> rfl
theorem and_o (h : ga e = ta.map (zz cB)) (h' : gb e = tb.map (zz cB)) : eAnd ga gb e = (andO ta tb).map (zz cB) := by
  show ((ga e).bind fun r => (truD r).bind fun k => if k = true then gb e else some r) = _
  rw [h, h']
  cases ta with
  | none => rfl
  | some b => cases b <;> rfl
theorem or_o (h : ga e = ta.map (zz cB)) (h' : gb e = tb.map (zz cB)) : eOr ga gb e = (orO ta tb).map (zz cB) := by
  show ((ga e).bind fun r => (truD r).bind fun k => if k = true then some r else gb e) = _
  rw [h, h']
  cases ta with
  | none => rfl
  | some b => cases b <;> rfl
theorem not_l {r : RV} (h : ga e = some r) (h2 : truD r = some b) : eNot ga e = some (cB (!b), .fz) := by
  show ((ga e).bind fun r => (truD r).map fun k => (PyData.bool (!k), Fl.fz)) = _
  rw [h]; show (truD r).map _ = _; rw [h2]; rfl
theorem not_o {t : Option α} {r : α → RV} {p : α → Bool} (h : ga e = t.map r) (h2 : ∀ a, truD (r a) = some (p a)) : eNot ga e = (t.map fun a => !p a).map (zz cB) := by
  show ((ga e).bind fun r => (truD r).map fun k => (PyData.bool (!k), Fl.fz)) = _
  rw [h]; cases t with
  | none => rfl
  | some a => show (truD (r a)).map _ = _; rw [h2]; rfl
theorem eIf_l {a c : α} (h : ca e = some b) (ha : ga e = some (E a, f)) (hb : gb e = some (E c, f)) : eIf ca ga gb e = some (E (if b = true then a else c), f) := by
  show ((ca e).bind fun k => if k = true then ga e else gb e) = _
  rw [h, ha, hb]; cases b <;> rfl
theorem eIf_o {x y : Option α} {r : α → RV} (h : ca e = some b) (ha : ga e = x.map r) (hb : gb e = y.map r) : eIf ca ga gb e = (if b = true then x else y).map r := by
  show ((ca e).bind fun k => if k = true then ga e else gb e) = _
  rw [h, ha, hb]; cases b <;> rfl
theorem eIf_oo {x y : Option α} {r : α → RV} (h : ca e = ta) (ha : ga e = x.map r) (hb : gb e = y.map r) : eIf ca ga gb e = (ta.bind fun b => if b = true then x else y).map r := by
  show ((ca e).bind fun k => if k = true then ga e else gb e) = _
  rw [h, ha, hb]; cases ta with
  | none => rfl
  | some b => cases b <;> rfl
theorem eIf_u {R' : Option RV} (h : ca e = some b) (ha : b = true → ga e = R') (hb : b = false → gb e = R') : eIf ca ga gb e = R' := by
  show ((ca e).bind fun k => if k = true then ga e else gb e) = _
  rw [h]; cases b with
  | true => exact ha rfl
  | false => exact hb rfl
theorem e3_l {g g' : RV → RV → Option RV} {x y z : RV} (hx : ga e = some x) (hy : gb e = some y) (hz : gc e = some z) (h : g x y = some (cB b, f)) (h' : g' y z = some (cB b', .fz)) : e3 g g' ga gb gc e = some (cB (b && b'), .fz) := by
  unfold e3
  rw [hx, hy, hz]
  show ((g x y).bind fun k => (asB k).bind fun t => if t then g' y z else some (PyData.bool false, Fl.fz)) = _
  rw [h, h']; cases b <;> rfl
end
end Pl

set_option Elab.async false
set_option linter.all false
set_option maxRecDepth 100000
set_option maxHeartbeats 4000000
/-! Ty3: sources, comprehensions, statements, loops, defs on typed values -/
namespace Pl
open PySem L2
def bnd {α β : Type} (a : α) (f : α → β) : β := f a
section
variable {α β γ δ ρ σ τ S R' : Type}
variable {e W : En} {f f' : Fl} {E : α → D} {F : β → D} {G : γ → D} {g h' : GS} {ga gb : GE} {i j k : Int} {b : Bool} {xs : List α} {n m : Nat}
theorem kbb {o : Option ρ} {r : α → ρ} {x : α} {K : ρ → Option σ} {T : α → Option β} {q : β → σ} (h : o = some (r x)) (k : ∀ v, K (r v) = (T v).map q) : o.bind K = (bnd x T).map q := by rw [h]; exact k x
theorem koe {o : Option ρ} {t : Option α} {r : α → ρ} {K : ρ → Option σ} {q : α → σ} (h : o = t.map r) (k : ∀ a, K (r a) = some (q a)) : o.bind K = t.map q := by
  rw [h]; cases t with
  | none => rfl
  | some a => exact k a
/-! sources -/
theorem seqS_k {r : Option (List D × Bool)} (h : (ga e).bind seqOf = r) : seqS ga e = r := h
theorem aS_k {g : List RV → Option (List D × Bool)} {t : GA} {r : Option (List D × Bool)} (h : (t e).bind g = r) : aS g t e = r := h
theorem sq_z {xs : List α} : seqOf (cL E xs, .fz) = some (xs.map E, false) := (rfl)
theorem sq_w {xs : List α} : seqOf (cL E xs, .ow) = some (xs.map E, false) := (rfl)
theorem sq_b {xs : List α} : seqOf (cL E xs, .bw) = some (xs.map E, true) := (rfl)
theorem sq_t {xs : List α} : seqOf (cT E xs, f) = some (xs.map E, false) := (rfl)
theorem ite_map' {c : Prop} [Decidable c] {a : α} {r : α → ρ} : (if c then some (r a) else none) = (if c then some a else none).map r := by split <;> rfl
theorem rngL_map {lo : Int} {n : Nat} : rngL lo n = (rngI lo n).map cI := by unfold rngL rngI; rw [List.map_map]; rfl
theorem rngD_map {lo : Int} {n : Nat} : rngD lo n = (rngJ lo n).map cI := by unfold rngD rngJ; rw [List.map_map]; rfl
theorem rg1 : rng1G [(cI j, f)] = (rng1T j).map fun xs => (xs.map cI, false) := by
  show (if inB j = true ∧ j.toNat ≤ 16777216 then some (rngL 0 j.toNat, false) else none) = _
  rw [rngL_map]; exact ite_map' (r := fun xs : List Int => (xs.map cI, false))
theorem rg2 : rng2G [(cI i, f), (cI j, f')] = (rng2T i j).map fun xs => (xs.map cI, false) := by
  show (if (inB i = true ∧ inB j = true) ∧ (j - i).toNat ≤ 16777216 then some (rngL i (j - i).toNat, false) else none) = _
  rw [rngL_map]; exact ite_map' (r := fun xs : List Int => (xs.map cI, false))
theorem rg3 {f''} : rng3G [(cI i, f), (cI j, f'), (cI (-1), f'')] = (rng3T i j).map fun xs => (xs.map cI, false) := by
  show (if (inB i = true ∧ inB j = true) ∧ (i - j).toNat ≤ 16777216 ∧ (-1 : Int) = -1 then some (rngD i (i - j).toNat, false) else none) = _
  rw [rngD_map]
  simp only [and_true]
  exact ite_map' (r := fun xs : List Int => (xs.map cI, false))
theorem enumL_map : enumL (xs.map E) = (enumI xs).map (cP2 cI E) := by
  unfold enumL enumI
  rw [List.zipIdx_map, List.map_map, List.map_map]; rfl
theorem en_z : enumG [(cL E xs, .fz)] = some ((enumI xs).map (cP2 cI E), false) := by
  show some (enumL (xs.map E), false) = _; rw [enumL_map]
theorem en_w : enumG [(cL E xs, .ow)] = some ((enumI xs).map (cP2 cI E), false) := by
  show some (enumL (xs.map E), false) = _; rw [enumL_map]
theorem en_b : enumG [(cL E xs, .bw)] = some ((enumI xs).map (cP2 cI E), true) := by
  show some (enumL (xs.map E), true) = _; rw [enumL_map]
theorem en_t : enumG [(cT E xs, f)] = some ((enumI xs).map (cP2 cI E), false) := by
  show some (enumL (xs.map E), false) = _; rw [enumL_map]
theorem zipL_map {ys : List β} : zipL (xs.map E) (ys.map F) = (xs.zip ys).map (cP2 E F) := by
  unfold zipL
  induction xs generalizing ys with
  | nil => rfl
  | cons x xs ih => cases ys with
    | nil => rfl
    | cons y ys => simp only [List.map_cons, List.zipWith_cons_cons, List.zip_cons_cons]; rw [ih]; rfl
theorem zp {a c : D} {f f' : Fl} {u v : Bool} {ys : List β} (h : seqOf (a, f) = some (xs.map E, u)) (h' : seqOf (c, f') = some (ys.map F, v)) : zipG [(a, f), (c, f')] = some ((xs.zip ys).map (cP2 E F), u || v) := by
  show ((seqOf (a, f)).bind fun p => (seqOf (c, f')).map fun q => (zipL p.1 q.1, p.2 || q.2)) = _
  rw [h, h']; show some (zipL (xs.map E) (ys.map F), u || v) = _; rw [zipL_map]
/-! comprehensions -/
theorem lc_k {own : List Nat} {tg : Tg} {src : Src} {tt : GB} {te : GE} {R : Option RV} (h : ((src e).bind fun p => (lcGo (lcF own tg tt te e) p.1).map fun ys => (PyData.list ys, Fl.ow)) = R) : eLc own tg src tt te e = R := h
section
variable {fD : D → Option (Option D)}
theorem g_map {k : α → β} (h : ∀ x, fD (E x) = some (some (F (k x)))) : lcGo fD (xs.map E) = some ((xs.map k).map F) := by
  induction xs with
  | nil => rfl
  | cons x xs ih => rw [List.map_cons, lcGo, h x, ih]; rfl
theorem g_filt {k : α → β} {p : α → Bool} (h : ∀ x, fD (E x) = some (if p x = true then some (F (k x)) else none)) : lcGo fD (xs.map E) = some (((xs.filter p).map k).map F) := by
  induction xs with
  | nil => rfl
  | cons x xs ih =>
    rw [List.map_cons, lcGo, h x, ih, List.filter_cons]
    by_cases c : p x = true <;> simp [c]
theorem g_filt0 {p : α → Bool} (h : ∀ x, fD (E x) = some (if p x = true then some (E x) else none)) : lcGo fD (xs.map E) = some ((xs.filter p).map E) := by
  have := g_filt (k := fun x => x) (F := E) (xs := xs) h
  rw [List.map_id'] at this; exact this
theorem g_id (h : ∀ x, fD (E x) = some (some (E x))) : lcGo fD (xs.map E) = some (xs.map E) := by
  have := g_map (k := fun x => x) (F := E) (xs := xs) h
  rw [List.map_id'] at this; exact this
theorem g_mapO {k : α → Option β} (h : ∀ x, fD (E x) = (k x).map fun y => some (F y)) : lcGo fD (xs.map E) = (mapO k xs).map (List.map F) := by
  induction xs with
  | nil => rfl
  | cons x xs ih =>
    rw [List.map_cons, lcGo, h x, ih, mapO]
    cases k x with
    | none => rfl
    | some y => cases mapO k xs <;> rfl
theorem g_fmO {k : α → Option (Option β)} (h : ∀ x, fD (E x) = (k x).map (Option.map F)) : lcGo fD (xs.map E) = (fmO k xs).map (List.map F) := by
  induction xs with
  | nil => rfl
  | cons x xs ih =>
    rw [List.map_cons, lcGo, h x, ih, fmO]
    cases k x with
    | none => rfl
    | some y => cases fmO k xs with
      | none => rfl
      | some ys => cases y <;> rfl
theorem lg_p {zs : List β} {ds : List D} (h : lcGo fD ds = some (zs.map F)) : (lcGo fD ds).map (fun ys => (PyData.list ys, Fl.ow)) = some (cL F zs, .ow) := by rw [h]; rfl
theorem lg_o {t : Option (List β)} {ds : List D} (h : lcGo fD ds = t.map (List.map F)) : (lcGo fD ds).map (fun ys => (PyData.list ys, Fl.ow)) = t.map (ww (cL F)) := by rw [h]; cases t <;> rfl
end
theorem lcF_k {own : List Nat} {tg : Tg} {tt : GB} {te : GE} {d : D} {R : Option (Option D)} (ha : asT tg d (wipeE e own) = some W) (h : ((tt W).bind fun b => if b = true then (te W).bind fun r => if plainFl r.2 = true then some (some r.1) else none else some none) = R) : lcF own tg tt te e d = R := by
  unfold lcF lcT; rw [ha]; exact h
theorem lcT_k {tg : Tg} {tt : GB} {te : GE} {d : D} {R : Option (Option D)} (ha : asT tg d e = some W) (h : ((tt W).bind fun b => if b = true then (te W).bind fun r => if plainFl r.2 = true then some (some r.1) else none else some none) = R) : lcT tg tt te e d = R := by
  unfold lcT; rw [ha]; exact h
section
variable {tt : GB} {te : GE} {d : D} {t : Option β}
theorem ly (h : te W = some (d, f)) (p : plainFl f = true := by rfl) : ((bYes W).bind fun b => if b = true then (te W).bind fun r => if plainFl r.2 = true then some (some r.1) else none else some none) = some (some d) := by
  rw [h]; show (if plainFl f = true then some (some d) else none) = _; rw [if_pos p]
theorem ly_o (h : te W = t.map fun a => (F a, f)) (p : plainFl f = true := by rfl) : ((bYes W).bind fun b => if b = true then (te W).bind fun r => if plainFl r.2 = true then some (some r.1) else none else some none) = t.map fun y => some (F y) := by
  rw [h]; cases t with
  | none => rfl
  | some a => show (if plainFl f = true then some (some (F a)) else none) = _; rw [if_pos p]; rfl
theorem lfi (ht : tt W = some b) (h : te W = some (d, f)) (p : plainFl f = true := by rfl) : ((tt W).bind fun b => if b = true then (te W).bind fun r => if plainFl r.2 = true then some (some r.1) else none else some none) = some (if b = true then some d else none) := by
  rw [ht, h]
  cases b with
  | true => show (if plainFl f = true then some (some d) else none) = _; rw [if_pos p]; rfl
  | false => rfl
theorem lfi_o (ht : tt W = some b) (h : te W = t.map fun a => (F a, f)) (p : plainFl f = true := by rfl) : ((tt W).bind fun b => if b = true then (te W).bind fun r => if plainFl r.2 = true then some (some r.1) else none else some none) = (if b = true then t.map some else some none).map (Option.map F) := by
  rw [ht, h]
  cases b with
  | true => cases t with
    | none => rfl
    | some a => show (if plainFl f = true then some (some (F a)) else none) = _; rw [if_pos p]; rfl
  | false => rfl
theorem lfi_oo {tb : Option Bool} (ht : tt W = tb) (h : te W = t.map fun a => (F a, f)) (p : plainFl f = true := by rfl) : ((tt W).bind fun b => if b = true then (te W).bind fun r => if plainFl r.2 = true then some (some r.1) else none else some none) = (tb.bind fun b => if b = true then t.map some else some none).map (Option.map F) := by
  cases tb with
  | none => rw [ht]; rfl
  | some b => exact lfi_o ht h p
end
theorem lc2_k {own own1 : List Nat} {tg tg1 : Tg} {src src1 : Src} {tt tt1 : GB} {te : GE} {R : Option RV} (h : ((src e).bind fun p => (ccat (lc2F own own1 tg tt src1 tg1 tt1 te e) p.1).bind fun ys => if ys.length ≤ 16777216 then some (PyData.list ys, Fl.ow) else none) = R) : eLc2 own own1 tg src tt tg1 src1 tt1 te e = R := h
theorem lim_l {zs : List β} : (if (zs.map F).length ≤ 16777216 then some (PyData.list (zs.map F), Fl.ow) else none) = (limT zs).map (ww (cL F)) := by
  rw [List.length_map]; exact ite_map (r := ww (cL F))
section
variable {gD : D → Option (List D)}
theorem cc_map {k : α → List β} (h : ∀ x, gD (E x) = some ((k x).map F)) : ((ccat gD (xs.map E)).bind fun ys => if ys.length ≤ 16777216 then some (PyData.list ys, Fl.ow) else none) = (limT (xs.flatMap k)).map (ww (cL F)) := by
  have : ccat gD (xs.map E) = some ((xs.flatMap k).map F) := by
    induction xs with
    | nil => rfl
    | cons x xs ih => rw [List.map_cons, ccat, h x, ih]; show some _ = _; rw [List.flatMap_cons, List.map_append]
  rw [this]; exact lim_l
theorem cc_O {k : α → Option (List β)} (h : ∀ x, gD (E x) = (k x).map (List.map F)) : ((ccat gD (xs.map E)).bind fun ys => if ys.length ≤ 16777216 then some (PyData.list ys, Fl.ow) else none) = ((ccO k xs).bind limT).map (ww (cL F)) := by
  have : ccat gD (xs.map E) = (ccO k xs).map (List.map F) := by
    induction xs with
    | nil => rfl
    | cons x xs ih =>
      rw [List.map_cons, ccat, h x, ih, ccO]
      cases k x with
      | none => rfl
      | some y => cases ccO k xs with
        | none => rfl
        | some ys => show some _ = some _; rw [List.map_append]
  rw [this]
  cases ccO k xs with
  | none => rfl
  | some ys => exact lim_l
end
theorem lc2F_k {own own1 : List Nat} {tg tg1 : Tg} {src1 : Src} {tt tt1 : GB} {te : GE} {d : D} {R : Option (List D)} (ha : asT tg d (wipeE e own) = some W) (h : ((tt W).bind fun b => if b = true then (src1 W).bind fun p => if p.2 = true then none else lcGo (lcT tg1 tt1 te (wipeE W own1)) p.1 else some []) = R) : lc2F own own1 tg tt src1 tg1 tt1 te e d = R := by
  unfold lc2F; rw [ha]; exact h
section
variable {tt : GB} {src1 : Src} {fD : D → Option (Option D)} {R : Option (List D)}
theorem l2y (h : ((src1 W).bind fun p => if p.2 = true then none else lcGo fD p.1) = R) : ((bYes W).bind fun b => if b = true then (src1 W).bind fun p => if p.2 = true then none else lcGo fD p.1 else some []) = R := h
theorem l2f {ys : List β} (ht : tt W = some b) (h : ((src1 W).bind fun p => if p.2 = true then none else lcGo fD p.1) = some (ys.map F)) : ((tt W).bind fun b => if b = true then (src1 W).bind fun p => if p.2 = true then none else lcGo fD p.1 else some []) = some ((if b = true then ys else []).map F) := by
  rw [ht]
  cases b with
  | true => exact h
  | false => rfl
theorem l2f_o {t : Option (List β)} (ht : tt W = some b) (h : ((src1 W).bind fun p => if p.2 = true then none else lcGo fD p.1) = t.map (List.map F)) : ((tt W).bind fun b => if b = true then (src1 W).bind fun p => if p.2 = true then none else lcGo fD p.1 else some []) = (if b = true then t else some []).map (List.map F) := by
  rw [ht]
  cases b with
  | true => exact h
  | false => rfl
theorem l2s {ys : List D} (hs : src1 W = some (ys, false)) (h : lcGo fD ys = R) : ((src1 W).bind fun p => if p.2 = true then none else lcGo fD p.1) = R := by rw [hs]; exact h
theorem l2s_o {t : Option (List α)} {K : List α → Option (List β)} (hs : src1 W = t.map fun ys => (ys.map E, false)) (h : ∀ ys : List α, lcGo fD (ys.map E) = (K ys).map (List.map F)) : ((src1 W).bind fun p => if p.2 = true then none else lcGo fD p.1) = (t.bind K).map (List.map F) := by
  rw [hs]; cases t with
  | none => rfl
  | some ys => exact h ys
end
theorem lr_k {own : Bool} {g : List RV → Option (List D × Bool)} {t : GA} {R : Option RV} (h : ((t e).bind fun rs => (g rs).map fun p => if own = true then (PyData.list p.1, Fl.ow) else (PyData.tuple p.1, Fl.fz)) = R) : eLR own g t e = R := h
theorem lr1 : (rng1G [(cI j, f)]).map (fun p => if true = true then (PyData.list p.1, Fl.ow) else (PyData.tuple p.1, Fl.fz)) = (rng1T j).map (ww (cL cI)) := by rw [rg1]; cases rng1T j <;> rfl
theorem lr1t : (rng1G [(cI j, f)]).map (fun p => if false = true then (PyData.list p.1, Fl.ow) else (PyData.tuple p.1, Fl.fz)) = (rng1T j).map (zz (cT cI)) := by rw [rg1]; cases rng1T j <;> rfl
theorem lr2 : (rng2G [(cI i, f), (cI j, f')]).map (fun p => if true = true then (PyData.list p.1, Fl.ow) else (PyData.tuple p.1, Fl.fz)) = (rng2T i j).map (ww (cL cI)) := by rw [rg2]; cases rng2T i j <;> rfl
theorem lr2t : (rng2G [(cI i, f), (cI j, f')]).map (fun p => if false = true then (PyData.list p.1, Fl.ow) else (PyData.tuple p.1, Fl.fz)) = (rng2T i j).map (zz (cT cI)) := by rw [rg2]; cases rng2T i j <;> rfl
/-! sorted by length, then itself -/
class LfC (E : α → D) : Prop where
  lf : ∀ a, lf (E a) = true
instance : LfC cI := ⟨fun _ => rfl⟩
instance : LfC cB := ⟨fun _ => rfl⟩
theorem lfA_map [LfC E] : ∀ xs : List α, lfA (xs.map E) = true
  | [] => rfl
  | x :: xs => by rw [List.map_cons, lfA, LfC.lf, lfA_map xs]; rfl
instance [LfC E] : LfC (cT E) := ⟨fun xs => by rw [cT, Pl.lf]; exact lfA_map xs⟩
instance [LfC E] [LfC F] : LfC (cP2 E F) := ⟨fun p => by simp [cP2, Pl.lf, lfA, LfC.lf]⟩
instance [LfC E] [LfC F] [LfC G] : LfC (cP3 E F G) := ⟨fun p => by simp [cP3, Pl.lf, lfA, LfC.lf]⟩
def sortKT [DecidableEq α] (m : Nat → Int) (lt : α → α → Bool) (xs : List (List α)) : Option (List (List α)) := if xs.length ≤ 16777216 then some (xs.mergeSort fun a b => !ltP ltI (ltL lt) (m b.length, b) (m a.length, a)) else none
theorem sortK_l [DecidableEq α] {m : Nat → Int} {lt : α → α → Bool} [EqC E] [LtC E lt] [OkC 8 E] [OkC 7 E] [LfC E] {xs : List (List α)} : sortKG m (cL (cT E) xs, f) = (sortKT m lt xs).map (ww (cL (cT E))) := by
  have e1 : (xs.map (cT E)).map (szKey m) = (xs.map fun a => (m a.length, a)).map (cP2 cI (cT E)) := by
    rw [List.map_map, List.map_map]
    apply List.map_congr_left
    intro a _
    show PyData.tuple [.int (m (a.map E).length), .tuple (a.map E)] = _
    rw [List.length_map]; rfl
  have hk : keyB m (xs.map (cT E)) = true := by
    unfold keyB
    rw [e1, sortB_map (ltP ltI (ltL lt)), okA_map (OkC.ok (n := 9))]
    simp only [Bool.and_true, List.all_eq_true]
    intro x hx
    obtain ⟨a, _, rfl⟩ := List.mem_map.mp hx
    rw [LfC.lf]; rfl
  have hs : (xs.map (cT E)).mergeSort (fun a b => leD (szKey m a) (szKey m b)) = (xs.mergeSort fun a b => !ltP ltI (ltL lt) (m b.length, b) (m a.length, a)).map (cT E) := by
    rw [List.map_mergeSort]
    intro a _ c _
    have ea : ∀ a : List α, szKey m (cT E a) = cP2 cI (cT E) (m a.length, a) := fun a => by
      show PyData.tuple [.int (m (a.map E).length), .tuple (a.map E)] = _
      rw [List.length_map]; rfl
    rw [ea, ea, ← LtC.ltv (E := cP2 cI (cT E)) (m c.length, c) (m a.length, a)]; rfl
  show (if keyB m (xs.map (cT E)) = true ∧ (xs.map (cT E)).length ≤ 16777216 then some (PyData.list ((xs.map (cT E)).mergeSort fun a b => leD (szKey m a) (szKey m b)), Fl.ow) else none) = _
  rw [hk, hs, List.length_map]
  simp only [true_and]
  exact ite_map (r := ww (cL (cT E)))
theorem sk_k {m : Nat → Int} {R : Option RV} (h : (ga e).bind (sortKG m) = R) : eSK m ga e = R := h
end
end Pl

set_option Elab.async false
set_option linter.all false
set_option maxRecDepth 100000
set_option maxHeartbeats 4000000
/-! Ty4: statements, loops, defs -/
namespace Pl
open PySem L2
inductive Ctl (S R : Type) | nx (s : S) | bk (s : S) | rt (r : R)
inductive Lp (S R : Type) | go (s : S) | rt (r : R)
def ctlO {S R : Type} (Env : S → En) (q : R → RV) : Ctl S R → Out
  | .nx s => .nx (Env s)
  | .bk s => .bk (Env s)
  | .rt r => .rt (q r)
def Lp.el {S R β : Type} (T : S → Option β) (U : R → Option β) : Lp S R → Option β
  | .go s => T s
  | .rt r => U r
def foldO {S α : Type} (step : S → α → Option S) : S → List α → Option S
  | s, [] => some s
  | s, x :: xs => (step s x).bind fun s => foldO step s xs
def loopO {S R α : Type} (step : S → α → Option (Ctl S R)) : S → List α → Option (Lp S R)
  | s, [] => some (.go s)
  | s, x :: xs => (step s x).bind fun c => match c with
    | .nx s => loopO step s xs
    | .bk s => some (.go s)
    | .rt r => some (.rt r)
def whileS {S : Type} (c : S → Option Bool) (step : S → Option S) : Nat → S → Option S
  | 0, _ => none
  | n + 1, s => (c s).bind fun k => if k = true then (step s).bind fun s => whileS c step n s else some s
def whileC {S R : Type} (c : S → Option Bool) (step : S → Option (Ctl S R)) : Nat → S → Option (Lp S R)
  | 0, _ => none
  | n + 1, s => (c s).bind fun k => if k = true then (step s).bind fun c' => match c' with
      | .nx s => whileC c step n s
      | .bk s => some (.go s)
      | .rt r => some (.rt r)
    else some (.go s)
def wipeO (ws : List Nat) : Out → Out
  | .nx e => .nx (wipeE e ws)
  | .ct e => .nx (wipeE e ws)
  | .bk e => .bk (wipeE e ws)
  | .rt r => .rt r
def ML (ws : List Nat) (o : Out) : Option Out := some (wipeO ws o)
def MJ (o : Out) : Option Out := some o
def pshT {α : Type} (xs : List α) (a : α) : Option (List α) := if xs.length < 16777216 then some (xs ++ [a]) else none
def extT {α : Type} (xs ys : List α) : Option (List α) := if xs.length + ys.length ≤ 16777216 then some (xs ++ ys) else none
def insT {α : Type} (xs : List α) (k : Int) (a : α) : Option (List α) := if xs.length < 16777216 ∧ 0 ≤ k ∧ k < 2 ^ 63 then some (xs.take k.toNat ++ [a] ++ xs.drop k.toNat) else none
def setT {α : Type} (xs : List α) (k : Int) (a : α) : Option (List α) := (ixN xs.length k).map fun j => xs.set j a
def augT (f : Int → Int → Int) (xs : List Int) (k z : Int) : Option (List Int) := (ixN xs.length k).bind fun j => (xs[j]?).map fun y => xs.set j (f y z)
def un2 {α : Type} : List α → Option (α × α)
  | [a, b] => some (a, b)
  | _ => none
def un3 {α : Type} : List α → Option (α × α × α)
  | [a, b, c] => some (a, b, c)
  | _ => none
def un4 {α : Type} : List α → Option (α × α × α × α)
  | [a, b, c, d] => some (a, b, c, d)
  | _ => none
section
variable {α β γ δ S R' : Type} {ρ : Type}
variable {e W e' : En} {f f' : Fl} {E : α → D} {F : β → D} {G : γ → D} {H : δ → D} {g h : GS} {ga gb gi : GE} {i j k : Nat} {b : Bool} {xs : List α} {n m : Nat} {M : Out → Option ρ} {R : Option ρ} {own : Bool} {ws : List Nat}
theorem st_last (k : (sSeq g sSkip e).bind M = R) : (g e).bind M = R := by
  rw [← k]
  unfold sSeq
  cases g e with
  | none => rfl
  | some o => cases o <;> rfl
theorem st_end (k : M (.nx e) = R) : (sSkip e).bind M = R := k
theorem st_skip (k : (h e).bind M = R) : (sSeq sSkip h e).bind M = R := k
theorem st_assoc {g1 g2 : GS} (k : (sSeq g1 (sSeq g2 h) e).bind M = R) : (sSeq (sSeq g1 g2) h e).bind M = R := by
  rw [← k]
  unfold sSeq
  cases g1 e with
  | none => rfl
  | some o => cases o <;> rfl
theorem st_fg (k : (sSeq g (sSeq (sFg ws sSkip) h) e).bind M = R) : (sSeq (sFg ws g) h e).bind M = R := by
  rw [← k]
  unfold sSeq sFg
  cases g e with
  | none => rfl
  | some o => cases o <;> rfl
theorem st_fgskip (k : (h (wipeE e ws)).bind M = R) : (sSeq (sFg ws sSkip) h e).bind M = R := k
theorem st_pre (k : (sSeq g h (fzS e i)).bind M = R) : (sSeq (sPre i g) h e).bind M = R := k
theorem st_go (h1 : g e = some (.nx e')) (k : (h e').bind M = R) : (sSeq g h e).bind M = R := by
  unfold sSeq; rw [h1]; exact k
theorem bind_nxt (o : Option Out) : (o.bind (nxt h)).bind M = o.bind fun o => (nxt h o).bind M := by cases o <;> rfl
theorem st_eq {K : Option ρ} (h1 : ((g e).bind fun o => (nxt h o).bind M) = R) : (sSeq g h e).bind M = R := by
  rw [← h1, sSeq_ev]
  cases g e <;> rfl
theorem st_asg (k : ((ga e).bind fun x => (asgV own x).bind fun y => (h (e.set i (some y))).bind M) = R) : (sSeq (sAsg i own ga) h e).bind M = R := by
  rw [← k]
  unfold sSeq sAsg
  cases ga e with
  | none => rfl
  | some x =>
    show ((((asgV own x).map _)).bind _).bind M = (asgV own x).bind _
    cases asgV own x <;> rfl
theorem asgl {x y : RV} {K : RV → Option ρ} (hy : asgV own x = some y) (k : K y = R) : (asgV own x).bind K = R := by rw [hy]; exact k
theorem st_par {ts : List (Nat × Bool)} {t : GA} (k : ((t e).bind fun rs => (parE ts rs e).bind fun e' => (h e').bind M) = R) : (sSeq (sPar ts t) h e).bind M = R := by
  rw [← k]
  unfold sSeq sPar
  cases t e with
  | none => rfl
  | some x =>
    show (((parE ts x e).map _).bind _).bind M = (parE ts x e).bind _
    cases parE ts x e <;> rfl
theorem parl {ts : List (Nat × Bool)} {rs : List RV} (hp : parE ts rs e = some e') (k : (h e').bind M = R) : ((parE ts rs e).bind fun e' => (h e').bind M) = R := by rw [hp]; exact k
theorem parl0 : parE [] [] e = some e := rfl
theorem parlc {o : Bool} {ts : List (Nat × Bool)} {r r1 : RV} {rs : List RV} (hy : asgV o r = some r1) (hp : parE ts rs (e.set i (some r1)) = some e') : parE ((i, o) :: ts) (r :: rs) e = some e' := by
  show ((asgV o r).bind fun r1 => parE ts rs (e.set i (some r1))) = _
  rw [hy]; exact hp
theorem st_asgT {tg : Tg} (k : ((ga e).bind fun r => if plainFl r.2 = true then (asT tg r.1 e).bind fun e' => (h e').bind M else none) = R) : (sSeq (sAsgT tg ga) h e).bind M = R := by
  rw [← k]
  unfold sSeq sAsgT
  cases ga e with
  | none => rfl
  | some x =>
    show ((if plainFl x.2 = true then (asT tg x.1 e).map Out.nx else none).bind _).bind M = if plainFl x.2 = true then _ else none
    split
    · cases asT tg x.1 e <;> rfl
    · rfl
theorem asTl {tg : Tg} {d : D} {K : En → Option ρ} (hp : plainFl f = true) (ha : asT tg d e = some e') (k : K e' = R) : (if plainFl f = true then (asT tg d e).bind K else none) = R := by
  rw [if_pos hp, ha]; exact k
theorem asTlo {tg : Tg} {d : D} {K : En → Option ρ} (hp : plainFl f = true) (k : (asT tg d e).bind K = R) : (if plainFl f = true then (asT tg d e).bind K else none) = R := by
  rw [if_pos hp]; exact k
theorem as_nm {d : D} : asT (.nm i) d e = some (e.set i (some (d, .fz))) := by rw [asT]
theorem as_0 {W : En} : asTs .nil [] W = some W := by rw [asTs]
theorem as_c {t : Tg} {ts : Tgs} {d : D} {ds : List D} {e1 e2 : En} (h : asT t d e = some e1) (h2 : asTs ts ds e1 = some e2) : asTs (.cons t ts) (d :: ds) e = some e2 := by
  rw [asTs, h]; exact h2
theorem as_tp {ts : Tgs} {ds : List D} (h : asTs ts ds e = some e') : asT (.tp ts) (.tuple ds) e = some e' := by rw [asT]; exact h
theorem as_tl {ts : Tgs} {ds : List D} (h : asTs ts ds e = some e') : asT (.tp ts) (.list ds) e = some e' := by rw [asT]; exact h
theorem as_p2 {t1 t2 : Tg} {p : α × β} {e1 e2 : En} (h1 : asT t1 (E p.1) e = some e1) (h2 : asT t2 (F p.2) e1 = some e2) : asT (.tp (.cons t1 (.cons t2 .nil))) (cP2 E F p) e = some e2 := as_tp (as_c h1 (as_c h2 as_0))
theorem as_p3 {t1 t2 t3 : Tg} {p : α × β × γ} {e1 e2 e3 : En} (h1 : asT t1 (E p.1) e = some e1) (h2 : asT t2 (F p.2.1) e1 = some e2) (h3 : asT t3 (G p.2.2) e2 = some e3) : asT (.tp (.cons t1 (.cons t2 (.cons t3 .nil)))) (cP3 E F G p) e = some e3 := as_tp (as_c h1 (as_c h2 (as_c h3 as_0)))
theorem as_p4 {t1 t2 t3 t4 : Tg} {p : α × β × γ × δ} {e1 e2 e3 e4 : En} (h1 : asT t1 (E p.1) e = some e1) (h2 : asT t2 (F p.2.1) e1 = some e2) (h3 : asT t3 (G p.2.2.1) e2 = some e3) (h4 : asT t4 (H p.2.2.2) e3 = some e4) : asT (.tp (.cons t1 (.cons t2 (.cons t3 (.cons t4 .nil))))) (cP4 E F G H p) e = some e4 := as_tp (as_c h1 (as_c h2 (as_c h3 (as_c h4 as_0))))
theorem asTs_2 {d1 : Nat} {d2 : Nat} : ∀ ys : List D, asTs (.cons (.nm d1) (.cons (.nm d2) .nil)) ys e = (un2 ys).map fun p => (e.set d1 (some (p.1, .fz))).set d2 (some (p.2, .fz))
  | [] => by rw [asTs]; rfl; all_goals simp
  | [a] => by rw [asTs, as_nm]; show asTs _ [] _ = _; rw [asTs]; rfl; all_goals simp
  | [a, c] => by rw [asTs, as_nm]; show asTs _ [c] _ = _; rw [asTs, as_nm]; show asTs _ [] _ = _; rw [asTs]; rfl
  | a :: c :: d :: l => by rw [asTs, as_nm]; show asTs _ (c :: d :: l) _ = _; rw [asTs, as_nm]; show asTs _ (d :: l) _ = _; rw [asTs]; rfl; all_goals simp
theorem asTs_3 {d1 d2 d3 : Nat} : ∀ ys : List D, asTs (.cons (.nm d1) (.cons (.nm d2) (.cons (.nm d3) .nil))) ys e = (un3 ys).map fun p => ((e.set d1 (some (p.1, .fz))).set d2 (some (p.2.1, .fz))).set d3 (some (p.2.2, .fz))
  | [] => by rw [asTs]; rfl; all_goals simp
  | a :: l => by
    rw [asTs, as_nm]
    show asTs _ l _ = _
    rw [asTs_2]
    match l with
    | [] => rfl
    | [_] => rfl
    | [_, _] => rfl
    | _ :: _ :: _ :: _ => rfl
theorem asTs_4 {d1 d2 d3 d4 : Nat} : ∀ ys : List D, asTs (.cons (.nm d1) (.cons (.nm d2) (.cons (.nm d3) (.cons (.nm d4) .nil)))) ys e = (un4 ys).map fun p => (((e.set d1 (some (p.1, .fz))).set d2 (some (p.2.1, .fz))).set d3 (some (p.2.2.1, .fz))).set d4 (some (p.2.2.2, .fz))
  | [] => by rw [asTs]; rfl; all_goals simp
  | a :: l => by
    rw [asTs, as_nm]
    show asTs _ l _ = _
    rw [asTs_3]
    match l with
    | [] => rfl
    | [_] => rfl
    | [_, _] => rfl
    | [_, _, _] => rfl
    | _ :: _ :: _ :: _ :: _ => rfl
theorem un2_map : ∀ xs : List α, un2 (xs.map E) = (un2 xs).map fun p => (E p.1, E p.2)
  | [] => rfl
  | [_] => rfl
  | [_, _] => rfl
  | _ :: _ :: _ :: _ => rfl
theorem un3_map : ∀ xs : List α, un3 (xs.map E) = (un3 xs).map fun p => (E p.1, E p.2.1, E p.2.2)
  | [] => rfl
  | [_] => rfl
  | [_, _] => rfl
  | [_, _, _] => rfl
  | _ :: _ :: _ :: _ :: _ => rfl
theorem un4_map : ∀ xs : List α, un4 (xs.map E) = (un4 xs).map fun p => (E p.1, E p.2.1, E p.2.2.1, E p.2.2.2)
  | [] => rfl
  | [_] => rfl
  | [_, _] => rfl
  | [_, _, _] => rfl
  | [_, _, _, _] => rfl
  | _ :: _ :: _ :: _ :: _ :: _ => rfl
theorem asL2 {i j : Nat} : asT (.tp (.cons (.nm i) (.cons (.nm j) .nil))) (cL E xs) e = (un2 xs).map fun p => (e.set i (some (E p.1, .fz))).set j (some (E p.2, .fz)) := by
  rw [cL, asT, asTs_2, un2_map]; cases un2 xs <;> rfl
theorem asL3 {i j k : Nat} : asT (.tp (.cons (.nm i) (.cons (.nm j) (.cons (.nm k) .nil)))) (cL E xs) e = (un3 xs).map fun p => ((e.set i (some (E p.1, .fz))).set j (some (E p.2.1, .fz))).set k (some (E p.2.2, .fz)) := by
  rw [cL, asT, asTs_3, un3_map]; cases un3 xs <;> rfl
theorem asL4 {i j k l : Nat} : asT (.tp (.cons (.nm i) (.cons (.nm j) (.cons (.nm k) (.cons (.nm l) .nil))))) (cL E xs) e = (un4 xs).map fun p => (((e.set i (some (E p.1, .fz))).set j (some (E p.2.1, .fz))).set k (some (E p.2.2.1, .fz))).set l (some (E p.2.2.2, .fz)) := by
  rw [cL, asT, asTs_4, un4_map]; cases un4 xs <;> rfl
theorem asT2 {i j : Nat} : asT (.tp (.cons (.nm i) (.cons (.nm j) .nil))) (cT E xs) e = (un2 xs).map fun p => (e.set i (some (E p.1, .fz))).set j (some (E p.2, .fz)) := by
  rw [cT, asT, asTs_2, un2_map]; cases un2 xs <;> rfl
theorem asT3 {i j k : Nat} : asT (.tp (.cons (.nm i) (.cons (.nm j) (.cons (.nm k) .nil)))) (cT E xs) e = (un3 xs).map fun p => ((e.set i (some (E p.1, .fz))).set j (some (E p.2.1, .fz))).set k (some (E p.2.2, .fz)) := by
  rw [cT, asT, asTs_3, un3_map]; cases un3 xs <;> rfl
theorem asT4 {i j k l : Nat} : asT (.tp (.cons (.nm i) (.cons (.nm j) (.cons (.nm k) (.cons (.nm l) .nil))))) (cT E xs) e = (un4 xs).map fun p => (((e.set i (some (E p.1, .fz))).set j (some (E p.2.1, .fz))).set k (some (E p.2.2.1, .fz))).set l (some (E p.2.2.2, .fz)) := by
  rw [cT, asT, asTs_4, un4_map]; cases un4 xs <;> rfl
theorem st_ret (k : ((ga e).bind fun x => (retV x).bind fun y => M (.rt y)) = R) : (sSeq (sRet ga) h e).bind M = R := by
  rw [← k]
  unfold sSeq sRet
  cases ga e with
  | none => rfl
  | some x => show (((retV x).map _).bind _).bind M = (retV x).bind _; cases retV x <;> rfl
theorem retl {x y : RV} {K : RV → Option ρ} (hy : retV x = some y) (k : K y = R) : (retV x).bind K = R := by rw [hy]; exact k
theorem st_retN (k : M (.rt (.none, .fz)) = R) : (sSeq (sRetN) h e).bind M = R := k
theorem st_retM {r : RV} (h1 : sRetM i e = some (.rt r)) (k : M (.rt r) = R) : (sSeq (sRetM i) h e).bind M = R := by
  unfold sSeq; rw [h1]; exact k
theorem st_bk (k : M (.bk e) = R) : (sSeq sBk h e).bind M = R := k
theorem st_ct (k : M (.ct e) = R) : (sSeq sCt h e).bind M = R := k
section
variable {c : GB} {g1 g2 : GS} {X Y : Option α} {r : α → ρ}
theorem st_if (hc : c e = some b) (h1 : (sSeq g1 h e).bind M = X.map r) (h2 : (sSeq g2 h e).bind M = Y.map r) : (sSeq (sIf c g1 g2) h e).bind M = (if b = true then X else Y).map r := by
  rw [sSeq_ev] at h1 h2 ⊢
  rw [sIf_ev, hc]
  cases b with
  | true => exact h1
  | false => exact h2
theorem st_ifp {x y : α} (hc : c e = some b) (h1 : (sSeq g1 h e).bind M = (some x).map r) (h2 : (sSeq g2 h e).bind M = (some y).map r) : (sSeq (sIf c g1 g2) h e).bind M = (some (if b = true then x else y)).map r := by
  rw [st_if hc h1 h2]; cases b <;> rfl
theorem st_ifO {tb : Option Bool} (hc : c e = tb) (h1 : (sSeq g1 h e).bind M = X.map r) (h2 : (sSeq g2 h e).bind M = Y.map r) : (sSeq (sIf c g1 g2) h e).bind M = (tb.bind fun b => if b = true then X else Y).map r := by
  cases tb with
  | none => rw [sSeq_ev, sIf_ev, hc]; rfl
  | some b => exact st_if hc h1 h2
theorem st_j {R : Option Out} (k : (g e).bind MJ = R) : g e = R := by
  rw [← k]; cases g e <;> rfl
end
theorem st_jn {g : GS} {Env : S → En} {X : Option S} {T : S → Option β} {q : β → ρ} (h1 : g e = X.map fun s => Out.nx (Env s)) (k : ∀ s, (h (Env s)).bind M = (T s).map q) : (sSeq g h e).bind M = (X.bind T).map q := by
  unfold sSeq; rw [h1]; cases X with
  | none => rfl
  | some s => exact k s
theorem st_jnp {g : GS} {Env : S → En} {x : S} {T : S → Option β} {q : β → ρ} (h1 : g e = (some x).map fun s => Out.nx (Env s)) (k : ∀ s, (h (Env s)).bind M = (T s).map q) : (sSeq g h e).bind M = (bnd x T).map q := by
  unfold sSeq; rw [h1]; exact k x
theorem st_jc {g : GS} {Env : S → En} {p : R' → RV} {X : Option (Ctl S R')} {T : S → Option β} {U : R' → Option β} {V : S → Option β} {q : β → ρ} (h1 : g e = X.map (ctlO Env p)) (k : ∀ s, (h (Env s)).bind M = (T s).map q) (u : ∀ r, M (.rt (p r)) = (U r).map q) (v : ∀ s, M (.bk (Env s)) = (V s).map q) : (sSeq g h e).bind M = (X.bind fun c => match c with
    | .nx s => T s
    | .bk s => V s
    | .rt r => U r).map q := by
  unfold sSeq; rw [h1]; cases X with
  | none => rfl
  | some c => cases c with
    | nx s => exact k s
    | bk s => exact v s
    | rt r => exact u r
/-! loops -/
theorem st_for {tg : Tg} {src : Src} {body : GS} (k : ((src e).bind fun p => (if p.2 = true then (forGo tg body ws p.1 (lockE (wipeE e ws))).map (unlO (wipeE e ws)) else forGo tg body ws p.1 (wipeE e ws)).bind fun o => (nxt h o).bind M) = R) : (sSeq (sFor ws tg src body) h e).bind M = R := by
  rw [← k, sSeq_ev]
  unfold sFor
  cases src e with
  | none => rfl
  | some p =>
    show ((if p.2 = true then _ else _ : Option Out).bind _).bind M = (if p.2 = true then _ else _ : Option Out).bind _
    cases (if p.2 = true then (forGo tg body ws p.1 (lockE (wipeE e ws))).map (unlO (wipeE e ws)) else forGo tg body ws p.1 (wipeE e ws) : Option Out) <;> rfl
def turnM (tg : Tg) (body : GS) (ws : List Nat) (d : D) (env : En) : Option Out := (turn tg body d env).bind (ML ws)
theorem turn_k {tg : Tg} {body : GS} {d : D} {R : Option Out} (ha : asT tg d e = some e') (k : (body e').bind (ML ws) = R) : turnM tg body ws d e = R := by
  unfold turnM turn; rw [ha]; exact k
section
variable {tg : Tg} {body : GS} {Env : S → En} {s0 : S} {T : S → Option β} {q : β → ρ}
theorem forGo_M {d : D} {ds : List D} {env : En} : forGo tg body ws (d :: ds) env = (turnM tg body ws d env).bind fun o => match o with
    | .nx e => forGo tg body ws ds e
    | .ct e => forGo tg body ws ds e
    | .bk e => some (.nx e)
    | .rt r => some (.rt r) := by
  rw [forGo_cons]
  unfold turnM
  cases turn tg body d env with
  | none => rfl
  | some o => cases o <;> rfl
theorem go_p {step : S → α → S} (hb : ∀ s x, turnM tg body ws (E x) (Env s) = (some (step s x)).map fun s => Out.nx (Env s)) : ∀ (xs : List α) (s : S), forGo tg body ws (xs.map E) (Env s) = some (.nx (Env (xs.foldl step s)))
  | [], s => rfl
  | x :: xs, s => by rw [List.map_cons, forGo_M, hb s x]; exact go_p hb xs (step s x)
theorem go_o {step : S → α → Option S} (hb : ∀ s x, turnM tg body ws (E x) (Env s) = (step s x).map fun s => Out.nx (Env s)) : ∀ (xs : List α) (s : S), forGo tg body ws (xs.map E) (Env s) = (foldO step s xs).map fun s => Out.nx (Env s)
  | [], s => rfl
  | x :: xs, s => by
    rw [List.map_cons, forGo_M, hb s x, foldO]
    cases step s x with
    | none => rfl
    | some s => exact go_o hb xs s
def lpO (Env : S → En) (p : R' → RV) : Lp S R' → Out
  | .go s => .nx (Env s)
  | .rt r => .rt (p r)
theorem go_c {p : R' → RV} {step : S → α → Option (Ctl S R')} (hb : ∀ s x, turnM tg body ws (E x) (Env s) = (step s x).map (ctlO Env p)) : ∀ (xs : List α) (s : S), forGo tg body ws (xs.map E) (Env s) = (loopO step s xs).map (lpO Env p)
  | [], s => rfl
  | x :: xs, s => by
    rw [List.map_cons, forGo_M, hb s x, loopO]
    cases step s x with
    | none => rfl
    | some c => cases c with
      | nx s => exact go_c hb xs s
      | bk s => rfl
      | rt r => rfl
theorem lp_p {step : S → α → S} (h0 : wipeE e ws = Env s0) (hb : ∀ s x, turnM tg body ws (E x) (Env s) = (some (step s x)).map fun s => Out.nx (Env s)) (k : ∀ s, (h (Env s)).bind M = (T s).map q) : ((if false = true then (forGo tg body ws (xs.map E) (lockE (wipeE e ws))).map (unlO (wipeE e ws)) else forGo tg body ws (xs.map E) (wipeE e ws)).bind fun o => (nxt h o).bind M) = (bnd (xs.foldl step s0) T).map q := by
  rw [h0, if_neg Bool.false_ne_true, go_p hb]; exact k _
theorem lp_o {step : S → α → Option S} (h0 : wipeE e ws = Env s0) (hb : ∀ s x, turnM tg body ws (E x) (Env s) = (step s x).map fun s => Out.nx (Env s)) (k : ∀ s, (h (Env s)).bind M = (T s).map q) : ((if false = true then (forGo tg body ws (xs.map E) (lockE (wipeE e ws))).map (unlO (wipeE e ws)) else forGo tg body ws (xs.map E) (wipeE e ws)).bind fun o => (nxt h o).bind M) = ((foldO step s0 xs).bind T).map q := by
  rw [h0, if_neg Bool.false_ne_true, go_o hb]
  cases foldO step s0 xs with
  | none => rfl
  | some s => exact k s
theorem lp_c {p : R' → RV} {U : R' → Option β} {step : S → α → Option (Ctl S R')} (h0 : wipeE e ws = Env s0) (hb : ∀ s x, turnM tg body ws (E x) (Env s) = (step s x).map (ctlO Env p)) (k : ∀ s, (h (Env s)).bind M = (T s).map q) (u : ∀ r, M (.rt (p r)) = (U r).map q) : ((if false = true then (forGo tg body ws (xs.map E) (lockE (wipeE e ws))).map (unlO (wipeE e ws)) else forGo tg body ws (xs.map E) (wipeE e ws)).bind fun o => (nxt h o).bind M) = ((loopO step s0 xs).bind (Lp.el T U)).map q := by
  rw [h0, if_neg Bool.false_ne_true, go_c hb]
  cases loopO step s0 xs with
  | none => rfl
  | some c => cases c with
    | go s => exact k s
    | rt r => exact u r
theorem lpL_p {step : S → α → S} (h0 : lockE (wipeE e ws) = Env s0) (hb : ∀ s x, turnM tg body ws (E x) (Env s) = (some (step s x)).map fun s => Out.nx (Env s)) (k : ∀ s, (h (unlE (wipeE e ws) (Env s))).bind M = (T s).map q) : ((if true = true then (forGo tg body ws (xs.map E) (lockE (wipeE e ws))).map (unlO (wipeE e ws)) else forGo tg body ws (xs.map E) (wipeE e ws)).bind fun o => (nxt h o).bind M) = (bnd (xs.foldl step s0) T).map q := by
  rw [if_pos rfl, h0, go_p hb]; exact k _
theorem lpL_o {step : S → α → Option S} (h0 : lockE (wipeE e ws) = Env s0) (hb : ∀ s x, turnM tg body ws (E x) (Env s) = (step s x).map fun s => Out.nx (Env s)) (k : ∀ s, (h (unlE (wipeE e ws) (Env s))).bind M = (T s).map q) : ((if true = true then (forGo tg body ws (xs.map E) (lockE (wipeE e ws))).map (unlO (wipeE e ws)) else forGo tg body ws (xs.map E) (wipeE e ws)).bind fun o => (nxt h o).bind M) = ((foldO step s0 xs).bind T).map q := by
  rw [if_pos rfl, h0, go_o hb]
  cases foldO step s0 xs with
  | none => rfl
  | some s => exact k s
theorem lpL_c {p : R' → RV} {U : R' → Option β} {step : S → α → Option (Ctl S R')} (h0 : lockE (wipeE e ws) = Env s0) (hb : ∀ s x, turnM tg body ws (E x) (Env s) = (step s x).map (ctlO Env p)) (k : ∀ s, (h (unlE (wipeE e ws) (Env s))).bind M = (T s).map q) (u : ∀ r, M (.rt (p r)) = (U r).map q) : ((if true = true then (forGo tg body ws (xs.map E) (lockE (wipeE e ws))).map (unlO (wipeE e ws)) else forGo tg body ws (xs.map E) (wipeE e ws)).bind fun o => (nxt h o).bind M) = ((loopO step s0 xs).bind (Lp.el T U)).map q := by
  rw [if_pos rfl, h0, go_c hb]
  cases loopO step s0 xs with
  | none => rfl
  | some c => cases c with
    | go s => exact k s
    | rt r => exact u r
/-! while -/
variable {c : GB} {ct : S → Option Bool}
theorem wh_o {step : S → Option S} (hc : ∀ s, c (Env s) = ct s) (hb : ∀ s, (body (Env s)).bind (ML ws) = (step s).map fun s => Out.nx (Env s)) : ∀ (n : Nat) (s : S), whileN c body ws n (Env s) = (whileS ct step n s).map fun s => Out.nx (Env s)
  | 0, s => rfl
  | n + 1, s => by
    have hb' := hb s
    rw [whileN, whileS, hc s]
    cases ct s with
    | none => rfl
    | some k =>
      cases k with
      | false => rfl
      | true =>
        show ((body (Env s)).bind _) = ((step s).bind _).map _
        cases e1 : body (Env s) with
        | none =>
          rw [e1] at hb'
          cases e2 : step s with
          | none => rfl
          | some _ => rw [e2] at hb'; cases hb'
        | some o =>
          rw [e1] at hb'
          cases e2 : step s with
          | none => rw [e2] at hb'; cases hb'
          | some s' =>
            rw [e2] at hb'
            have hb2 : wipeO ws o = .nx (Env s') := Option.some.inj hb'
            cases o with
            | nx e3 => show whileN c body ws n (wipeE e3 ws) = _; rw [Out.nx.inj hb2]; exact wh_o hc hb n s'
            | ct e3 => show whileN c body ws n (wipeE e3 ws) = _; rw [Out.nx.inj hb2]; exact wh_o hc hb n s'
            | bk e3 => cases hb2
            | rt r => cases hb2
theorem wh_c {p : R' → RV} {step : S → Option (Ctl S R')} (hc : ∀ s, c (Env s) = ct s) (hb : ∀ s, (body (Env s)).bind (ML ws) = (step s).map (ctlO Env p)) : ∀ (n : Nat) (s : S), whileN c body ws n (Env s) = (whileC ct step n s).map (lpO Env p)
  | 0, s => rfl
  | n + 1, s => by
    have hb' := hb s
    rw [whileN, whileC, hc s]
    cases ct s with
    | none => rfl
    | some k =>
      cases k with
      | false => rfl
      | true =>
        show ((body (Env s)).bind _) = ((step s).bind _).map _
        cases e1 : body (Env s) with
        | none =>
          rw [e1] at hb'
          cases e2 : step s with
          | none => rfl
          | some _ => rw [e2] at hb'; cases hb'
        | some o =>
          rw [e1] at hb'
          cases e2 : step s with
          | none => rw [e2] at hb'; cases hb'
          | some s' =>
            rw [e2] at hb'
            have hb2 : wipeO ws o = ctlO Env p s' := Option.some.inj hb'
            cases o with
            | nx e3 => cases s' with
              | nx s3 => show whileN c body ws n (wipeE e3 ws) = _; rw [Out.nx.inj hb2]; exact wh_c hc hb n s3
              | bk _ => cases hb2
              | rt _ => cases hb2
            | ct e3 => cases s' with
              | nx s3 => show whileN c body ws n (wipeE e3 ws) = _; rw [Out.nx.inj hb2]; exact wh_c hc hb n s3
              | bk _ => cases hb2
              | rt _ => cases hb2
            | bk e3 => cases s' with
              | nx _ => cases hb2
              | bk s3 => show some (Out.nx (wipeE e3 ws)) = _; rw [Out.bk.inj hb2]; rfl
              | rt _ => cases hb2
            | rt r => cases s' with
              | nx _ => cases hb2
              | bk _ => cases hb2
              | rt s3 => rw [show r = p s3 from Out.rt.inj hb2]; rfl
theorem st_wh {step : S → Option S} (h0 : wipeE e ws = Env s0) (hc : ∀ s, c (Env s) = ct s) (hb : ∀ s, (body (Env s)).bind (ML ws) = (step s).map fun s => Out.nx (Env s)) (k : ∀ s, (h (Env s)).bind M = (T s).map q) : (sSeq (sWhile ws c body) h e).bind M = ((whileS ct step fuel s0).bind T).map q := by
  rw [sSeq_ev]
  unfold sWhile
  rw [h0, wh_o hc hb]
  cases whileS ct step fuel s0 with
  | none => rfl
  | some s => exact k s
theorem st_whc {p : R' → RV} {U : R' → Option β} {step : S → Option (Ctl S R')} (h0 : wipeE e ws = Env s0) (hc : ∀ s, c (Env s) = ct s) (hb : ∀ s, (body (Env s)).bind (ML ws) = (step s).map (ctlO Env p)) (k : ∀ s, (h (Env s)).bind M = (T s).map q) (u : ∀ r, M (.rt (p r)) = (U r).map q) : (sSeq (sWhile ws c body) h e).bind M = ((whileC ct step fuel s0).bind (Lp.el T U)).map q := by
  rw [sSeq_ev]
  unfold sWhile
  rw [h0, wh_c hc hb]
  cases whileC ct step fuel s0 with
  | none => rfl
  | some c => cases c with
    | go s => exact k s
    | rt r => exact u r
end
/-! lists that are changed -/
section
variable {T : List α → Option β} {q : β → ρ} {a : α} {f : Fl}
theorem st_app {t : GA} (k : ((t e).bind fun rs => (appR i e rs).bind fun o => (nxt h o).bind M) = R) : (sSeq (sApp i t) h e).bind M = R := by
  rw [← k, sSeq_ev, sApp_ev]
  cases t e with
  | none => rfl
  | some rs => exact bind_nxt _
theorem mL_i {ds : List D} {fn : List D → Option (List D)} (h1 : e[i]? = some (some (.list ds, .ow))) : mL e i fn = (fn ds).map fun es => .nx (e.set i (some (.list es, .ow))) := by
  unfold mL; rw [h1]
theorem app_l (h1 : e[i]? = some (some (cL E xs, .ow))) (hf : plainFl f = true) (k : ∀ ys, (h (e.set i (some (cL E ys, .ow)))).bind M = (T ys).map q) : ((appR i e [(E a, f)]).bind fun o => (nxt h o).bind M) = ((pshT xs a).bind T).map q := by
  show ((mL e i fun ds => if plainFl f = true ∧ ds.length < 16777216 then some (ds ++ [E a]) else none).bind _) = _
  rw [mL_i h1, hf, List.length_map]
  simp only [true_and]
  unfold pshT
  split
  · have := k (xs ++ [a])
    unfold cL at this
    rw [List.map_append] at this
    exact this
  · rfl
def extR (i : Nat) (e : En) (rs : List RV) : Option Out := match rs with
  | [(.list xs, f)] => mL e i fun ds => if isSc f = false ∧ ds.length + xs.length ≤ 16777216 then some (ds ++ xs) else none
  | _ => none
theorem st_ext {t : GA} (k : ((t e).bind fun rs => (extR i e rs).bind fun o => (nxt h o).bind M) = R) : (sSeq (sExt i t) h e).bind M = R := by
  rw [← k, sSeq_ev]
  show (((t e).bind (extR i e)).bind (nxt h)).bind M = _
  cases t e with
  | none => rfl
  | some rs => exact bind_nxt _
theorem ext_l {zs : List α} (h1 : e[i]? = some (some (cL E xs, .ow))) (hf : isSc f = false) (k : ∀ ys, (h (e.set i (some (cL E ys, .ow)))).bind M = (T ys).map q) : ((extR i e [(cL E zs, f)]).bind fun o => (nxt h o).bind M) = ((extT xs zs).bind T).map q := by
  show ((mL e i fun ds => if isSc f = false ∧ ds.length + (zs.map E).length ≤ 16777216 then some (ds ++ zs.map E) else none).bind _) = _
  rw [mL_i h1, hf, List.length_map, List.length_map]
  simp only [true_and]
  unfold extT
  split
  · have := k (xs ++ zs)
    unfold cL at this
    rw [List.map_append] at this
    exact this
  · rfl
def insR (i : Nat) (e : En) (rs : List RV) : Option Out := match rs with
  | [(.int k, _), (d, f)] => mL e i fun ds => if plainFl f = true ∧ ds.length < 16777216 ∧ 0 ≤ k ∧ k < 2 ^ 63 then some (ds.take k.toNat ++ [d] ++ ds.drop k.toNat) else none
  | _ => none
theorem st_ins {t : GA} (k : ((t e).bind fun rs => (insR i e rs).bind fun o => (nxt h o).bind M) = R) : (sSeq (sIns i t) h e).bind M = R := by
  rw [← k, sSeq_ev]
  show (((t e).bind (insR i e)).bind (nxt h)).bind M = _
  cases t e with
  | none => rfl
  | some rs => exact bind_nxt _
theorem ins_l {z : Int} {f' : Fl} (h1 : e[i]? = some (some (cL E xs, .ow))) (hf : plainFl f = true) (k : ∀ ys, (h (e.set i (some (cL E ys, .ow)))).bind M = (T ys).map q) : ((insR i e [(cI z, f'), (E a, f)]).bind fun o => (nxt h o).bind M) = ((insT xs z a).bind T).map q := by
  show ((mL e i fun ds => if plainFl f = true ∧ ds.length < 16777216 ∧ 0 ≤ z ∧ z < 2 ^ 63 then some (ds.take z.toNat ++ [E a] ++ ds.drop z.toNat) else none).bind _) = _
  rw [mL_i h1, hf, List.length_map]
  simp only [true_and]
  unfold insT
  split
  · have := k (xs.take z.toNat ++ [a] ++ xs.drop z.toNat)
    unfold cL at this
    rw [List.map_append, List.map_append, List.map_take, List.map_drop] at this
    exact this
  · rfl
theorem st_set (k : ((ga e).bind fun r => (gi e).bind fun z => (asI z).bind fun z => (mL e i fun ds => if plainFl r.2 = true then (ixN ds.length z).map fun j => ds.set j r.1 else none).bind fun o => (nxt h o).bind M) = R) : (sSeq (sSet i gi ga) h e).bind M = R := by
  rw [← k, sSeq_ev]
  unfold sSet
  cases ga e with
  | none => rfl
  | some r => cases gi e with
    | none => rfl
    | some z =>
      show (((asI z).bind _).bind _).bind M = (asI z).bind _
      cases asI z with
      | none => rfl
      | some z => exact bind_nxt _
theorem set_l {z : Int} {f' : Fl} (h1 : e[i]? = some (some (cL E xs, .ow))) (hf : plainFl f = true) (k : ∀ ys, (h (e.set i (some (cL E ys, .ow)))).bind M = (T ys).map q) : ((asI (cI z, f')).bind fun z => (mL e i fun ds => if plainFl f = true then (ixN ds.length z).map fun j => ds.set j (E a) else none).bind fun o => (nxt h o).bind M) = ((setT xs z a).bind T).map q := by
  show ((mL e i fun ds => if plainFl f = true then (ixN ds.length z).map fun j => ds.set j (E a) else none).bind _) = _
  rw [mL_i h1, if_pos hf, List.length_map]
  unfold setT
  cases ixN xs.length z with
  | none => rfl
  | some j =>
    have := k (xs.set j a)
    unfold cL at this
    rw [List.map_set] at this
    exact this
theorem st_augS {fn : Int → Int → Int} (k : ((gi e).bind fun z => (asI z).bind fun z => (ga e).bind fun r => (asI r).bind fun y => (mL e i fun ds => (ixN ds.length z).bind fun j => match ds[j]? with
    | some (.int w) => some (ds.set j (.int (fn w y)))
    | _ => none).bind fun o => (nxt h o).bind M) = R) : (sSeq (sAugS fn i gi ga) h e).bind M = R := by
  rw [← k, sSeq_ev]
  unfold sAugS
  cases gi e with
  | none => rfl
  | some z =>
    show (((asI z).bind _).bind _).bind M = (asI z).bind _
    cases asI z with
    | none => rfl
    | some z => cases ga e with
      | none => rfl
      | some r =>
        show (((asI r).bind _).bind _).bind M = (asI r).bind _
        cases asI r with
        | none => rfl
        | some y => exact bind_nxt _
theorem asI_k {z : Int} {K : Int → Option ρ} (k : K z = R) : (asI (cI z, f)).bind K = R := k
theorem aug_l {fn : Int → Int → Int} {ns : List Int} {z y : Int} {T : List Int → Option β} (h1 : e[i]? = some (some (cL cI ns, .ow))) (k : ∀ ys, (h (e.set i (some (cL cI ys, .ow)))).bind M = (T ys).map q) : ((mL e i fun ds => (ixN ds.length z).bind fun j => match ds[j]? with
    | some (.int w) => some (ds.set j (.int (fn w y)))
    | _ => none).bind fun o => (nxt h o).bind M) = ((augT fn ns z y).bind T).map q := by
  rw [mL_i h1, List.length_map]
  unfold augT
  cases ixN ns.length z with
  | none => rfl
  | some j =>
    show ((match (ns.map cI)[j]? with
      | some (.int w) => some ((ns.map cI).set j (.int (fn w y)))
      | _ => none : Option (List D)).map _).bind _ = _
    rw [List.getElem?_map]
    cases e1 : ns[j]? with
    | none => simp [e1]
    | some w =>
      have := k (ns.set j (fn w y))
      unfold cL at this
      rw [List.map_set] at this
      simp only [e1, Option.bind_some, Option.map_some]
      exact this
theorem st_aug {fn : Int → Int → Int} {y : Int} (h1 : e[i]? = some (some (cI y, .fz))) (k : ((ga e).bind fun r => (asI r).bind fun z => (h (e.set i (some (cI (fn y z), .fz)))).bind M) = R) : (sSeq (sAug fn i ga) h e).bind M = R := by
  rw [← k, sSeq_ev]
  unfold sAug
  rw [show e[i]? = some (some (PyData.int y, .fz)) from h1]
  cases ga e with
  | none => rfl
  | some r => show (((asI r).map _).bind _).bind M = (asI r).bind _; cases asI r <;> rfl
end
/-! defs -/
theorem fn_k {np n : Nat} {body : GS} {rs : List RV} {env : En} {R : Option RV} (hl : rs.length = np) (he : rs.map (fun r => some (argF r)) ++ List.replicate (n - np) none = env) (k : (body env).bind fnO = R) : fnG np n body rs = R := by
  rw [fnG_ev hl, he]; exact k
end
end Pl

set_option Elab.async false
set_option linter.all false
set_option maxRecDepth 100000
set_option maxHeartbeats 4000000
/-! Ty5: more leaves -/
namespace Pl
open PySem L2
section
variable {α β γ δ ρ σ S R' : Type} {e : En} {f f' : Fl} {E : α → D} {F : β → D} {i j k : Int} {b b' : Bool} {ga gb gc : GE} {ca cb : GB}
theorem kO {o : Option RV} {x : Option α} {K : RV → Option σ} {T : α → Option β} {q : β → σ} (h : o = some (cO E x, f)) (k : ∀ a, K (E a, f) = (T a).map q) (hn : K (.none, f) = none) : o.bind K = (x.bind T).map q := by
  rw [h]; cases x with
  | none => exact hn
  | some a => exact k a
theorem kO0 {x : Option α} {K : RV → Option σ} {T : α → Option β} {q : β → σ} (k : ∀ a, K (E a, f) = (T a).map q) (hn : K (.none, f) = none) : K (cO E x, f) = (x.bind T).map q := by
  cases x with
  | none => exact hn
  | some a => exact k a
theorem tupTn {xs : List α} {rs : List RV} (h : rs = xs.map (zz E)) (hl : xs.length ≤ 16777216) : tupG rs = some (cT E xs, .fz) := by
  subst h
  have h1 : plainAll (xs.map (zz E)) = true := by
    unfold plainAll
    rw [List.all_eq_true]
    intro r hr
    obtain ⟨a, _, rfl⟩ := List.mem_map.mp hr
    rfl
  rw [tupN h1 (by rw [List.length_map]; exact hl), List.map_map]; rfl
theorem selL_a {x y : D} {fc : Fl} (ha : ga e = some (x, f)) (hb : gb e = some (y, f')) (hc : gc e = some (cB false, fc)) (hp : plainAll [(x, f), (y, f')] = true := by rfl) : e2 ixG (eA lstG (aCons ga (aCons gb aNil))) (eA (one intG) (aCons gc aNil)) e = some (x, .fz) :=
  e2_k (kb (eA_k (aC_k (kb ha (aC_k (kb hb (aN_k (lstN hp (by simp)))))))) (kb (eA_k (aC_k (kb hc (aN_k intB_l)))) rfl))
theorem selL_b {x y : D} {fc : Fl} (ha : ga e = some (x, f)) (hb : gb e = some (y, f')) (hc : gc e = some (cB true, fc)) (hp : plainAll [(x, f), (y, f')] = true := by rfl) : e2 ixG (eA lstG (aCons ga (aCons gb aNil))) (eA (one intG) (aCons gc aNil)) e = some (y, .fz) :=
  e2_k (kb (eA_k (aC_k (kb ha (aC_k (kb hb (aN_k (lstN hp (by simp)))))))) (kb (eA_k (aC_k (kb hc (aN_k intB_l)))) rfl))
theorem selT_a {x y : D} {fc : Fl} (ha : ga e = some (x, f)) (hb : gb e = some (y, f')) (hc : gc e = some (cB false, fc)) (hp : plainAll [(x, f), (y, f')] = true := by rfl) : e2 ixG (eA tupG (aCons ga (aCons gb aNil))) (eA (one intG) (aCons gc aNil)) e = some (x, .fz) :=
  e2_k (kb (eA_k (aC_k (kb ha (aC_k (kb hb (aN_k (tupN hp (by simp)))))))) (kb (eA_k (aC_k (kb hc (aN_k intB_l)))) rfl))
theorem selT_b {x y : D} {fc : Fl} (ha : ga e = some (x, f)) (hb : gb e = some (y, f')) (hc : gc e = some (cB true, fc)) (hp : plainAll [(x, f), (y, f')] = true := by rfl) : e2 ixG (eA tupG (aCons ga (aCons gb aNil))) (eA (one intG) (aCons gc aNil)) e = some (y, .fz) :=
  e2_k (kb (eA_k (aC_k (kb ha (aC_k (kb hb (aN_k (tupN hp (by simp)))))))) (kb (eA_k (aC_k (kb hc (aN_k intB_l)))) rfl))
theorem selL {x y : α} {fc : Fl} (ha : ga e = some (E x, f)) (hb : gb e = some (E y, f')) (hc : gc e = some (cB b, fc)) (hp : plainAll [(E x, f), (E y, f')] = true := by rfl) : e2 ixG (eA lstG (aCons ga (aCons gb aNil))) (eA (one intG) (aCons gc aNil)) e = some (E (if b = true then y else x), .fz) := by
  cases b with
  | false => exact selL_a ha hb hc hp
  | true => exact selL_b ha hb hc hp
theorem selT {x y : α} {fc : Fl} (ha : ga e = some (E x, f)) (hb : gb e = some (E y, f')) (hc : gc e = some (cB b, fc)) (hp : plainAll [(E x, f), (E y, f')] = true := by rfl) : e2 ixG (eA tupG (aCons ga (aCons gb aNil))) (eA (one intG) (aCons gc aNil)) e = some (E (if b = true then y else x), .fz) := by
  cases b with
  | false => exact selT_a ha hb hc hp
  | true => exact selT_b ha hb hc hp
theorem turn_ko {tg : Tg} {body : GS} {ws : List Nat} {d : D} {R : Option Out} (k : ((asT tg d e).bind fun e' => (body e').bind (ML ws)) = R) : turnM tg body ws d e = R := by
  rw [← k]; unfold turnM turn; cases asT tg d e <;> rfl
theorem lcF_ko {own : List Nat} {tg : Tg} {tt : GB} {te : GE} {d : D} {R : Option (Option D)} (h : ((asT tg d (wipeE e own)).bind fun W => (tt W).bind fun b => if b = true then (te W).bind fun r => if plainFl r.2 = true then some (some r.1) else none else some none) = R) : lcF own tg tt te e d = R := h
theorem lcT_ko {tg : Tg} {tt : GB} {te : GE} {d : D} {R : Option (Option D)} (h : ((asT tg d e).bind fun W => (tt W).bind fun b => if b = true then (te W).bind fun r => if plainFl r.2 = true then some (some r.1) else none else some none) = R) : lcT tg tt te e d = R := h
theorem eC_I : eC (.int i) e = some (cI i, .fz) := rfl
theorem eC_B : eC (.bool b) e = some (cB b, .fz) := rfl
theorem eC_Z : eC .none e = some (cZ (), .fz) := rfl
theorem co_p {x : α} {y : β} {o : Option RV} (h : E x = F y) (p : o = some (E x, f)) : o = some (F y, f) := by rw [p, h]
theorem co_o {t : Option α} {o : Option RV} (fn : α → β) (h : ∀ a, E a = F (fn a)) (p : o = t.map fun a => (E a, f)) : o = (t.map fn).map fun b => (F b, f) := by
  rw [p]; cases t with
  | none => rfl
  | some a => show some (E a, f) = some (F (fn a), f); rw [h]
theorem eIf_t {R : Option RV} (h : ca e = some true) (a : ga e = R) : eIf ca ga gb e = R := by
  show ((ca e).bind fun k => if k = true then ga e else gb e) = _
  rw [h]; exact a
theorem eIf_f {R : Option RV} (h : ca e = some false) (a : gb e = R) : eIf ca ga gb e = R := by
  show ((ca e).bind fun k => if k = true then ga e else gb e) = _
  rw [h]; exact a
theorem band_x (h : ca e = some false) : bAnd ca cb e = some false := by
  show ((ca e).bind fun k => if k = true then cb e else some false) = _
  rw [h]; rfl
theorem band_y {R : Option Bool} (h : ca e = some true) (k : cb e = R) : bAnd ca cb e = R := by
  show ((ca e).bind fun k => if k = true then cb e else some false) = _
  rw [h]; exact k
theorem bor_x (h : ca e = some true) : bOr ca cb e = some true := by
  show ((ca e).bind fun k => if k = true then some true else cb e) = _
  rw [h]; rfl
theorem bor_y {R : Option Bool} (h : ca e = some false) (k : cb e = R) : bOr ca cb e = R := by
  show ((ca e).bind fun k => if k = true then some true else cb e) = _
  rw [h]; exact k
theorem inL_n [DecidableEq α] [EqC E] [OkC 9 E] [OkC 9 (cL E)] {a : α} {xs : List α} : inG true (E a, f) (cL E xs, f') = some (cB (!decide (a ∈ xs)), .fz) := by
  rw [inL_l]; cases decide (a ∈ xs) <;> rfl
theorem inT_n [DecidableEq α] [EqC E] [OkC 9 E] {a : α} {xs : List α} : inG true (E a, f) (cT E xs, f') = some (cB (!decide (a ∈ xs)), .fz) := by
  rw [inT_l]; cases decide (a ∈ xs) <;> rfl
theorem inL_f [DecidableEq α] [EqC E] [OkC 9 E] [OkC 9 (cL E)] {a : α} {xs : List α} : inG false (E a, f) (cL E xs, f') = some (cB (decide (a ∈ xs)), .fz) := by
  rw [inL_l]; cases decide (a ∈ xs) <;> rfl
theorem inT_f [DecidableEq α] [EqC E] [OkC 9 E] {a : α} {xs : List α} : inG false (E a, f) (cT E xs, f') = some (cB (decide (a ∈ xs)), .fz) := by
  rw [inT_l]; cases decide (a ∈ xs) <;> rfl
theorem isO_f [NnC E] {o : Option α} : isG false (cO E o, f) (cZ (), f') = some (cB o.isNone, .fz) := by
  have := isO_l (E := E) (b := false) (f := f) (f' := f') (o := o)
  cases o <;> exact this
theorem isnO_f [NnC E] {o : Option α} : isG true (cO E o, f) (cZ (), f') = some (cB (!o.isNone), .fz) := by
  have := isO_l (E := E) (b := true) (f := f) (f' := f') (o := o)
  cases o <;> exact this
theorem isZ_f : isG false (cZ (), f) (cZ (), f') = some (cB true, .fz) := rfl
theorem isnZ_f : isG true (cZ (), f) (cZ (), f') = some (cB false, .fz) := rfl
theorem isV_f [NnC E] {a : α} : isG false (E a, f) (cZ (), f') = some (cB false, .fz) := is_l
theorem isnV_f [NnC E] {a : α} : isG true (E a, f) (cZ (), f') = some (cB true, .fz) := is_l
theorem isBB_f {c d : Bool} : isG false (cB c, f) (cB d, f') = some (cB (decide (c = d)), .fz) := by cases c <;> cases d <;> rfl
theorem isnB_f {c d : Bool} : isG true (cB c, f) (cB d, f') = some (cB (!decide (c = d)), .fz) := by cases c <;> cases d <;> rfl
theorem powc_l {v : Int} (h : powC i j = true) (hv : i ^ j.toNat = v) : powG (cI i, f) (cI j, f') = some (cI v, .fz) := by
  subst hv
  show (if powC i j then some (PyData.int (i ^ j.toNat), Fl.fz) else none) = _
  rw [h]; rfl
theorem e3_o {g g' : RV → RV → Option RV} {x y : RV} {t : Option α} {p : α → Bool} {r : α → RV} (hx : ga e = some x) (hy : gb e = some y) (hz : gc e = t.map r) (h : g x y = some (cB b, f)) (h' : ∀ z, g' y (r z) = some (cB (p z), .fz)) : e3 g g' ga gb gc e = (andO (some b) (t.map p)).map (zz cB) := by
  unfold e3
  rw [hx, hy, hz]
  show ((g x y).bind fun k => (asB k).bind fun t' => if t' then (t.map r).bind fun z => g' y z else some (PyData.bool false, Fl.fz)) = _
  rw [h]
  cases b with
  | false => rfl
  | true => cases t with
    | none => rfl
    | some a => exact h' a
theorem truB_o {c : GE} {t : Option Bool} (h : c e = t.map (zz cB)) : eT c e = t := by
  show (c e).bind truD = _; rw [h]; cases t <;> rfl
variable {ρ' : Type} {M : Out → Option ρ'} {h : GS} {n : Nat} {T : Int → Option β} {q : β → ρ'}
theorem st_if_t {c : GB} {g1 g2 : GS} {R : Option ρ'} (hc : c e = some true) (h1 : (sSeq g1 h e).bind M = R) : (sSeq (sIf c g1 g2) h e).bind M = R := by
  rw [sSeq_ev] at h1 ⊢
  rw [sIf_ev, hc]; exact h1
theorem st_if_f {c : GB} {g1 g2 : GS} {R : Option ρ'} (hc : c e = some false) (h1 : (sSeq g2 h e).bind M = R) : (sSeq (sIf c g1 g2) h e).bind M = R := by
  rw [sSeq_ev] at h1 ⊢
  rw [sIf_ev, hc]; exact h1
theorem st_aug1 {fn : Int → Int → Int} {y z : Int} (h1 : e[n]? = some (some (cI y, .fz))) (hz : ga e = some (cI z, f)) (k : ∀ v, (h (e.set n (some (cI v, .fz)))).bind M = (T v).map q) : (sSeq (sAug fn n ga) h e).bind M = (bnd (fn y z) T).map q :=
  st_aug h1 (kb hz (asI_k (k _)))
theorem st_aug1o {fn : Int → Int → Int} {y : Int} {t : Option Int} (h1 : e[n]? = some (some (cI y, .fz))) (hz : ga e = t.map (zz cI)) (k : ∀ v, (h (e.set n (some (cI v, .fz)))).bind M = (T v).map q) : (sSeq (sAug fn n ga) h e).bind M = (t.bind fun z => bnd (fn y z) T).map q :=
  st_aug h1 (ko hz fun z => (asI_k (k _)))
theorem kbbp {ρ σ : Type} {o : Option ρ} {r : α → ρ} {x : α} {K : ρ → Option σ} {T : α → β} {q : β → σ} (h : o = some (r x)) (k : ∀ v, K (r v) = (some (T v)).map q) : o.bind K = (some (bnd x T)).map q := by rw [h]; exact k x
theorem st_aug1p {fn : Int → Int → Int} {y z : Int} {T : Int → β} (h1 : e[n]? = some (some (cI y, .fz))) (hz : ga e = some (cI z, f)) (k : ∀ v, (h (e.set n (some (cI v, .fz)))).bind M = (some (T v)).map q) : (sSeq (sAug fn n ga) h e).bind M = (some (bnd (fn y z) T)).map q :=
  st_aug h1 (kb hz (asI_k (k _)))
theorem st_aug1op {fn : Int → Int → Int} {y : Int} {t : Option Int} {T : Int → β} (h1 : e[n]? = some (some (cI y, .fz))) (hz : ga e = t.map (zz cI)) (k : ∀ v, (h (e.set n (some (cI v, .fz)))).bind M = (some (T v)).map q) : (sSeq (sAug fn n ga) h e).bind M = (t.bind fun z => some (bnd (fn y z) T)).map q :=
  st_aug h1 (ko hz fun z => (asI_k (k _)))
theorem st_jnpp {g : GS} {Env : S → En} {x : S} {T : S → β} {q : β → ρ'} (h1 : g e = (some x).map fun s => Out.nx (Env s)) (k : ∀ s, (h (Env s)).bind M = (some (T s)).map q) : (sSeq g h e).bind M = (some (bnd x T)).map q := by
  unfold sSeq; rw [h1]; exact k x
theorem lp_pp {tg : Tg} {body : GS} {ws : List Nat} {Env : S → En} {s0 : S} {xs : List α} {step : S → α → S} {T : S → β} {q : β → ρ'} (h0 : wipeE e ws = Env s0) (hb : ∀ s x, turnM tg body ws (E x) (Env s) = (some (step s x)).map fun s => Out.nx (Env s)) (k : ∀ s, (h (Env s)).bind M = (some (T s)).map q) : ((if false = true then (forGo tg body ws (xs.map E) (lockE (wipeE e ws))).map (unlO (wipeE e ws)) else forGo tg body ws (xs.map E) (wipeE e ws)).bind fun o => (nxt h o).bind M) = (some (bnd (xs.foldl step s0) T)).map q := by
  rw [h0, if_neg Bool.false_ne_true, go_p hb]; exact k _
theorem lpL_pp {tg : Tg} {body : GS} {ws : List Nat} {Env : S → En} {s0 : S} {xs : List α} {step : S → α → S} {T : S → β} {q : β → ρ'} (h0 : lockE (wipeE e ws) = Env s0) (hb : ∀ s x, turnM tg body ws (E x) (Env s) = (some (step s x)).map fun s => Out.nx (Env s)) (k : ∀ s, (h (unlE (wipeE e ws) (Env s))).bind M = (some (T s)).map q) : ((if true = true then (forGo tg body ws (xs.map E) (lockE (wipeE e ws))).map (unlO (wipeE e ws)) else forGo tg body ws (xs.map E) (wipeE e ws)).bind fun o => (nxt h o).bind M) = (some (bnd (xs.foldl step s0) T)).map q := by
  rw [if_pos rfl, h0, go_p hb]; exact k _
/-! _law_like is worth a truth value or nothing -/
def isBo (o : Option RV) : Prop := o = none ∨ ∃ k, o = some (.bool k, .fz)
theorem isBo_some {k : Bool} : isBo (some (.bool k, .fz)) := .inr ⟨k, rfl⟩
theorem bo_bind {τ : Type} {o : Option τ} {K : τ → Option RV} (h : ∀ x, isBo (K x)) : isBo (o.bind K) := by
  cases o with
  | none => exact .inl rfl
  | some x => exact h x
theorem bo_map {τ : Type} {o : Option τ} {K : τ → Bool} : isBo (o.map fun x => (PyData.bool (K x), Fl.fz)) := by
  cases o with
  | none => exact .inl rfl
  | some x => exact isBo_some
theorem bo_and (h1 : isBo (ga e)) (h2 : isBo (gb e)) : isBo (eAnd ga gb e) := by
  show isBo ((ga e).bind fun r => (truD r).bind fun k => if k = true then gb e else some r)
  rcases h1 with h1 | ⟨k, h1⟩
  · rw [h1]; exact .inl rfl
  · rw [h1]; cases k with
    | true => exact h2
    | false => exact isBo_some
theorem bo_not : isBo (eNot ga e) := bo_bind fun _ => bo_map
theorem bo_isi {x : String} : isBo (eIsi x ga e) := by
  refine bo_bind fun r => ?_
  split
  · exact .inl rfl
  · exact bo_map
theorem bo_is {b : Bool} : isBo (e2 (isG b) ga gb e) := by
  refine bo_bind fun x => bo_bind fun y => ?_
  unfold isG
  split
  · exact isBo_some
  · exact isBo_some
  · exact .inl rfl
theorem bo_eq : isBo (e2 eqG ga gb e) := by
  refine bo_bind fun x => bo_bind fun y => ?_
  obtain ⟨d, f⟩ := x
  obtain ⟨d', f'⟩ := y
  show isBo (if okD 9 d && okD 9 d' then some (PyData.bool (PyData.eqv d d'), Fl.fz) else none)
  split
  · exact isBo_some
  · exact .inl rfl
theorem bo_all {t : GA} : isBo (eA (one (boolsG allL)) t e) := by
  refine bo_bind fun rs => ?_
  unfold one
  split
  · unfold boolsG
    split
    · exact bo_map
    · exact .inl rfl
  · exact .inl rfl
theorem bo_ret (h : isBo (ga e)) : isBo ((sRet ga e).bind fnO) := by
  show isBo ((((ga e).bind retV).map Out.rt).bind fnO)
  rcases h with h | ⟨k, h⟩
  · rw [h]; exact .inl rfl
  · rw [h]; exact isBo_some
theorem bo_if {c : GB} {g1 : GS} {h : GS} (h1 : isBo ((g1 e).bind fnO)) (hr : ∀ e', g1 e ≠ some (.nx e')) (h2 : isBo ((h e).bind fnO)) : isBo ((sSeq (sIf c g1 sSkip) h e).bind fnO) := by
  rw [sSeq_ev, sIf_ev]
  cases c e with
  | none => exact .inl rfl
  | some k => cases k with
    | false => exact h2
    | true =>
      show isBo (((g1 e).bind (nxt h)).bind fnO)
      cases e1 : g1 e with
      | none => exact .inl rfl
      | some o => cases o with
        | nx e' => exact absurd e1 (hr e')
        | rt r => rw [e1] at h1; exact h1
        | bk _ => exact .inl rfl
        | ct _ => exact .inl rfl
theorem ret_nx {e' : En} : sRet ga e ≠ some (.nx e') := by
  show ((ga e).bind retV).map Out.rt ≠ _
  cases (ga e).bind retV with
  | none => intro z; cases z
  | some x => intro z; cases z
theorem bo_isint {t : GA} : isBo (eA (fnG 1 1 q_isint) t e) := by
  refine bo_bind fun rs => ?_
  unfold fnG
  split
  · have : ∀ env, isBo ((q_isint env).bind fnO) := fun env => bo_ret (bo_and bo_isi bo_not)
    have h2 := this (rs.map (fun r => some (argF r)) ++ List.replicate (1 - 1) none)
    generalize q_isint (rs.map (fun r => some (argF r)) ++ List.replicate (1 - 1) none) = o at *
    cases o with
    | none => exact .inl rfl
    | some o => cases o <;> exact h2
  · exact .inl rfl
theorem bo_like {self : List RV → Option RV} : isBo ((q_like self (fnG 1 1 q_isint) e).bind fnO) := by
  unfold q_like
  refine bo_if (bo_ret bo_is) (fun _ => ret_nx) ?_
  refine bo_if (bo_ret (bo_and bo_isi bo_eq)) (fun _ => ret_nx) ?_
  refine bo_if ?_ ?_ ?_
  · refine bo_if (bo_ret isBo_some) (fun _ => ret_nx) ?_
    exact bo_ret bo_all
  · intro e'
    rw [sSeq_ev, sIf_ev]
    cases (bOr (bNot (eT (eIsi "tuple" (eVar 0)))) (eB (e2 neG (eA (one lenG) (aCons (eVar 0) aNil)) (eA (one lenG) (aCons (eVar 1) aNil)))) e) with
    | none => intro z; cases z
    | some k => cases k with
      | true => intro z; cases z
      | false => exact ret_nx
  refine bo_if (bo_ret (bo_and bo_isi bo_eq)) (fun _ => ret_nx) ?_
  exact bo_ret (bo_and bo_isint bo_eq)
def q_likeT (a b : D) : Option Bool := (q_r (fun s => q_like s (fnG 1 1 q_isint)) 6 [(a, .fz), (b, .fz)]).bind asB
theorem q_likeB {r : List RV → Option RV} (hr : r = q_r (fun s => q_like s (fnG 1 1 q_isint)) 6) (a b : D) : r [(a, .fz), (b, .fz)] = (q_likeT a b).map (zz cB) := by
  subst hr
  have h : isBo (q_r (fun s => q_like s (fnG 1 1 q_isint)) 6 [(a, .fz), (b, .fz)]) := by
    show isBo (fnG 2 3 (q_like _ (fnG 1 1 q_isint)) [(a, .fz), (b, .fz)])
    rw [fnG_ev (by rfl)]; exact bo_like
  unfold q_likeT
  rcases h with h | ⟨k, h⟩
  · rw [h]; rfl
  · rw [h]; rfl
theorem likeT_same {d : D} (h : plD 5 d = true) : q_likeT d d = some true := by
  unfold q_likeT
  rw [like_same 5 d h]; rfl
end
section
variable {α β : Type}
instance [DecidableEq α] [DecidableEq β] {E : α → D} {F : β → D} [EqC E] [EqC F] : EqC (cO (cP2 E F)) := ⟨fun a b => by
  cases a <;> cases b
  · rfl
  · rfl
  · rfl
  · simp only [cO, EqC.eqv, Option.some.injEq]⟩
end
end Pl

set_option Elab.async false
set_option linter.all false
set_option maxRecDepth 100000
set_option maxHeartbeats 4000000
/-! Pl19: dicts with int keys -/
namespace Pl
open PySem PySem.Spec PyProof.Rows L2
def isK (i : Int) : D → Bool
  | .int j => decide (j = i)
  | _ => false
def isI : D → Bool
  | .int _ => true
  | _ => false
def intK (ds : List (D × D)) : Bool := ds.all fun p => isI p.1
def getI (ds : List (D × D)) (i : Int) : Option D := (ds.find? fun p => isK i p.1).map (·.2)
def putI (ds : List (D × D)) (i : Int) (d : D) : List (D × D) :=
  if (ds.any fun p => isK i p.1) = true then ds.map (fun p => if isK i p.1 = true then (p.1, d) else p) else ds ++ [(.int i, d)]
theorem isK_key {i : Int} {k : Key} : isK i (keyD k) = decide (k = .inl i) := by
  cases k with
  | inl j => simp [keyD, isK]
  | inr x => simp [keyD, isK]
section
variable {K : PySem.W.Frag} {H : Hp}
/-- the keys and the values of a dict at a -/
structure DRel (K : PySem.W.Frag) (H : Hp) (kvs : List (Key × V)) (ds : List (D × D)) (L : List Addr) : Prop where
  ks : ds.map (·.1) = kvs.map (fun p => keyD p.1)
  vs : RpA K H (kvs.map (·.2)) (ds.map (·.2)) L
theorem DRel.uncons {p : Key × V} {q : D × D} {kvs ds L} (h : DRel K H (p :: kvs) (q :: ds) L) : q.1 = keyD p.1 ∧ ∃ L1 L2, Rp K H p.2 q.2 L1 ∧ DRel K H kvs ds L2 ∧ L = L1 ++ L2 := by
  obtain ⟨h1, h2⟩ := h
  simp only [List.map_cons, List.cons.injEq] at h1
  rw [List.map_cons, List.map_cons] at h2
  cases h2 with
  | cons r1 r2 => exact ⟨h1.1, _, _, r1, ⟨h1.2, r2⟩, rfl⟩
theorem DRel.get (i : Int) : ∀ {kvs : List (Key × V)} {ds : List (D × D)} {L : List Addr}, DRel K H kvs ds L → match getI ds i with
    | none => valV kvs (.inl i) = none
    | some d => ∃ v M, valV kvs (.inl i) = some v ∧ Rp K H v d M ∧ ∀ b ∈ M, b ∈ L
  | [], [], _, _ => rfl
  | [], _ :: _, _, h => by have := h.ks; simp at this
  | _ :: _, [], _, h => by have := h.ks; simp at this
  | p :: kvs, q :: ds, L, h => by
    obtain ⟨e, L1, L2, r, hr, rfl⟩ := h.uncons
    have ih := DRel.get i hr
    unfold getI at ih ⊢
    rw [List.find?_cons, e, isK_key]
    by_cases c : p.1 = .inl i
    · rw [decide_eq_true c]
      exact ⟨p.2, L1, valV_pos c, r, fun b hb => List.mem_append_left _ hb⟩
    · rw [decide_eq_false c, valV_neg c]
      cases e2 : (ds.find? fun p => isK i p.1).map (·.2) with
      | none => rw [e2] at ih; simp only [e2]; exact ih
      | some d =>
        rw [e2] at ih
        simp only [e2]
        obtain ⟨v, M, h1, h2, h3⟩ := ih
        exact ⟨v, M, h1, h2, fun b hb => List.mem_append_right _ (h3 b hb)⟩
theorem DRel.any (i : Int) {kvs : List (Key × V)} {ds : List (D × D)} {L : List Addr} (h : DRel K H kvs ds L) : (ds.any fun p => isK i p.1) = kvs.any fun kv => decide (kv.1 = .inl i) := by
  have e1 : (ds.any fun p => isK i p.1) = (ds.map (·.1)).any (isK i) := by rw [List.any_map]; rfl
  rw [e1, h.ks, List.any_map]
  congr 1
  funext p
  exact isK_key
theorem DRel.put (i : Int) {v : V} {d : D} {M : List Addr} {kvs : List (Key × V)} {ds : List (D × D)} {L : List Addr} (h : DRel K H kvs ds L) (r : Rp K H v d M) : ∃ N, DRel K H (putK kvs (.inl i) v) (putI ds i d) N ∧ ∀ b ∈ N, b ∈ L ∨ b ∈ M := by
  unfold putK putI
  rw [h.any i]
  by_cases c : (kvs.any fun kv => decide (kv.1 = .inl i)) = true
  · rw [if_pos c, if_pos c]
    clear c
    have go : ∀ {kvs : List (Key × V)} {ds : List (D × D)} {L : List Addr}, DRel K H kvs ds L → ∃ N, DRel K H (kvs.map fun kv => if kv.1 = .inl i then (kv.1, v) else kv) (ds.map fun p => if isK i p.1 = true then (p.1, d) else p) N ∧ ∀ b ∈ N, b ∈ L ∨ b ∈ M := by
      intro kvs
      induction kvs with
      | nil =>
        intro ds L h
        cases ds with
        | nil => exact ⟨[], ⟨rfl, .nil⟩, by simp⟩
        | cons q ds => have := h.ks; simp at this
      | cons p kvs ih =>
        intro ds L h
        cases ds with
        | nil => have := h.ks; simp at this
        | cons q ds =>
          obtain ⟨e, L1, L2, r1, hr, rfl⟩ := h.uncons
          obtain ⟨N, hN, hm⟩ := ih hr
          rw [List.map_cons, List.map_cons, e, isK_key]
          by_cases c : p.1 = .inl i
          · rw [if_pos c, if_pos (decide_eq_true c)]
            refine ⟨M ++ N, ⟨?_, ?_⟩, fun b hb => ?_⟩
            · simp only [List.map_cons]; rw [hN.ks]
            · simp only [List.map_cons]; exact .cons r hN.vs
            · rcases List.mem_append.mp hb with z | z
              · exact .inr z
              · exact (hm b z).imp (fun y => List.mem_append_right _ y) id
          · rw [if_neg c, if_neg (by rw [decide_eq_false c]; decide)]
            refine ⟨L1 ++ N, ⟨?_, ?_⟩, fun b hb => ?_⟩
            · simp only [List.map_cons]; rw [hN.ks, e]
            · simp only [List.map_cons]; exact .cons r1 hN.vs
            · rcases List.mem_append.mp hb with z | z
              · exact .inl (List.mem_append_left _ z)
              · exact (hm b z).imp (fun y => List.mem_append_right _ y) id
    exact go h
  · rw [if_neg c, if_neg c]
    refine ⟨L ++ M, ⟨?_, ?_⟩, fun b hb => List.mem_append.mp hb⟩
    · rw [List.map_append, List.map_append, h.ks]; rfl
    · rw [List.map_append, List.map_append]
      have := h.vs.append (RpA.cons r .nil)
      simpa using this
theorem intK_not {ds : List (D × D)} {es : List D} (h : intK ds = true) (e : ds.map (·.1) = .none :: es) : False := by
  cases ds with
  | nil => cases e
  | cons q ds =>
    rw [List.map_cons] at e
    have := (List.cons.inj e).1
    unfold intK at h
    rw [List.all_cons, this] at h
    simp [isI] at h
theorem Rp.dict {v : V} {ds : List (D × D)} {L : List Addr} (h : Rp K H v (.dict ds) L) (hk : intK ds = true) : ∃ a kvs M, v = .ref a ∧ Rd H a (.dK kvs) ∧ DRel K H kvs ds M ∧ ∀ b ∈ M, b ∈ L := by
  cases h with
  | dk h1 h2 h3 => exact ⟨_, _, _, rfl, h1, ⟨h2, h3⟩, fun b hb => List.mem_cons_of_mem _ hb⟩
  | dn h1 _ h2 h3 => exact (intK_not hk h2).elim
theorem Res.dict {F : Addr → Prop} {H0 : Hp} {fl : Fl} {v : V} {ds : List (D × D)} (h : Res K F H0 H v (.dict ds, fl)) (hk : intK ds = true) : ∃ a kvs M, v = .ref a ∧ Rd H a (.dK kvs) ∧ DRel K H kvs ds M ∧ ∀ b ∈ M, F b ∨ H0 b = none := by
  cases fl with
  | fz =>
    obtain ⟨L, h1, h2⟩ := h
    obtain ⟨a, kvs, M, e, r, dr, hm⟩ := h1.dict hk
    exact ⟨a, kvs, M, e, r, dr, fun b hb => h2 b (hm b hb)⟩
  | ow =>
    obtain ⟨a, h1, h2, h3⟩ := h
    rcases h3 with ⟨kvs, L, e, k1, k2, k3⟩ | ⟨kvs, L, e, _, k1, k2, k3⟩
    · exact ⟨a, kvs, L, h1, .inl e, ⟨k1, k2⟩, fun b hb => (k3 b hb).1⟩
    · exact (intK_not hk k1).elim
  | bw =>
    obtain ⟨a, h1, h3⟩ := h
    rcases h3 with ⟨kvs, L, e, k1, k2, k3⟩ | ⟨kvs, L, e, _, k1, k2, k3⟩
    · exact ⟨a, kvs, L, h1, .inl e, ⟨k1, k2⟩, k3⟩
    · exact (intK_not hk k1).elim
  | sc => obtain ⟨a, ns, h1, h2, h3⟩ := h; cases h2
theorem DRel.dget {kvs : List (Key × V)} {a : Addr} (h : Rd H a (.dK kvs)) (i : Int) : DGet H a (.int i) (valV kvs (.inl i)) := .inl ⟨kvs, .inl i, h, rfl, rfl⟩
end
section
variable {X : Cx} {x : Str} {p pos apos cpos : Pos} {a b c e ix : Expr} {g gi ga gb gc : GE}
/-- {} -/
def eDict0 : GE := fun _ => some (.dict [], .ow)
theorem ve_dict0 : VE X (.Dict [] [] pos) eDict0 :=
  PE.to pe_dnewK fun σ H Q ⟨F, env, c, ok, e, q⟩ => by
    cases e
    intro p n z
    have s : Same H (upd H p (.dK [])) := fun b o q => by rw [upd_ne (ne_of_none q n)]; exact q
    exact q _ _ s z ⟨p, rfl, n, .inl ⟨[], [], upd_same, rfl, .nil, by simp⟩⟩
/-- d[k] -/
def dgetG : RV → RV → Option RV
  | (.dict ds, _), (.int i, _) => if intK ds = true then match getI ds i with
    | some d => if lf d = true then some (d, .fz) else none
    | none => none
    else none
  | _, _ => none
theorem dgetG_of {r k c : RV} (h : dgetG r k = some c) : ∃ ds f i f' d, r = (.dict ds, f) ∧ k = (.int i, f') ∧ intK ds = true ∧ getI ds i = some d ∧ lf d = true ∧ c = (d, .fz) := by
  unfold dgetG at h
  split at h
  · split at h
    · rename_i ds f i f' hk
      split at h
      · rename_i d e
        split at h
        · rename_i hl
          cases h
          exact ⟨_, _, _, _, d, rfl, rfl, hk, e, hl, rfl⟩
        · cases h
      · cases h
    · cases h
  · cases h
theorem ve_dget (hu : X.A.units + 64 < cLine) (ha : VE X a ga) (hb : VE X b gb) (hs : NoSl b := by intro _ _; rfl) : VE X (.Subscript a b pos) (e2 dgetG ga gb) :=
  PE.to (pe_dget (by omega) ha hb hs) fun σ H Q ⟨F, env, c, ok, e, q⟩ => by
    obtain ⟨r, e1, e'⟩ := bind2 e
    obtain ⟨k, e3, e4⟩ := bind2 e'
    obtain ⟨ds, f, i, f', d, rfl, rfl, hk, hg, hl, rfl⟩ := dgetG_of e4
    refine ⟨F, env, _, ok, e1, fun v1 H1 s1 z1 r1 => ⟨F, env, _, ok.mono s1, e3, fun v2 H2 s2 z2 r2 => ?_⟩⟩
    obtain ⟨a, kvs, M, rfl, rd, dr, hm⟩ := (r1.mono s2).dict hk
    have gg := dr.get i
    rw [hg] at gg
    obtain ⟨v, M', g1, g2, g3⟩ := gg
    refine ⟨a, v, rfl, ?_, fun z => q v H2 (s1.trans s2) z ⟨M', g2, fun b hb => ?_⟩⟩
    · rw [r2.int, ← g1]; exact DRel.dget rd i
    · rw [Rp.lfree d g2 hl] at hb; cases hb
/-- k in d -/
def dinG (neg : Bool) : RV → RV → Option RV
  | (.int i, _), (.dict ds, _) => if intK ds = true then some (.bool (neg != (getI ds i).isSome), .fz) else none
  | _, _ => none
theorem dinG_of {neg : Bool} {r k c : RV} (h : dinG neg k r = some c) : ∃ ds f i f', r = (.dict ds, f) ∧ k = (.int i, f') ∧ intK ds = true ∧ c = (.bool (neg != (getI ds i).isSome), .fz) := by
  unfold dinG at h
  split at h
  · split at h
    · rename_i hk
      cases h
      exact ⟨_, _, _, _, rfl, rfl, hk, rfl⟩
    · cases h
  · cases h
theorem DRel.there {K : PySem.W.Frag} {H : Hp} {kvs : List (Key × V)} {ds : List (D × D)} {L : List Addr} (h : DRel K H kvs ds L) (i : Int) : (valV kvs (.inl i)).isSome = (getI ds i).isSome := by
  have g := h.get i
  cases e : getI ds i with
  | none => rw [e] at g; have g' : valV kvs (.inl i) = none := g; rw [g']; rfl
  | some d => rw [e] at g; obtain ⟨v, M, g1, _⟩ := g; rw [g1]; rfl
theorem ve_din (hu : X.A.units + 64 < cLine) (ha : VE X a ga) (hb : VE X b gb) (h1 : behindInMarks .In b = false := by first | exact nobehind _ (by decide) (by decide) | rfl) : VE X (.Compare a [.In] [b] pos) (e2 (dinG false) ga gb) :=
  PE.to (pe_cmp (pc_din (by omega) ha hb) h1) fun σ H Q ⟨F, env, c, ok, e, q⟩ => by
    obtain ⟨k, e1, e'⟩ := bind2 e
    obtain ⟨r, e3, e4⟩ := bind2 e'
    obtain ⟨ds, f, i, f', rfl, rfl, hk, rfl⟩ := dinG_of e4
    refine ⟨F, env, _, ok, e1, fun v1 H1 s1 z1 r1 => ⟨F, env, _, ok.mono s1, e3, fun v2 H2 s2 z2 r2 => ?_⟩⟩
    obtain ⟨a, kvs, M, rfl, rd, dr, hm⟩ := r2.dict hk
    refine ⟨a, _, rfl, by rw [r1.int]; exact DRel.dget rd i, fun z => q _ H2 (s1.trans s2) z ?_⟩
    rw [dr.there i, Bool.false_bne]
    exact Res.ofBool
theorem ve_dnotin (hu : X.A.units + 64 < cLine) (ha : VE X a ga) (hb : VE X b gb) (h1 : behindInMarks .NotIn b = false := by first | exact nobehind _ (by decide) (by decide) | rfl) : VE X (.Compare a [.NotIn] [b] pos) (e2 (dinG true) ga gb) :=
  PE.to (pe_cmp (pc_dnotin (by omega) ha hb) h1) fun σ H Q ⟨F, env, c, ok, e, q⟩ => by
    obtain ⟨k, e1, e'⟩ := bind2 e
    obtain ⟨r, e3, e4⟩ := bind2 e'
    obtain ⟨ds, f, i, f', rfl, rfl, hk, rfl⟩ := dinG_of e4
    refine ⟨F, env, _, ok, e1, fun v1 H1 s1 z1 r1 => ⟨F, env, _, ok.mono s1, e3, fun v2 H2 s2 z2 r2 => ?_⟩⟩
    obtain ⟨a, kvs, M, rfl, rd, dr, hm⟩ := r2.dict hk
    refine ⟨a, _, rfl, by rw [r1.int]; exact DRel.dget rd i, fun z => q _ H2 (s1.trans s2) z ?_⟩
    rw [dr.there i, Bool.true_bne]
    exact Res.ofBool
theorem vb_din (hu : X.A.units + 64 < cLine) (ha : VE X a ga) (hb : VE X b gb) (h1 : behindInMarks .In b = false := by first | exact nobehind _ (by decide) (by decide) | rfl) : VB X (.Compare a [.In] [b] pos) (eB (e2 (dinG false) ga gb)) :=
  PT.to (pt_cmp (pc_din (by omega) ha hb) h1) fun σ H Q ⟨F, env, c, ok, e, q⟩ => by
    obtain ⟨c', e0, e5⟩ := bind2 e
    obtain ⟨k, e1, e'⟩ := bind2 e0
    obtain ⟨r, e3, e4⟩ := bind2 e'
    obtain ⟨ds, f, i, f', rfl, rfl, hk, rfl⟩ := dinG_of e4
    cases e5
    refine ⟨F, env, _, ok, e1, fun v1 H1 s1 z1 r1 => ⟨F, env, _, ok.mono s1, e3, fun v2 H2 s2 z2 r2 => ?_⟩⟩
    obtain ⟨a, kvs, M, rfl, rd, dr, hm⟩ := r2.dict hk
    refine ⟨a, _, rfl, by rw [r1.int]; exact DRel.dget rd i, _, rfl, fun z => ?_⟩
    have := q H2 (s1.trans s2)
    rw [Bool.false_bne] at this
    rw [dr.there i]
    exact this z
theorem vb_dnotin (hu : X.A.units + 64 < cLine) (ha : VE X a ga) (hb : VE X b gb) (h1 : behindInMarks .NotIn b = false := by first | exact nobehind _ (by decide) (by decide) | rfl) : VB X (.Compare a [.NotIn] [b] pos) (eB (e2 (dinG true) ga gb)) :=
  PT.to (pt_cmp (pc_dnotin (by omega) ha hb) h1) fun σ H Q ⟨F, env, c, ok, e, q⟩ => by
    obtain ⟨c', e0, e5⟩ := bind2 e
    obtain ⟨k, e1, e'⟩ := bind2 e0
    obtain ⟨r, e3, e4⟩ := bind2 e'
    obtain ⟨ds, f, i, f', rfl, rfl, hk, rfl⟩ := dinG_of e4
    cases e5
    refine ⟨F, env, _, ok, e1, fun v1 H1 s1 z1 r1 => ⟨F, env, _, ok.mono s1, e3, fun v2 H2 s2 z2 r2 => ?_⟩⟩
    obtain ⟨a, kvs, M, rfl, rd, dr, hm⟩ := r2.dict hk
    refine ⟨a, _, rfl, by rw [r1.int]; exact DRel.dget rd i, _, rfl, fun z => ?_⟩
    have := q H2 (s1.trans s2)
    rw [Bool.true_bne] at this
    rw [dr.there i]
    exact this z
/-- d.get(k, e) -/
def dgetD (r k z : RV) : Option RV := match r, k with
  | (.dict ds, _), (.int i, _) => if intK ds = true then match getI ds i with
    | some d => if lf d = true then some (d, .fz) else none
    | none => if lf z.1 = true then some (z.1, .fz) else none
    else none
  | _, _ => none
theorem dgetD_of {r k z c : RV} (h : dgetD r k z = some c) : ∃ ds f i f', r = (.dict ds, f) ∧ k = (.int i, f') ∧ intK ds = true ∧ lf c.1 = true ∧ c.2 = .fz ∧ ((getI ds i = some c.1) ∨ (getI ds i = none ∧ c.1 = z.1)) := by
  unfold dgetD at h
  split at h
  · split at h
    · rename_i ds f i f' hk
      split at h
      · rename_i d e
        split at h
        · rename_i hl
          cases h
          exact ⟨_, _, _, _, rfl, rfl, hk, hl, rfl, .inl e⟩
        · cases h
      · rename_i e
        split at h
        · rename_i hl
          cases h
          exact ⟨_, _, _, _, rfl, rfl, hk, hl, rfl, .inr ⟨e, rfl⟩⟩
        · cases h
    · cases h
  · cases h
def eDG (ga gb gc : GE) : GE := fun env => (ga env).bind fun r => (gb env).bind fun k => (gc env).bind fun z => dgetD r k z
/-- a leaf, whatever its flag -/
theorem Res.leaf {K : PySem.W.Frag} {F : Addr → Prop} {H0 H : Hp} {v : V} {d : D} {f : Fl} (h : Res K F H0 H v (d, f)) (hl : lf d = true) : Res K F H0 H v (d, .fz) := by
  cases f with
  | fz => exact h
  | ow =>
    obtain ⟨a, h1, h2, h3⟩ := h
    cases d <;> first | exact h3.elim | simp [lf] at hl
  | bw =>
    obtain ⟨a, h1, h3⟩ := h
    cases d <;> first | exact h3.elim | simp [lf] at hl
  | sc => obtain ⟨a, ns, h1, h2, h3⟩ := h; subst h2; simp [lf] at hl
theorem ve_dget2 (hu : X.A.units + 64 < cLine) (ha : VE X a ga) (hb : VE X b gb) (hc : VE X c gc) (m : M2 X a "get" apos b c cpos := by exact ⟨rfl, rfl, rfl, rfl⟩) : VE X (.Call (.Attribute a "get" apos) [b, c] [] cpos) (eDG ga gb gc) :=
  PE.to (pe_dget2 (by omega) ha hb hc m) fun σ H Q ⟨F, env, c, ok, e, q⟩ => by
    obtain ⟨r, e1, e'⟩ := bind2 e
    obtain ⟨k, e3, e''⟩ := bind2 e'
    obtain ⟨z, e5, e4⟩ := bind2 e''
    obtain ⟨d, fl⟩ := c
    obtain ⟨ds, f, i, f', rfl, rfl, hk, hl, hf, hg⟩ := dgetD_of e4
    simp only at hl hf hg
    subst hf
    refine ⟨F, env, _, ok, e1, fun v1 H1 s1 z1 r1 => ?_⟩
    obtain ⟨a, kvs, M, rfl, rd, dr, hm⟩ := r1.dict hk
    refine ⟨a, rfl, .inl ⟨kvs, rd⟩, F, env, _, ok.mono s1, e3, fun v2 H2 s2 z2 r2 => ⟨F, env, _, ok.mono (s1.trans s2), e5, fun v3 H3 s3 z3 r3 => ?_⟩⟩
    obtain ⟨a', kvs, M, ea, rd, dr, hm⟩ := (r1.mono (s2.trans s3)).dict hk
    cases ea
    refine ⟨_, by rw [r2.int]; exact DRel.dget rd i, fun zz => q _ H3 ((s1.trans s2).trans s3) zz ?_⟩
    have gg := dr.get i
    rcases hg with hg | ⟨hg, hz⟩
    · rw [hg] at gg
      obtain ⟨v, M', g1, g2, g3⟩ := gg
      rw [g1]
      refine ⟨M', g2, fun b hb => ?_⟩
      rw [Rp.lfree d g2 hl] at hb; cases hb
    · rw [hg] at gg
      have gg : valV kvs (.inl i) = none := gg
      rw [gg]
      obtain ⟨zd, zf⟩ := z
      simp only at hz
      subst hz
      exact (r3.back (s1.trans s2)).leaf hl
/-- {k: e} -/
def eDict1 (ga gb : GE) : GE := fun env => (ga env).bind fun k => (gb env).bind fun v => match k with
  | (.int i, _) => if lf v.1 = true then some (.dict [(.int i, v.1)], .ow) else none
  | _ => none
theorem ve_dict1 (ha : VE X a ga) (hb : VE X b gb) : VE X (.Dict [some a] [b] pos) (eDict1 ga gb) :=
  PE.to (pe_disp (pps_cons ha hb pps_nil) rfl rfl (by simp) (by simp)) fun σ H Q ⟨F, env, c, ok, e, q⟩ => by
    obtain ⟨k, e1, e'⟩ := bind2 e
    obtain ⟨z, e3, e4⟩ := bind2 e'
    split at e4
    rotate_left
    · cases e4
    rename_i i f
    split at e4
    rotate_left
    · cases e4
    rename_i hl
    cases e4
    intro p n
    have s0 : Same H (upd H p (.dK [])) := fun b o q => by rw [upd_ne (ne_of_none q n)]; exact q
    refine ⟨F, env, _, ok.mono s0, e1, fun v1 H1 s1 z1 r1 => ⟨F, env, _, ok.mono (s0.trans s1), e3, fun v2 H2 s2 z2 r2 => ?_⟩⟩
    have hp : H2 p = some (.dK []) := s2 _ _ (s1 _ _ upd_same)
    refine ⟨hp, [(.inl i, v2)], by rw [r1.int]; rfl, by simp, fun zz => ?_⟩
    obtain ⟨d, fz⟩ := z
    obtain ⟨L, rp, hL⟩ := r2.leaf hl
    have hL0 := Rp.lfree d rp hl
    subst hL0
    have sq : ∀ b xs, SqT X.K H2 b xs → SqT X.K (upd H2 p (.dK (mergeK [] [(.inl i, v2)]))) b xs := mut_sqt hp trivial
    have s3 : Same H (upd H2 p (.dK (mergeK [] [(.inl i, v2)]))) := fun b o q => by
      rw [upd_ne (ne_of_none q n)]
      exact s2 _ _ (s1 _ _ (s0 _ _ q))
    refine q _ _ s3 zz ⟨p, rfl, n, .inl ⟨[(.inl i, v2)], [], upd_same, rfl, ?_, by simp⟩⟩
    have := RpA.cons (rp.keep sq d fun b hb => by cases hb) .nil
    simpa using this
/-- d[k] = e -/
abbrev mD (env : En) (i : Nat) (f : List (D × D) → Option (List (D × D))) : Option Out := match env[i]? with
  | some (some (.dict ds, .ow)) => (f ds).map fun es => .nx (env.set i (some (.dict es, .ow)))
  | _ => none
theorem mD_of {env : En} {i : Nat} {f : List (D × D) → Option (List (D × D))} {out : Out} (h : mD env i f = some out) : ∃ ds es, env[i]? = some (some (.dict ds, .ow)) ∧ f ds = some es ∧ out = .nx (env.set i (some (.dict es, .ow))) := by
  unfold mD at h
  split at h
  · rename_i ds e
    cases e2 : f ds with
    | none => rw [e2] at h; cases h
    | some es => rw [e2] at h; cases h; exact ⟨ds, es, e, e2, rfl⟩
  · cases h
def sDSet (i : Nat) (gi g : GE) : GS := fun env => (g env).bind fun r => (gi env).bind fun k => (asI k).bind fun k => mD env i fun ds => if plainFl r.2 = true ∧ intK ds = true ∧ ds.length < 16777216 then some (putI ds k r.1) else none
theorem SOk.dic {K : PySem.W.Frag} {B H : Hp} {F0 P F : Addr → Prop} {σ : L2.St} {env : En} {i : Nat} {ds : List (D × D)} (h : SOk K B F0 P F σ H env) (e : env[i]? = some (some (.dict ds, .ow))) (hk : intK ds = true) : ∃ a kvs L, σ[i]? = some (some (.ref a)) ∧ H a = some (.dK kvs) ∧ DRel K H kvs ds L ∧ (∀ b ∈ L, F b) ∧ ¬ F a := by
  obtain ⟨v, ev, a, rfl, nF, ob⟩ := h.ok.slot i _ e
  rcases ob with ⟨kvs, L, h1, h2, h3, h4⟩ | ⟨kvs, L, h1, _, h2, h3, h4⟩
  · exact ⟨a, kvs, L, ev, h1, ⟨h2, h3⟩, h4, nF⟩
  · exact (intK_not hk h2).elim
theorem SOk.dicMut {K : PySem.W.Frag} {B H H1 : Hp} {F0 P F : Addr → Prop} {σ : L2.St} {env : En} {i : Nat} {ds : List (D × D)} {En0 : Ends} (h : SOk K B F0 P F σ H env) (s : Same H H1) (e : env[i]? = some (some (.dict ds, .ow))) (hk : intK ds = true) {es : List (D × D)} (p : Post En0 K B F0 P F σ H env (.nx (env.set i (some (.dict es, .ow))))) :
    ∃ a kvs L, σ[i]? = some (some (.ref a)) ∧ H1 a = some (.dK kvs) ∧ DRel K H1 kvs ds L ∧ (∀ b ∈ L, F b) ∧ ∀ kws M, DRel K H1 kws es M → (∀ b ∈ M, F b ∨ H b = none) → En0.nx σ (upd H1 a (.dK kws)) := by
  obtain ⟨a, kvs, L, e1, e2, ra, hl, nF⟩ := (h.later s).dic e hk
  refine ⟨a, kvs, L, e1, e2, ra, hl, fun kws M rm hm => ?_⟩
  obtain ⟨k1, s1⟩ := h.new s
  have na : ¬ (F a ∨ (H a = none ∧ H1 a ≠ none)) := fun z => z.elim nF fun z => h.ok.ownA (.inl rfl) e e1 z.1
  have hm' : ∀ b ∈ M, F b ∨ (H b = none ∧ H1 b ≠ none) := fun b hb => (hm b hb).imp id fun z => ⟨z, rm.vs.addr b hb⟩
  have ob : Obj1 K (fun b => F b ∨ (H b = none ∧ H1 b ≠ none)) (upd H1 a (.dK kws)) a (.dict es) :=
    .inl ⟨kws, M, upd_same, rm.ks, rm.vs.keep (mut_sqt e2 trivial) _ (fun b hb w q => by rw [upd_ne (fun z => na (by rw [← z]; exact hm' b hb))]; exact q), hm'⟩
  obtain ⟨k2, s2⟩ := k1.mut e e1 ob
  exact p _ _ _ _ k2 (s1.trans s2)
theorem vs_setD (i : Nat) (hu : X.A.units + 64 < cLine) {sp : Pos} (he : VE X e g) (hi : VE X ix gi) (hN : X.N[i]? = some x := by rfl) (hv : Vis X.env.scope x := by first | exact Or.inl rfl | exact Or.inr (Or.inl rfl) | exact Or.inr (Or.inr rfl)) (hd : (x == ("__debug__" : Str)) = false := by decide)
    (hcd : (x == ("__classdict__" : Str)) = false := by decide) (hs : swapsWith e (some (.Subscript (.Name x p) ix sp)) pos.line X.env = pure false := by rfl) : VS X (.Assign [.Subscript (.Name x p) ix sp] e pos) (sDSet i gi g) :=
  PS.to (ps_dput (by omega) (pe_var hN hv hd hcd) hi he hs) fun D σ H ⟨B, F0, P, F, env, out, h, e, p⟩ => by
    obtain ⟨r, e1, e2⟩ := bind2 e
    obtain ⟨k0, e3, e4⟩ := bind2 e2
    obtain ⟨k, e5, e6⟩ := bind2 e4
    obtain ⟨f, rfl⟩ := asI_of e5
    obtain ⟨ds, es, e7, e8, rfl⟩ := mD_of e6
    split at e8
    rotate_left
    · cases e8
    rename_i hp
    cases e8
    obtain ⟨n1, n2⟩ := plain_ne hp.1
    obtain ⟨d, fl⟩ := r
    refine ⟨F, env, _, h.ok, e1, fun v H1 s _ rv => ?_⟩
    obtain ⟨a0, kvs0, L0, f1, f2, _⟩ := h.dic e7 hp.2.1
    refine ⟨_, f1, F, env, _, h.ok.mono s, e3, fun kv H2 s2 _ rk => ?_⟩
    obtain ⟨a, kvs, L, g1, g2, ra, hl, q⟩ := h.dicMut (s.trans s2) e7 hp.2.1 p
    rw [f1] at g1
    cases g1
    obtain ⟨M, rm, hm⟩ := (rv.mono s2).frz n1 n2
    obtain ⟨N, rn, hn⟩ := ra.put k rm
    have kl : kvs.length < sizeLine := by
      have := congrArg List.length ra.ks
      rw [List.length_map, List.length_map] at this
      rw [sizeLine_eq, ← this]; exact hp.2.2
    exact ⟨_, _, rfl, by rw [rk.int]; exact DPut.k (k := .inl k) g2 kl, q _ _ rn fun b hb => (hn b hb).elim (fun z => .inl (hl b z)) (hm b)⟩
end
end Pl

set_option Elab.async false
set_option linter.all false
set_option maxRecDepth 100000
set_option maxHeartbeats 4000000
/-! Pl20: walks over the keys of a dict; it is locked meanwhile -/
namespace Pl
open PySem PySem.Spec PyProof.Rows L2
/-- alike but for the lock of the dict at a -/
structure Sw (a : Addr) (kvs : List (Key × V)) (H H' : Hp) : Prop where
  o : ∀ b, b ≠ a → H' b = H b
  l : Rd H a (.dK kvs)
  r : Rd H' a (.dK kvs)
section
variable {K : PySem.W.Frag} {H H' B B' : Hp} {a a2 : Addr} {kvs : List (Key × V)} {F F0 P G : Addr → Prop} {σ : L2.St} {env : En} {v : V} {d : D} {r : RV}
theorem Sw.symm (s : Sw a kvs H H') : Sw a kvs H' H := ⟨fun b n => (s.o b n).symm, s.r, s.l⟩
theorem Rd.two {u w : HO} (h : Rd H a u) (k : Rd H a w) (hu : ∀ o x, u ≠ .frz o x) (hw : ∀ o x, w ≠ .frz o x) : u = w := by
  rcases h with h | ⟨o, h⟩ <;> rcases k with k | ⟨o', k⟩ <;> rw [h] at k <;> cases k
  · rfl
  · exact absurd rfl (hu _ _)
  · exact absurd rfl (hw _ _)
  · rfl
theorem Sw.none (s : Sw a kvs H H') (b : Addr) : H' b = none ↔ H b = none := by
  by_cases c : b = a
  · subst c
    have h1 : H b ≠ Option.none := by rcases s.l with h | ⟨_, h⟩ <;> rw [h] <;> exact fun z => nomatch z
    have h2 : H' b ≠ Option.none := by rcases s.r with h | ⟨_, h⟩ <;> rw [h] <;> exact fun z => nomatch z
    exact ⟨fun z => absurd z h2, fun z => absurd z h1⟩
  · rw [s.o b c]
theorem Sw.rd (s : Sw a kvs H H') {b : Addr} {u : HO} (hu : ∀ o x, u ≠ .frz o x) (h : Rd H b u) : Rd H' b u := by
  by_cases c : b = a
  · subst c
    rw [Rd.two h s.l hu (fun _ _ z => nomatch z)]; exact s.r
  · unfold Rd
    rw [s.o b c]; exact h
theorem Sw.sqt (s : Sw a kvs H H') (b : Addr) (xs : List V) (h : SqT K H b xs) : SqT K H' b xs := h.imp (s.rd fun _ _ z => nomatch z) id
theorem Sw.ne (s : Sw a kvs H H') {b : Addr} {vs : List V} (h : H b = some (.lst vs)) : b ≠ a := by
  rintro rfl
  have := Rd.two (.inl h) s.l (fun _ _ z => nomatch z) (fun _ _ z => nomatch z)
  cases this
mutual
theorem Rp.sw0 (s : Sw a kvs H H') : ∀ (d : D) {v : V} {L : List Addr}, Rp K H v d L → Rp K H' v d L
  | .none, _, _, h => by cases h; exact .non
  | .bool b, _, _, h => by cases h; exact .bl _
  | .int b, _, _, h => by cases h; exact .int _
  | .str b, _, _, h => by cases h; exact .str _
  | .list ds, _, _, h => by
    cases h with
    | lst h1 h2 => exact .lst (by rw [s.o _ (s.ne h1)]; exact h1) (RpA.sw0 s ds h2)
  | .tuple ds, _, _, h => by
    cases h with
    | tup h1 h2 => exact .tup (s.sqt _ _ h1) (RpA.sw0 s ds h2)
  | .dict ds, _, _, h => by
    cases h with
    | dk h1 h2 h3 => exact .dk (s.rd (fun _ _ z => nomatch z) h1) h2 (RpP.sw0 s ds h3)
    | dn h1 hk h2 h3 => exact .dn (s.rd (fun _ _ z => nomatch z) h1) (hk.keep s.sqt) h2 (RpP.sw0 s ds h3)
theorem RpA.sw0 (s : Sw a kvs H H') : ∀ (ds : List D) {vs : List V} {L : List Addr}, RpA K H vs ds L → RpA K H' vs ds L
  | [], _, _, h => by cases h; exact .nil
  | d :: ds, _, _, h => by
    cases h with
    | cons h1 h2 => exact .cons (Rp.sw0 s d h1) (RpA.sw0 s ds h2)
theorem RpP.sw0 (s : Sw a kvs H H') : ∀ (ds : List (D × D)) {vs : List V} {L : List Addr}, RpA K H vs (ds.map (·.2)) L → RpA K H' vs (ds.map (·.2)) L
  | [], _, _, h => by cases h; exact .nil
  | (_, d) :: ds, _, _, h => by
    cases h with
    | cons h1 h2 => exact .cons (Rp.sw0 s d h1) (RpP.sw0 s ds h2)
end
theorem Rp.sw (s : Sw a kvs H H') {L : List Addr} (h : Rp K H v d L) : Rp K H' v d L := Rp.sw0 s d h
theorem RpA.sw (s : Sw a kvs H H') {vs : List V} {ds : List D} {L : List Addr} (h : RpA K H vs ds L) : RpA K H' vs ds L := RpA.sw0 s ds h
theorem Obj1.sw (s : Sw a kvs H H') (n : a2 ≠ a) (h : Obj1 K G H a2 d) : Obj1 K G H' a2 d := by
  cases d with
  | list ds => obtain ⟨vs, L, h1, h2, h3⟩ := h; exact ⟨vs, L, by rw [s.o _ n]; exact h1, h2.sw s, h3⟩
  | dict ds =>
    rcases h with ⟨vs, L, h1, h2, h3, h4⟩ | ⟨vs, L, h1, hk, h2, h3, h4⟩
    · exact .inl ⟨vs, L, by rw [s.o _ n]; exact h1, h2, h3.sw s, h4⟩
    · exact .inr ⟨vs, L, by rw [s.o _ n]; exact h1, hk.keep s.sqt, h2, h3.sw s, h4⟩
  | _ => exact h
theorem ScOk.sw (s : Sw a kvs H H') (h : ScOk K H v d) : ScOk K H' v d := by
  obtain ⟨b, ns, h1, h2, h3⟩ := h
  refine ⟨b, ns, h1, h2, h3.imp (fun ⟨o, q⟩ => ⟨o, ?_⟩) id⟩
  have n : b ≠ a := by
    rintro rfl
    have := Rd.two (.inr ⟨o, q⟩) s.l (fun _ _ z => nomatch z) (fun _ _ z => nomatch z)
    cases this
  rw [s.o _ n]; exact q
/-- no borrowed value at a -/
def NoB (a : Addr) (σ : L2.St) (env : En) : Prop := ∀ (i : Nat) (d : D), env[i]? = some (some (d, .bw)) → σ[i]? = some (some (.ref a)) → False
theorem Ok.sw (h : Ok K F σ H env) (s : Sw a kvs H H') (fa : F a) (nb : NoB a σ env) : Ok K F σ H' env := by
  refine ⟨h.len, fun b z => fun q => h.dom b z ((s.none b).mp q), fun i r e => ?_, h.sep⟩
  obtain ⟨v, e1, sl⟩ := h.slot i r e
  refine ⟨v, e1, ?_⟩
  obtain ⟨d, fl⟩ := r
  cases fl with
  | fz => obtain ⟨L, h1, h2⟩ := sl; exact ⟨L, h1.sw s, h2⟩
  | ow => obtain ⟨b, rfl, h1, h2⟩ := sl; exact ⟨b, rfl, h1, h2.sw s fun z => h1 (z ▸ fa)⟩
  | bw => obtain ⟨b, rfl, h2⟩ := sl; exact ⟨b, rfl, h2.sw s fun z => nb i d e (z ▸ e1)⟩
  | sc => exact ScOk.sw s sl
theorem SOk.sw (h : SOk K B F0 P F σ H env) (s : Sw a kvs H H') (fa : F a) (nb : NoB a σ env) {F1 : Addr → Prop} (hB : Same B' H') (hfr : ∀ b, F b → F1 b ∨ B' b = none) (hBP : ∀ b, B' b ≠ none → P b) : SOk K B' F1 P F σ H' env :=
  ⟨h.ok.sw s fa nb, hB, hfr, h.FP, hBP, fun b z q => h.Pd b z ((s.none b).mp q), h.ow, h.bw⟩
/-- a locked dict is nobody's own -/
theorem Obj1.nolock {o : Obj} (e : H a = some (.frz o (.dK kvs))) (h : Obj1 K G H a d) : False := by
  cases d with
  | list ds => obtain ⟨vs, L, h1, _⟩ := h; rw [e] at h1; cases h1
  | dict ds => rcases h with ⟨vs, L, h1, _⟩ | ⟨vs, L, h1, _⟩ <;> rw [e] at h1 <;> cases h1
  | _ => exact h
theorem Res.sw (s : Sw a kvs H H') {o : Obj} (e : H a = some (.frz o (.dK kvs))) {F1 : Addr → Prop} (hG : ∀ b, (F1 b ∨ B b = none) → F0 b ∨ B' b = none) (hN : ∀ b, B b = none → b ≠ a → B' b = none) (h : Res K F1 B H v r) : Res K F0 B' H' v r := by
  obtain ⟨d, fl⟩ := r
  cases fl with
  | fz => obtain ⟨L, h1, h2⟩ := h; exact ⟨L, h1.sw s, fun b hb => hG b (h2 b hb)⟩
  | ow =>
    obtain ⟨b, rfl, h1, h2⟩ := h
    have n : b ≠ a := by rintro rfl; exact h2.nolock e
    exact ⟨b, rfl, hN b h1 n, (h2.sw s n).imp fun c z => ⟨hG c z.1, z.2⟩⟩
  | bw =>
    obtain ⟨b, rfl, h2⟩ := h
    have n : b ≠ a := by rintro rfl; exact h2.nolock e
    exact ⟨b, rfl, (h2.sw s n).imp fun c z => hG c z⟩
  | sc => exact ScOk.sw s h
theorem SOk.noB {o : Obj} (h : Ok K F σ H env) (e : H a = some (.frz o (.dK kvs))) : NoB a σ env := fun i d e1 e2 => by
  obtain ⟨v, e3, b, rfl, ob⟩ := h.slot i _ e1
  rw [e2] at e3
  cases e3
  exact ob.nolock e
def isDc : D → Bool
  | .dict _ => true
  | _ => false
def noBwS : Slot → Bool
  | some (d, .bw) => !isDc d
  | _ => true
theorem noB_of (h : Ok K F σ H env) (l : Rd H a (.dK kvs)) (hb : env.all noBwS = true) : NoB a σ env := fun i d e1 e2 => by
  obtain ⟨v, e3, b, rfl, ob⟩ := h.slot i _ e1
  rw [e2] at e3
  cases e3
  rw [List.all_eq_true] at hb
  have := hb _ (List.mem_of_getElem? e1)
  cases d with
  | dict ds => cases this
  | list ds =>
    obtain ⟨vs, L, h1, _⟩ := ob
    have := Rd.two (.inl h1) l (fun _ _ z => nomatch z) (fun _ _ z => nomatch z)
    cases this
  | _ => exact ob
end
def sForD (ws : List Nat) (tg : Tg) (i : Nat) (body : GS) : GS := fun env => match env[i]? with
  | some (some (.dict ds, .fz)) => if intK ds = true ∧ env.all noBwS = true then forGo tg body ws (ds.map (·.1)) (wipeE env ws) else none
  | _ => none
theorem sForD_of {ws : List Nat} {tg : Tg} {i : Nat} {body : GS} {env : En} {out : Out} (h : sForD ws tg i body env = some out) : ∃ ds, env[i]? = some (some (.dict ds, .fz)) ∧ intK ds = true ∧ env.all noBwS = true ∧ forGo tg body ws (ds.map (·.1)) (wipeE env ws) = some out := by
  unfold sForD at h
  split at h
  · split at h
    · rename_i ds e c; exact ⟨ds, e, c.1, c.2, h⟩
    · cases h
  · cases h
theorem PS.or {X : Cx} {st : Stmt} {t t' : TS} (h : PS X st t) (h' : PS X st t') : PS X st (fun D σ H => t D σ H ∨ t' D σ H) :=
  ⟨fun pins s σ H D I w => w.elim (h.run pins s σ H D I) (h'.run pins s σ H D I)⟩
/-- walking the keys of the locked dict -/
theorem wk_keys {K : PySem.W.Frag} {S G : Addr → Prop} {H : Hp} {a : Addr} {o : Obj} {kvs : List (Key × V)} {ds : List (D × D)} (e : H a = some (.frz o (.dK kvs))) (ks : ds.map (·.1) = kvs.map (fun p => keyD p.1)) : Wk K S H (Itk a o kvs) (ds.map (·.1)) G := fun H2 kp => by
  have e2 : H2 a = some (.frz o (.dK kvs)) := kp a _ e (.inr fun z => z)
  have hl : (ds.map (·.1)).length = kvs.length := by rw [ks, List.length_map]
  refine ⟨fun i x hx => ?_, e2, by rw [hl]; exact Nat.le_refl _⟩
  have hi : i < kvs.length := by rw [← hl]; exact (List.getElem?_eq_some_iff.mp hx).1
  refine ⟨⟨e2, hi⟩, fun v H3 y => ?_⟩
  obtain ⟨rfl, k, w, e3, rfl⟩ := y
  refine ⟨Same.refl _, [], ?_, by simp⟩
  rw [ks, List.getElem?_map, e3] at hx
  cases hx
  cases k with
  | inl j => exact .int j
  | inr x => exact .str x
section
variable {X : Cx} {pos p : Pos} {b : List Stmt} {gb : GS} {x : Str}
theorem vs_forD (ws : List Nat) (i : Nat) {tge : Expr} {tg : Tg} (hp : PassesOwn (model X.prog X.w) X.A X.env X.xe) (hc : X.calm = true) (hg : VG X tge tg) (hb : VSs X b gb)
    (hN : X.N[i]? = some x := by rfl) (hv : Vis X.env.scope x := by first | exact Or.inl rfl | exact Or.inr (Or.inl rfl) | exact Or.inr (Or.inr rfl)) (hd : (x == ("__debug__" : Str)) = false := by decide)
    (hcd : (x == ("__classdict__" : Str)) = false := by decide) (hs : ∀ y, foldedSetIterable (.Name x p) X.env y = pure y := by intro _; rfl) : VS X (.For tge (.Name x p) b [] pos) (sForD ws tg i gb) := by
  have base := ps_for hp hc (pi_keys (pe_var hN hv hd hcd)) hg hb hs (pos := pos)
  refine PS.to (PS.or base (ps_lock base)) fun D σ H ⟨B, F0, P, F, env, out, h, e, p⟩ => ?_
  obtain ⟨ds, e1, hk, nb, e2⟩ := sForD_of e
  obtain ⟨v, e3, L, rp, hL⟩ := h.ok.slot i _ e1
  cases rp with
  | dn h1 _ h2 h3 => exact (intK_not hk h2).elim
  | @dk a kvs _ L' rd ks vs =>
    have fa : F a := hL a List.mem_cons_self
    rcases rd with u | ⟨o, u⟩
    · refine .inr ⟨a, _, u, trivial, fun od => ?_⟩
      have sw : Sw a kvs H (upd H a (.frz od (.dK kvs))) := ⟨fun b n => upd_ne n, .inl u, .inr ⟨od, upd_same⟩⟩
      have hB : Same (upd B a (.frz od (.dK kvs))) (upd H a (.frz od (.dK kvs))) := fun b w q => by
        by_cases c : b = a
        · subst c
          rw [upd_same] at q ⊢; exact q
        · rw [upd_ne c] at q ⊢; exact h.sB _ _ q
      have h1 : SOk X.K (upd B a (.frz od (.dK kvs))) (fun b => F0 b ∨ b = a) P F σ (upd H a (.frz od (.dK kvs))) env := h.sw sw fa (noB_of h.ok (.inl u) nb) hB (fun b z => by
        by_cases c : b = a
        · exact .inl (.inr c)
        · rw [upd_ne c]; exact (h.fr b z).imp .inl id) fun b z => by
        by_cases c : b = a
        · rw [c]; exact h.FP a fa
        · rw [upd_ne c] at z; exact h.BP b z
      obtain ⟨h2, t2⟩ := h1.forget ws
      refine ⟨.ref a, e3, a, od, rfl, .inl ⟨kvs, upd_same, ?_⟩⟩
      refine for_reads h2 (wk_keys upd_same ks) e2 ?_
      have back : ∀ b, ((F0 b ∨ b = a) ∨ (upd B a (.frz od (.dK kvs)) : Hp) b = none) → F0 b ∨ B b = none := fun b z => by
        by_cases c : b = a
        · rw [c]; exact h.fr a fa
        · rw [upd_ne c] at z
          rcases z with (z | z) | z
          · exact .inl z
          · exact absurd z c
          · exact .inr z
      have fin : ∀ P' F' σ' H' e', SOk X.K (upd B a (.frz od (.dK kvs))) (fun b => F0 b ∨ b = a) P' F' σ' H' e' → Stp P F σ (upd H a (.frz od (.dK kvs))) (wipeE env ws) P' F' σ' H' e' → H' a = some (.frz od (.dK kvs)) ∧ SOk X.K B F0 P' F' σ' (upd H' a (.dK kvs)) e' ∧ Stp P F σ H env P' F' σ' (upd H' a (.dK kvs)) e' := fun P' F' σ' H' e' k s => by
        have ea : H' a = some (.frz od (.dK kvs)) := s.kp a _ upd_same (.inr fun z => z)
        have sw2 : Sw a kvs H' (upd H' a (.dK kvs)) := ⟨fun b n => upd_ne n, .inr ⟨od, ea⟩, .inl upd_same⟩
        have st := t2.trans s
        refine ⟨ea, k.sw sw2 (s.pF a fa) (SOk.noB k.ok ea) (fun b w q => ?_) (fun b z => ?_) fun b z => st.pP b (h.BP b z), ?_⟩
        · by_cases c : b = a
          · subst c
            have := h.sB _ _ q
            rw [u] at this
            rw [upd_same]; exact this
          · rw [upd_ne c]
            exact k.sB b w (by rw [upd_ne c]; exact q)
        · exact back b (k.fr b z)
        · refine ⟨st.pP, st.pF, fun b w q m => ?_, fun b z q => ?_, fun b z => (st.nw b z).imp id fun z => z.imp (fun q => (sw.none b).mp q) id, st.bw, st.ln⟩
          · by_cases c : b = a
            · subst c
              rw [u] at q
              rw [upd_same]; exact q
            · rw [upd_ne c]
              exact st.kp b w (by rw [upd_ne c]; exact q) m
          · have := (sw2.none b).mp q
            exact st.dom b (fun z' => z ((sw.none b).mp z')) this
      cases out with
      | nx e4 =>
        intro P' F' σ' H' k s
        obtain ⟨f1, f2, f3⟩ := fin P' F' σ' H' e4 k s
        exact ⟨f1, p P' F' σ' _ f2 f3⟩
      | rt r =>
        intro v H' sB rr
        have ea : H' a = some (.frz od (.dK kvs)) := sB _ _ upd_same
        have sw2 : Sw a kvs H' (upd H' a (.dK kvs)) := ⟨fun b n => upd_ne n, .inr ⟨od, ea⟩, .inl upd_same⟩
        refine ⟨ea, p v _ (fun b w q => ?_) (Res.sw sw2 ea back (fun b q n => by rw [upd_ne n] at q; exact q) rr)⟩
        by_cases c : b = a
        · subst c
          have := h.sB _ _ q
          rw [u] at this
          rw [upd_same]; exact this
        · rw [upd_ne c]
          exact sB b w (by rw [upd_ne c]; exact q)
      | bk e4 => exact absurd e2 (forGo_no _ _ e4).1
      | ct e4 => exact absurd e2 (forGo_no _ _ e4).2
    · refine .inl ⟨.ref a, e3, a, o, rfl, .inl ⟨kvs, u, ?_⟩⟩
      obtain ⟨h2, t2⟩ := h.forget ws
      exact for_reads h2 (wk_keys u ks) e2 (p.step t2)
end
end Pl

set_option Elab.async false
set_option linter.all false
set_option maxRecDepth 100000
set_option maxHeartbeats 4000000
/-! Pl21: a list made of a dict's keys -/
namespace Pl
open PySem PySem.Spec PyProof.Rows L2
theorem lc_readsW {K : PySem.W.Frag} {F : Addr → Prop} {σ : L2.St} {H : Hp} {Q : VK} {env : En} {own : List Nat} {tg : Tg} {tt : GB} {te : GE} {xs ys : List D} {wi : TI} (ok : Ok K F σ H env) (hv : ∀ i ∈ tg.vars, i ∈ own) (e2 : lcGo (lcF own tg tt te env) xs = some ys) (hx : xs.length ≤ sizeLine)
    (hw : ∀ R : It → Hp → Prop, (∀ J, Wk K (fun b => H b ≠ none) H J xs F → R J H) → wi σ H R) (q : ∀ v H', Same H H' → Res K F H H' v (.list ys, .ow) → Q v H') : tLc wi (TG' K tg) (TB' K tt) (TE' K te) own σ H Q := by
  refine hw _ fun J wk D nD => ?_
  refine ⟨fun i m H2 => m = xs.length - i ∧ i ≤ xs.length ∧ ∃ zs, lcGo (lcF own tg tt te env) (xs.take i) = some zs ∧ LcI K F H H D zs i H2, ⟨_, rfl, Nat.zero_le _, [], rfl, LcI.start nD⟩, ?_⟩
  rintro i m H2 ⟨rfl, hi, zs, ez, inv⟩
  obtain ⟨w1, w2⟩ := wk H2 (Same.kp inv.same)
  by_cases hlt : i < xs.length
  · obtain ⟨go, wy⟩ := w1 i xs[i] (List.getElem?_eq_getElem hlt)
    obtain ⟨zs', o, ez', eo, en⟩ := lcGo_get e2 (List.getElem?_eq_getElem hlt)
    rw [ez] at ez'
    cases ez'
    refine .inr ⟨go, fun H' => LcI K F H H D (zs ++ o.toList) (i + 1) H', fun H' p => ⟨xs.length - (i + 1), by omega, rfl, hlt, _, en, p⟩, fun v H3 y => ?_⟩
    obtain ⟨s3, L, rv, hl⟩ := wy v H3 y
    have okc := (ok.wipe own).mono inv.same
    have hF : ∀ b, F b → (F b ∨ H b = none) ∧ b ≠ D := fun b z => ⟨.inl z, fun w => ok.dom b z (by rw [w]; exact nD)⟩
    have t := turn_core (Nx := fun H' => LcI K F H H D (zs ++ o.toList) (i + 1) H') okc hF (Same.refl H) nD inv s3 rv hl hv (fun _ => Nat.lt_of_lt_of_le hlt hx) eo fun H' _ p => p
    rwa [wipe_wipe] at t
  · have ei : i = xs.length := by omega
    subst ei
    refine .inl ⟨w2, q _ H2 inv.same ?_⟩
    rw [List.take_length, e2] at ez
    cases ez
    obtain ⟨acc, L, eD, _, ra, hb⟩ := inv.acc
    exact ⟨D, rfl, nD, acc, L, eD, ra, hb⟩
def eLcD (own : List Nat) (tg : Tg) (i : Nat) (tt : GB) (te : GE) : GE := fun env => match env[i]? with
  | some (some (.dict ds, .fz)) => if intK ds = true ∧ env.all noBwS = true ∧ ds.length ≤ 16777216 then (lcGo (lcF own tg tt te env) (ds.map (·.1))).map fun ys => (.list ys, .ow) else none
  | _ => none
theorem eLcD_of {own : List Nat} {tg : Tg} {i : Nat} {tt : GB} {te : GE} {env : En} {r : RV} (h : eLcD own tg i tt te env = some r) : ∃ ds ys, env[i]? = some (some (.dict ds, .fz)) ∧ intK ds = true ∧ env.all noBwS = true ∧ ds.length ≤ 16777216 ∧ lcGo (lcF own tg tt te env) (ds.map (·.1)) = some ys ∧ r = (.list ys, .ow) := by
  unfold eLcD at h
  split at h
  · split at h
    · rename_i ds e c
      cases e2 : lcGo (lcF own tg tt te env) (ds.map (·.1)) with
      | none => rw [e2] at h; cases h
      | some ys => rw [e2] at h; cases h; exact ⟨ds, ys, e, c.1, c.2.1, c.2.2, e2, rfl⟩
    · cases h
  · cases h
theorem PE.or {X : Cx} {e : Expr} {t t' : TE} (h : PE X e t) (h' : PE X e t') : PE X e (fun σ H Q => t σ H Q ∨ t' σ H Q) :=
  ⟨fun pins s σ H Q I w => w.elim (h.run pins s σ H Q I) (h'.run pins s σ H Q I)⟩
section
variable {X : Cx} {elt tge : Expr} {ifs : List Expr} {scope : Scope} {own : List (Str × Nat)} {pos p : Pos} {tg : Tg} {tt : GB} {te : GE} {x : Str}
theorem ve_lcD (i : Nat) (hc : X.calm = true) (hNd : X.N.Nodup) (ok : BlkOk X.N X.env.scope scope own) (hvs : memAll tg.vars (own.map (·.2)) = true)
    (hg : Blk X scope fun Y => VG Y tge tg) (ht : Blk X scope fun Y => VTs Y ifs tt) (he : Blk X scope fun Y => VE Y elt te)
    (hN : X.N[i]? = some x := by rfl) (hv : Vis X.env.scope x := by first | exact Or.inl rfl | exact Or.inr (Or.inl rfl) | exact Or.inr (Or.inr rfl)) (hd : (x == ("__debug__" : Str)) = false := by decide)
    (hcd : (x == ("__classdict__" : Str)) = false := by decide) (hs : ∀ y, foldedSetIterable (.Name x p) X.env y = pure y := by intro _; rfl) :
    VE X (.ListComp elt [⟨tge, .Name x p, ifs, 0⟩] scope pos) (eLcD (own.map (·.2)) tg i tt te) := by
  have base := pe_lc (pos := pos) (g := TG' X.K tg) (tt := TB' X.K tt) (te := TE' X.K te) hc hNd (pi_keys (pe_var hN hv hd hcd)) ok (fun s H C cl fp => hg s H C cl fp) (fun s H C cl fp => ht s H C cl fp) (fun s H C cl fp => he s H C cl fp) hs
  refine PE.to (PE.or base (pe_lock base)) fun σ H Q ⟨F, env, r, okE, e, q⟩ => ?_
  obtain ⟨ds, ys, e1, hk, nb, hl, e2, rfl⟩ := eLcD_of e
  obtain ⟨v, e3, L, rp, hL⟩ := okE.slot i _ e1
  have hx : (ds.map (·.1)).length ≤ sizeLine := by rw [List.length_map, sizeLine_eq]; exact hl
  cases rp with
  | dn h1 _ h2 h3 => exact (intK_not hk h2).elim
  | @dk a kvs _ L' rd ks vs =>
    have fa : F a := hL a List.mem_cons_self
    rcases rd with u | ⟨o, u⟩
    · refine .inr ⟨a, _, u, trivial, fun od => ?_⟩
      have sw : Sw a kvs H (upd H a (.frz od (.dK kvs))) := ⟨fun b n => upd_ne n, .inl u, .inr ⟨od, upd_same⟩⟩
      have ok1 := okE.sw sw fa (noB_of okE (.inl u) nb)
      refine lc_readsW ok1 (memAll_of hvs) e2 hx (fun R hR => ⟨.ref a, e3, a, od, rfl, .inl ⟨kvs, upd_same, hR _ (wk_keys upd_same ks)⟩⟩) fun v H' s rr => ?_
      have ea : H' a = some (.frz od (.dK kvs)) := s _ _ upd_same
      have sw2 : Sw a kvs H' (upd H' a (.dK kvs)) := ⟨fun b n => upd_ne n, .inr ⟨od, ea⟩, .inl upd_same⟩
      refine ⟨ea, fun zz => q v _ (fun b w z => ?_) zz (Res.sw sw2 ea (fun b z => z.imp id (sw.none b).mp) (fun b z _ => (sw.none b).mp z) rr)⟩
      by_cases c : b = a
      · subst c
        rw [u] at z
        rw [upd_same]; exact z
      · rw [upd_ne c]
        exact s _ _ (by rw [upd_ne c]; exact z)
    · refine .inl (lc_readsW okE (memAll_of hvs) e2 hx (fun R hR => ⟨.ref a, e3, a, o, rfl, .inl ⟨kvs, u, hR _ (wk_keys u ks)⟩⟩) fun v H' s rr zz => q v H' s zz rr)
end
end Pl

set_option Elab.async false
set_option linter.all false
set_option maxRecDepth 100000
set_option maxHeartbeats 4000000
/-! Ty6: typed dicts with int keys -/
namespace Pl
open PySem L2
section
variable {α : Type} {E : α → D} {f f' f'' : Fl} {e : En}
def eK (E : α → D) (p : Int × α) : D × D := (.int p.1, E p.2)
def cK (E : α → D) : List (Int × α) → D := fun kvs => .dict (kvs.map (eK E))
def getT (kvs : List (Int × α)) (i : Int) : Option α := (kvs.find? fun p => decide (p.1 = i)).map (·.2)
def putT (kvs : List (Int × α)) (i : Int) (a : α) : List (Int × α) := if (kvs.any fun p => decide (p.1 = i)) = true then kvs.map (fun p => if p.1 = i then (p.1, a) else p) else kvs ++ [(i, a)]
theorem intK_c (kvs : List (Int × α)) : intK (kvs.map (eK E)) = true := by
  unfold intK
  rw [List.all_map, List.all_eq_true]
  intro p _; rfl
theorem getI_c (i : Int) : ∀ kvs : List (Int × α), getI (kvs.map (eK E)) i = (getT kvs i).map E
  | [] => rfl
  | p :: kvs => by
    have ih := getI_c i kvs
    unfold getI getT at ih ⊢
    rw [List.map_cons, List.find?_cons, List.find?_cons]
    show (match decide (p.1 = i) with | true => _ | false => _ : Option (D × D)).map _ = _
    cases decide (p.1 = i) with
    | true => rfl
    | false => exact ih
theorem putI_c (i : Int) (a : α) (kvs : List (Int × α)) : putI (kvs.map (eK E)) i (E a) = (putT kvs i a).map (eK E) := by
  unfold putI putT
  have e1 : ((kvs.map (eK E)).any fun p => isK i p.1) = kvs.any fun p => decide (p.1 = i) := by rw [List.any_map]; rfl
  rw [e1]
  by_cases c : (kvs.any fun p => decide (p.1 = i)) = true
  · rw [if_pos c, if_pos c, List.map_map, List.map_map]
    apply List.map_congr_left
    intro p _
    show (if decide (p.1 = i) = true then ((eK E p).1, E a) else eK E p) = eK E (if p.1 = i then (p.1, a) else p)
    by_cases d : p.1 = i
    · rw [if_pos (decide_eq_true d), if_pos d]; rfl
    · rw [if_neg (by simpa using d), if_neg d]
  · rw [if_neg c, if_neg c, List.map_append]; rfl
theorem putT_len (kvs : List (Int × α)) (i : Int) (a : α) : (putT kvs i a).length ≤ kvs.length + 1 := by
  unfold putT
  split
  · rw [List.length_map]; omega
  · simp
variable [LfC E]
theorem dget_l {kvs : List (Int × α)} {i : Int} : dgetG (cK E kvs, f) (cI i, f') = (getT kvs i).map (zz E) := by
  show (if intK (kvs.map (eK E)) = true then _ else _) = _
  rw [if_pos (intK_c kvs), getI_c]
  cases getT kvs i with
  | none => rfl
  | some a =>
    show (if lf (E a) = true then some (E a, Fl.fz) else none) = _
    rw [if_pos (LfC.lf a)]; rfl
omit [LfC E] in
theorem din_l {neg : Bool} {kvs : List (Int × α)} {i : Int} : dinG neg (cI i, f) (cK E kvs, f') = some (cB (neg != (getT kvs i).isSome), .fz) := by
  show (if intK (kvs.map (eK E)) = true then _ else _) = _
  rw [if_pos (intK_c kvs), getI_c]
  cases getT kvs i <;> rfl
theorem dget2_l {kvs : List (Int × α)} {i : Int} {z : α} : dgetD (cK E kvs, f) (cI i, f') (E z, f'') = some (E ((getT kvs i).getD z), .fz) := by
  show (if intK (kvs.map (eK E)) = true then _ else _) = _
  rw [if_pos (intK_c kvs), getI_c]
  cases getT kvs i with
  | none =>
    show (if lf (E z) = true then some (E z, Fl.fz) else none) = _
    rw [if_pos (LfC.lf z)]; rfl
  | some a =>
    show (if lf (E a) = true then some (E a, Fl.fz) else none) = _
    rw [if_pos (LfC.lf a)]; rfl
omit [LfC E] in
theorem dict0_l : eDict0 e = some (cK E [], .ow) := rfl
end
section
variable {α β S ρ : Type} {E : α → D} {f f' : Fl} {e : En} {i : Nat} {h : GS} {M : Out → Option ρ} {R : Option ρ}
theorem keys_c (kvs : List (Int × α)) : (kvs.map (eK E)).map (·.1) = (kvs.map (·.1)).map cI := by
  rw [List.map_map, List.map_map]; rfl
/-- for k in d -/
theorem st_forD {kvs : List (Int × α)} {ws : List Nat} {tg : Tg} {body : GS} (h1 : e[i]? = some (some (cK E kvs, .fz)))
    (k : ((if false = true then (forGo tg body ws ((kvs.map (·.1)).map cI) (lockE (wipeE e ws))).map (unlO (wipeE e ws)) else forGo tg body ws ((kvs.map (·.1)).map cI) (wipeE e ws)).bind fun o => (nxt h o).bind M) = R) (hb : e.all noBwS = true := by rfl) : (sSeq (sForD ws tg i body) h e).bind M = R := by
  rw [← k, sSeq_ev, if_neg Bool.false_ne_true]
  have : sForD ws tg i body e = forGo tg body ws ((kvs.map (·.1)).map cI) (wipeE e ws) := by
    unfold sForD
    rw [h1]
    show (if intK (kvs.map (eK E)) = true ∧ e.all noBwS = true then forGo tg body ws ((kvs.map (eK E)).map (·.1)) (wipeE e ws) else none) = _
    rw [if_pos ⟨intK_c kvs, hb⟩, keys_c]
  rw [this]
  cases forGo tg body ws ((kvs.map (·.1)).map cI) (wipeE e ws) <;> rfl
def keysT (kvs : List (Int × α)) : Option (List Int) := if kvs.length ≤ 16777216 then some (kvs.map (·.1)) else none
/-- [.. for k in d] -/
theorem lcD_k {kvs : List (Int × α)} {own : List Nat} {tg : Tg} {tt : GB} {te : GE} {T : List Int → Option β} {q : β → RV} (h1 : e[i]? = some (some (cK E kvs, .fz)))
    (k : ∀ xs : List Int, ((lcGo (lcF own tg tt te e) (xs.map cI)).map fun ys => (PyData.list ys, Fl.ow)) = (T xs).map q) (hb : e.all noBwS = true := by rfl) : eLcD own tg i tt te e = ((keysT kvs).bind T).map q := by
  unfold eLcD keysT
  rw [h1]
  show (if intK (kvs.map (eK E)) = true ∧ e.all noBwS = true ∧ (kvs.map (eK E)).length ≤ 16777216 then (lcGo (lcF own tg tt te e) ((kvs.map (eK E)).map (·.1))).map (fun ys => (PyData.list ys, Fl.ow)) else none) = _
  rw [List.length_map, keys_c]
  by_cases c : kvs.length ≤ 16777216
  · rw [if_pos ⟨intK_c kvs, hb, c⟩, if_pos c]; exact k _
  · rw [if_neg (fun z => c z.2.2), if_neg c]; rfl
/-- d[k] = e -/
def dsetR (i : Nat) (e : En) (r : RV) (z : Int) : Option Out := mD e i fun ds => if plainFl r.2 = true ∧ intK ds = true ∧ ds.length < 16777216 then some (putI ds z r.1) else none
def dputT (kvs : List (Int × α)) (z : Int) (a : α) : Option (List (Int × α)) := if kvs.length < 16777216 then some (putT kvs z a) else none
theorem dset_l {kvs : List (Int × α)} {z : Int} {a : α} {T : List (Int × α) → Option β} {q : β → ρ} (h1 : e[i]? = some (some (cK E kvs, .ow))) (hf : plainFl f = true) (k : ∀ ys, (h (e.set i (some (cK E ys, .ow)))).bind M = (T ys).map q) : ((dsetR i e (E a, f) z).bind fun o => (nxt h o).bind M) = ((dputT kvs z a).bind T).map q := by
  unfold dsetR mD
  rw [h1]
  show (((if plainFl f = true ∧ intK (kvs.map (eK E)) = true ∧ (kvs.map (eK E)).length < 16777216 then some (putI (kvs.map (eK E)) z (E a)) else none).map fun es => Out.nx (e.set i (some (.dict es, .ow)))).bind _) = _
  rw [List.length_map]
  unfold dputT
  by_cases c : kvs.length < 16777216
  · rw [if_pos ⟨hf, intK_c kvs, c⟩, if_pos c, putI_c]; exact k _
  · rw [if_neg (fun z => c z.2.2), if_neg c]; rfl
theorem st_dset {ga gi : GE} (k : ((ga e).bind fun r => (gi e).bind fun z => (asI z).bind fun z => (dsetR i e r z).bind fun o => (nxt h o).bind M) = R) : (sSeq (sDSet i gi ga) h e).bind M = R := by
  rw [← k, sSeq_ev]
  unfold sDSet
  cases ga e with
  | none => rfl
  | some r => cases gi e with
    | none => rfl
    | some z =>
      show (((asI z).bind _).bind _).bind M = (asI z).bind _
      cases asI z with
      | none => rfl
      | some z => exact bind_nxt _
theorem dset_i {kvs : List (Int × α)} {z : Int} {a : α} {T : List (Int × α) → Option β} {q : β → ρ} (h1 : e[i]? = some (some (cK E kvs, .ow))) (hf : plainFl f = true) (k : ∀ ys, (h (e.set i (some (cK E ys, .ow)))).bind M = (T ys).map q) : ((asI (cI z, f')).bind fun z => (dsetR i e (E a, f) z).bind fun o => (nxt h o).bind M) = ((dputT kvs z a).bind T).map q := dset_l h1 hf k
def dict1R (k v : RV) : Option RV := match k with
  | (.int i, _) => if lf v.1 = true then some (.dict [(.int i, v.1)], .ow) else none
  | _ => none
theorem dict1_k {R : Option RV} {ga gb : GE} (k : ((ga e).bind fun k => (gb e).bind fun v => dict1R k v) = R) : eDict1 ga gb e = R := k
theorem dict1_l [LfC E] {z : Int} {a : α} : dict1R (cI z, f) (E a, f') = some (cK E [(z, a)], .ow) := by
  show (if lf (E a) = true then some (PyData.dict [(.int z, E a)], Fl.ow) else none) = _
  rw [if_pos (LfC.lf a)]; rfl
theorem dg_k {R : Option RV} {ga gb gc : GE} (k : ((ga e).bind fun r => (gb e).bind fun k => (gc e).bind fun z => dgetD r k z) = R) : eDG ga gb gc e = R := k
end
end Pl

set_option Elab.async false
set_option linter.all false
set_option maxRecDepth 100000
set_option maxHeartbeats 4000000
/-! Pl22: min(a, b) of data -/
namespace Pl
open PySem PySem.Spec PyProof.Rows PyProof.V PySem.Calls PySem.W L2
section
variable {prog : Program} {w : World} {A : Around} {E : Value → Shared → Prop} {s : Shared}
theorem call_min_twoH {a b : Value} {Q : Value → Shared → Prop}
    (h : wpAny (model prog w) A.in1 (pyIter (.ref s.heap.objs.size)) (fun it s₂ => ∃ I fp wr G n P St H bt, it = .ref I ∧ WalksS prog w A.in1 I fp wr G n P St ∧ St 0 s₂ ∧ (∀ b ∈ fp, b < s₂.heap.objs.size) ∧ 0 < n ∧
      (∀ b o, H.get? b = some o → b ∉ wr) ∧ (∀ b o, H.get? b = some o → s₂.heap.get? b = some o) ∧ CmpIn prog w A.in1 .Lt H P bt ∧ ∀ v s', P (argBest bt (n - 1)) v → Moved wr G s₂ s' → Q v s') E
      { s with heap := s.heap.push { cls := .type "tuple", data := .seq #[a, b] } }) :
    wpAny (model prog w) A (call (.builtin "min") [a, b]) Q E s := by
  have hname : (toString "min" ++ toString ".loop" : String) = "min.loop" := by decide
  refine call_function_tree F.kind_min F.plain_min F.entry_min (F.args_min2 _ _) ?_
  show wpAny _ A.in1 (Builtin.Builtins.bindParams "min" ["key", "default"] 0 ⟨[], []⟩ >>= _) _ _ s
  refine wpAny_bind (wpAny_of_eq (show Builtin.Builtins.bindParams "min" ["key", "default"] 0 ⟨[], []⟩ = pure [none, none] from rfl) ?_)
  show wpAny _ A.in1 (newTuple [a, b] >>= _) _ _ s
  refine wpAny_bind (wpAny_newObj_type ?_)
  refine wpAny_bind (wpAny_mono h (fun it s₂ h₂ => ?_) fun _ _ e => e)
  obtain ⟨I, fp, wr, G, n, P, St, H, bt, rfl, W, hst, hfp, hn, hw, hkeep, hcmp, hQ⟩ := h₂
  refine wpAny_bind (wpAny_newObj_type ?_)
  have hSf : s₂.heap.objs.size ∉ fp := fun hm => Nat.lt_irrefl _ (hfp _ hm)
  rw [hname]
  refine wpAny_pure ⟨plainId_quiet F.plain_min_loop _, codeAny_min_loop_firstH W H hw bt hcmp s₂.heap.objs.size hSf (fresh_in hkeep) _ hn (fun b o e => Heap.get?_push_of_some _ (hkeep b o e)) (W.frame 0 s₂ _ s₂.toks hst (Nat.le_refl _) fun b _ o e => Heap.get?_push_of_some _ e) (Heap.get?_push_size _ rfl) fun v s' hP hm => ?_⟩
  exact hQ v s' hP (Moved.drop_new (tk := s₂.toks) hm (Nat.le_refl _))
theorem min_two_data {a b : Value} {x y : PyData} {as : List Addr} {Q : Value → Shared → Prop} (hh : A.handled = none) (hr : ReadsAll s.heap [a, b] [x, y] as) (ha : AlikeAll [x, y]) (hu : A.units + 1 + PyData.depthAll [x, y] < cLine)
    (h : ∀ h' tk, (∀ b o, s.heap.get? b = some o → h'.get? b = some o) → Q (if dataLt y x = true then b else a) { s with heap := h', toks := tk }) :
    wpAny (model prog w) A (call (.builtin "min") [a, b]) Q E s := by
  have hT : (s.heap.push { cls := .type "tuple", data := .seq #[a, b] }).IsTuple s.heap.objs.size #[a, b] := ⟨_, Heap.get?_push_size _ rfl, rfl, 0, rfl⟩
  have hr1 : ReadsAll (s.heap.push { cls := .type "tuple", data := .seq #[a, b] }) (#[a, b] : Array Value).toList [x, y] as := ReadsAll.keeps (fun c o e => Heap.get?_push_of_some _ e) hr
  refine call_min_twoH (iter_tupleW (A := A.in1) (s := { s with heap := s.heap.push { cls := .type "tuple", data := .seq #[a, b] } }) hh hT fun s₂ e W st hfp hw hk => ?_)
  refine ⟨_, _, _, _, _, _, _, (s.heap.push { cls := .type "tuple", data := .seq #[a, b] }), _, rfl, W, st, hfp, by simp, hw, hk, cmpIn_lt (s := { s with heap := s.heap.push { cls := .type "tuple", data := .seq #[a, b] } }) (A := A.in1) hr1 ha (by show A.units + 1 + _ < _; exact hu), fun v s' hP m => ?_⟩
  obtain ⟨h', tk, rfl, hk'⟩ := moved_old e rfl m
  have hv : v = if dataLt y x = true then b else a := by
    have hP : (#[a, b] : Array Value)[argBest (fun i j => dataLt ([x, y].getD i PyData.none) ([x, y].getD j PyData.none)) 1]? = some v := hP
    have e1 : argBest (fun i j => dataLt ([x, y].getD i PyData.none) ([x, y].getD j PyData.none)) 1 = if dataLt y x = true then 1 else 0 := by
      simp [argBest]
    rw [e1] at hP
    by_cases c : dataLt y x = true
    · rw [if_pos c] at hP ⊢; simpa using hP.symm
    · rw [if_neg c] at hP ⊢; simpa using hP.symm
  rw [hv]
  exact h h' tk fun c o ec => hk' c o (Heap.get?_push_of_some _ ec)
end
section
variable {X : Cx}
theorem cr_min2D (hc : X.calm = true) (hu : X.A.units + 64 < cLine) : CallR X (.builtin "min") (fun xs H Q => ∃ x y d e, xs = [x, y] ∧ Dp X.K H x d ∧ Dp X.K H y e ∧ alikeB [d, e] = true ∧ Q (if dataLt e d = true then y else x) H) := by
  intro pins s σ H vs us Q I r h
  obtain ⟨x, y, d, e, rfl, dx, dy, al, q⟩ := h
  obtain ⟨ok, al⟩ := alikeB_of al
  have hd := (okA_of 9 _ ok).2.2
  cases r with
  | cons rx r =>
    cases r with
    | cons ry r =>
      cases r
      obtain ⟨as, r1⟩ := Dp.reads I d x _ dx rx
      obtain ⟨bs, r2⟩ := Dp.reads I e y _ dy ry
      refine min_two_data (I.ok.hd hc) (.cons r1 (.cons r2 .nil)) al (roomA hu hd) fun h' tk k => ⟨_, H, I.kept k, ?_, q⟩
      by_cases c : dataLt e d = true
      · rw [if_pos c, if_pos c]; exact ry
      · rw [if_neg c, if_neg c]; exact rx
def min2DG : RV → RV → Option RV
  | (d, _), (e, _) => if alikeB [d, e] = true ∧ lf d = true ∧ lf e = true then some (if PySem.W.dataLt e d = true then e else d, .fz) else none
theorem callF_min2D (hc : X.calm = true) (hu : X.A.units + 64 < cLine) : CallF X (.builtin "min") (two min2DG) := by
  refine call2 (r := fun x y H Q => ∃ d e, Dp X.K H x d ∧ Dp X.K H y e ∧ alikeB [d, e] = true ∧ Q (if dataLt e d = true then y else x) H) (CallR.imp (cr_min2D hc hu) fun xs H Q ⟨x, y, e, a, b, h1, h2, h3, q⟩ => ⟨x, y, a, b, e, h1, h2, h3, q⟩) fun F H0 H v w a b c Q rv rw sm e q => ?_
  obtain ⟨d, f⟩ := a
  obtain ⟨d2, f2⟩ := b
  have e' : (if alikeB [d, d2] = true ∧ lf d = true ∧ lf d2 = true then some ((if PySem.W.dataLt d2 d = true then d2 else d, Fl.fz) : RV) else none) = some c := e
  split at e'
  · rename_i hh
    cases e'
    have ok := (alikeB_of hh.1).1
    rw [okA, Bool.and_eq_true, okA, Bool.and_eq_true] at ok
    refine ⟨d, d2, dp_of rv ok.1, dp_of rw ok.2.1, hh.1, q _ H (Same.refl H) ?_⟩
    by_cases c : dataLt d2 d = true
    · rw [if_pos c, if_pos c]; exact rw.leaf hh.2.2
    · rw [if_neg c, if_neg c]; exact rv.leaf hh.2.1
  · cases e'
/-- min of two, of three ints, of two data, of some -/
def minB (rs : List RV) : Option RV := (minA rs).or (two min2DG rs)
theorem callF_minB (hc : X.calm = true) (hu : X.A.units + 64 < cLine) : CallF X (.builtin "min") minB := (callF_minA hc hu).or (callF_min2D hc hu)
end
end Pl

set_option Elab.async false
set_option linter.all false
set_option maxRecDepth 100000
set_option maxHeartbeats 4000000
/-! Pl23: order of data (<=, >, >=), list.index of data, one rule or another -/
namespace Pl
open PySem PySem.Spec PyProof.Rows L2
theorem units65 {j : Nat} {A : Around} (r : Room j A) : A.units + 65 < cLine := by have := r.un; omega
section
variable {X : Cx} {a b : Expr} {ga gb : GE} {x : Str} {p pos : Pos}
/-- one rule or the other -/
theorem VE.or {e : Expr} {g g' : GE} (h : VE X e g) (h' : VE X e g') : VE X e (fun env => (g env).or (g' env)) := by
  refine ⟨fun pins s σ H Q I w => ?_⟩
  obtain ⟨F, env, r, ok, e, q⟩ := w
  have e : (g env).or (g' env) = some r := e
  cases e1 : g env with
  | none => rw [e1] at e; exact h'.run pins s σ H Q I ⟨F, env, r, ok, e, q⟩
  | some r1 => rw [e1] at e; cases e; exact h.run pins s σ H Q I ⟨F, env, r, ok, e1, q⟩
theorem VE.congr {e : Expr} {g g' : GE} (h : VE X e g) (hg : g = g') : VE X e g' := hg ▸ h
theorem e2_or (g g' : RV → RV → Option RV) (ga gb : GE) : (fun env => (e2 g ga gb env).or (e2 g' ga gb env)) = e2 (fun a b => (g a b).or (g' a b)) ga gb := by
  funext env
  unfold e2
  cases ga env with
  | none => rfl
  | some x =>
    cases gb env with
    | none => rfl
    | some y => rfl
/-! order of data -/
def ordDG (k : D → D → Bool) : RV → RV → Option RV
  | (d, _), (e, _) => if okD 9 d && okD 9 e && PySem.W.alike d e && !isNone d then some (.bool (k d e), .fz) else none
def rOrdD (K : PySem.W.Frag) (k : D → D → Bool) : R2 := fun x y H Q => ∃ d e, Dp K H x d ∧ Dp K H y e ∧ d.depth ≤ 60 ∧ PySem.W.alike d e = true ∧ d ≠ .none ∧ Q (.bl (k d e)) H
theorem opF_ordD {op : CmpOp} {k : D → D → Bool} (h : OpR X (compareOp op) (rOrdD X.K k)) : OpF X (compareOp op) (ordDG k) := by
  refine ⟨rOrdD X.K k, h, fun F H0 H x y a b c Q ra rb sz sm e q => ?_⟩
  obtain ⟨d, f1⟩ := a
  obtain ⟨e1, f2⟩ := b
  have e' : (if okD 9 d && okD 9 e1 && PySem.W.alike d e1 && !isNone d then some (PyData.bool (k d e1), Fl.fz) else none) = some c := e
  split at e'
  · rename_i hc
    simp only [Bool.and_eq_true] at hc
    cases e'
    refine ⟨d, e1, dp_of ra hc.1.1.1, dp_of rb hc.1.1.2, by have := (okD_of 9 d hc.1.1.1).2.2; omega, hc.1.2, ?_, q _ H (Same.refl H) Res.ofBool⟩
    rintro rfl
    exact absurd hc.2 (by simp [isNone])
  · cases e'
theorem op_leD (hu : X.A.units + 64 < cLine) : OpR X (compareOp .LtE) (rOrdD X.K fun d e => !PySem.W.dataLt e d) := by
  intro pins s σ H x y v u Q I rx ry ⟨d, e, hd, he, sd, al, nn, q⟩
  obtain ⟨as, r1⟩ := Dp.reads I d x v hd rx
  obtain ⟨bs, r2⟩ := Dp.reads I e y u he ry
  have hm : min d.depth e.depth ≤ d.depth := Nat.min_le_left _ _
  exact PySem.W.le_data r1 r2 al nn (by omega) ⟨.bl _, H, I, rfl, q⟩
theorem op_gtD (hu : X.A.units + 64 < cLine) : OpR X (compareOp .Gt) (rOrdD X.K fun d e => PySem.W.dataLt e d) := by
  intro pins s σ H x y v u Q I rx ry ⟨d, e, hd, he, sd, al, nn, q⟩
  obtain ⟨as, r1⟩ := Dp.reads I d x v hd rx
  obtain ⟨bs, r2⟩ := Dp.reads I e y u he ry
  have hm : min d.depth e.depth ≤ d.depth := Nat.min_le_left _ _
  exact PySem.W.gt_data r1 r2 al nn (by omega) ⟨.bl _, H, I, rfl, q⟩
theorem op_geD (hu : X.A.units + 64 < cLine) : OpR X (compareOp .GtE) (rOrdD X.K fun d e => !PySem.W.dataLt d e) := by
  intro pins s σ H x y v u Q I rx ry ⟨d, e, hd, he, sd, al, nn, q⟩
  obtain ⟨as, r1⟩ := Dp.reads I d x v hd rx
  obtain ⟨bs, r2⟩ := Dp.reads I e y u he ry
  have hm : min d.depth e.depth ≤ d.depth := Nat.min_le_left _ _
  exact PySem.W.ge_data r1 r2 al nn (by omega) ⟨.bl _, H, I, rfl, q⟩
def leA (a b : RV) : Option RV := (leG a b).or (ordDG (fun d e => !PySem.W.dataLt e d) a b)
def gtA (a b : RV) : Option RV := (gtG a b).or (ordDG (fun d e => PySem.W.dataLt e d) a b)
def geA (a b : RV) : Option RV := (geG a b).or (ordDG (fun d e => !PySem.W.dataLt d e) a b)
theorem opF_leA (hu : X.A.units + 64 < cLine) : OpF X (compareOp .LtE) leA := opF_le.or (opF_ordD (op_leD hu))
theorem opF_gtA (hu : X.A.units + 64 < cLine) : OpF X (compareOp .Gt) gtA := opF_gt.or (opF_ordD (op_gtD hu))
theorem opF_geA (hu : X.A.units + 64 < cLine) : OpF X (compareOp .GtE) geA := opF_ge.or (opF_ordD (op_geD hu))
/-! xs.index(y), data -/
def ixDG : RV → RV → Option RV
  | (.list ds, _), (d, _) => if okD 9 d && okA 9 ds then (ds.findIdx? fun z => PyData.eqv z d).map fun j => (.int (j : Nat), .fz) else none
  | _, _ => none
theorem ve_indexD {o : Expr} {apos cpos : Pos} (hu : X.A.units + 65 < cLine) (ho : VE X o ga) (hb : VE X b gb) (hbase : attributeBase o "index" X.env (eval o X.env) = eval o X.env := by rfl)
    (hfew : ((backTo cpos (starEach [b] X.env)).all (fun x => !x.1) && (backToKw cpos (keywordEach [] X.env)).all (fun x => x.1.isSome)
      && decide ([b].length + ([] : List Keyword).length + (if ([] : List Keyword).isEmpty then 0 else 1) < 30)) = true := by rfl)
    (hline : (apos.endLine == cpos.line) = true := by rfl) (hs : starEach [b] X.env = (false, eval b X.env) :: starEach [] X.env := by rfl) (hplain : (backTo cpos (starEach [] X.env)).any (·.1) = false := by rfl) : VE X (.Call (.Attribute o "index" apos) [b] [] cpos) (e2 ixDG ga gb) :=
  PE.to (pe_bm PySem.F.plainAttrs_list PySem.F.slot_list_index PySem.F.type_list_index (mt_indexD hu) ho (va_cons hb va_nil hs) hbase hfew hline hs hplain) fun σ H Q ⟨F, env, c, ok, e, q⟩ => by
    obtain ⟨x, e1, ea⟩ := bind2 e
    obtain ⟨y, e3, eb⟩ := bind2 ea
    clear e ea
    obtain ⟨d, f⟩ := x
    obtain ⟨d2, f2⟩ := y
    cases d <;> try (cases (show (none : Option RV) = some c from eb))
    rename_i ds
    have eb' : (if okD 9 d2 && okA 9 ds then (ds.findIdx? fun z => PyData.eqv z d2).map (fun j => ((.int (j : Nat), .fz) : RV)) else none) = some c := eb
    split at eb'
    · rename_i hc
      rw [Bool.and_eq_true] at hc
      cases e5 : ds.findIdx? (fun z => PyData.eqv z d2) with
      | none => rw [e5] at eb'; cases eb'
      | some j =>
        rw [e5] at eb'
        cases eb'
        obtain ⟨hj, h1, h2⟩ := List.findIdx?_eq_some_iff_getElem.mp e5
        refine ⟨F, env, _, ok, e1, fun v H1 s1 z1 rv => ?_⟩
        have hd1 := dp_of (n := 10) (H0 := H) rv (by simpa [okD] using hc.2)
        obtain ⟨p, vs, L, rfl, sq, r, hl⟩ := rv.list
        refine ⟨.inl ⟨rfl, _, sq⟩, F, env, [(d2, f2)], ok.mono s1, by show (gb env).bind _ = _; rw [e3]; rfl, fun zs H2 r2 => ?_⟩
        obtain ⟨w, rfl, rw⟩ := r2.one
        have rv2 := rv.mono r2.same
        refine ⟨p, w, d2, ds, j, ds[j], rfl, rfl, dp_of (n := 10) rv2 (by simpa [okD] using hc.2), dp_of (H0 := H1) rw hc.1, okD_shaped (n := 10) (by simpa [okD] using hc.2) (by decide), okD_shaped hc.1 (by decide), List.getElem?_eq_getElem hj, h1, fun m z' hm hz' => ?_, fun sz => q _ H2 (s1.trans r2.same) sz Res.ofInt⟩
        have := h2 m hm
        obtain ⟨hm', rfl⟩ := List.getElem?_eq_some_iff.mp hz'
        simpa using this
    · cases eb'
def ixA (a b : RV) : Option RV := (ixOfG a b).or (ixDG a b)
theorem ve_indexA {o : Expr} {apos cpos : Pos} (hu : X.A.units + 65 < cLine) (ho : VE X o ga) (hb : VE X b gb) (hbase : attributeBase o "index" X.env (eval o X.env) = eval o X.env := by rfl)
    (hfew : ((backTo cpos (starEach [b] X.env)).all (fun x => !x.1) && (backToKw cpos (keywordEach [] X.env)).all (fun x => x.1.isSome)
      && decide ([b].length + ([] : List Keyword).length + (if ([] : List Keyword).isEmpty then 0 else 1) < 30)) = true := by rfl)
    (hline : (apos.endLine == cpos.line) = true := by rfl) (hs : starEach [b] X.env = (false, eval b X.env) :: starEach [] X.env := by rfl) (hplain : (backTo cpos (starEach [] X.env)).any (·.1) = false := by rfl) : VE X (.Call (.Attribute o "index" apos) [b] [] cpos) (e2 ixA ga gb) :=
  ((ve_index ho hb hbase hfew hline hs hplain).or (ve_indexD hu ho hb hbase hfew hline hs hplain)).congr (e2_or ixOfG ixDG ga gb)
end
end Pl

set_option Elab.async false
set_option linter.all false
set_option maxRecDepth 100000
set_option maxHeartbeats 4000000
/-! Pl24: a tuple repeated once, never -/
namespace Pl
open PySem PySem.Spec PyProof.Rows L2
section
variable {a : Addr} {vs : Array Value} {m : Nat} {d : Option Addr} {so : Array (Option Value)} {i : Int} {t : Tok}
/-- the same object -/
theorem tmul_same (b0 : (decide (i < -(2 ^ 63)) || decide (i ≥ 2 ^ 63)) = false) (b1 : (vs.isEmpty || i == 1) = true) :
    Meets (Builtin.«tuple.__mul__» ⟨[.ref a, .int i t], []⟩) (fun _ R s => s.heap.get? a = some { cls := .type "tuple", dict := d, data := .seq vs m, slots := so } ∧ R (.ok (.ret (Value.ref a))) s) :=
  .of_wp fun prog w A R s q => by
    obtain ⟨h0, g0, w0, k0, o0⟩ := s
    obtain ⟨e, q⟩ := q
    have z := AutoSeq1.idx_int
    wp_walk using wpAny_loadPart' e
    repeat (first
      | (refine wpAny_ite_false (decide_eq_false (by rw [b0]; decide)) ?_; wp_walk using wpAny_loadPart' e)
      | (refine wpAny_ite_true (decide_eq_true b1) ?_; wp_walk using wpAny_loadPart' e))
    exact ⟨_, rfl, q⟩
/-- never -/
theorem tmul_none (b0 : (decide (i < -(2 ^ 63)) || decide (i ≥ 2 ^ 63)) = false) (b1 : (vs.isEmpty || i == 1) = false) (b2 : (decide (i ≤ 0) || vs.isEmpty) = true) :
    Meets (Builtin.«tuple.__mul__» ⟨[.ref a, .int i t], []⟩) (fun _ R s => s.heap.get? a = some { cls := .type "tuple", dict := d, data := .seq vs m, slots := so } ∧ R (.ok (.ret (Value.ref s.heap.objs.size))) { s with heap := s.heap.push { cls := Value.type "tuple", data := Data.seq #[] }, toks := s.toks }) :=
  .of_wp fun prog w A R s q => by
    obtain ⟨h0, g0, w0, k0, o0⟩ := s
    obtain ⟨e, q⟩ := q
    have z := AutoSeq1.idx_int
    wp_walk using wpAny_loadPart' e
    repeat (first
      | (refine wpAny_ite_false (decide_eq_false (by rw [b0]; decide)) ?_; wp_walk using wpAny_loadPart' e)
      | (refine wpAny_ite_false (decide_eq_false (by rw [b1]; decide)) ?_; wp_walk using wpAny_loadPart' e)
      | (refine wpAny_ite_true (decide_eq_true b2) ?_; wp_walk using wpAny_loadPart' e))
    exact ⟨_, rfl, q⟩
/-- what a tuple times k is, k below 2 or nothing to repeat -/
def rRepF (K : PySem.W.Frag) : R2 := fun x y H Q => ∃ l k xs, x = .ref l ∧ y = .int k ∧ SqT K H l xs ∧ -(2 ^ 62) ≤ k ∧ k < 2 ^ 62 ∧ ((xs = [] ∨ k = 1) ∧ Q (.ref l) H ∨ xs ≠ [] ∧ k ≤ 0 ∧ ∀ p, H p = none → Q (.ref p) (upd H p (.tup [])))
theorem op_repF {X : Cx} : OpR X (binaryOp .Mult) (rRepF X.K) := by
  intro pins s σ H x y v u Q I rx ry ⟨l, k, xs, e1, e2, sq, k0, k1, q⟩
  subst e1 e2
  cases rx
  obtain ⟨t, rfl⟩ := ry
  obtain ⟨its, rv, ⟨ob, eo, ec, m, ed⟩, -⟩ := I.tuple sq
  obtain ⟨oc, od, oda, osl⟩ := ob
  obtain rfl : oc = _ := ec
  obtain rfl : oda = _ := ed
  have len : its.length = xs.length := rv.length.symm
  have b0 : (decide (k < -(2 ^ 63)) || decide (k ≥ 2 ^ 63)) = false := by simp; omega
  have main : ∀ {w : Value}, wpAny (model X.prog X.w) X.A (call (.builtin "tuple.__mul__") [.ref l, .int k t]) (EP X pins σ Q) X.xe s → wpAny (model X.prog X.w) X.A (binaryOp .Mult (.ref l) (.int k t)) (EP X pins σ Q) X.xe s := fun {w} z =>
    wpAny_binaryOp_repeat_ref (T := "tuple") (U := "int") (by decide) ⟨_, eo, rfl⟩ (fun s' => typeIs_int s' k t) noFill_tuple_mul F.fills_int_mul F.slot_int_rmul repeat_tuple F.slot_int_index.lookup
      (call_meets F.slot_int_rmul (typeIs_int s k t) F.entry_int_rmul (F.args_int_rmul_2 _ _) (int_rmul_tuple k t l its.toArray m od osl) ⟨eo, rfl, ⟨_, eo, rfl⟩, z⟩)
  refine main (w := .none) ?_
  rcases q with ⟨c, q⟩ | ⟨c, c2, q⟩
  · have b1 : (its.toArray.isEmpty || k == 1) = true := by
      rcases c with c | c
      · subst c
        have : its = [] := List.eq_nil_of_length_eq_zero len
        subst this; rfl
      · subst c; simp
    exact call_meets F.slot_tuple_mul ⟨_, eo, rfl⟩ F.entry_tuple_mul (F.args_tuple_mul_2 _ _) (tmul_same b0 b1) ⟨eo, .ref l, H, I, rfl, q⟩
  · have ne : its.toArray.isEmpty = false := by
      cases its with
      | nil => exact absurd (List.eq_nil_of_length_eq_zero len.symm) c
      | cons _ _ => rfl
    have b1 : (its.toArray.isEmpty || k == 1) = false := by
      rw [ne, Bool.false_or]; exact beq_eq_false_iff_ne.mpr (by omega)
    have b2 : (decide (k ≤ 0) || its.toArray.isEmpty) = true := by rw [decide_eq_true c2]; rfl
    exact call_meets F.slot_tuple_mul ⟨_, eo, rfl⟩ F.entry_tuple_mul (F.args_tuple_mul_2 _ _) (tmul_none b0 b1 b2)
      ⟨eo, .ref s.heap.objs.size, _, I.laid (t' := s.toks) (o := .tup []) (fun b ob q => Heap.get?_push_of_some _ q) (Nat.le_refl _) ⟨Nat.zero_le _, [], .nil, IsTup.new _ _⟩, rfl, q _ (I.hok.fresh (Nat.le_refl _))⟩
def repFG : RV → RV → Option RV
  | (.tuple a, _), (.int k, _) => if (a = [] ∨ k ≤ 1) ∧ -(2 ^ 62) ≤ k ∧ k < 2 ^ 62 then some (.tuple (if a = [] ∨ k = 1 then a else []), .fz) else none
  | _, _ => none
theorem opF_repF {X : Cx} : OpF X (binaryOp .Mult) repFG := by
  refine ⟨_, op_repF, fun F H0 H x y a b c Q ra rb sz sm e q => ?_⟩
  obtain ⟨d1, f1⟩ := a
  obtain ⟨d2, f2⟩ := b
  cases d1 <;> try (cases (show (none : Option RV) = some c from e))
  cases d2 <;> try (cases (show (none : Option RV) = some c from e))
  rename_i xs k
  have e' : (if (xs = [] ∨ k ≤ 1) ∧ -(2 ^ 62) ≤ k ∧ k < 2 ^ 62 then some ((PyData.tuple (if xs = [] ∨ k = 1 then xs else []), Fl.fz) : RV) else none) = some c := e
  split at e'
  · rename_i hc
    cases e'
    obtain ⟨p1, vs, L, rfl, s1, r1, l1⟩ := ra.tuple
    have hl := r1.length
    have e0 : xs = [] ↔ vs = [] := ⟨fun z => by subst z; exact List.eq_nil_of_length_eq_zero hl, fun z => by subst z; exact List.eq_nil_of_length_eq_zero hl.symm⟩
    refine ⟨p1, k, vs, rfl, rb.int, s1, hc.2.1, hc.2.2, ?_⟩
    by_cases c : xs = [] ∨ k = 1
    · refine .inl ⟨c.imp e0.mp id, q _ H (Same.refl H) ?_⟩
      rw [if_pos c]
      exact ⟨L, .tup s1 r1, l1⟩
    · refine .inr ⟨fun z => c (.inl (e0.mpr z)), ?_, fun p n => q _ _ (same_new n) ?_⟩
      · have := hc.1.resolve_left fun z => c (.inl z)
        have h1 : k ≠ 1 := fun z => c (.inr z)
        omega
      · rw [if_neg c]
        exact Res.newTup n .nil (by simp)
  · cases e'
/-- x * y, tuples as often as one likes -/
def mulA (a b : RV) : Option RV := (mulG a b).or (repFG a b)
theorem opF_mulA {X : Cx} : OpF X (binaryOp .Mult) mulA := opF_mul.or opF_repF
end
end Pl

set_option Elab.async false
set_option linter.all false
set_option maxRecDepth 100000
set_option maxHeartbeats 4000000
/-! Ty7: typed order of data, list.index, min of two -/
namespace Pl
open PySem L2
section
variable {α : Type} {E : α → D} {f f' f'' : Fl} {i j k : Int}
/-- the environment written out anew -/
theorem nrm {ρ : Type} {g : GS} {e e' : En} {M : Out → Option ρ} {R : Option ρ} (he : e = e') (k : (g e').bind M = R) : (g e).bind M = R := by rw [he]; exact k
theorem leA_l : leA (cI i, f) (cI j, f') = some (cB (decide (i ≤ j)), .fz) := (rfl)
theorem gtA_l : gtA (cI i, f) (cI j, f') = some (cB (decide (j < i)), .fz) := (rfl)
theorem geA_l : geA (cI i, f) (cI j, f') = some (cB (decide (j ≤ i)), .fz) := (rfl)
section
variable {lt : α → α → Bool} [LtC E lt] [OkC 9 E]
theorem ordD_l (lt : α → α → Bool) [LtC E lt] [OkC 9 E] {k : D → D → Bool} {a c : α} : ordDG k (E a, f) (E c, f') = some (.bool (k (E a) (E c)), .fz) := by
  show (if okD 9 (E a) && okD 9 (E c) && PySem.W.alike (E a) (E c) && !isNone (E a) then some (PyData.bool (k (E a) (E c)), Fl.fz) else none) = _
  rw [OkC.ok, OkC.ok, LtC.al (lt := lt), LtC.nn (lt := lt)]; rfl
theorem leD_l {a c : α} (hn : leG (E a, f) (E c, f') = none) : leA (E a, f) (E c, f') = some (cB (!lt c a), .fz) := by
  unfold leA
  rw [hn, ordD_l lt, LtC.ltv (E := E)]; rfl
theorem gtD_l {a c : α} (hn : gtG (E a, f) (E c, f') = none) : gtA (E a, f) (E c, f') = some (cB (lt c a), .fz) := by
  unfold gtA
  rw [hn, ordD_l lt, LtC.ltv (E := E)]; rfl
theorem geD_l {a c : α} (hn : geG (E a, f) (E c, f') = none) : geA (E a, f) (E c, f') = some (cB (!lt a c), .fz) := by
  unfold geA
  rw [hn, ordD_l lt, LtC.ltv (E := E)]; rfl
end
/-! min -/
theorem minB_of {rs : List RV} {r : RV} (h : minA rs = some r) : minB rs = some r := by unfold minB; rw [h]; rfl
theorem minB_1 {r : RV} {o : Option RV} (h : minA [r] = o) : minB [r] = o := by
  unfold minB
  rw [h]
  cases o <;> rfl
theorem minB2_l : minB [(cI i, f), (cI j, f')] = some (cI (minI i j), .fz) := minB_of min2_l
theorem minB3_l : minB [(cI i, f), (cI j, f'), (cI k, f'')] = some (cI (minI (minI i j) k), .fz) := minB_of min3_l
section
variable {lt : α → α → Bool} [LtC E lt] [OkC 9 E]
theorem minBL_l {xs : List α} : minB [(cL E xs, f)] = (minT lt xs).map (zz E) := minB_1 minL_l
theorem minBT_l {xs : List α} : minB [(cT E xs, f)] = (minT lt xs).map (zz E) := minB_1 minT_l
def min2T (lt : α → α → Bool) (a c : α) : α := if lt c a = true then c else a
theorem minBD_l [LfC E] {a c : α} (hn : minA [(E a, f), (E c, f')] = none) : minB [(E a, f), (E c, f')] = some (E (min2T lt a c), .fz) := by
  unfold minB
  rw [hn]
  show (if alikeB [E a, E c] = true ∧ lf (E a) = true ∧ lf (E c) = true then some ((if PySem.W.dataLt (E c) (E a) = true then E c else E a, Fl.fz) : RV) else none) = _
  rw [if_pos ⟨alikeB_map (E := E) lt [a, c], LfC.lf a, LfC.lf c⟩, LtC.ltv (E := E)]
  unfold min2T
  by_cases h : lt c a = true <;> simp [h]
end
/-! in -/
def memD [DecidableEq α] (a : α) (xs : List α) : Bool := decide (a ∈ xs)
theorem memD_iff [DecidableEq α] {a : α} {xs : List α} : memD a xs = true ↔ a ∈ xs := by unfold memD; exact decide_eq_true_iff
theorem inLD_f [DecidableEq α] [EqC E] [OkC 9 E] [OkC 9 (cL E)] {a : α} {xs : List α} : inG false (E a, f) (cL E xs, f') = some (cB (memD a xs), .fz) := inL_f
theorem inLD_n [DecidableEq α] [EqC E] [OkC 9 E] [OkC 9 (cL E)] {a : α} {xs : List α} : inG true (E a, f) (cL E xs, f') = some (cB (!memD a xs), .fz) := inL_n
theorem inTD_f [DecidableEq α] [EqC E] [OkC 9 E] {a : α} {xs : List α} : inG false (E a, f) (cT E xs, f') = some (cB (memD a xs), .fz) := inT_f
theorem inTD_n [DecidableEq α] [EqC E] [OkC 9 E] {a : α} {xs : List α} : inG true (E a, f) (cT E xs, f') = some (cB (!memD a xs), .fz) := inT_n
/-! list.index -/
def idxD [DecidableEq α] (xs : List α) (a : α) : Option Int := (xs.findIdx? fun z => decide (z = a)).map fun j : Nat => (j : Int)
theorem findIdx?_c [DecidableEq α] [EqC E] (a : α) : ∀ xs : List α, (xs.map E).findIdx? (fun z => PyData.eqv z (E a)) = xs.findIdx? fun z => decide (z = a)
  | [] => rfl
  | x :: xs => by
    rw [List.map_cons, List.findIdx?_cons, List.findIdx?_cons, findIdx?_c a xs, EqC.eqv]
theorem ixA_lI {ns : List Int} : ixA (cL cI ns, f) (cI k, f') = (idxD ns k).map (zz cI) := by
  unfold ixA
  rw [idx_l]
  unfold idxT
  by_cases h : k ∈ ns
  · rw [if_pos h]
    have e : ns.findIdx? (fun z => decide (z = k)) = some (ns.idxOf k) := by
      rw [List.idxOf, ← List.findIdx?_eq_some_of_exists (p := (· == k)) (by simpa using h)]
      congr 1
    unfold idxD
    rw [e]; rfl
  · rw [if_neg h]
    show ixDG (PyData.list (ns.map cI), f) (cI k, f') = _
    show (if okD 9 (cI k) && okA 9 (ns.map cI) then ((ns.map cI).findIdx? fun z => PyData.eqv z (cI k)).map (fun j => ((.int (j : Nat), .fz) : RV)) else none) = _
    rw [OkC.ok, okA_map OkC.ok, findIdx?_c]
    unfold idxD
    cases ns.findIdx? (fun z => decide (z = k)) <;> rfl
theorem ixA_l [DecidableEq α] [EqC E] [OkC 9 E] {xs : List α} {a : α} (hn : ixOfG (cL E xs, f) (E a, f') = none) : ixA (cL E xs, f) (E a, f') = (idxD xs a).map (zz cI) := by
  unfold ixA
  rw [hn]
  show (if okD 9 (E a) && okA 9 (xs.map E) then ((xs.map E).findIdx? fun z => PyData.eqv z (E a)).map (fun j => ((.int (j : Nat), .fz) : RV)) else none) = _
  rw [OkC.ok, okA_map OkC.ok, findIdx?_c]
  unfold idxD
  cases xs.findIdx? (fun z => decide (z = a)) <;> rfl
/-! times -/
theorem mulA_of {x y : RV} {r : Option RV} (h : mulG x y = r) (n : repFG x y = none) : mulA x y = r := by
  unfold mulA
  rw [h, n]
  cases r <;> rfl
theorem mulcA_l (h : -(2 ^ 64) < i ∧ i < 2 ^ 64 ∨ -(2 ^ 64) < j ∧ j < 2 ^ 64) : mulA (cI i, f) (cI j, f') = some (cI (i * j), .fz) := mulA_of (mulc_l h) rfl
theorem mulA_t : mulA (cI i, f) (cI j, f') = (mulT i j).map (zz cI) := mulA_of mul_t rfl
theorem repLA_l {a : List α} (hf : isSc f = false) : mulA (cL E a, f) (cI k, f') = (repT a k).map (ww (cL E)) := mulA_of (repL_l hf) rfl
def repA (a : List α) (k : Int) : Option (List α) := if -(2 ^ 62) ≤ k ∧ k < 2 ^ 62 ∧ (a = [] ∨ k ≤ 1 ∨ a.length ≤ 1000 ∧ k ≤ 1000) then some (List.replicate k.toNat a).flatten else none
theorem repA_l {a : List α} : mulA (cT E a, f) (cI k, f') = (repA a k).map (zz (cT E)) := by
  unfold mulA
  rw [repTT_l]
  have e2 : repFG (cT E a, f) (cI k, f') = if (a = [] ∨ k ≤ 1) ∧ -(2 ^ 62) ≤ k ∧ k < 2 ^ 62 then some (cT E (if a = [] ∨ k = 1 then a else []), .fz) else none := by
    show (if (a.map E = [] ∨ k ≤ 1) ∧ -(2 ^ 62) ≤ k ∧ k < 2 ^ 62 then some ((PyData.tuple (if a.map E = [] ∨ k = 1 then a.map E else []), Fl.fz) : RV) else none) = _
    simp only [List.map_eq_nil_iff]
    by_cases c : a = [] ∨ k = 1
    · simp [c, cT]
    · simp [c, cT]
  rw [e2]
  unfold repA repTT
  by_cases h : a = []
  · subst h
    by_cases c : -(2 ^ 62) ≤ k ∧ k < 2 ^ 62
    · simp [c]
    · have : ¬ (-4611686018427387904 ≤ k ∧ k < 4611686018427387904) := by simpa using c
      simp [this]
  · generalize hX : (if a = [] ∨ k = 1 then a else []) = X
    by_cases c : 2 ≤ k
    · by_cases c2 : a.length ≤ 1000 ∧ k ≤ 1000
      · rw [if_pos ⟨h, c, c2⟩, if_neg (by rintro ⟨h1 | h1, _⟩; exact h h1; omega), if_pos ⟨by omega, by omega, .inr (.inr c2)⟩]; rfl
      · rw [if_neg (fun z => c2 z.2.2), if_neg (by rintro ⟨h1 | h1, _⟩; exact h h1; omega), if_neg]
        · rfl
        · rintro ⟨_, _, h1 | h1 | h1⟩
          · exact h h1
          · omega
          · exact c2 h1
    · rw [if_neg (fun z => c z.2.1)]
      by_cases c2 : -(2 ^ 62) ≤ k ∧ k < 2 ^ 62
      · rw [if_pos ⟨.inr (by omega), c2⟩, if_pos ⟨c2.1, c2.2, .inr (.inl (by omega))⟩, ← hX]
        by_cases c3 : k = 1
        · subst c3; simp [h]
        · have : k.toNat = 0 := by omega
          simp [h, c3, this]
      · rw [if_neg (fun z => c2 z.2), if_neg (fun z => c2 ⟨z.1, z.2.1⟩)]; rfl
end
end Pl

set_option Elab.async false
set_option linter.all false
set_option maxRecDepth 100000
set_option maxHeartbeats 4000000
/-! Pl25: dicts whose keys are tuples of ints (of such tuples): what they hold -/
namespace Pl
open PySem PySem.Spec PyProof.Rows L2
/-! keys as data -/
mutual
def nkD : D → Option NestedKey
  | .int i => some (.num i)
  | .tuple ds => (nkA ds).map .tup
  | _ => none
def nkA : List D → Option (List NestedKey)
  | [] => some []
  | d :: ds => (nkD d).bind fun k => (nkA ds).map fun ks => k :: ks
end
mutual
theorem nkD_key : ∀ (d : D) {k : NestedKey}, nkD d = some k → keyN k = d
  | .int i, k, h => by rw [nkD] at h; cases h; rfl
  | .tuple ds, k, h => by
    rw [nkD] at h
    obtain ⟨ks, h1, rfl⟩ := Option.map_eq_some_iff.mp h
    rw [keyN, nkA_key ds h1]
  | .none, k, h => by rw [nkD] at h <;> first | cases h | (intro _ z; cases z)
  | .bool _, k, h => by rw [nkD] at h <;> first | cases h | (intro _ z; cases z)
  | .str _, k, h => by rw [nkD] at h <;> first | cases h | (intro _ z; cases z)
  | .list _, k, h => by rw [nkD] at h <;> first | cases h | (intro _ z; cases z)
  | .dict _, k, h => by rw [nkD] at h <;> first | cases h | (intro _ z; cases z)
theorem nkA_key : ∀ (ds : List D) {ks : List NestedKey}, nkA ds = some ks → keyNs ks = ds
  | [], ks, h => by rw [nkA] at h; cases h; rfl
  | d :: ds, ks, h => by
    rw [nkA] at h
    obtain ⟨k, h1, h2⟩ := bind2 h
    obtain ⟨ks', h3, rfl⟩ := Option.map_eq_some_iff.mp h2
    rw [keyNs, nkD_key d h1, nkA_key ds h3]
end
section
variable {K : PySem.W.Frag} {H : Hp}
mutual
theorem Rp.ky : ∀ (d : D) {v : V} {L : List Addr} {k : NestedKey}, Rp K H v d L → nkD d = some k → Ky K H v k
  | .int i, _, _, _, h, e => by rw [nkD] at e; cases e; cases h; exact .num i
  | .tuple ds, _, _, _, h, e => by
    rw [nkD] at e
    obtain ⟨ks, h1, rfl⟩ := Option.map_eq_some_iff.mp e
    cases h with
    | tup s r => exact .tup s (RpA.ky ds r h1)
  | .none, _, _, _, h, e => by rw [nkD] at e <;> first | cases e | (intro _ z; cases z)
  | .bool _, _, _, _, h, e => by rw [nkD] at e <;> first | cases e | (intro _ z; cases z)
  | .str _, _, _, _, h, e => by rw [nkD] at e <;> first | cases e | (intro _ z; cases z)
  | .list _, _, _, _, h, e => by rw [nkD] at e <;> first | cases e | (intro _ z; cases z)
  | .dict _, _, _, _, h, e => by rw [nkD] at e <;> first | cases e | (intro _ z; cases z)
theorem RpA.ky : ∀ (ds : List D) {vs : List V} {L : List Addr} {ks : List NestedKey}, RpA K H vs ds L → nkA ds = some ks → KyA K H vs ks
  | [], _, _, _, h, e => by rw [nkA] at e; cases e; cases h; exact .nil
  | d :: ds, _, _, _, h, e => by
    rw [nkA] at e
    obtain ⟨k, h1, h2⟩ := bind2 e
    obtain ⟨ks', h3, rfl⟩ := Option.map_eq_some_iff.mp h2
    cases h with
    | cons r rs => exact .cons (Rp.ky d r h1) (RpA.ky ds rs h3)
end
mutual
theorem Ky.nk : ∀ (k : NestedKey) {v : V}, Ky K H v k → nkD (keyN k) = some k ∧ Rp K H v (keyN k) []
  | .none, _, h => by cases h
  | .num i, _, h => by cases h; exact ⟨rfl, .int i⟩
  | .text x, _, h => by cases h
  | .tup ks, _, h => by
    cases h with
    | tup s r =>
      obtain ⟨h1, h2⟩ := KyA.nk ks r
      refine ⟨?_, ?_⟩
      · rw [keyN, nkD, h1]; rfl
      · rw [keyN]; exact .tup s h2
theorem KyA.nk : ∀ (ks : List NestedKey) {vs : List V}, KyA K H vs ks → nkA (keyNs ks) = some ks ∧ RpA K H vs (keyNs ks) []
  | [], _, h => by cases h; exact ⟨rfl, .nil⟩
  | k :: ks, _, h => by
    cases h with
    | cons r rs =>
      obtain ⟨h1, h2⟩ := Ky.nk k r
      obtain ⟨h3, h4⟩ := KyA.nk ks rs
      refine ⟨?_, ?_⟩
      · rw [keyNs, nkA, h1, h3]; rfl
      · rw [keyNs]; exact .cons h2 h4
end
end
/-! a key's hash leans on no world -/
mutual
theorem Ky.hash {K : PySem.W.Frag} {H : Hp} (w w' : World) : ∀ (k : NestedKey) {v : V}, Ky K H v k → k.hash w = k.hash w'
  | .none, _, h => by cases h
  | .num i, _, h => rfl
  | .text x, _, h => by cases h
  | .tup ks, _, h => by
    cases h with
    | tup s r => rw [NestedKey.hash, NestedKey.hash, KyA.hashes w w' ks r]
theorem KyA.hashes {K : PySem.W.Frag} {H : Hp} (w w' : World) : ∀ (ks : List NestedKey) {vs : List V}, KyA K H vs ks → NestedKey.hashes w ks = NestedKey.hashes w' ks
  | [], _, h => rfl
  | k :: ks, _, h => by
    cases h with
    | cons r rs => rw [NestedKey.hashes, NestedKey.hashes, Ky.hash w w' k r, KyA.hashes w w' ks rs]
end
section
variable {X : Cx} {pins : List (Addr × Obj)} {σ : L2.St} {H : Hp} {s : Shared} {a b : Addr} {kvs : List NE} {k : NestedKey}
mutual
theorem Ky.nested (I : Inv X pins σ H s) : ∀ (k : NestedKey) {v : V} {u : Value}, Ky X.K H v k → RelV v u → NestedIs s.heap k u
  | .none, _, _, h, _ => by cases h
  | .num i, _, _, h, r => by cases h; obtain ⟨t, rfl⟩ := r; exact .int i t
  | .text x, _, _, h, _ => by cases h
  | .tup ks, _, u, h, r => by
    cases h with
    | tup sq ra =>
      cases r
      obtain ⟨its, rv, ⟨o, ho, hc, n, hd⟩, _⟩ := I.tuple sq
      exact .tup ho hc hd (KyA.nested I ks ra rv)
theorem KyA.nested (I : Inv X pins σ H s) : ∀ (ks : List NestedKey) {vs : List V} {us : List Value}, KyA X.K H vs ks → Vals vs us → NestedAll s.heap ks us
  | [], _, _, h, r => by cases h; cases r; exact .nil
  | k :: ks, _, _, h, r => by
    cases h with
    | cons h1 h2 =>
      cases r with
      | cons r1 r2 => exact .cons (Ky.nested I k h1 r1) (KyA.nested I ks h2 r2)
end
/-- the pairs of model and heap -/
abbrev PN (kvs : List NE) (xs : List (NestedKey × Addr × Value)) : Prop := Paired (fun (p : NE) (q : NestedKey × Addr × Value) => p.1 = q.1 ∧ p.2.1 = q.2.1 ∧ RelV p.2.2 q.2.2) kvs xs
theorem dn_fact (I : Inv X pins σ H s) (e : Rd H a (dN a kvs)) : dNφ a kvs s.heap := by
  rcases e with e | ⟨o, e⟩
  · exact (show ObjOk X.prog X.w H s.heap a (.ext (dNφ a kvs)) from I.hok a _ e).1
  · exact (show ObjOk X.prog X.w H s.heap a (.frz o (.ext (dNφ a kvs))) from I.hok a _ e).2.1
theorem PN.key {kvs : List NE} {xs : List (NestedKey × Addr × Value)} (h : PN kvs xs) : ∀ q ∈ xs, ∃ p ∈ kvs, p.1 = q.1 ∧ p.2.1 = q.2.1 := by
  induction h with
  | nil => intro q hq; cases hq
  | cons r t ih =>
    intro q hq
    rcases List.mem_cons.mp hq with rfl | hq
    · exact ⟨_, List.mem_cons_self, r.1, r.2.1⟩
    · obtain ⟨p, hp, e⟩ := ih q hq
      exact ⟨p, List.mem_cons_of_mem _ hp, e⟩
theorem dn_at (I : Inv X pins σ H s) (e : Rd H a (dN a kvs)) (ky : KyN X.K H kvs) : kvs.length ≤ sizeLine ∧ (a == sysModules) = false ∧ ∃ xs, PN kvs xs ∧ s.heap.DictOfH (nestedKind X.prog X.w) a xs := by
  obtain ⟨z, hs, xs, pr, nd, o, es, ep, h1, h2, h3, h4⟩ := dn_fact I e
  refine ⟨z, hs, xs, pr, o, es, ep, h1, h2, h3, h4 _ _, fun q hq => ?_, nd⟩
  obtain ⟨p, hp, e1, e2⟩ := PN.key pr q hq
  have := ky p hp
  rw [← e1, ← e2]
  exact ⟨Ky.nested I _ this.1 rfl, this.2⟩
theorem key_at (I : Inv X pins σ H s) (h : Ky X.K H (.ref b) k) (hd : k.depth ≤ 8) : (nestedKind X.prog X.w).is s.heap k b := ⟨Ky.nested I k h rfl, hd⟩
/-- what stands at a key -/
def valN (kvs : List NE) (k : NestedKey) : Option (Addr × V) := (kvs.find? fun p => decide (p.1 = k)).map (·.2)
def putN (kvs : List NE) (k : NestedKey) (q : Addr) (v : V) : List NE := if (kvs.any fun p => decide (p.1 = k)) = true then kvs.map (fun p => if p.1 = k then (p.1, p.2.1, v) else p) else kvs ++ [(k, q, v)]
theorem PN.at {kvs : List NE} {xs : List (NestedKey × Addr × Value)} (h : PN kvs xs) (k : NestedKey) : match valN kvs k with | none => atKey xs k = none | some (q, v) => ∃ u, atKey xs k = some (q, u) ∧ RelV v u := by
  induction h with
  | nil => rfl
  | @cons p q kvs xs r t ih =>
    unfold valN atKey at ih ⊢
    rw [List.find?_cons, List.find?_cons, ← r.1]
    by_cases c : p.1 = k
    · rw [decide_eq_true c]
      exact ⟨q.2.2, congrArg some (Prod.ext r.2.1.symm rfl), r.2.2⟩
    · rw [decide_eq_false c]
      exact ih
theorem PN.put {kvs : List NE} {xs : List (NestedKey × Addr × Value)} (h : PN kvs xs) (k : NestedKey) (q : Addr) {v : V} {u : Value} (rv : RelV v u) : PN (putN kvs k q v) (storedH xs k q u) := by
  unfold putN storedH
  have e1 : (kvs.any fun p => decide (p.1 = k)) = (atKey xs k).isSome := by
    have := PN.at h k
    unfold valN at this
    rw [Bool.eq_iff_iff, List.any_eq_true]
    cases e : kvs.find? fun p => decide (p.1 = k) with
    | none =>
      rw [e] at this
      rw [show atKey xs k = none from this]
      have n := List.find?_eq_none.mp e
      simp only [Option.isSome_none, Bool.false_eq_true, iff_false]
      rintro ⟨p, hp, hk⟩
      exact n p hp hk
    | some p =>
      rw [e] at this
      obtain ⟨u, hu, _⟩ := (this : ∃ u, atKey xs k = some (p.2.1, u) ∧ RelV p.2.2 u)
      rw [hu]
      have hp := List.find?_some e
      exact ⟨fun _ => rfl, fun _ => ⟨p, List.mem_of_find?_eq_some e, hp⟩⟩
  rw [e1]
  by_cases c : (atKey xs k).isSome = true
  · rw [if_pos c, if_pos c]
    clear e1 c
    induction h with
    | nil => exact .nil
    | @cons p x kvs xs r t ih =>
      rw [List.map_cons, List.map_cons]
      refine .cons ?_ ih
      unfold putAt
      rw [← r.1]
      by_cases c : p.1 = k
      · rw [if_pos c, if_pos c]; exact ⟨rfl, r.2.1, rv⟩
      · rw [if_neg c, if_neg c]; exact r
  · rw [if_neg c, if_neg c]
    clear e1 c
    induction h with
    | nil => exact .cons ⟨rfl, rfl, rv⟩ .nil
    | cons r t ih => exact .cons r ih
theorem putN_len (kvs : List NE) (k : NestedKey) (q : Addr) (v : V) : (putN kvs k q v).length ≤ kvs.length + 1 := by
  unfold putN
  split
  · rw [List.length_map]; omega
  · simp
theorem putN_mem {kvs : List NE} {k : NestedKey} {q : Addr} {v : V} {p : NE} (h : p ∈ putN kvs k q v) : (∃ p' ∈ kvs, p'.1 = p.1 ∧ p'.2.1 = p.2.1) ∨ (p.1 = k ∧ p.2.1 = q) := by
  unfold putN at h
  split at h
  · obtain ⟨p', h1, rfl⟩ := List.mem_map.mp h
    refine .inl ⟨p', h1, ?_⟩
    split <;> exact ⟨rfl, rfl⟩
  · rcases List.mem_append.mp h with h | h
    · exact .inl ⟨p, h, rfl, rfl⟩
    · rw [List.mem_singleton] at h; subst h; exact .inr ⟨rfl, rfl⟩
/-- new entries' hashes -/
theorem hash_all {K : PySem.W.Frag} {H : Hp} {kvs : List NE} {xs : List (NestedKey × Addr × Value)} (pr : PN kvs xs) (ky : KyN K H kvs) (P P' : Program) (w w' : World) : xs.map (entryOfKey (nestedKind P w)) = xs.map (entryOfKey (nestedKind P' w')) := by
  apply List.map_congr_left
  intro q hq
  obtain ⟨p, hp, e1, e2⟩ := PN.key pr q hq
  have := (ky p hp).1
  unfold entryOfKey
  rw [show (nestedKind P w).hash q.1 = q.1.hash w from rfl, show (nestedKind P' w').hash q.1 = q.1.hash w' from rfl, ← e1, Ky.hash w w' p.1 this]
theorem dn_new {kvs : List NE} {xs : List (NestedKey × Addr × Value)} {h : Heap} {K : PySem.W.Frag} (z : kvs.length ≤ sizeLine) (hs : (a == sysModules) = false) (pr : PN kvs xs) (ky : KyN K H kvs) {P : Program} {w : World} (dd : h.DictOfH (nestedKind P w) a xs) : dNφ a kvs h := by
  obtain ⟨o, es, ep, h1, h2, h3, h4, _, nd⟩ := dd
  exact ⟨z, hs, xs, pr, nd, o, es, ep, h1, h2, h3, fun P' w' => by rw [h4]; exact hash_all pr ky P P' w w'⟩
theorem dn_ext {h : Heap} {P : Program} {w : World} {H' : Hp} (x : dNφ a kvs h) : ObjOk P w H' h a (dN a kvs) := by
  obtain ⟨z, hs, xs, pr, nd, o, es, ep, h1, h2, h3, h4⟩ := x
  exact ⟨⟨z, hs, xs, pr, nd, o, es, ep, h1, h2, h3, h4⟩, ⟨o, h1⟩, fun g g' ⟨z, hs, xs, pr, nd, o, es, ep, h1, r⟩ kp => ⟨z, hs, xs, pr, nd, o, es, ep, kp _ h1, r⟩⟩
end
end Pl

set_option Elab.async false
set_option linter.all false
set_option maxRecDepth 100000
set_option maxHeartbeats 4000000
/-! Pl26: dicts whose keys are tuples: d[k], k in d, d.get(k, e), d[k] = e, {} -/
namespace Pl
open PySem PySem.Spec PyProof.Rows L2
/-! the data: a first pair of two None, then the pairs -/
def isN : List (D × D) → Bool
  | (.none, .none) :: _ => true
  | _ => false
def getND (ds : List (D × D)) (k : NestedKey) : Option D := (ds.find? fun p => decide (nkD p.1 = some k)).map (·.2)
def putND (ds : List (D × D)) (kd : D) (k : NestedKey) (d : D) : List (D × D) :=
  if (ds.any fun p => decide (nkD p.1 = some k)) = true then ds.map (fun p => if nkD p.1 = some k then (p.1, d) else p) else ds ++ [(kd, d)]
/-- a key that may be looked for -/
def keyOk (d : D) : Option NestedKey := match d with
  | .tuple _ => (nkD d).bind fun k => if k.depth ≤ 8 then some k else none
  | _ => none
theorem keyOk_of {d : D} {k : NestedKey} (h : keyOk d = some k) : nkD d = some k ∧ k.depth ≤ 8 ∧ ∃ ds, d = .tuple ds := by
  unfold keyOk at h
  split at h
  · obtain ⟨k', h1, h2⟩ := bind2 h
    split at h2
    · cases h2; exact ⟨h1, by assumption, _, rfl⟩
    · cases h2
  · cases h
section
variable {K : PySem.W.Frag} {H : Hp}
structure DN (K : PySem.W.Frag) (H : Hp) (kvs : List NE) (ds : List (D × D)) (L : List Addr) : Prop where
  ky : KyN K H kvs
  ks : ds.map (·.1) = .none :: kvs.map (fun p => keyN p.1)
  vs : RpA K H (.non :: kvs.map (·.2.2)) (ds.map (·.2)) L
theorem DN.split {kvs : List NE} {ds : List (D × D)} {L : List Addr} (h : DN K H kvs ds L) : ∃ ds', ds = (.none, .none) :: ds' ∧ ds'.map (·.1) = kvs.map (fun p => keyN p.1) ∧ ∃ M, RpA K H (kvs.map (·.2.2)) (ds'.map (·.2)) M ∧ ∀ b ∈ M, b ∈ L := by
  obtain ⟨h0, h1, h2⟩ := h
  cases ds with
  | nil => cases h1
  | cons q ds' =>
    obtain ⟨q1, q2⟩ := q
    rw [List.map_cons] at h1 h2
    obtain ⟨e1, e2⟩ := List.cons.inj h1
    cases h2 with
    | cons r rs =>
      cases e1
      cases r
      exact ⟨ds', rfl, e2, _, rs, fun b hb => List.mem_append_right _ hb⟩
theorem DN.mk' {kvs : List NE} {ds' : List (D × D)} {L : List Addr} (ky : KyN K H kvs) (e : ds'.map (·.1) = kvs.map (fun p => keyN p.1)) (r : RpA K H (kvs.map (·.2.2)) (ds'.map (·.2)) L) : DN K H kvs ((.none, .none) :: ds') L :=
  ⟨ky, by rw [List.map_cons, e], by rw [List.map_cons]; exact .cons .non r⟩
theorem get_go (k : NestedKey) : ∀ {kvs : List NE} {ds : List (D × D)} {L : List Addr}, KyN K H kvs → ds.map (·.1) = kvs.map (fun p => keyN p.1) → RpA K H (kvs.map (·.2.2)) (ds.map (·.2)) L → match getND ds k with
    | none => valN kvs k = none
    | some d => ∃ q v M, valN kvs k = some (q, v) ∧ Rp K H v d M ∧ ∀ b ∈ M, b ∈ L
  | [], [], _, _, _, _ => rfl
  | [], _ :: _, _, _, h, _ => by cases h
  | _ :: _, [], _, _, h, _ => by cases h
  | p :: kvs, q :: ds, L, hy, h, r => by
    rw [List.map_cons, List.map_cons] at h
    obtain ⟨e1, e2⟩ := List.cons.inj h
    rw [List.map_cons, List.map_cons] at r
    cases r with
    | cons r rs =>
      have ih := get_go k (fun x hx => hy x (List.mem_cons_of_mem _ hx)) e2 rs
      have hk : nkD q.1 = some p.1 := by rw [e1]; exact (Ky.nk _ (hy p List.mem_cons_self).1).1
      unfold getND valN at ih ⊢
      rw [List.find?_cons, List.find?_cons, hk]
      by_cases c : p.1 = k
      · rw [decide_eq_true c, decide_eq_true (by rw [c])]
        exact ⟨p.2.1, p.2.2, _, rfl, r, fun b hb => List.mem_append_left _ hb⟩
      · rw [decide_eq_false c, decide_eq_false (fun z => c (Option.some.inj z))]
        dsimp only
        cases e : (ds.find? fun p => decide (nkD p.1 = some k)).map (·.2) with
        | none => rw [e] at ih; exact ih
        | some d =>
          rw [e] at ih
          obtain ⟨a1, a2, a3, b1, b2, b3⟩ := ih
          exact ⟨a1, a2, a3, b1, b2, fun b hb => List.mem_append_right _ (b3 b hb)⟩
theorem DN.get {kvs : List NE} {ds : List (D × D)} {L : List Addr} (h : DN K H kvs ds L) (k : NestedKey) : match getND ds k with
    | none => valN kvs k = none
    | some d => ∃ q v M, valN kvs k = some (q, v) ∧ Rp K H v d M ∧ ∀ b ∈ M, b ∈ L := by
  obtain ⟨ds', rfl, e, M, r, hm⟩ := h.split
  have := get_go k h.ky e r
  have e2 : getND ((.none, .none) :: ds') k = getND ds' k := by
    unfold getND
    rw [List.find?_cons, show nkD .none = none by rw [nkD] <;> first | rfl | (intro _ z; cases z)]
    rfl
  rw [e2]
  cases e3 : getND ds' k with
  | none => rw [e3] at this; exact this
  | some d =>
    rw [e3] at this
    obtain ⟨a1, a2, a3, b1, b2, b3⟩ := this
    exact ⟨a1, a2, a3, b1, b2, fun b hb => hm b (b3 b hb)⟩
theorem DN.isSome {kvs : List NE} {ds : List (D × D)} {L : List Addr} (h : DN K H kvs ds L) (k : NestedKey) : (valN kvs k).isSome = (getND ds k).isSome := by
  have g := h.get k
  cases e : getND ds k with
  | none => rw [e] at g; rw [show valN kvs k = none from g]; rfl
  | some d => rw [e] at g; obtain ⟨q, v, M, g1, _⟩ := g; rw [g1]; rfl
theorem put_go (k : NestedKey) {v : V} {d : D} {M : List Addr} (r : Rp K H v d M) : ∀ {kvs : List NE} {ds : List (D × D)} {L : List Addr}, KyN K H kvs → ds.map (·.1) = kvs.map (fun p => keyN p.1) → RpA K H (kvs.map (·.2.2)) (ds.map (·.2)) L →
    (ds.any fun p => decide (nkD p.1 = some k)) = (kvs.any fun p => decide (p.1 = k)) ∧ (ds.map fun p => if nkD p.1 = some k then (p.1, d) else p).map (·.1) = (kvs.map fun p => if p.1 = k then (p.1, p.2.1, v) else p).map (fun p => keyN p.1) ∧
      ∃ N, RpA K H ((kvs.map fun p => if p.1 = k then (p.1, p.2.1, v) else p).map (·.2.2)) ((ds.map fun p => if nkD p.1 = some k then (p.1, d) else p).map (·.2)) N ∧ ∀ b ∈ N, b ∈ L ∨ b ∈ M
  | [], [], _, _, _, _ => ⟨rfl, rfl, [], .nil, by simp⟩
  | [], _ :: _, _, _, h, _ => by cases h
  | _ :: _, [], _, _, h, _ => by cases h
  | p :: kvs, q :: ds, L, hy, h, ra => by
    rw [List.map_cons, List.map_cons] at h
    obtain ⟨e1, e2⟩ := List.cons.inj h
    rw [List.map_cons, List.map_cons] at ra
    cases ra with
    | cons r1 rs =>
      obtain ⟨i1, i2, N, i3, i4⟩ := put_go k r (fun x hx => hy x (List.mem_cons_of_mem _ hx)) e2 rs
      have hk : nkD q.1 = some p.1 := by rw [e1]; exact (Ky.nk _ (hy p List.mem_cons_self).1).1
      have hc : (nkD q.1 = some k) ↔ p.1 = k := by rw [hk]; exact ⟨fun z => Option.some.inj z, fun z => by rw [z]⟩
      refine ⟨?_, ?_, ?_⟩
      · rw [List.any_cons, List.any_cons, i1]
        congr 1
        by_cases c : p.1 = k
        · rw [decide_eq_true c, decide_eq_true (hc.mpr c)]
        · rw [decide_eq_false c, decide_eq_false (fun z => c (hc.mp z))]
      · simp only [List.map_cons]
        rw [i2]
        congr 1
        by_cases c : p.1 = k
        · rw [if_pos c, if_pos (hc.mpr c)]; exact e1
        · rw [if_neg c, if_neg (fun z => c (hc.mp z))]; exact e1
      · simp only [List.map_cons]
        by_cases c : p.1 = k
        · rw [if_pos c, if_pos (hc.mpr c)]
          refine ⟨M ++ N, .cons r i3, fun b hb => ?_⟩
          rcases List.mem_append.mp hb with z | z
          · exact .inr z
          · exact (i4 b z).imp (fun y => List.mem_append_right _ y) id
        · rw [if_neg c, if_neg (fun z => c (hc.mp z))]
          refine ⟨_, .cons r1 i3, fun b hb => ?_⟩
          rcases List.mem_append.mp hb with z | z
          · exact .inl (List.mem_append_left _ z)
          · exact (i4 b z).imp (fun y => List.mem_append_right _ y) id
theorem DN.put {kvs : List NE} {ds : List (D × D)} {L : List Addr} (h : DN K H kvs ds L) {k : NestedKey} {q : Addr} {kd : D} {v : V} {d : D} {M : List Addr} (hk : Ky K H (.ref q) k) (h8 : k.depth ≤ 8) (ek : keyN k = kd) (r : Rp K H v d M) : ∃ N, DN K H (putN kvs k q v) (putND ds kd k d) N ∧ ∀ b ∈ N, b ∈ L ∨ b ∈ M := by
  obtain ⟨ds', rfl, e, M', ra, hm⟩ := h.split
  obtain ⟨i1, i2, N, i3, i4⟩ := put_go k r h.ky e ra
  have n0 : nkD (.none : D) = none := by rw [nkD] <;> first | rfl | (intro _ z; cases z)
  have ky : KyN K H (putN kvs k q v) := fun p hp => by
    rcases putN_mem hp with ⟨p', h1, h2, h3⟩ | ⟨h2, h3⟩
    · rw [← h2, ← h3]; exact h.ky p' h1
    · rw [h2, h3]; exact ⟨hk, h8⟩
  have e1 : putND ((.none, .none) :: ds') kd k d = (.none, .none) :: putND ds' kd k d := by
    unfold putND
    rw [List.any_cons, n0, show (decide ((none : Option NestedKey) = some k) || ds'.any fun p => decide (nkD p.1 = some k)) = ds'.any fun p => decide (nkD p.1 = some k) by simp]
    split
    · rw [List.map_cons, n0]; rfl
    · rfl
  rw [e1]
  unfold putND at *
  unfold putN at *
  rw [i1]
  by_cases c : (kvs.any fun p => decide (p.1 = k)) = true
  · rw [if_pos c] at ky ⊢
    rw [if_pos c]
    exact ⟨N, DN.mk' ky i2 i3, fun b hb => (i4 b hb).imp (hm b) id⟩
  · rw [if_neg c] at ky ⊢
    rw [if_neg c]
    refine ⟨M' ++ M, DN.mk' ky (by rw [List.map_append, List.map_append, e]; simp [ek]) ?_, fun b hb => (List.mem_append.mp hb).imp (hm b) id⟩
    rw [List.map_append, List.map_append]
    have := ra.append (RpA.cons r .nil)
    simpa using this
theorem DN.mono {H' : Hp} {kvs : List NE} {ds : List (D × D)} {L : List Addr} (h : DN K H kvs ds L) (e : Same H H') : DN K H' kvs ds L := ⟨h.ky.keep (Same.sqt e), h.ks, h.vs.mono e⟩
theorem intK_isN {ds : List (D × D)} {kvs : List (Key × V)} (h : isN ds = true) (e : ds.map (·.1) = kvs.map (fun p => keyD p.1)) : False := by
  cases ds with
  | nil => cases h
  | cons q ds =>
    obtain ⟨q1, q2⟩ := q
    cases kvs with
    | nil => cases e
    | cons p kvs =>
      rw [List.map_cons, List.map_cons] at e
      have := (List.cons.inj e).1
      cases q1 <;> first | (cases h; done) | (cases hp : p.1 <;> rw [hp] at this <;> cases this)
theorem Rp.dictN {v : V} {ds : List (D × D)} {L : List Addr} (h : Rp K H v (.dict ds) L) (hk : isN ds = true) : ∃ a kvs M, v = .ref a ∧ Rd H a (dN a kvs) ∧ DN K H kvs ds M ∧ ∀ b ∈ M, b ∈ L := by
  cases h with
  | dk h1 h2 h3 => exact (intK_isN hk h2).elim
  | dn h1 ky h2 h3 => exact ⟨_, _, _, rfl, h1, ⟨ky, h2, h3⟩, fun b hb => List.mem_cons_of_mem _ hb⟩
theorem Res.dictN {F : Addr → Prop} {H0 : Hp} {fl : Fl} {v : V} {ds : List (D × D)} (h : Res K F H0 H v (.dict ds, fl)) (hk : isN ds = true) : ∃ a kvs M, v = .ref a ∧ Rd H a (dN a kvs) ∧ DN K H kvs ds M ∧ ∀ b ∈ M, F b ∨ H0 b = none := by
  cases fl with
  | fz =>
    obtain ⟨L, h1, h2⟩ := h
    obtain ⟨a, kvs, M, e, r, dr, hm⟩ := h1.dictN hk
    exact ⟨a, kvs, M, e, r, dr, fun b hb => h2 b (hm b hb)⟩
  | ow =>
    obtain ⟨a, h1, h2, h3⟩ := h
    rcases h3 with ⟨kvs, L, e, k1, k2, k3⟩ | ⟨kvs, L, e, k0, k1, k2, k3⟩
    · exact (intK_isN hk k1).elim
    · exact ⟨a, kvs, L, h1, .inl e, ⟨k0, k1, k2⟩, fun b hb => (k3 b hb).1⟩
  | bw =>
    obtain ⟨a, h1, h3⟩ := h
    rcases h3 with ⟨kvs, L, e, k1, k2, k3⟩ | ⟨kvs, L, e, k0, k1, k2, k3⟩
    · exact (intK_isN hk k1).elim
    · exact ⟨a, kvs, L, h1, .inl e, ⟨k0, k1, k2⟩, k3⟩
  | sc => obtain ⟨a, ns, h1, h2, h3⟩ := h; cases h2
theorem Res.key {F : Addr → Prop} {H0 : Hp} {fl : Fl} {v : V} {d : D} {k : NestedKey} (h : Res K F H0 H v (d, fl)) (hk : keyOk d = some k) : ∃ b, v = .ref b ∧ Ky K H (.ref b) k ∧ k.depth ≤ 8 ∧ keyN k = d := by
  obtain ⟨h1, h2, ds, rfl⟩ := keyOk_of hk
  have ne : fl ≠ .sc := by
    rintro rfl
    obtain ⟨a, ns, _, e, _⟩ := h
    cases e
  obtain ⟨L, r⟩ := h.rp ne
  have ky := Rp.ky _ r h1
  obtain ⟨a, vs, rfl, _⟩ := r.tuple
  exact ⟨a, rfl, ky, h2, nkD_key _ h1⟩
end
/-! ### at the model -/
section
variable {X : Cx} {pins : List (Addr × Obj)} {σ : L2.St} {H : Hp} {s : Shared} {a b : Addr} {kvs : List NE} {k : NestedKey} {E : Value → Shared → Prop} {A : Around}
theorem room8 (hu : A.units + 64 < cLine) : (nestedKind X.prog X.w).room A.in1 := by show A.units + 1 + 8 < cLine; omega
theorem getN_run {Q : Value → Shared → Prop} (hu : A.units + 64 < cLine) (I : Inv X pins σ H s) (e : Rd H a (dN a kvs)) (ky : KyN X.K H kvs) (hk : Ky X.K H (.ref b) k) (h8 : k.depth ≤ 8) {q : Addr} {v : V} (hv : valN kvs k = some (q, v)) (h : ∀ u s', Inv X pins σ H s' → RelV v u → Q u s') : wpAny (model X.prog X.w) A (getItem (.ref a) (.ref b)) Q E s := by
  obtain ⟨z, hs, xs, pr, dd⟩ := dn_at I e ky
  have at1 := PN.at pr k
  rw [hv] at at1
  obtain ⟨u, h1, h2⟩ := at1
  exact wpAny_getItem_heap (room8 hu) (key_at I hk h8) dd h1 (h u _ (I.tok _) h2)
theorem PN.isSome {kvs : List NE} {xs : List (NestedKey × Addr × Value)} (pr : PN kvs xs) (k : NestedKey) : (atKey xs k).isSome = (valN kvs k).isSome := by
  have at1 := PN.at pr k
  cases e : valN kvs k with
  | none => rw [e] at at1; rw [show atKey xs k = none from at1]; rfl
  | some p => rw [e] at at1; obtain ⟨u, h1, _⟩ := (at1 : ∃ u, atKey xs k = some (p.1, u) ∧ RelV p.2 u); rw [h1]; rfl
theorem inN_run {Q : Value → Shared → Prop} (hu : A.units + 64 < cLine) (I : Inv X pins σ H s) (e : Rd H a (dN a kvs)) (ky : KyN X.K H kvs) (hk : Ky X.K H (.ref b) k) (h8 : k.depth ≤ 8) (h : ∀ s', Inv X pins σ H s' → Q (.bool (valN kvs k).isSome) s') : wpAny (model X.prog X.w) A (compareOp .In (.ref b) (.ref a)) Q E s := by
  obtain ⟨z, hs, xs, pr, dd⟩ := dn_at I e ky
  refine wpAny_in_heap (room8 hu) (key_at I hk h8) hs dd ?_
  rw [PN.isSome pr]
  exact h _ (I.tok _)
theorem notInN_run {Q : Value → Shared → Prop} (hu : A.units + 64 < cLine) (I : Inv X pins σ H s) (e : Rd H a (dN a kvs)) (ky : KyN X.K H kvs) (hk : Ky X.K H (.ref b) k) (h8 : k.depth ≤ 8) (h : ∀ s', Inv X pins σ H s' → Q (.bool (!(valN kvs k).isSome)) s') : wpAny (model X.prog X.w) A (compareOp .NotIn (.ref b) (.ref a)) Q E s := by
  obtain ⟨z, hs, xs, pr, dd⟩ := dn_at I e ky
  refine wpAny_notIn_heap (room8 hu) (key_at I hk h8) hs dd ?_
  rw [PN.isSome pr]
  exact h _ (I.tok _)
theorem get2N_run {Q : Value → Shared → Prop} {d : V} {r : Value} (hu : A.units + 64 < cLine) (I : Inv X pins σ H s) (e : Rd H a (dN a kvs)) (ky : KyN X.K H kvs) (hk : Ky X.K H (.ref b) k) (h8 : k.depth ≤ 8) (rd : RelV d r) (h : ∀ u s', Inv X pins σ H s' → RelV (((valN kvs k).map (·.2)).getD d) u → Q u s') : wpAny (model X.prog X.w) A (call (.builtin "dict.get") [.ref a, .ref b, r]) Q E s := by
  obtain ⟨z, hs, xs, pr, dd⟩ := dn_at I e ky
  refine call_meetsIn PySem.F.slot_dict_get dd.typeIs PySem.F.entry_dict_get (PySem.F.args_dict_get_3 _ _ _) (meetsH_dict_get_default (nestedKind X.prog X.w) a b hs r) ⟨room8 hu, k, xs, key_at I hk h8, dd, h _ _ (I.tok _) ?_⟩
  have at1 := PN.at pr k
  cases e1 : valN kvs k with
  | none => rw [e1] at at1; rw [show atKey xs k = none from at1]; exact rd
  | some p => rw [e1] at at1; obtain ⟨u, h1, h2⟩ := (at1 : ∃ u, atKey xs k = some (p.1, u) ∧ RelV p.2 u); rw [h1]; exact h2
theorem setN_run {Q : Unit → Shared → Prop} {v : V} {r : Value} (hu : A.units + 64 < cLine) (I : Inv X pins σ H s) (e : H a = some (dN a kvs)) (ky : KyN X.K H kvs) (hk : Ky X.K H (.ref b) k) (h8 : k.depth ≤ 8) (hl : kvs.length < sizeLine) (rv : RelV v r) (h : ∀ s', Inv X pins σ (upd H a (dN a (putN kvs k b v))) s' → Q () s') : wpAny (model X.prog X.w) A (setItem (.ref a) (.ref b) r) Q E s := by
  obtain ⟨z, hs, xs, pr, dd⟩ := dn_at I (.inl e) ky
  have lx : kvs.length = xs.length := Paired.length pr
  refine wpAny_setItem_heap (hsz := by omega) (room8 hu) (key_at I hk h8) dd fun h' dd' sb => h _ ?_
  have ky2 : KyN X.K H (putN kvs k b v) := fun p hp => by
    rcases putN_mem hp with ⟨p', h1, h2, h3⟩ | ⟨h2, h3⟩
    · rw [← h2, ← h3]; exact ky p' h1
    · rw [h2, h3]; exact ⟨hk, h8⟩
  have ln := putN_len kvs k b v
  have nw := dn_new (by omega) hs (PN.put pr k b rv) ky2 dd'
  obtain ⟨o, _, _, ho, _⟩ := id dd'
  exact d_write I (by rw [e]; exact True.intro) sb ⟨o, ho⟩ (dn_ext nw)
theorem dn_ty (I : Inv X pins σ H s) (e : Rd H a (dN a kvs)) : s.TypeIs (.ref a) "dict" ∧ (∀ b, Value.ref a = .ref b → ∃ ob, s.heap.get? b = some ob ∧ ob.dict = none) ∧ (a == sysModules) = false := by
  obtain ⟨z, hs, xs, pr, nd, o, es, ep, h1, h2, h3, h4⟩ := dn_fact I e
  exact ⟨⟨o, h1, h2.1⟩, fun b q => by cases q; exact ⟨o, h1, h2.2.1⟩, hs⟩
end
end Pl

set_option Elab.async false
set_option linter.all false
set_option maxRecDepth 100000
set_option maxHeartbeats 4000000
/-! Pl27: the rules for dicts whose keys are tuples -/
namespace Pl
open PySem PySem.Spec PyProof.Rows L2
section
variable {X : Cx} {x : Str} {p pos apos cpos : Pos} {a b c e ix : Expr} {g gi ga gb gc : GE}
/-- {} -/
def eDictN0 : GE := fun _ => some (.dict [(.none, .none)], .ow)
theorem dn_empty {h : Heap} {P : Program} {w : World} {H' : Hp} (hb : sysModules < h.objs.size) : ObjOk P w H' (h.push { cls := .type "dict", data := .dict #[] }) h.objs.size (dN h.objs.size []) :=
  dn_ext (P := P) (w := w) ⟨Nat.zero_le _, beq_eq_false_iff_ne.mpr (Ne.symm (Nat.ne_of_lt hb)), [], .nil, List.nodup_nil, _, #[], 0, Heap.get?_push_size _ rfl, ⟨rfl, rfl, rfl⟩, rfl, fun _ _ => rfl⟩
theorem ve_dictN0 : VE X (.Dict [] [] pos) eDictN0 := ⟨fun pins s σ H Q I w => by
  obtain ⟨F, env, r, ok, e, q⟩ := w
  cases e
  have hn := I.hok.fresh (Nat.le_refl s.heap.objs.size)
  have I1 := I.laid (a := s.heap.objs.size) (o := dN s.heap.objs.size []) (h' := s.heap.push { cls := .type "dict", data := .dict #[] }) (t' := s.toks) (fun _ _ z => Heap.get?_push_of_some _ z) (Nat.le_refl _) (dn_empty I.big)
  have s1 : Same H (upd H s.heap.objs.size (dN s.heap.objs.size [])) := fun b o z => by rw [upd_ne (ne_of_none z hn)]; exact z
  refine wpAny_Dict_empty ⟨.ref s.heap.objs.size, _, I1, rfl, q _ _ s1 (szs_of I1) ⟨_, rfl, hn, .inr ⟨[], [], upd_same, ?_, rfl, ?_, ?_⟩⟩⟩
  · intro p hp; cases hp
  · exact RpA.cons .non .nil
  · intro b hb; cases hb⟩
theorem VE.at {F : Addr → Prop} {env : En} {r : RV} {pins : List (Addr × Obj)} {σ : L2.St} {H : Hp} {s : Shared} (h : VE X a ga) (I : Inv X pins σ H s) (ok : Ok X.K F σ H env) (e : ga env = some r) :
    wpAny (model X.prog X.w) X.A (eval a X.env) (EP X pins σ fun v H' => Same H H' ∧ Res X.K F H H' v r) X.xe s := h.run pins s σ H _ I ⟨F, env, r, ok, e, fun v H' s z rr => ⟨s, rr⟩⟩
/-- d[k] -/
def dgetNG (r k : RV) : Option RV := match r with
  | (.dict ds, _) => if isN ds = true then (keyOk k.1).bind fun k => (getND ds k).bind fun d => if lf d = true then some (d, .fz) else none else none
  | _ => none
theorem dgetNG_of {r k c : RV} (h : dgetNG r k = some c) : ∃ ds f kk d, r = (.dict ds, f) ∧ isN ds = true ∧ keyOk k.1 = some kk ∧ getND ds kk = some d ∧ lf d = true ∧ c = (d, .fz) := by
  unfold dgetNG at h
  split at h
  · split at h
    · rename_i hn
      obtain ⟨kk, h1, h2⟩ := bind2 h
      obtain ⟨d, h3, h4⟩ := bind2 h2
      split at h4
      · cases h4; exact ⟨_, _, kk, d, rfl, hn, h1, h3, by assumption, rfl⟩
      · cases h4
    · cases h
  · cases h
theorem ve_dgetN (hu : X.A.units + 64 < cLine) (ha : VE X a ga) (hb : VE X b gb) (hs : NoSl b := by intro _ _; rfl) : VE X (.Subscript a b pos) (e2 dgetNG ga gb) := ⟨fun pins s σ H Q I w => by
  obtain ⟨F, env, c, ok, e, q⟩ := w
  obtain ⟨r, e1, e'⟩ := bind2 e
  obtain ⟨k, e3, e4⟩ := bind2 e'
  obtain ⟨ds, f, kk, d, rfl, hn, hk, hg, hl, rfl⟩ := dgetNG_of e4
  obtain ⟨kd, kf⟩ := k
  refine subD_of PySem.F.slot_dict_getitem.lookup hs (thn (ha.at I ok e1) fun u s1 ⟨v1, H1, I1, rv1, sm1, r1⟩ => thn (hb.at I1 (ok.mono sm1) e3) fun iv s2 ⟨v2, H2, I2, rv2, sm2, r2⟩ => ?_)
  obtain ⟨a, kvs, M, rfl, rd, dr, hm⟩ := (r1.mono sm2).dictN hn
  obtain ⟨bk, rfl, ky, h8, ek⟩ := r2.key hk
  cases rv1
  cases rv2
  have gg := dr.get kk
  rw [hg] at gg
  obtain ⟨qa, v, M', g1, g2, g3⟩ := gg
  exact ⟨(dn_ty I2 rd).1, getN_run hu I2 rd dr.ky ky h8 g1 fun u s' I3 rv => ⟨v, H2, I3, rv, q v H2 (sm1.trans sm2) (szs_of I3) ⟨M', g2, fun b hb => by rw [Rp.lfree d g2 hl] at hb; cases hb⟩⟩⟩⟩
/-- k in d -/
def dinNG (neg : Bool) (k r : RV) : Option RV := match r with
  | (.dict ds, _) => if isN ds = true then (keyOk k.1).map fun k => (.bool (neg != (getND ds k).isSome), .fz) else none
  | _ => none
theorem dinNG_of {neg : Bool} {r k c : RV} (h : dinNG neg k r = some c) : ∃ ds f kk, r = (.dict ds, f) ∧ isN ds = true ∧ keyOk k.1 = some kk ∧ c = (.bool (neg != (getND ds kk).isSome), .fz) := by
  unfold dinNG at h
  split at h
  · split at h
    · rename_i hn
      obtain ⟨kk, h1, rfl⟩ := Option.map_eq_some_iff.mp h
      exact ⟨_, _, kk, rfl, hn, h1, rfl⟩
    · cases h
  · cases h
theorem pc_dinN (hu : X.A.units + 64 < cLine) (ha : VE X a ga) (hb : VE X b gb) : PC X .In a b (TE' X.K (e2 (dinNG false) ga gb)) := ⟨fun pins s σ H Q I w => by
  obtain ⟨F, env, c, ok, e, q⟩ := w
  obtain ⟨k, e1, e'⟩ := bind2 e
  obtain ⟨r, e3, e4⟩ := bind2 e'
  obtain ⟨ds, f, kk, rfl, hn, hk, rfl⟩ := dinNG_of e4
  obtain ⟨kd, kf⟩ := k
  refine thn (ha.at I ok e1) fun u s1 ⟨v1, H1, I1, rv1, sm1, r1⟩ => thn (hb.at I1 (ok.mono sm1) e3) fun iv s2 ⟨v2, H2, I2, rv2, sm2, r2⟩ => ?_
  obtain ⟨a, kvs, M, rfl, rd, dr, hm⟩ := r2.dictN hn
  obtain ⟨bk, rfl, ky, h8, ek⟩ := (r1.mono sm2).key hk
  cases rv1
  cases rv2
  refine inN_run hu I2 rd dr.ky ky h8 fun s' I3 => ⟨.bl _, H2, I3, rfl, q _ H2 (sm1.trans sm2) (szs_of I3) ?_⟩
  rw [dr.isSome kk, Bool.false_bne]
  exact Res.ofBool⟩
theorem pc_dnotinN (hu : X.A.units + 64 < cLine) (ha : VE X a ga) (hb : VE X b gb) : PC X .NotIn a b (TE' X.K (e2 (dinNG true) ga gb)) := ⟨fun pins s σ H Q I w => by
  obtain ⟨F, env, c, ok, e, q⟩ := w
  obtain ⟨k, e1, e'⟩ := bind2 e
  obtain ⟨r, e3, e4⟩ := bind2 e'
  obtain ⟨ds, f, kk, rfl, hn, hk, rfl⟩ := dinNG_of e4
  obtain ⟨kd, kf⟩ := k
  refine thn (ha.at I ok e1) fun u s1 ⟨v1, H1, I1, rv1, sm1, r1⟩ => thn (hb.at I1 (ok.mono sm1) e3) fun iv s2 ⟨v2, H2, I2, rv2, sm2, r2⟩ => ?_
  obtain ⟨a, kvs, M, rfl, rd, dr, hm⟩ := r2.dictN hn
  obtain ⟨bk, rfl, ky, h8, ek⟩ := (r1.mono sm2).key hk
  cases rv1
  cases rv2
  refine notInN_run hu I2 rd dr.ky ky h8 fun s' I3 => ⟨.bl _, H2, I3, rfl, q _ H2 (sm1.trans sm2) (szs_of I3) ?_⟩
  rw [dr.isSome kk, Bool.true_bne]
  exact Res.ofBool⟩
theorem ve_dinN (hu : X.A.units + 64 < cLine) (ha : VE X a ga) (hb : VE X b gb) (h1 : behindInMarks .In b = false := by first | exact nobehind _ (by decide) (by decide) | rfl) : VE X (.Compare a [.In] [b] pos) (e2 (dinNG false) ga gb) := pe_cmp (pc_dinN hu ha hb) h1
theorem ve_dnotinN (hu : X.A.units + 64 < cLine) (ha : VE X a ga) (hb : VE X b gb) (h1 : behindInMarks .NotIn b = false := by first | exact nobehind _ (by decide) (by decide) | rfl) : VE X (.Compare a [.NotIn] [b] pos) (e2 (dinNG true) ga gb) := pe_cmp (pc_dnotinN hu ha hb) h1
theorem vb_of_cmp {op : CmpOp} {g : GE} (h : PC X op a b (TE' X.K g)) (h1 : behindInMarks op b = false) : VB X (.Compare a [op] [b] pos) (eB g) :=
  PT.to (pt_cmp h h1) fun σ H Q ⟨F, env, c, ok, e, q⟩ => by
    obtain ⟨c', e0, e5⟩ := bind2 e
    obtain ⟨d, f⟩ := c'
    cases d <;> try (cases (show (none : Option Bool) = some c from e5))
    cases e5
    exact ⟨F, env, _, ok, e0, fun v H' s z rr => ⟨_, rr.bool, fun zz => q H' s zz⟩⟩
theorem vb_dinN (hu : X.A.units + 64 < cLine) (ha : VE X a ga) (hb : VE X b gb) (h1 : behindInMarks .In b = false := by first | exact nobehind _ (by decide) (by decide) | rfl) : VB X (.Compare a [.In] [b] pos) (eB (e2 (dinNG false) ga gb)) := vb_of_cmp (pc_dinN hu ha hb) h1
theorem vb_dnotinN (hu : X.A.units + 64 < cLine) (ha : VE X a ga) (hb : VE X b gb) (h1 : behindInMarks .NotIn b = false := by first | exact nobehind _ (by decide) (by decide) | rfl) : VB X (.Compare a [.NotIn] [b] pos) (eB (e2 (dinNG true) ga gb)) := vb_of_cmp (pc_dnotinN hu ha hb) h1
/-- d.get(k, e) -/
def dgetND (r k z : RV) : Option RV := match r with
  | (.dict ds, _) => if isN ds = true then (keyOk k.1).bind fun k => (fun d => if lf d = true then some ((d, .fz) : RV) else none) ((getND ds k).getD z.1) else none
  | _ => none
theorem dgetND_of {r k z c : RV} (h : dgetND r k z = some c) : ∃ ds f kk, r = (.dict ds, f) ∧ isN ds = true ∧ keyOk k.1 = some kk ∧ lf ((getND ds kk).getD z.1) = true ∧ c = ((getND ds kk).getD z.1, .fz) := by
  unfold dgetND at h
  split at h
  · split at h
    · rename_i hn
      obtain ⟨kk, h1, h2⟩ := bind2 h
      dsimp only at h2
      split at h2
      · cases h2; exact ⟨_, _, kk, rfl, hn, h1, by assumption, rfl⟩
      · cases h2
    · cases h
  · cases h
def eDGN (ga gb gc : GE) : GE := fun env => (ga env).bind fun r => (gb env).bind fun k => (gc env).bind fun z => dgetND r k z
theorem ve_dget2N (hu : X.A.units + 64 < cLine) (ha : VE X a ga) (hb : VE X b gb) (hc : VE X c gc) (m : M2 X a "get" apos b c cpos := by exact ⟨rfl, rfl, rfl, rfl⟩) : VE X (.Call (.Attribute a "get" apos) [b, c] [] cpos) (eDGN ga gb gc) := ⟨fun pins s σ H Q I w => by
  obtain ⟨F, env, r, ok, e, q⟩ := w
  obtain ⟨r, e1, e'⟩ := bind2 e
  obtain ⟨k, e3, e''⟩ := bind2 e'
  obtain ⟨z, e5, e4⟩ := bind2 e''
  obtain ⟨ds, f, kk, rfl, hn, hk, hl, rfl⟩ := dgetND_of e4
  obtain ⟨kd, kf⟩ := k
  obtain ⟨zd, zf⟩ := z
  refine wpAny_Call_method m.base m.few m.line PySem.F.plainAttrs_dict PySem.F.slot_dict_get PySem.F.type_dict_get (thn (ha.at I ok e1) fun u s1 ⟨v1, H1, I1, rv1, sm1, r1⟩ => ?_)
  obtain ⟨a0, kvs0, M0, rfl, rd0, _, _⟩ := r1.dictN hn
  cases rv1
  obtain ⟨t1, t2, _⟩ := dn_ty I1 rd0
  refine ⟨t1, t2, ?_⟩
  rw [m.trees]
  refine Calls.callWith_builtin rfl (Calls.evalArgs_plain (Calls.spliced_cons (thn (hb.at I1 (ok.mono sm1) e3) fun iv s2 ⟨v2, H2, I2, rv2, sm2, r2⟩ =>
    Calls.spliced_cons (thn (hc.at I2 (ok.mono (sm1.trans sm2)) e5) fun fv s3 ⟨v3, H3, I3, rv3, sm3, r3⟩ => Calls.spliced_nil ?_))))
  obtain ⟨a, kvs, M, ea, rd, dr, hm⟩ := (r1.mono (sm2.trans sm3)).dictN hn
  cases ea
  obtain ⟨bk, rfl, ky, h8, ek⟩ := (r2.mono sm3).key hk
  cases rv2
  refine get2N_run hu I3 rd dr.ky ky h8 rv3 fun u s' I4 rv => ⟨_, H3, I4, rv, q _ H3 ((sm1.trans sm2).trans sm3) (szs_of I4) ?_⟩
  have gg := dr.get kk
  cases hg : getND ds kk with
  | none =>
    rw [hg] at gg hl
    rw [show valN kvs kk = none from gg]
    exact (r3.back (sm1.trans sm2)).leaf hl
  | some d =>
    rw [hg] at gg hl
    obtain ⟨qa, v, M', g1, g2, g3⟩ := gg
    rw [g1]
    exact ⟨M', g2, fun b hb => by rw [Rp.lfree d g2 hl] at hb; cases hb⟩⟩
/-- d[k] = e -/
def sDSetN (i : Nat) (gi g : GE) : GS := fun env => (g env).bind fun r => (gi env).bind fun k => (keyOk k.1).bind fun kk => mD env i fun ds => if plainFl r.2 = true ∧ isN ds = true ∧ ds.length < 16777216 then some (putND ds k.1 kk r.1) else none
theorem SOk.dicN {K : PySem.W.Frag} {B H : Hp} {F0 P F : Addr → Prop} {σ : L2.St} {env : En} {i : Nat} {ds : List (D × D)} (h : SOk K B F0 P F σ H env) (e : env[i]? = some (some (.dict ds, .ow))) (hk : isN ds = true) : ∃ a kvs L, σ[i]? = some (some (.ref a)) ∧ H a = some (dN a kvs) ∧ DN K H kvs ds L ∧ (∀ b ∈ L, F b) ∧ ¬ F a := by
  obtain ⟨v, ev, a, rfl, nF, ob⟩ := h.ok.slot i _ e
  rcases ob with ⟨kvs, L, h1, h2, h3, h4⟩ | ⟨kvs, L, h1, h0, h2, h3, h4⟩
  · exact (intK_isN hk h2).elim
  · exact ⟨a, kvs, L, ev, h1, ⟨h0, h2, h3⟩, h4, nF⟩
theorem SOk.dicMutN {K : PySem.W.Frag} {B H H1 : Hp} {F0 P F : Addr → Prop} {σ : L2.St} {env : En} {i : Nat} {ds : List (D × D)} {En0 : Ends} (h : SOk K B F0 P F σ H env) (s : Same H H1) (e : env[i]? = some (some (.dict ds, .ow))) (hk : isN ds = true) {es : List (D × D)} (p : Post En0 K B F0 P F σ H env (.nx (env.set i (some (.dict es, .ow))))) :
    ∃ a kvs L, σ[i]? = some (some (.ref a)) ∧ H1 a = some (dN a kvs) ∧ DN K H1 kvs ds L ∧ (∀ b ∈ L, F b) ∧ ∀ kws M, DN K H1 kws es M → (∀ b ∈ M, F b ∨ H b = none) → En0.nx σ (upd H1 a (dN a kws)) := by
  obtain ⟨a, kvs, L, e1, e2, ra, hl, nF⟩ := (h.later s).dicN e hk
  refine ⟨a, kvs, L, e1, e2, ra, hl, fun kws M rm hm => ?_⟩
  obtain ⟨k1, s1⟩ := h.new s
  have na : ¬ (F a ∨ (H a = none ∧ H1 a ≠ none)) := fun z => z.elim nF fun z => h.ok.ownA (.inl rfl) e e1 z.1
  have hm' : ∀ b ∈ M, F b ∨ (H b = none ∧ H1 b ≠ none) := fun b hb => (hm b hb).imp id fun z => ⟨z, rm.vs.addr b hb⟩
  have sq := mut_sqt (K := K) (o := dN a kws) e2 trivial
  have ob : Obj1 K (fun b => F b ∨ (H b = none ∧ H1 b ≠ none)) (upd H1 a (dN a kws)) a (.dict es) :=
    .inr ⟨kws, M, upd_same, rm.ky.keep sq, rm.ks, rm.vs.keep sq _ (fun b hb w q => by rw [upd_ne (fun z => na (by rw [← z]; exact hm' b hb))]; exact q), hm'⟩
  obtain ⟨k2, s2⟩ := k1.mut e e1 ob
  exact p _ _ _ _ k2 (s1.trans s2)
theorem vs_setDN (i : Nat) (hu : X.A.units + 64 < cLine) {sp : Pos} (he : VE X e g) (hi : VE X ix gi) (hN : X.N[i]? = some x := by rfl) (hv : Vis X.env.scope x := by first | exact Or.inl rfl | exact Or.inr (Or.inl rfl) | exact Or.inr (Or.inr rfl)) (hd : (x == ("__debug__" : Str)) = false := by decide)
    (hcd : (x == ("__classdict__" : Str)) = false := by decide) (hs : swapsWith e (some (.Subscript (.Name x p) ix sp)) pos.line X.env = pure false := by rfl) : VS X (.Assign [.Subscript (.Name x p) ix sp] e pos) (sDSetN i gi g) := ⟨fun pins s σ H Dd I w => by
  obtain ⟨B, F0, P, F, env, out, h, e, p⟩ := w
  obtain ⟨r, e1, e2⟩ := bind2 e
  obtain ⟨k0, e3, e4⟩ := bind2 e2
  obtain ⟨kk, hk, e6⟩ := bind2 e4
  obtain ⟨ds, es, e7, e8, rfl⟩ := mD_of e6
  split at e8
  rotate_left
  · cases e8
  rename_i hp
  cases e8
  obtain ⟨n1, n2⟩ := plain_ne hp.1
  obtain ⟨d, fl⟩ := r
  obtain ⟨kd, kf⟩ := k0
  obtain ⟨a0, kvs0, L0, f1, f2, _⟩ := h.dicN e7 hp.2.1
  refine wpAny_Assign_Subscript (thn (he.at I h.ok e1) fun r s1 ⟨v, H1, I1, rv, sm1, r1⟩ => thn ((pe_var hN hv hd hcd).run pins s1 σ H1 (fun v H' => v = .ref a0 ∧ H' = H1) I1 ⟨_, f1, rfl, rfl⟩) fun u s2 ⟨vx, Hx, I2, rx, ex, eH⟩ => ?_) hs
  subst ex eH
  cases rx
  refine thn (hi.at I2 (h.ok.mono sm1) e3) fun iv s3 ⟨v2, H2, I3, rv2, sm2, r2⟩ => ?_
  obtain ⟨a, kvs, L, g1, g2, ra, hl, q⟩ := h.dicMutN (sm1.trans sm2) e7 hp.2.1 p
  rw [f1] at g1
  cases g1
  obtain ⟨M, rm, hm⟩ := (r1.mono sm2).frz n1 n2
  obtain ⟨bk, rfl, ky, h8, ek⟩ := r2.key hk
  cases rv2
  obtain ⟨N, rn, hn⟩ := ra.put ky h8 ek rm
  have kl : kvs.length < sizeLine := by
    have := congrArg List.length ra.ks
    rw [List.length_map, List.length_cons, List.length_map] at this
    rw [sizeLine_eq]
    have := hp.2.2
    omega
  exact setN_run hu I3 g2 ra.ky ky h8 kl rv fun s4 I4 => ⟨σ, _, I4, q _ _ rn fun b hb => (hn b hb).elim (fun z => .inl (hl b z)) (hm b)⟩⟩
end
end Pl

set_option Elab.async false
set_option linter.all false
set_option maxRecDepth 100000
set_option maxHeartbeats 4000000
/-! Pl28: walks over the keys of a dict whose keys are tuples (as Pl20, Pl21 for ints) -/
namespace Pl
open PySem PySem.Spec PyProof.Rows L2
/-- the keys of the data -/
def kysD (ds : List (D × D)) : List D := (ds.map (·.1)).tail
/-- the keys of the locked dict, in their order -/
def Itkn (d : Addr) (o : Obj) (kvs : List NE) : It :=
  ⟨fun i H => H d = some (.frz o (dN d kvs)) ∧ i < kvs.length, fun i H x H' => H' = H ∧ ∃ (k : NestedKey) (q : Addr) (v : V), kvs[i]? = some (k, q, v) ∧ x = .ref q, fun i H => H d = some (.frz o (dN d kvs)) ∧ kvs.length ≤ i⟩
theorem frzN {X : Cx} {pins : List (Addr × Obj)} {σ : L2.St} {H : Hp} {s : Shared} {d : Addr} {o : Obj} {kvs : List NE} (I : Inv X pins σ H s) (h : H d = some (.frz o (dN d kvs))) :
    (d == sysModules) = false ∧ s.heap.get? d = some o ∧ o.ExactDict ∧ ∃ (es : Array DictEntry) (ep : Nat), o.data = .dict es ep ∧ es.size = kvs.length ∧
      ∀ (i : Nat) (k : NestedKey) (q : Addr) (v : V), kvs[i]? = some (k, q, v) → ∃ en : DictEntry, es[i]? = some en ∧ en.key = .ref q := by
  obtain ⟨hd, _⟩ : s.heap.get? d = some o ∧ _ := I.hok d _ h
  obtain ⟨z, hs, xs, pr, nd, o', es, ep, ho, hx, hdt, he⟩ := dn_fact I (.inr ⟨o, h⟩)
  rw [hd] at ho
  cases ho
  have he := he X.prog X.w
  refine ⟨hs, hd, hx, es, ep, hdt, ?_, fun i k q v e => ?_⟩
  · have l1 : es.size = xs.length := size_of_entries he
    have l2 : kvs.length = xs.length := Paired.length pr
    omega
  · obtain ⟨y, hy, e1, e2, _⟩ := paired_get pr e
    have := entry_at he i
    rw [hy] at this
    exact ⟨_, this, by show Value.ref y.2.1 = .ref q; rw [← e2]⟩
section
variable {P : Program} {w : World} {K : PySem.W.Frag} {tg : Expr} {d : Addr} {o : Obj} {es : Array DictEntry} {ep : Nat}
theorem turn_keysN {kvs : List NE} (it : Addr) (hod : o.data = .dict es ep) : Turn P w K tg (Itkn d o kvs) [it] it (fun i h => h.IsKeyIter it d i kvs.length ep) where
  mem := by simp
  obj := fun i h st b hb => by
    obtain rfl : b = it := by simpa using hb
    obtain ⟨oi, e1, e2, e3⟩ := st
    exact ⟨oi, e1, fun v z => by rw [e3] at z; cases z⟩
  keep := fun i h h' st k => st.at fun oi e => k it (by simp) oi e
  item := by
    intro X eP ew eK hc i pins s σ H E I hf st hg
    subst eP ew eK
    obtain ⟨h1, h2⟩ := hg
    obtain ⟨f0, f1, f2, f3, f4, f5⟩ := hf it (by simp)
    obtain ⟨hs, hgd, hx, es', ep', hdt, hsz, ent⟩ := frzN I h1
    obtain ⟨rfl, rfl⟩ := dict_ep hod hdt
    obtain ⟨⟨k, q, v⟩, hkv⟩ : ∃ p, kvs[i]? = some p := ⟨kvs[i], List.getElem?_eq_getElem h2⟩
    obtain ⟨en, hen, hkey⟩ := ent i k q v hkv
    refine next_key_item st hgd hdt hsz hen fun h' st' sb => ?_
    have J : Inv X pins σ H { s with heap := h' } := I.turned (t' := s.toks) (fun b ob hb e => (sb.2 b hb).trans e) f0 f1 f3 f4 f5
    obtain ⟨oi, g1, g2, g3⟩ := id st'
    exact ⟨en.key, rfl, go_of (s := { s with heap := h' }) g1 g2 g3 (by decide) ⟨.ref q, H, J, hkey, ⟨rfl, k, q, v, hkv, rfl⟩, st', fun b hb => (hf b hb).1⟩⟩
  done := by
    intro X eP ew eK hc i pins s σ H E I hf st hg
    subst eP ew eK
    obtain ⟨h1, h2⟩ := hg
    obtain ⟨f0, f1, f2, f3, f4, f5⟩ := hf it (by simp)
    obtain ⟨hs, hgd, hx, es', ep', hdt, hsz, ent⟩ := frzN I h1
    obtain ⟨rfl, rfl⟩ := dict_ep hod hdt
    exact next_key_end (I.ok.hd hc) st hgd hdt hsz h2 fun h' eb => ⟨rfl, I.turned (t' := s.toks) (fun b ob hb e => eb b ob hb e) f0 f1 f3 f4 f5⟩
  self := fun A i s Q E st h => by
    have := (turn_keysT (P := P) (w := w) (K := K) (tg := tg) (d := d) (o := o) (kvs := kvs.map fun p => (([] : List Key), p.2.2)) it hod).self A i s Q E
    rw [List.length_map] at this
    exact this st h
end
def iKeysN (td : TE) : TI := fun σ H R => td σ H fun x H1 => ∃ d o, x = .ref d ∧ ∃ kvs, H1 d = some (.frz o (dN d kvs)) ∧ R (Itkn d o kvs) H1
theorem pi_keysN {X : Cx} {tg e : Expr} {td : TE} (he : PE X e td) : PI X tg e (iKeysN td) := ⟨fun pins s σ H R I h => by
  refine thn (he.run pins s σ H _ I h) fun u s1 ⟨x, H1, I1, rx, d, o, ex, kvs, hd, q⟩ => ?_
  subst ex
  obtain rfl : u = Value.ref d := rx
  obtain ⟨hs, hgd, hx, es, ep, hdt, hsz, ent⟩ := frzN I1 hd
  refine iter_keys hs hgd hx hdt (pi_one (tk := s1.toks) I1 _ (turn_keysN _ hdt) ⟨_, Heap.get?_push_size _ rfl, rfl, ?_⟩ q)
  rw [hsz] <;> rfl⟩
/-- alike but for the lock of the dict at a -/
structure SwN (a : Addr) (kvs : List NE) (H H' : Hp) : Prop where
  o : ∀ b, b ≠ a → H' b = H b
  l : Rd H a (dN a kvs)
  r : Rd H' a (dN a kvs)
section
variable {K : PySem.W.Frag} {H H' B B' : Hp} {a a2 : Addr} {kvs : List NE} {F F0 P G : Addr → Prop} {σ : L2.St} {env : En} {v : V} {d : D} {r : RV}
theorem SwN.symm (s : SwN a kvs H H') : SwN a kvs H' H := ⟨fun b n => (s.o b n).symm, s.r, s.l⟩
theorem SwN.none (s : SwN a kvs H H') (b : Addr) : H' b = none ↔ H b = none := by
  by_cases c : b = a
  · subst c
    have h1 : H b ≠ Option.none := by rcases s.l with h | ⟨_, h⟩ <;> rw [h] <;> exact fun z => nomatch z
    have h2 : H' b ≠ Option.none := by rcases s.r with h | ⟨_, h⟩ <;> rw [h] <;> exact fun z => nomatch z
    exact ⟨fun z => absurd z h2, fun z => absurd z h1⟩
  · rw [s.o b c]
theorem SwN.rd (s : SwN a kvs H H') {b : Addr} {u : HO} (hu : ∀ o x, u ≠ .frz o x) (h : Rd H b u) : Rd H' b u := by
  by_cases c : b = a
  · subst c
    rw [Rd.two h s.l hu (fun _ _ z => nomatch z)]; exact s.r
  · unfold Rd
    rw [s.o b c]; exact h
theorem SwN.sqt (s : SwN a kvs H H') (b : Addr) (xs : List V) (h : SqT K H b xs) : SqT K H' b xs := h.imp (s.rd fun _ _ z => nomatch z) id
theorem SwN.ne (s : SwN a kvs H H') {b : Addr} {vs : List V} (h : H b = some (.lst vs)) : b ≠ a := by
  rintro rfl
  have := Rd.two (.inl h) s.l (fun _ _ z => nomatch z) (fun _ _ z => nomatch z)
  cases this
mutual
theorem Rp.swN0 (s : SwN a kvs H H') : ∀ (d : D) {v : V} {L : List Addr}, Rp K H v d L → Rp K H' v d L
  | .none, _, _, h => by cases h; exact .non
  | .bool b, _, _, h => by cases h; exact .bl _
  | .int b, _, _, h => by cases h; exact .int _
  | .str b, _, _, h => by cases h; exact .str _
  | .list ds, _, _, h => by
    cases h with
    | lst h1 h2 => exact .lst (by rw [s.o _ (s.ne h1)]; exact h1) (RpA.swN0 s ds h2)
  | .tuple ds, _, _, h => by
    cases h with
    | tup h1 h2 => exact .tup (s.sqt _ _ h1) (RpA.swN0 s ds h2)
  | .dict ds, _, _, h => by
    cases h with
    | dk h1 h2 h3 => exact .dk (s.rd (fun _ _ z => nomatch z) h1) h2 (RpP.swN0 s ds h3)
    | dn h1 hk h2 h3 => exact .dn (s.rd (fun _ _ z => nomatch z) h1) (hk.keep s.sqt) h2 (RpP.swN0 s ds h3)
theorem RpA.swN0 (s : SwN a kvs H H') : ∀ (ds : List D) {vs : List V} {L : List Addr}, RpA K H vs ds L → RpA K H' vs ds L
  | [], _, _, h => by cases h; exact .nil
  | d :: ds, _, _, h => by
    cases h with
    | cons h1 h2 => exact .cons (Rp.swN0 s d h1) (RpA.swN0 s ds h2)
theorem RpP.swN0 (s : SwN a kvs H H') : ∀ (ds : List (D × D)) {vs : List V} {L : List Addr}, RpA K H vs (ds.map (·.2)) L → RpA K H' vs (ds.map (·.2)) L
  | [], _, _, h => by cases h; exact .nil
  | (_, d) :: ds, _, _, h => by
    cases h with
    | cons h1 h2 => exact .cons (Rp.swN0 s d h1) (RpP.swN0 s ds h2)
end
theorem Rp.swN (s : SwN a kvs H H') {L : List Addr} (h : Rp K H v d L) : Rp K H' v d L := Rp.swN0 s d h
theorem RpA.swN (s : SwN a kvs H H') {vs : List V} {ds : List D} {L : List Addr} (h : RpA K H vs ds L) : RpA K H' vs ds L := RpA.swN0 s ds h
theorem Obj1.swN (s : SwN a kvs H H') (n : a2 ≠ a) (h : Obj1 K G H a2 d) : Obj1 K G H' a2 d := by
  cases d with
  | list ds => obtain ⟨vs, L, h1, h2, h3⟩ := h; exact ⟨vs, L, by rw [s.o _ n]; exact h1, h2.swN s, h3⟩
  | dict ds =>
    rcases h with ⟨vs, L, h1, h2, h3, h4⟩ | ⟨vs, L, h1, hk, h2, h3, h4⟩
    · exact .inl ⟨vs, L, by rw [s.o _ n]; exact h1, h2, h3.swN s, h4⟩
    · exact .inr ⟨vs, L, by rw [s.o _ n]; exact h1, hk.keep s.sqt, h2, h3.swN s, h4⟩
  | _ => exact h
theorem ScOk.swN (s : SwN a kvs H H') (h : ScOk K H v d) : ScOk K H' v d := by
  obtain ⟨b, ns, h1, h2, h3⟩ := h
  refine ⟨b, ns, h1, h2, h3.imp (fun ⟨o, q⟩ => ⟨o, ?_⟩) id⟩
  have n : b ≠ a := by
    rintro rfl
    have := Rd.two (.inr ⟨o, q⟩) s.l (fun _ _ z => nomatch z) (fun _ _ z => nomatch z)
    cases this
  rw [s.o _ n]; exact q
/-- no borrowed value at a -/
def NoBN (a : Addr) (σ : L2.St) (env : En) : Prop := ∀ (i : Nat) (d : D), env[i]? = some (some (d, .bw)) → σ[i]? = some (some (.ref a)) → False
theorem Ok.swN (h : Ok K F σ H env) (s : SwN a kvs H H') (fa : F a) (nb : NoBN a σ env) : Ok K F σ H' env := by
  refine ⟨h.len, fun b z => fun q => h.dom b z ((s.none b).mp q), fun i r e => ?_, h.sep⟩
  obtain ⟨v, e1, sl⟩ := h.slot i r e
  refine ⟨v, e1, ?_⟩
  obtain ⟨d, fl⟩ := r
  cases fl with
  | fz => obtain ⟨L, h1, h2⟩ := sl; exact ⟨L, h1.swN s, h2⟩
  | ow => obtain ⟨b, rfl, h1, h2⟩ := sl; exact ⟨b, rfl, h1, h2.swN s fun z => h1 (z ▸ fa)⟩
  | bw => obtain ⟨b, rfl, h2⟩ := sl; exact ⟨b, rfl, h2.swN s fun z => nb i d e (z ▸ e1)⟩
  | sc => exact ScOk.swN s sl
theorem SOk.swN (h : SOk K B F0 P F σ H env) (s : SwN a kvs H H') (fa : F a) (nb : NoBN a σ env) {F1 : Addr → Prop} (hB : Same B' H') (hfr : ∀ b, F b → F1 b ∨ B' b = none) (hBP : ∀ b, B' b ≠ none → P b) : SOk K B' F1 P F σ H' env :=
  ⟨h.ok.swN s fa nb, hB, hfr, h.FP, hBP, fun b z q => h.Pd b z ((s.none b).mp q), h.ow, h.bw⟩
/-- a locked dict is nobody's own -/
theorem Obj1.nolockN {o : Obj} (e : H a = some (.frz o (dN a kvs))) (h : Obj1 K G H a d) : False := by
  cases d with
  | list ds => obtain ⟨vs, L, h1, _⟩ := h; rw [e] at h1; cases h1
  | dict ds => rcases h with ⟨vs, L, h1, _⟩ | ⟨vs, L, h1, _⟩ <;> rw [e] at h1 <;> cases h1
  | _ => exact h
theorem Res.swN (s : SwN a kvs H H') {o : Obj} (e : H a = some (.frz o (dN a kvs))) {F1 : Addr → Prop} (hG : ∀ b, (F1 b ∨ B b = none) → F0 b ∨ B' b = none) (hN : ∀ b, B b = none → b ≠ a → B' b = none) (h : Res K F1 B H v r) : Res K F0 B' H' v r := by
  obtain ⟨d, fl⟩ := r
  cases fl with
  | fz => obtain ⟨L, h1, h2⟩ := h; exact ⟨L, h1.swN s, fun b hb => hG b (h2 b hb)⟩
  | ow =>
    obtain ⟨b, rfl, h1, h2⟩ := h
    have n : b ≠ a := by rintro rfl; exact h2.nolockN e
    exact ⟨b, rfl, hN b h1 n, (h2.swN s n).imp fun c z => ⟨hG c z.1, z.2⟩⟩
  | bw =>
    obtain ⟨b, rfl, h2⟩ := h
    have n : b ≠ a := by rintro rfl; exact h2.nolockN e
    exact ⟨b, rfl, (h2.swN s n).imp fun c z => hG c z⟩
  | sc => exact ScOk.swN s h
theorem SOk.noBN {o : Obj} (h : Ok K F σ H env) (e : H a = some (.frz o (dN a kvs))) : NoBN a σ env := fun i d e1 e2 => by
  obtain ⟨v, e3, b, rfl, ob⟩ := h.slot i _ e1
  rw [e2] at e3
  cases e3
  exact ob.nolockN e
theorem noB_ofN (h : Ok K F σ H env) (l : Rd H a (dN a kvs)) (hb : env.all noBwS = true) : NoBN a σ env := fun i d e1 e2 => by
  obtain ⟨v, e3, b, rfl, ob⟩ := h.slot i _ e1
  rw [e2] at e3
  cases e3
  rw [List.all_eq_true] at hb
  have := hb _ (List.mem_of_getElem? e1)
  cases d with
  | dict ds => cases this
  | list ds =>
    obtain ⟨vs, L, h1, _⟩ := ob
    have := Rd.two (.inl h1) l (fun _ _ z => nomatch z) (fun _ _ z => nomatch z)
    cases this
  | _ => exact ob
end
def sForDN (ws : List Nat) (tg : Tg) (i : Nat) (body : GS) : GS := fun env => match env[i]? with
  | some (some (.dict ds, .fz)) => if isN ds = true ∧ env.all noBwS = true then forGo tg body ws (kysD ds) (wipeE env ws) else none
  | _ => none
theorem sForD_ofN {ws : List Nat} {tg : Tg} {i : Nat} {body : GS} {env : En} {out : Out} (h : sForDN ws tg i body env = some out) : ∃ ds, env[i]? = some (some (.dict ds, .fz)) ∧ isN ds = true ∧ env.all noBwS = true ∧ forGo tg body ws (kysD ds) (wipeE env ws) = some out := by
  unfold sForDN at h
  split at h
  · split at h
    · rename_i ds e c; exact ⟨ds, e, c.1, c.2, h⟩
    · cases h
  · cases h
/-- walking the keys of the locked dict -/
theorem wk_keysN {K : PySem.W.Frag} {S G : Addr → Prop} {H : Hp} {a : Addr} {o : Obj} {kvs : List NE} {ds : List (D × D)} (e : H a = some (.frz o (dN a kvs))) (ky : KyN K H kvs) (ks : kysD ds = kvs.map (fun p => keyN p.1)) : Wk K S H (Itkn a o kvs) (kysD ds) G := fun H2 kp => by
  have e2 : H2 a = some (.frz o (dN a kvs)) := kp a _ e (.inr fun z => z)
  have hl : (kysD ds).length = kvs.length := by rw [ks, List.length_map]
  refine ⟨fun i x hx => ?_, e2, by rw [hl]; exact Nat.le_refl _⟩
  have hi : i < kvs.length := by rw [← hl]; exact (List.getElem?_eq_some_iff.mp hx).1
  refine ⟨⟨e2, hi⟩, fun v H3 y => ?_⟩
  obtain ⟨rfl, k, q, w, e3, rfl⟩ := y
  rw [ks, List.getElem?_map, e3] at hx
  cases hx
  have hk := (ky (k, q, w) (List.mem_of_getElem? e3)).1
  exact ⟨Same.refl _, [], (Ky.nk _ (Ky.keep (Kp.sqt kp) _ hk)).2, by simp⟩
section
variable {X : Cx} {pos p : Pos} {b : List Stmt} {gb : GS} {x : Str}
theorem vs_forDN (ws : List Nat) (i : Nat) {tge : Expr} {tg : Tg} (hp : PassesOwn (model X.prog X.w) X.A X.env X.xe) (hc : X.calm = true) (hg : VG X tge tg) (hb : VSs X b gb)
    (hN : X.N[i]? = some x := by rfl) (hv : Vis X.env.scope x := by first | exact Or.inl rfl | exact Or.inr (Or.inl rfl) | exact Or.inr (Or.inr rfl)) (hd : (x == ("__debug__" : Str)) = false := by decide)
    (hcd : (x == ("__classdict__" : Str)) = false := by decide) (hs : ∀ y, foldedSetIterable (.Name x p) X.env y = pure y := by intro _; rfl) : VS X (.For tge (.Name x p) b [] pos) (sForDN ws tg i gb) := by
  have base := ps_for hp hc (pi_keysN (pe_var hN hv hd hcd)) hg hb hs (pos := pos)
  refine PS.to (PS.or base (ps_lock base)) fun D σ H ⟨B, F0, P, F, env, out, h, e, p⟩ => ?_
  obtain ⟨ds, e1, hk, nb, e2⟩ := sForD_ofN e
  obtain ⟨v, e3, L, rp, hL⟩ := h.ok.slot i _ e1
  cases rp with
  | dk h1 h2 h3 => exact (intK_isN hk h2).elim
  | @dn a kvs _ L' rd ky ks vs =>
    have kd : kysD ds = kvs.map (fun p => keyN p.1) := by unfold kysD; rw [ks]; rfl
    have fa : F a := hL a List.mem_cons_self
    rcases rd with u | ⟨o, u⟩
    · refine .inr ⟨a, _, u, trivial, fun od => ?_⟩
      have sw : SwN a kvs H (upd H a (.frz od (dN a kvs))) := ⟨fun b n => upd_ne n, .inl u, .inr ⟨od, upd_same⟩⟩
      have hB : Same (upd B a (.frz od (dN a kvs))) (upd H a (.frz od (dN a kvs))) := fun b w q => by
        by_cases c : b = a
        · subst c
          rw [upd_same] at q ⊢; exact q
        · rw [upd_ne c] at q ⊢; exact h.sB _ _ q
      have h1 : SOk X.K (upd B a (.frz od (dN a kvs))) (fun b => F0 b ∨ b = a) P F σ (upd H a (.frz od (dN a kvs))) env := h.swN sw fa (noB_ofN h.ok (.inl u) nb) hB (fun b z => by
        by_cases c : b = a
        · exact .inl (.inr c)
        · rw [upd_ne c]; exact (h.fr b z).imp .inl id) fun b z => by
        by_cases c : b = a
        · rw [c]; exact h.FP a fa
        · rw [upd_ne c] at z; exact h.BP b z
      obtain ⟨h2, t2⟩ := h1.forget ws
      refine ⟨.ref a, e3, a, od, rfl, kvs, upd_same, ?_⟩
      refine for_reads h2 (wk_keysN upd_same (ky.keep sw.sqt) kd) e2 ?_
      have back : ∀ b, ((F0 b ∨ b = a) ∨ (upd B a (.frz od (dN a kvs)) : Hp) b = none) → F0 b ∨ B b = none := fun b z => by
        by_cases c : b = a
        · rw [c]; exact h.fr a fa
        · rw [upd_ne c] at z
          rcases z with (z | z) | z
          · exact .inl z
          · exact absurd z c
          · exact .inr z
      have fin : ∀ P' F' σ' H' e', SOk X.K (upd B a (.frz od (dN a kvs))) (fun b => F0 b ∨ b = a) P' F' σ' H' e' → Stp P F σ (upd H a (.frz od (dN a kvs))) (wipeE env ws) P' F' σ' H' e' → H' a = some (.frz od (dN a kvs)) ∧ SOk X.K B F0 P' F' σ' (upd H' a (dN a kvs)) e' ∧ Stp P F σ H env P' F' σ' (upd H' a (dN a kvs)) e' := fun P' F' σ' H' e' k s => by
        have ea : H' a = some (.frz od (dN a kvs)) := s.kp a _ upd_same (.inr fun z => z)
        have sw2 : SwN a kvs H' (upd H' a (dN a kvs)) := ⟨fun b n => upd_ne n, .inr ⟨od, ea⟩, .inl upd_same⟩
        have st := t2.trans s
        refine ⟨ea, k.swN sw2 (s.pF a fa) (SOk.noBN k.ok ea) (fun b w q => ?_) (fun b z => ?_) fun b z => st.pP b (h.BP b z), ?_⟩
        · by_cases c : b = a
          · subst c
            have := h.sB _ _ q
            rw [u] at this
            rw [upd_same]; exact this
          · rw [upd_ne c]
            exact k.sB b w (by rw [upd_ne c]; exact q)
        · exact back b (k.fr b z)
        · refine ⟨st.pP, st.pF, fun b w q m => ?_, fun b z q => ?_, fun b z => (st.nw b z).imp id fun z => z.imp (fun q => (sw.none b).mp q) id, st.bw, st.ln⟩
          · by_cases c : b = a
            · subst c
              rw [u] at q
              rw [upd_same]; exact q
            · rw [upd_ne c]
              exact st.kp b w (by rw [upd_ne c]; exact q) m
          · have := (sw2.none b).mp q
            exact st.dom b (fun z' => z ((sw.none b).mp z')) this
      cases out with
      | nx e4 =>
        intro P' F' σ' H' k s
        obtain ⟨f1, f2, f3⟩ := fin P' F' σ' H' e4 k s
        exact ⟨f1, p P' F' σ' _ f2 f3⟩
      | rt r =>
        intro v H' sB rr
        have ea : H' a = some (.frz od (dN a kvs)) := sB _ _ upd_same
        have sw2 : SwN a kvs H' (upd H' a (dN a kvs)) := ⟨fun b n => upd_ne n, .inr ⟨od, ea⟩, .inl upd_same⟩
        refine ⟨ea, p v _ (fun b w q => ?_) (Res.swN sw2 ea back (fun b q n => by rw [upd_ne n] at q; exact q) rr)⟩
        by_cases c : b = a
        · subst c
          have := h.sB _ _ q
          rw [u] at this
          rw [upd_same]; exact this
        · rw [upd_ne c]
          exact sB b w (by rw [upd_ne c]; exact q)
      | bk e4 => exact absurd e2 (forGo_no _ _ e4).1
      | ct e4 => exact absurd e2 (forGo_no _ _ e4).2
    · refine .inl ⟨.ref a, e3, a, o, rfl, kvs, u, ?_⟩
      obtain ⟨h2, t2⟩ := h.forget ws
      exact for_reads h2 (wk_keysN u ky kd) e2 (p.step t2)
end
def eLcDN (own : List Nat) (tg : Tg) (i : Nat) (tt : GB) (te : GE) : GE := fun env => match env[i]? with
  | some (some (.dict ds, .fz)) => if isN ds = true ∧ env.all noBwS = true ∧ ds.length ≤ 16777216 then (lcGo (lcF own tg tt te env) (kysD ds)).map fun ys => (.list ys, .ow) else none
  | _ => none
theorem eLcD_ofN {own : List Nat} {tg : Tg} {i : Nat} {tt : GB} {te : GE} {env : En} {r : RV} (h : eLcDN own tg i tt te env = some r) : ∃ ds ys, env[i]? = some (some (.dict ds, .fz)) ∧ isN ds = true ∧ env.all noBwS = true ∧ ds.length ≤ 16777216 ∧ lcGo (lcF own tg tt te env) (kysD ds) = some ys ∧ r = (.list ys, .ow) := by
  unfold eLcDN at h
  split at h
  · split at h
    · rename_i ds e c
      cases e2 : lcGo (lcF own tg tt te env) (kysD ds) with
      | none => rw [e2] at h; cases h
      | some ys => rw [e2] at h; cases h; exact ⟨ds, ys, e, c.1, c.2.1, c.2.2, e2, rfl⟩
    · cases h
  · cases h
section
variable {X : Cx} {elt tge : Expr} {ifs : List Expr} {scope : Scope} {own : List (Str × Nat)} {pos p : Pos} {tg : Tg} {tt : GB} {te : GE} {x : Str}
theorem ve_lcDN (i : Nat) (hc : X.calm = true) (hNd : X.N.Nodup) (ok : BlkOk X.N X.env.scope scope own) (hvs : memAll tg.vars (own.map (·.2)) = true)
    (hg : Blk X scope fun Y => VG Y tge tg) (ht : Blk X scope fun Y => VTs Y ifs tt) (he : Blk X scope fun Y => VE Y elt te)
    (hN : X.N[i]? = some x := by rfl) (hv : Vis X.env.scope x := by first | exact Or.inl rfl | exact Or.inr (Or.inl rfl) | exact Or.inr (Or.inr rfl)) (hd : (x == ("__debug__" : Str)) = false := by decide)
    (hcd : (x == ("__classdict__" : Str)) = false := by decide) (hs : ∀ y, foldedSetIterable (.Name x p) X.env y = pure y := by intro _; rfl) :
    VE X (.ListComp elt [⟨tge, .Name x p, ifs, 0⟩] scope pos) (eLcDN (own.map (·.2)) tg i tt te) := by
  have base := pe_lc (pos := pos) (g := TG' X.K tg) (tt := TB' X.K tt) (te := TE' X.K te) hc hNd (pi_keysN (pe_var hN hv hd hcd)) ok (fun s H C cl fp => hg s H C cl fp) (fun s H C cl fp => ht s H C cl fp) (fun s H C cl fp => he s H C cl fp) hs
  refine PE.to (PE.or base (pe_lock base)) fun σ H Q ⟨F, env, r, okE, e, q⟩ => ?_
  obtain ⟨ds, ys, e1, hk, nb, hl, e2, rfl⟩ := eLcD_ofN e
  obtain ⟨v, e3, L, rp, hL⟩ := okE.slot i _ e1
  have hx : (kysD ds).length ≤ sizeLine := by unfold kysD; rw [List.length_tail, List.length_map, sizeLine_eq]; omega
  cases rp with
  | dk h1 h2 h3 => exact (intK_isN hk h2).elim
  | @dn a kvs _ L' rd ky ks vs =>
    have kd : kysD ds = kvs.map (fun p => keyN p.1) := by unfold kysD; rw [ks]; rfl
    have fa : F a := hL a List.mem_cons_self
    rcases rd with u | ⟨o, u⟩
    · refine .inr ⟨a, _, u, trivial, fun od => ?_⟩
      have sw : SwN a kvs H (upd H a (.frz od (dN a kvs))) := ⟨fun b n => upd_ne n, .inl u, .inr ⟨od, upd_same⟩⟩
      have ok1 := okE.swN sw fa (noB_ofN okE (.inl u) nb)
      refine lc_readsW ok1 (memAll_of hvs) e2 hx (fun R hR => ⟨.ref a, e3, a, od, rfl, kvs, upd_same, hR _ (wk_keysN upd_same (ky.keep sw.sqt) kd)⟩) fun v H' s rr => ?_
      have ea : H' a = some (.frz od (dN a kvs)) := s _ _ upd_same
      have sw2 : SwN a kvs H' (upd H' a (dN a kvs)) := ⟨fun b n => upd_ne n, .inr ⟨od, ea⟩, .inl upd_same⟩
      refine ⟨ea, fun zz => q v _ (fun b w z => ?_) zz (Res.swN sw2 ea (fun b z => z.imp id (sw.none b).mp) (fun b z _ => (sw.none b).mp z) rr)⟩
      by_cases c : b = a
      · subst c
        rw [u] at z
        rw [upd_same]; exact z
      · rw [upd_ne c]
        exact s _ _ (by rw [upd_ne c]; exact z)
    · refine .inl (lc_readsW okE (memAll_of hvs) e2 hx (fun R hR => ⟨.ref a, e3, a, o, rfl, kvs, u, hR _ (wk_keysN u ky kd)⟩) fun v H' s rr zz => q v H' s zz rr)
end
end Pl

set_option Elab.async false
set_option linter.all false
set_option maxRecDepth 100000
set_option maxHeartbeats 4000000
/-! Pl29: a dict display with one key, a tuple -/
namespace Pl
open PySem PySem.Spec PyProof.Rows L2
section
variable {X : Cx} {x : Str} {p pos apos cpos : Pos} {a b c e ix : Expr} {g gi ga gb gc : GE}
/-- {k: v} -/
def eDictN1 (ga gb : GE) : GE := fun env => (ga env).bind fun k => (gb env).bind fun v => (keyOk k.1).bind fun _ => if lf v.1 = true then some (.dict [(.none, .none), (k.1, v.1)], .ow) else none
theorem ve_dictN1 (hu : X.A.units + 64 < cLine) (ha : VE X a ga) (hb : VE X b gb) : VE X (.Dict [some a] [b] pos) (eDictN1 ga gb) := ⟨fun pins s σ H Q I w => by
  obtain ⟨F, env, c, ok, e, q⟩ := w
  obtain ⟨k, e1, e'⟩ := bind2 e
  obtain ⟨z, e3, e4⟩ := bind2 e'
  obtain ⟨kk, hk, e5⟩ := bind2 e4
  split at e5
  rotate_left
  · cases e5
  rename_i hl
  cases e5
  obtain ⟨kd, kf⟩ := k
  obtain ⟨zd, zf⟩ := z
  have hn := I.hok.fresh (Nat.le_refl s.heap.objs.size)
  have I1 := I.laid (a := s.heap.objs.size) (o := dN s.heap.objs.size []) (h' := s.heap.push { cls := .type "dict", data := .dict #[] }) (t' := s.toks) (fun _ _ z => Heap.get?_push_of_some _ z) (Nat.le_refl _) (dn_empty I.big)
  have s1 : Same H (upd H s.heap.objs.size (dN s.heap.objs.size [])) := fun b o z => by rw [upd_ne (ne_of_none z hn)]; exact z
  rw [arm_eval_Dict, zip_pairTrees [some a] [b] X.env pos rfl rfl, dictDisplay_pairs (pairTrees [some a] [b] X.env pos) (by simp [pairTrees]) (by simp [pairTrees])]
  refine wpAny_bind (wpAny_standAt (wpAny_bind (wpAny_subDictH (knd := nestedKind X.prog X.w) (by show X.A.units + 8 < cLine; omega) (by simp [pairTrees]) ?_)))
  refine pairTrees_cons_walk (thn (ha.at I1 (ok.mono s1) e1) fun u t1 ⟨v1, H1, I2, rv1, sm1, r1⟩ => thn (hb.at I2 ((ok.mono s1).mono sm1) e3) fun u2 t2 ⟨v2, H2, I3, rv2, sm2, r2⟩ => pairTrees_nil_walk ?_)
  obtain ⟨bk, rfl, ky, h8, ek⟩ := (r1.mono sm2).key hk
  cases rv1
  have e2 : H2 s.heap.objs.size = some (dN s.heap.objs.size []) := sm2 _ _ (sm1 _ _ upd_same)
  have ky0 : KyN X.K H2 [] := fun p hp => by cases hp
  obtain ⟨zz, hs, xs, pr, dd⟩ := dn_at I3 (.inl e2) ky0
  cases pr
  refine ⟨[(kk, bk, u2)], ⟨rfl, rfl, key_at I3 ky h8, True.intro⟩, dd, fun h' tk dk sb => wpAny_pure ?_⟩
  have ky2 : KyN X.K H2 (putN [] kk bk v2) := fun p hp => by
    rcases putN_mem hp with ⟨p', h1, _⟩ | ⟨h2, h3⟩
    · cases h1
    · rw [h2, h3]; exact ⟨ky, h8⟩
  have nw := dn_new (a := s.heap.objs.size) (kvs := putN [] kk bk v2) (Nat.le_trans (putN_len [] kk bk v2) (by rw [sizeLine_eq]; simp)) hs (PN.put .nil kk bk rv2) ky2 dk
  have he : ∃ o, h'.get? s.heap.objs.size = some o := let ⟨o, _, _, ho, _⟩ := dk; ⟨o, ho⟩
  have I4 := d_write (t' := tk) I3 (by rw [e2]; exact True.intro) sb he (dn_ext nw)
  have s3 : Same H (upd H2 s.heap.objs.size (dN s.heap.objs.size (putN [] kk bk v2))) := fun b o q => by
    rw [upd_ne (ne_of_none q hn)]
    exact sm2 _ _ (sm1 _ _ (s1 _ _ q))
  have sq : ∀ b xs, SqT X.K H2 b xs → SqT X.K (upd H2 s.heap.objs.size (dN s.heap.objs.size (putN [] kk bk v2))) b xs := mut_sqt e2 trivial
  obtain ⟨L, rp, hL⟩ := r2.leaf hl
  have hL0 := Rp.lfree zd rp hl
  subst hL0
  refine ⟨.ref s.heap.objs.size, _, I4, rfl, q _ _ s3 (szs_of I4) ⟨_, rfl, hn, .inr ⟨[(kk, bk, v2)], [], upd_same, ky2.keep sq, ?_, ?_, by simp⟩⟩⟩
  · show [PyData.none, kd] = [PyData.none, keyN kk]
    rw [ek]
  · have := RpA.cons (K := X.K) (H := upd H2 s.heap.objs.size (dN s.heap.objs.size (putN [] kk bk v2))) .non (RpA.cons (rp.keep sq zd fun b hb => by cases hb) .nil)
    simpa using this⟩
end
end Pl

set_option Elab.async false
set_option linter.all false
set_option maxRecDepth 100000
set_option maxHeartbeats 4000000
/-! Ty8: typed dicts whose keys are tuples -/
namespace Pl
open PySem L2
section
variable {α κ : Type}
def getA [DecidableEq κ] (kvs : List (κ × α)) (k : κ) : Option α := (kvs.find? fun p => decide (p.1 = k)).map (·.2)
def putA [DecidableEq κ] (kvs : List (κ × α)) (k : κ) (a : α) : List (κ × α) := if (kvs.any fun p => decide (p.1 = k)) = true then kvs.map (fun p => if p.1 = k then (p.1, a) else p) else kvs ++ [(k, a)]
/-- what may be a key, and which -/
class NkC (n : Nat) (E : κ → D) (nk : outParam (κ → NestedKey)) : Prop where
  hk : ∀ a, nkD (E a) = some (nk a)
  dp : ∀ a, (nk a).depth ≤ n
  inj : ∀ a b, nk a = nk b → a = b
class TuC (E : κ → D) : Prop where
  tu : ∀ a, ∃ ds, E a = .tuple ds
instance {E : κ → D} : TuC (cT E) := ⟨fun a => ⟨_, rfl⟩⟩
instance {E : κ → D} : TuC (cP1 E) := ⟨fun a => ⟨_, rfl⟩⟩
instance {E : κ → D} {F : α → D} : TuC (cP2 E F) := ⟨fun a => ⟨_, rfl⟩⟩
instance {n : Nat} : NkC n cI NestedKey.num := ⟨fun a => rfl, fun a => by simp [NestedKey.depth], fun a b h => NestedKey.num.inj h⟩
theorem nkA_map {n : Nat} {E : κ → D} {nk : κ → NestedKey} [NkC n E nk] : ∀ xs : List κ, nkA (xs.map E) = some (xs.map nk)
  | [] => rfl
  | x :: xs => by rw [List.map_cons, nkA, NkC.hk n x, nkA_map (n := n) xs]; rfl
theorem depthAll_map {n : Nat} {E : κ → D} {nk : κ → NestedKey} [NkC n E nk] : ∀ xs : List κ, NestedKey.depthAll (xs.map nk) ≤ n
  | [] => by simp [NestedKey.depthAll]
  | x :: xs => by
    have h1 := NkC.dp (n := n) (E := E) x
    have h2 := depthAll_map (n := n) (E := E) xs
    simp only [List.map_cons, NestedKey.depthAll]
    omega
instance {n : Nat} {E : κ → D} {nk : κ → NestedKey} [NkC n E nk] : NkC (n + 1) (cT E) (fun xs => .tup (xs.map nk)) := ⟨fun xs => by rw [cT, nkD, nkA_map (n := n)]; rfl, fun xs => by
  have := depthAll_map (n := n) (E := E) xs
  simp only [NestedKey.depth]; omega, fun a b h => by
  have h := NestedKey.tup.inj h
  induction a generalizing b with
  | nil => cases b with
    | nil => rfl
    | cons _ _ => simp at h
  | cons x xs ih => cases b with
    | nil => simp at h
    | cons y ys =>
      rw [List.map_cons, List.map_cons] at h
      obtain ⟨h1, h2⟩ := List.cons.inj h
      rw [NkC.inj (n := n) (E := E) x y h1, ih ys (congrArg NestedKey.tup h2) h2]⟩
instance {n : Nat} {E : κ → D} {F : α → D} {nk : κ → NestedKey} {nl : α → NestedKey} [NkC n E nk] [NkC n F nl] : NkC (n + 1) (cP2 E F) (fun p => .tup [nk p.1, nl p.2]) := ⟨fun p => by
  rw [cP2, nkD, nkA, nkA, nkA, NkC.hk n p.1, NkC.hk n p.2]; rfl, fun p => by
  have h1 := NkC.dp (n := n) (E := E) p.1
  have h2 := NkC.dp (n := n) (E := F) p.2
  simp only [NestedKey.depth, NestedKey.depthAll]; omega, fun a b h => by
  have h := NestedKey.tup.inj h
  obtain ⟨h1, h2⟩ := List.cons.inj h
  obtain ⟨h2, _⟩ := List.cons.inj h2
  exact Prod.ext (NkC.inj (n := n) (E := E) _ _ h1) (NkC.inj (n := n) (E := F) _ _ h2)⟩
end
section
variable {α κ : Type} {E : κ → D} {F : α → D} {f f' f'' : Fl} {e : En} {nk : κ → NestedKey}
def eN (E : κ → D) (F : α → D) (p : κ × α) : D × D := (E p.1, F p.2)
def cN (E : κ → D) (F : α → D) : List (κ × α) → D := fun kvs => .dict ((.none, .none) :: kvs.map (eN E F))
theorem keyOk_c [NkC 8 E nk] [TuC E] (a : κ) : keyOk (E a) = some (nk a) := by
  obtain ⟨ds, h⟩ := TuC.tu (E := E) a
  have h1 := NkC.hk 8 (E := E) a
  have h2 := NkC.dp (n := 8) (E := E) a
  rw [h] at h1 ⊢
  unfold keyOk
  dsimp only
  rw [h1]
  exact if_pos h2
theorem isN_c (kvs : List (κ × α)) : isN ((.none, .none) :: kvs.map (eN E F)) = true := rfl
variable [DecidableEq κ]
theorem nk_dec [NkC 8 E nk] (a b : κ) : decide (nkD (E a) = some (nk b)) = decide (a = b) := by
  rw [NkC.hk 8 a]
  by_cases h : a = b
  · subst h; simp
  · rw [decide_eq_false h, decide_eq_false]
    intro z
    exact h (NkC.inj (n := 8) (E := E) _ _ (Option.some.inj z))
theorem getND_c [NkC 8 E nk] (k : κ) (kvs : List (κ × α)) : getND ((.none, .none) :: kvs.map (eN E F)) (nk k) = (getA kvs k).map F := by
  unfold getND
  rw [List.find?_cons, show nkD (.none : D) = none by rw [nkD] <;> first | rfl | (intro _ z; cases z)]
  show ((kvs.map (eN E F)).find? fun p => decide (nkD p.1 = some (nk k))).map (·.2) = _
  unfold getA
  induction kvs with
  | nil => rfl
  | cons p kvs ih =>
    rw [List.map_cons, List.find?_cons, List.find?_cons]
    show (match decide (nkD (E p.1) = some (nk k)) with | true => _ | false => _ : Option (D × D)).map _ = _
    rw [nk_dec]
    cases decide (p.1 = k) with
    | true => rfl
    | false => exact ih
theorem putND_c [NkC 8 E nk] (k : κ) (a : α) (kvs : List (κ × α)) : putND ((.none, .none) :: kvs.map (eN E F)) (E k) (nk k) (F a) = (.none, .none) :: (putA kvs k a).map (eN E F) := by
  have n0 : nkD (.none : D) = none := by rw [nkD] <;> first | rfl | (intro _ z; cases z)
  unfold putND putA
  have e1 : (((.none, .none) :: kvs.map (eN E F) : List (D × D)).any fun p => decide (nkD p.1 = some (nk k))) = kvs.any fun p => decide (p.1 = k) := by
    rw [List.any_cons, n0, List.any_map]
    show (decide ((none : Option NestedKey) = some (nk k)) || _) = _
    rw [show (decide ((none : Option NestedKey) = some (nk k))) = false by simp, Bool.false_or]
    congr 1
    funext p
    exact nk_dec p.1 k
  rw [e1]
  by_cases c : (kvs.any fun p => decide (p.1 = k)) = true
  · rw [if_pos c, if_pos c, List.map_cons, n0, if_neg (by simp), List.map_map, List.map_map]
    congr 1
    apply List.map_congr_left
    intro p _
    show (if nkD (E p.1) = some (nk k) then ((eN E F p).1, F a) else eN E F p) = eN E F (if p.1 = k then (p.1, a) else p)
    have := nk_dec (E := E) p.1 k
    by_cases d : p.1 = k
    · rw [decide_eq_true d, decide_eq_true_iff] at this
      rw [if_pos d, if_pos this]; rfl
    · rw [decide_eq_false d, decide_eq_false_iff_not] at this
      rw [if_neg d, if_neg this]
  · rw [if_neg c, if_neg c, List.map_append]; rfl
theorem dgetN_l [NkC 8 E nk] [TuC E] [LfC F] {kvs : List (κ × α)} {k : κ} : dgetNG (cN E F kvs, f) (E k, f') = (getA kvs k).map (zz F) := by
  show (if isN ((.none, .none) :: kvs.map (eN E F)) = true then (keyOk (E k)).bind _ else none) = _
  rw [if_pos (isN_c kvs), keyOk_c]
  show ((getND _ (nk k)).bind _) = _
  rw [getND_c]
  cases getA kvs k with
  | none => rfl
  | some a =>
    show (if lf (F a) = true then some (F a, Fl.fz) else none) = _
    rw [if_pos (LfC.lf a)]; rfl
theorem dinN_l [NkC 8 E nk] [TuC E] {neg : Bool} {kvs : List (κ × α)} {k : κ} : dinNG neg (E k, f) (cN E F kvs, f') = some (cB (neg != (getA kvs k).isSome), .fz) := by
  show (if isN ((.none, .none) :: kvs.map (eN E F)) = true then (keyOk (E k)).map _ else none) = _
  rw [if_pos (isN_c kvs), keyOk_c]
  show some (PyData.bool (neg != (getND _ (nk k)).isSome), Fl.fz) = _
  rw [getND_c, Option.isSome_map]; rfl
theorem dget2N_l [NkC 8 E nk] [TuC E] [LfC F] {kvs : List (κ × α)} {k : κ} {a : α} : dgetND (cN E F kvs, f) (E k, f') (F a, f'') = some (F ((getA kvs k).getD a), .fz) := by
  show (if isN ((.none, .none) :: kvs.map (eN E F)) = true then (keyOk (E k)).bind _ else none) = _
  rw [if_pos (isN_c kvs), keyOk_c]
  show (if lf ((getND _ (nk k)).getD (F a)) = true then some ((getND _ (nk k)).getD (F a), Fl.fz) else none) = _
  rw [getND_c]
  cases getA kvs k with
  | none => exact if_pos (LfC.lf a)
  | some b => exact if_pos (LfC.lf b)
omit [DecidableEq κ] in
theorem dictN0_l : eDictN0 e = some (cN E F [], .ow) := rfl
omit [DecidableEq κ] in
theorem keysN_c (kvs : List (κ × α)) : kysD ((.none, .none) :: kvs.map (eN E F)) = (kvs.map (·.1)).map E := by
  unfold kysD
  rw [List.map_cons, List.tail_cons, List.map_map, List.map_map]; rfl
end
section
variable {α β S ρ κ : Type} {E : κ → D} {F : α → D} {f f' : Fl} {e : En} {i : Nat} {h : GS} {M : Out → Option ρ} {R : Option ρ} {nk : κ → NestedKey}
theorem st_forDN {kvs : List (κ × α)} {ws : List Nat} {tg : Tg} {body : GS} (h1 : e[i]? = some (some (cN E F kvs, .fz)))
    (k : ((if false = true then (forGo tg body ws ((kvs.map (·.1)).map E) (lockE (wipeE e ws))).map (unlO (wipeE e ws)) else forGo tg body ws ((kvs.map (·.1)).map E) (wipeE e ws)).bind fun o => (nxt h o).bind M) = R) (hb : e.all noBwS = true := by rfl) : (sSeq (sForDN ws tg i body) h e).bind M = R := by
  rw [← k, sSeq_ev, if_neg Bool.false_ne_true]
  have : sForDN ws tg i body e = forGo tg body ws ((kvs.map (·.1)).map E) (wipeE e ws) := by
    unfold sForDN
    rw [h1]
    show (if isN ((.none, .none) :: kvs.map (eN E F)) = true ∧ e.all noBwS = true then forGo tg body ws (kysD ((.none, .none) :: kvs.map (eN E F))) (wipeE e ws) else none) = _
    rw [if_pos ⟨isN_c kvs, hb⟩, keysN_c]
  rw [this]
  cases forGo tg body ws ((kvs.map (·.1)).map E) (wipeE e ws) <;> rfl
def keysA (kvs : List (κ × α)) : Option (List κ) := if kvs.length + 1 ≤ 16777216 then some (kvs.map (·.1)) else none
theorem lcDN_k {kvs : List (κ × α)} {own : List Nat} {tg : Tg} {tt : GB} {te : GE} {T : List κ → Option β} {q : β → RV} (h1 : e[i]? = some (some (cN E F kvs, .fz)))
    (k : ∀ xs : List κ, ((lcGo (lcF own tg tt te e) (xs.map E)).map fun ys => (PyData.list ys, Fl.ow)) = (T xs).map q) (hb : e.all noBwS = true := by rfl) : eLcDN own tg i tt te e = ((keysA kvs).bind T).map q := by
  unfold eLcDN keysA
  rw [h1]
  show (if isN ((.none, .none) :: kvs.map (eN E F)) = true ∧ e.all noBwS = true ∧ ((.none, .none) :: kvs.map (eN E F)).length ≤ 16777216 then (lcGo (lcF own tg tt te e) (kysD ((.none, .none) :: kvs.map (eN E F)))).map (fun ys => (PyData.list ys, Fl.ow)) else none) = _
  rw [List.length_cons, List.length_map, keysN_c]
  by_cases c : kvs.length + 1 ≤ 16777216
  · rw [if_pos ⟨isN_c kvs, hb, c⟩, if_pos c]; exact k _
  · rw [if_neg (fun z => c z.2.2), if_neg c]; rfl
/-- d[k] = e -/
def dsetRN (i : Nat) (e : En) (r kr : RV) : Option Out := (keyOk kr.1).bind fun kk => mD e i fun ds => if plainFl r.2 = true ∧ isN ds = true ∧ ds.length < 16777216 then some (putND ds kr.1 kk r.1) else none
variable [DecidableEq κ]
def dputA (kvs : List (κ × α)) (k : κ) (a : α) : Option (List (κ × α)) := if kvs.length + 1 < 16777216 then some (putA kvs k a) else none
theorem dsetN_i [NkC 8 E nk] [TuC E] {kvs : List (κ × α)} {z : κ} {a : α} {T : List (κ × α) → Option β} {q : β → ρ} (h1 : e[i]? = some (some (cN E F kvs, .ow))) (hf : plainFl f = true) (k : ∀ ys, (h (e.set i (some (cN E F ys, .ow)))).bind M = (T ys).map q) : ((dsetRN i e (F a, f) (E z, f')).bind fun o => (nxt h o).bind M) = ((dputA kvs z a).bind T).map q := by
  unfold dsetRN mD
  show ((keyOk (E z)).bind _).bind _ = _
  rw [keyOk_c (E := E) (nk := nk), h1]
  show (((if plainFl f = true ∧ isN ((.none, .none) :: kvs.map (eN E F)) = true ∧ ((.none, .none) :: kvs.map (eN E F)).length < 16777216 then some (putND ((.none, .none) :: kvs.map (eN E F)) (E z) (nk z) (F a)) else none).map fun es => Out.nx (e.set i (some (.dict es, .ow)))).bind _) = _
  rw [List.length_cons, List.length_map]
  unfold dputA
  by_cases c : kvs.length + 1 < 16777216
  · rw [if_pos ⟨hf, isN_c kvs, c⟩, if_pos c, putND_c]; exact k _
  · rw [if_neg (fun z => c z.2.2), if_neg c]; rfl
omit [DecidableEq κ] in
theorem st_dsetN {ga gi : GE} (k : ((ga e).bind fun r => (gi e).bind fun z => (dsetRN i e r z).bind fun o => (nxt h o).bind M) = R) : (sSeq (sDSetN i gi ga) h e).bind M = R := by
  rw [← k, sSeq_ev]
  unfold sDSetN
  cases ga e with
  | none => rfl
  | some r => cases gi e with
    | none => rfl
    | some z =>
      show (((keyOk z.1).bind _).bind _).bind M = _
      exact bind_nxt _
omit [DecidableEq κ] in
theorem dgN_k {R : Option RV} {ga gb gc : GE} (k : ((ga e).bind fun r => (gb e).bind fun k => (gc e).bind fun z => dgetND r k z) = R) : eDGN ga gb gc e = R := k
omit [DecidableEq κ] in
theorem dictN1_l [NkC 8 E nk] [TuC E] [LfC F] {k : κ} {a : α} : ((keyOk (E k)).bind fun _ => if lf (F a) = true then some (PyData.dict [(.none, .none), (E k, F a)], Fl.ow) else none) = some (cN E F [(k, a)], .ow) := by
  rw [keyOk_c (E := E) (nk := nk)]
  show (if lf (F a) = true then some (PyData.dict [(.none, .none), (E k, F a)], Fl.ow) else none) = _
  rw [if_pos (LfC.lf a)]; rfl
omit [DecidableEq κ] in
theorem dictN1_k {R : Option RV} {ga gb : GE} (k : ((ga e).bind fun k => (gb e).bind fun v => (keyOk k.1).bind fun _ => if lf v.1 = true then some (PyData.dict [(.none, .none), (k.1, v.1)], Fl.ow) else none) = R) : eDictN1 ga gb e = R := k
end
/-! isinstance of what is of a known kind -/
section
variable {e : En} {ga : GE} {r : RV} {T : String} {b : Bool}
theorem isi_k (h : ga e = some r) (k : isiR T r = some (.bool b, .fz)) : eIsi T ga e = some (cB b, .fz) := by rw [eIsi_ev, h]; exact k
theorem k8 : kitB "tuple" "int" = some false := by decide +kernel
theorem isi_ti {ds : List D} {f : Fl} : isiR "int" (.tuple ds, f) = some (.bool false, .fz) := by unfold isiR; rw [k8]; rfl
theorem lenP_l {ds : List D} {f : Fl} {n : Int} (h : (ds.length : Int) = n := by rfl) : one lenG [(.tuple ds, f)] = some (cI n, .fz) := by
  show some (PyData.int ds.length, Fl.fz) = _
  rw [h]; rfl
end
end Pl

set_option Elab.async false
set_option linter.all false
set_option maxRecDepth 100000
set_option maxHeartbeats 4000000
namespace Lk45
open PySem PySem.Spec PyProof.Rows L2 Pl

def topS (i : Nat) : Stmt := PySem.Challenge.pw_gasheld_k45_whole_renewed_years.main.body.getD i (.Pass ⟨0, 0, 0, 0⟩)

variable {P : Program} {w : World} {K : PySem.W.Frag} {mg : Str → Option Value} {base : Heap}

/-! ### all_sets -/
abbrev s_all_sets : Stmt := topS 1
theorem S_all_sets : FnScope ["n", "found", "index", "row"] ["n"] (defScope s_all_sets) := ⟨rfl, rfl, rfl, by decide +kernel, rfl, by decide +kernel, by decide +kernel⟩
def g_all_sets_1 : GS := (sAsg 1 false (e2 addG (e2 addG (eA lstG (aCons (eA tupG aNil) aNil)) (eLc [3] (.nm 3) (seqS (eVar 1)) bYes (e2 addG (eA tupG (aCons (eVar 2) aNil)) (eVar 3)))) (eLc [3] (.nm 3) (seqS (eVar 1)) (eT (eVar 3)) (eVar 3))))
def g_all_sets : GS := (sSeq (sAsg 1 false (eA lstG (aCons (eA tupG aNil) aNil)))
  (sSeq (sFor [2] (.nm 2) (aS rng3G (aCons (e2 subG (eVar 0) (eC (.int 1))) (aCons (eNeg (eC (.int 1))) (aCons (eNeg (eC (.int 1))) aNil))))
   g_all_sets_1)
  (sRet (eVar 1))))
def f_all_sets : List RV → Option RV := fnG 1 4 g_all_sets
theorem o_all_sets (T : Tp K mg "all_sets" s_all_sets) (B : ∀ x ∈ bl, mg x = none)    : Cl P w K mg base 1 "all_sets" f_all_sets :=
  have S := S_all_sets
  cl_of T S rfl rfl (by decide) (fun _ _ _ _ _ _ us hl => match us, hl with | [_], _ => rfl) fun f cdv A outer s H E hr =>
  (vss_cons (vs_asg 1 false S.nd (ve_lst (va_cons (ve_tup va_nil) va_nil)))
  (vss_cons (vs_for [2] PassesOwn.never rfl (vi_range3 (by rfl) (B "range" (by decide)) (va_cons (ve_op opF_sub (ve_var 0) ve_int) (va_cons (ve_neg ve_int) (va_cons (ve_neg ve_int) va_nil)))) (vg_name 2 S.nd)
   (vss_one (vs_asg 1 false S.nd (ve_op opF_add (ve_op opF_add (ve_lst (va_cons (ve_tup va_nil) va_nil)) (ve_lc rfl S.nd (vi_seq (ve_var 1)) (blkOk_by (own := [("row", 3)]) (by kernel_rfl)) (by decide) (fun _ _ _ _ _ => (vg_name 3 S.nd)) (fun _ _ _ _ _ => vts_nil) (fun _ _ _ _ _ => (ve_op opF_add (ve_tup (va_cons (ve_var 2) va_nil)) (ve_var 3))))) (ve_lc rfl S.nd (vi_seq (ve_var 1)) (blkOk_by (own := [("row", 3)]) (by kernel_rfl)) (by decide) (fun _ _ _ _ _ => (vg_name 3 S.nd)) (fun _ _ _ _ _ => (vts_one (vb_tru (ve_var 3)))) (fun _ _ _ _ _ => (ve_var 3)))))))
  (vss_one (vs_ret (ve_var 1)))))

/-! ### cost_at -/
abbrev s_cost_at : Stmt := topS 3
theorem S_cost_at : FnScope ["costs", "age"] ["costs", "age"] (defScope s_cost_at) := ⟨rfl, rfl, rfl, by decide +kernel, rfl, by decide +kernel, by decide +kernel⟩
def g_cost_at : GS := (sRet (e2 ixG (eVar 0) (eA minB (aCons (eVar 1) (aCons (e2 subG (eA (one lenG) (aCons (eVar 0) aNil)) (eC (.int 1))) aNil)))))
def f_cost_at : List RV → Option RV := fnG 2 2 g_cost_at
theorem o_cost_at (T : Tp K mg "cost_at" s_cost_at) (B : ∀ x ∈ bl, mg x = none)    : Cl P w K mg base 1 "cost_at" f_cost_at :=
  have S := S_cost_at
  cl_of T S rfl rfl (by decide) (fun _ _ _ _ _ _ us hl => match us, hl with | [_, _], _ => rfl) fun f cdv A outer s H E hr =>
  (vss_one (vs_ret (ve_ix (ve_var 0) (ve_callB (callF_minB rfl hr.units) (by rfl) (B "min" (by decide)) bt_min (va_cons (ve_var 1) (va_cons (ve_op opF_sub (ve_callB callF_len (by rfl) (B "len" (by decide)) bt_len (va_cons (ve_var 0) va_nil)) ve_int) va_nil))))))

/-! ### plan_sum -/
abbrev s_plan_sum : Stmt := topS 4
theorem S_plan_sum : FnScope ["ages", "costs", "new", "trench", "plan", "chosen", "total", "pipe"] ["ages", "costs", "new", "trench", "plan"] (defScope s_plan_sum) := ⟨rfl, rfl, rfl, by decide +kernel, rfl, by decide +kernel, by decide +kernel⟩
def g_plan_sum_1 : GS := (sSeq (sSet 0 (eVar 7) (eIf (eB (e2 (inG false) (eVar 7) (eVar 5))) (eC (.int 0)) (e2 ixG (eVar 0) (eVar 7))))
  (sSeq (sAug (fun i j => i + j) 6 (eA f_cost_at (aCons (eVar 1) (aCons (e2 ixG (eVar 0) (eVar 7)) aNil))))
  (sAugS (fun i j => i + j) 0 (eVar 7) (eC (.int 1)))))
def g_plan_sum_2 : GS := (sSeq (sAug (fun i j => i + j) 6 (e2 addG (eIf (eT (eVar 5)) (eVar 3) (eC (.int 0))) (e2 mulA (eVar 2) (eA (one lenG) (aCons (eVar 5) aNil)))))
  (sFor [7] (.nm 7) (aS rng1G (aCons (eA (one lenG) (aCons (eVar 0) aNil)) aNil))
   g_plan_sum_1))
def g_plan_sum : GS := (sSeq (sPar [(0, true), (6, false)] (aCons (eA (one listG) (aCons (eVar 0) aNil)) (aCons (eC (.int 0)) aNil)))
  (sSeq (sFor [5, 7] (.nm 5) (seqS (eVar 4))
   g_plan_sum_2)
  (sRet (eVar 6))))
def f_plan_sum : List RV → Option RV := fnG 5 8 g_plan_sum
theorem o_plan_sum (T : Tp K mg "plan_sum" s_plan_sum) (B : ∀ x ∈ bl, mg x = none) (c_cost_at : Cl P w K mg base 1 "cost_at" f_cost_at)   : Cl P w K mg base 2 "plan_sum" f_plan_sum :=
  have S := S_plan_sum
  cl_of T S rfl rfl (by decide) (fun _ _ _ _ _ _ us hl => match us, hl with | [_, _, _, _, _], _ => rfl) fun f cdv A outer s H E hr =>
  (vss_cons (vs_par2 rfl S.nd (va_cons (ve_callTy callF_list (by rfl) (B "list" (by decide)) bt_list (va_cons (ve_var 0) va_nil)) (va_cons ve_int va_nil)))
  (vss_cons (vs_for [5, 7] PassesOwn.never rfl (vi_seq (ve_var 4)) (vg_name 5 S.nd)
   (vss_cons (vs_aug (fun i j => i + j) 6 S.nd (ve_op opF_add (ve_if (vb_tru (ve_var 5)) (ve_var 3) ve_int) (ve_op opF_mulA (ve_var 2) (ve_callB callF_len (by rfl) (B "len" (by decide)) bt_len (va_cons (ve_var 5) va_nil)))) ip_add)
  (vss_one (vs_for [7] PassesOwn.never rfl (vi_range1 (by rfl) (B "range" (by decide)) (va_cons (ve_callB callF_len (by rfl) (B "len" (by decide)) bt_len (va_cons (ve_var 0) va_nil)) va_nil)) (vg_name 7 S.nd)
   (vss_cons (vs_setI 0 (ve_if (vb_cmp (opF_in hr.units) (ve_var 7) (ve_var 5)) ve_int (ve_ix (ve_var 0) (ve_var 7))) (ve_var 7))
  (vss_cons (vs_aug (fun i j => i + j) 6 S.nd (ve_call c_cost_at hr (by decide) (by rfl) (va_cons (ve_var 1) (va_cons (ve_ix (ve_var 0) (ve_var 7)) va_nil))) ip_add)
  (vss_one (vs_augS (fun i j => i + j) 0 (ve_var 7) ve_int ip_add))))))))
  (vss_one (vs_ret (ve_var 6)))))

/-! ### renew_least -/
abbrev s_renew_least : Stmt := topS 5
theorem S_renew_least : FnScope ["ages", "costs", "new", "trench", "years", "states", "_", "later", "old", "chosen", "total", "plan", "young", "more", "key", "told", "pipe", "age"] ["ages", "costs", "new", "trench", "years"] (defScope s_renew_least) := ⟨rfl, rfl, rfl, by decide +kernel, rfl, by decide +kernel, by decide +kernel⟩
def g_renew_least_1 : GS := (sSeq (sPar [(14, false), (15, false)] (aCons (eA (one tupleG) (aCons (eLc [17] (.nm 17) (seqS (eVar 12)) bYes (e2 addG (eVar 17) (eC (.int 1)))) aNil)) (aCons (eA tupG (aCons (e2 addG (eVar 10) (eVar 13)) (aCons (e2 addG (eVar 11) (eA tupG (aCons (eVar 9) aNil))) aNil))) aNil)))
  (sDSetN 7 (eVar 14) (eA minB (aCons (eDGN (eVar 7) (eVar 14) (eVar 15)) (aCons (eVar 15) aNil)))))
def g_renew_least_2 : GS := (sSeq (sAsg 13 false (e2 addG (e2 addG (eIf (eT (eVar 9)) (eVar 3) (eC (.int 0))) (e2 mulA (eVar 2) (eA (one lenG) (aCons (eVar 9) aNil)))) (eA (one sumG) (aCons (eLc [17] (.nm 17) (seqS (eVar 12)) bYes (eA f_cost_at (aCons (eVar 1) (aCons (eVar 17) aNil)))) aNil))))
  g_renew_least_1)
def g_renew_least_3 : GS := (sSeq (sAsg 12 false (eLc [16, 17] (.tp (.cons (.nm 16) (.cons (.nm 17) .nil))) (aS enumG (aCons (eVar 8) aNil)) bYes (eIf (eB (e2 (inG false) (eVar 16) (eVar 9))) (eC (.int 0)) (eVar 17))))
  g_renew_least_2)
def g_renew_least_4 : GS := (sSeq (sAsgT (.tp (.cons (.nm 10) (.cons (.nm 11) .nil))) (e2 dgetNG (eVar 5) (eVar 8)))
  (sFor [9, 12, 13, 14, 15] (.nm 9) (seqS (eA f_all_sets (aCons (eA (one lenG) (aCons (eVar 0) aNil)) aNil)))
   g_renew_least_3))
def g_renew_least_5 : GS := (sSeq (sFor [6, 7, 8, 9, 10, 11, 12, 13, 14, 15] (.nm 6) (aS rng1G (aCons (eVar 4) aNil))
   (sSeq (sAsg 7 true eDictN0)
  (sSeq (sForDN [8, 9, 10, 11, 12, 13, 14, 15] (.nm 8) 5
   g_renew_least_4)
  (sPre 7 (sAsg 5 false (eVar 7))))))
  (sRet (eA minB (aCons (eLcDN [8] (.nm 8) 5 bYes (e2 dgetNG (eVar 5) (eVar 8))) aNil))))
def g_renew_least : GS := (sSeq (sAsg 5 false (eDictN1 (eA (one tupleG) (aCons (eVar 0) aNil)) (eA tupG (aCons (eC (.int 0)) (aCons (eA tupG aNil) aNil)))))
  g_renew_least_5)
def f_renew_least : List RV → Option RV := fnG 5 18 g_renew_least
theorem o_renew_least (T : Tp K mg "renew_least" s_renew_least) (B : ∀ x ∈ bl, mg x = none) (c_all_sets : Cl P w K mg base 1 "all_sets" f_all_sets) (c_cost_at : Cl P w K mg base 1 "cost_at" f_cost_at)   : Cl P w K mg base 2 "renew_least" f_renew_least :=
  have S := S_renew_least
  cl_of T S rfl rfl (by decide) (fun _ _ _ _ _ _ us hl => match us, hl with | [_, _, _, _, _], _ => rfl) fun f cdv A outer s H E hr =>
  (vss_cons (vs_asg 5 false S.nd (ve_dictN1 hr.units (ve_callTy callF_tuple (by rfl) (B "tuple" (by decide)) bt_tuple (va_cons (ve_var 0) va_nil)) (ve_tup (va_cons ve_int (va_cons (ve_tup va_nil) va_nil)))))
  (vss_cons (vs_for [6, 7, 8, 9, 10, 11, 12, 13, 14, 15] PassesOwn.never rfl (vi_range1 (by rfl) (B "range" (by decide)) (va_cons (ve_var 4) va_nil)) (vg_name 6 S.nd)
   (vss_cons (vs_asg 7 true S.nd ve_dictN0)
  (vss_cons (vs_forDN [8, 9, 10, 11, 12, 13, 14, 15] 5 PassesOwn.never rfl (vg_name 8 S.nd)
   (vss_cons (vs_asgT (ve_dgetN hr.units (ve_var 5) (ve_var 8)) (vg_tup rfl (vgs_cons (vg_name 10 S.nd) (vgs_cons (vg_name 11 S.nd) vgs_nil))))
  (vss_one (vs_for [9, 12, 13, 14, 15] PassesOwn.never rfl (vi_seq (ve_call c_all_sets hr (by decide) (by rfl) (va_cons (ve_callB callF_len (by rfl) (B "len" (by decide)) bt_len (va_cons (ve_var 0) va_nil)) va_nil))) (vg_name 9 S.nd)
   (vss_cons (vs_asgLc 12 false rfl S.nd (vi_enum (by rfl) (B "enumerate" (by decide)) (va_cons (ve_var 8) va_nil)) (blkOk_by (own := [("pipe", 16), ("age", 17)]) (by kernel_rfl)) (by decide) (fun _ _ _ _ _ => (vg_tup rfl (vgs_cons (vg_name 16 S.nd) (vgs_cons (vg_name 17 S.nd) vgs_nil)))) (fun _ _ _ _ _ => vts_nil) (fun _ _ _ _ _ => (ve_if (vb_cmp (opF_in hr.units) (ve_var 16) (ve_var 9)) ve_int (ve_var 17))))
  (vss_cons (vs_asg 13 false S.nd (ve_op opF_add (ve_op opF_add (ve_if (vb_tru (ve_var 9)) (ve_var 3) ve_int) (ve_op opF_mulA (ve_var 2) (ve_callB callF_len (by rfl) (B "len" (by decide)) bt_len (va_cons (ve_var 9) va_nil)))) (ve_callB (callF_sum rfl) (by rfl) (B "sum" (by decide)) bt_sum (va_cons (ve_lc rfl S.nd (vi_seq (ve_var 12)) (blkOk_by (own := [("age", 17)]) (by kernel_rfl)) (by decide) (fun _ _ _ _ _ => (vg_name 17 S.nd)) (fun _ _ _ _ _ => vts_nil) (fun _ _ _ _ _ => (ve_call c_cost_at hr (by decide) (by rfl) (va_cons (ve_var 1) (va_cons (ve_var 17) va_nil))))) va_nil))))
  (vss_cons (vs_par2 rfl S.nd (va_cons (ve_callTy callF_tuple (by rfl) (B "tuple" (by decide)) bt_tuple (va_cons (ve_lc rfl S.nd (vi_seq (ve_var 12)) (blkOk_by (own := [("age", 17)]) (by kernel_rfl)) (by decide) (fun _ _ _ _ _ => (vg_name 17 S.nd)) (fun _ _ _ _ _ => vts_nil) (fun _ _ _ _ _ => (ve_op opF_add (ve_var 17) ve_int))) va_nil)) (va_cons (ve_tup (va_cons (ve_op opF_add (ve_var 10) (ve_var 13)) (va_cons (ve_op opF_add (ve_var 11) (ve_tup (va_cons (ve_var 9) va_nil))) va_nil))) va_nil)))
  (vss_one (vs_setDN 7 hr.units (ve_callB (callF_minB rfl hr.units) (by rfl) (B "min" (by decide)) bt_min (va_cons (ve_dget2N hr.units (ve_var 7) (ve_var 14) (ve_var 15)) (va_cons (ve_var 15) va_nil))) (ve_var 14))))))))))
  (vss_one (vs_pre 7 (vs_asg 5 false S.nd (ve_var 7)))))))
  (vss_one (vs_ret (ve_callB (callF_minB rfl hr.units) (by rfl) (B "min" (by decide)) bt_min (va_cons (ve_lcDN 5 rfl S.nd (blkOk_by (own := [("old", 8)]) (by kernel_rfl)) (by decide) (fun _ _ _ _ _ => (vg_name 8 S.nd)) (fun _ _ _ _ _ => vts_nil) (fun _ _ _ _ _ => (ve_dgetN hr.units (ve_var 5) (ve_var 8)))) va_nil))))))

/-! ### renew_alone -/
abbrev s_renew_alone : Stmt := topS 6
theorem S_renew_alone : FnScope ["ages", "costs", "new", "trench", "years", "age"] ["ages", "costs", "new", "trench", "years"] (defScope s_renew_alone) := ⟨rfl, rfl, rfl, by decide +kernel, rfl, by decide +kernel, by decide +kernel⟩
def g_renew_alone : GS := (sRet (eA (one sumG) (aCons (eLc [5] (.nm 5) (seqS (eVar 0)) bYes (e2 ixG (eA f_renew_least (aCons (eA tupG (aCons (eVar 5) aNil)) (aCons (eVar 1) (aCons (eVar 2) (aCons (eVar 3) (aCons (eVar 4) aNil)))))) (eC (.int 0)))) aNil)))
def f_renew_alone : List RV → Option RV := fnG 5 6 g_renew_alone
theorem o_renew_alone (T : Tp K mg "renew_alone" s_renew_alone) (B : ∀ x ∈ bl, mg x = none) (c_renew_least : Cl P w K mg base 2 "renew_least" f_renew_least)   : Cl P w K mg base 3 "renew_alone" f_renew_alone :=
  have S := S_renew_alone
  cl_of T S rfl rfl (by decide) (fun _ _ _ _ _ _ us hl => match us, hl with | [_, _, _, _, _], _ => rfl) fun f cdv A outer s H E hr =>
  (vss_one (vs_ret (ve_callB (callF_sum rfl) (by rfl) (B "sum" (by decide)) bt_sum (va_cons (ve_lc rfl S.nd (vi_seq (ve_var 0)) (blkOk_by (own := [("age", 5)]) (by kernel_rfl)) (by decide) (fun _ _ _ _ _ => (vg_name 5 S.nd)) (fun _ _ _ _ _ => vts_nil) (fun _ _ _ _ _ => (ve_ix (ve_call c_renew_least hr (by decide) (by rfl) (va_cons (ve_tup (va_cons (ve_var 5) va_nil)) (va_cons (ve_var 1) (va_cons (ve_var 2) (va_cons (ve_var 3) (va_cons (ve_var 4) va_nil)))))) ve_int))) va_nil))))

/-! ### renew_at -/
abbrev s_renew_at : Stmt := topS 7
theorem S_renew_at : FnScope ["ages", "costs", "new", "trench", "years", "age", "_", "rows", "plan", "chosen", "pipe", "own"] ["ages", "costs", "new", "trench", "years", "age"] (defScope s_renew_at) := ⟨rfl, rfl, rfl, by decide +kernel, rfl, by decide +kernel, by decide +kernel⟩
def g_renew_at_1 : GS := (sAsg 7 false (eLc [10, 11] (.tp (.cons (.nm 10) (.cons (.nm 11) .nil))) (aS enumG (aCons (eVar 7) aNil)) bYes (eIf (eB (e2 (inG false) (eVar 10) (eVar 9))) (eC (.int 1)) (e2 addG (eVar 11) (eC (.int 1))))))
def g_renew_at_2 : GS := (sSeq (sAsg 9 false (eA (one tupleG) (aCons (eLc [10, 11] (.tp (.cons (.nm 10) (.cons (.nm 11) .nil))) (aS enumG (aCons (eVar 7) aNil)) (eB (e2 geA (eVar 11) (eVar 5))) (eVar 10)) aNil)))
  (sSeq (sApp 8 (aCons (eVar 9) aNil))
  g_renew_at_1))
def g_renew_at_3 : GS := (sSeq (sFor [6, 9] (.nm 6) (aS rng1G (aCons (eVar 4) aNil))
   g_renew_at_2)
  (sPre 8 (sRet (eA f_plan_sum (aCons (eVar 0) (aCons (eVar 1) (aCons (eVar 2) (aCons (eVar 3) (aCons (eVar 8) aNil)))))))))
def g_renew_at : GS := (sSeq (sPar [(7, false), (8, true)] (aCons (eA (one listG) (aCons (eVar 0) aNil)) (aCons (eA lstG aNil) aNil)))
  g_renew_at_3)
def f_renew_at : List RV → Option RV := fnG 6 12 g_renew_at
theorem o_renew_at (T : Tp K mg "renew_at" s_renew_at) (B : ∀ x ∈ bl, mg x = none) (c_plan_sum : Cl P w K mg base 2 "plan_sum" f_plan_sum)   : Cl P w K mg base 3 "renew_at" f_renew_at :=
  have S := S_renew_at
  cl_of T S rfl rfl (by decide) (fun _ _ _ _ _ _ us hl => match us, hl with | [_, _, _, _, _, _], _ => rfl) fun f cdv A outer s H E hr =>
  (vss_cons (vs_par2 rfl S.nd (va_cons (ve_callTy callF_list (by rfl) (B "list" (by decide)) bt_list (va_cons (ve_var 0) va_nil)) (va_cons (ve_lst va_nil) va_nil)))
  (vss_cons (vs_for [6, 9] PassesOwn.never rfl (vi_range1 (by rfl) (B "range" (by decide)) (va_cons (ve_var 4) va_nil)) (vg_name 6 S.nd)
   (vss_cons (vs_asg 9 false S.nd (ve_callTy callF_tuple (by rfl) (B "tuple" (by decide)) bt_tuple (va_cons (ve_lc rfl S.nd (vi_enum (by rfl) (B "enumerate" (by decide)) (va_cons (ve_var 7) va_nil)) (blkOk_by (own := [("pipe", 10), ("own", 11)]) (by kernel_rfl)) (by decide) (fun _ _ _ _ _ => (vg_tup rfl (vgs_cons (vg_name 10 S.nd) (vgs_cons (vg_name 11 S.nd) vgs_nil)))) (fun _ _ _ _ _ => (vts_one (vb_cmp (opF_geA hr.units) (ve_var 11) (ve_var 5)))) (fun _ _ _ _ _ => (ve_var 10))) va_nil)))
  (vss_cons (vs_app 8 (va_cons (ve_var 9) va_nil))
  (vss_one (vs_asgLc 7 false rfl S.nd (vi_enum (by rfl) (B "enumerate" (by decide)) (va_cons (ve_var 7) va_nil)) (blkOk_by (own := [("pipe", 10), ("own", 11)]) (by kernel_rfl)) (by decide) (fun _ _ _ _ _ => (vg_tup rfl (vgs_cons (vg_name 10 S.nd) (vgs_cons (vg_name 11 S.nd) vgs_nil)))) (fun _ _ _ _ _ => vts_nil) (fun _ _ _ _ _ => (ve_if (vb_cmp (opF_in hr.units) (ve_var 10) (ve_var 9)) ve_int (ve_op opF_add (ve_var 11) ve_int))))))))
  (vss_one (vs_pre 8 (vs_ret (ve_call c_plan_sum hr (by decide) (by rfl) (va_cons (ve_var 0) (va_cons (ve_var 1) (va_cons (ve_var 2) (va_cons (ve_var 3) (va_cons (ve_var 8) va_nil)))))))))))

/-! ### best_age -/
abbrev s_best_age : Stmt := topS 8
theorem S_best_age : FnScope ["ages", "costs", "new", "trench", "years", "most", "age"] ["ages", "costs", "new", "trench", "years"] (defScope s_best_age) := ⟨rfl, rfl, rfl, by decide +kernel, rfl, by decide +kernel, by decide +kernel⟩
def g_best_age_1 : GS := (sRet (e2 ixG (eA minB (aCons (eLc [6] (.nm 6) (aS rng2G (aCons (eC (.int 1)) (aCons (e2 addG (eVar 5) (eC (.int 1))) aNil))) bYes (eA tupG (aCons (eA f_renew_at (aCons (eVar 0) (aCons (eVar 1) (aCons (eVar 2) (aCons (eVar 3) (aCons (eVar 4) (aCons (eVar 6) aNil))))))) (aCons (eVar 6) aNil)))) aNil)) (eC (.int 1))))
def g_best_age : GS := (sSeq (sAsg 5 false (e2 addG (e2 addG (eA maxA (aCons (eVar 0) aNil)) (eVar 4)) (eC (.int 1))))
  g_best_age_1)
def f_best_age : List RV → Option RV := fnG 5 7 g_best_age
theorem o_best_age (T : Tp K mg "best_age" s_best_age) (B : ∀ x ∈ bl, mg x = none) (c_renew_at : Cl P w K mg base 3 "renew_at" f_renew_at)   : Cl P w K mg base 4 "best_age" f_best_age :=
  have S := S_best_age
  cl_of T S rfl rfl (by decide) (fun _ _ _ _ _ _ us hl => match us, hl with | [_, _, _, _, _], _ => rfl) fun f cdv A outer s H E hr =>
  (vss_cons (vs_asg 5 false S.nd (ve_op opF_add (ve_op opF_add (ve_callB (callF_maxA rfl hr.units) (by rfl) (B "max" (by decide)) bt_max (va_cons (ve_var 0) va_nil)) (ve_var 4)) ve_int))
  (vss_one (vs_ret (ve_ix (ve_callB (callF_minB rfl hr.units) (by rfl) (B "min" (by decide)) bt_min (va_cons (ve_lc rfl S.nd (vi_range2 (by rfl) (B "range" (by decide)) (va_cons ve_int (va_cons (ve_op opF_add (ve_var 5) ve_int) va_nil))) (blkOk_by (own := [("age", 6)]) (by kernel_rfl)) (by decide) (fun _ _ _ _ _ => (vg_name 6 S.nd)) (fun _ _ _ _ _ => vts_nil) (fun _ _ _ _ _ => (ve_tup (va_cons (ve_call c_renew_at hr (by decide) (by rfl) (va_cons (ve_var 0) (va_cons (ve_var 1) (va_cons (ve_var 2) (va_cons (ve_var 3) (va_cons (ve_var 4) (va_cons (ve_var 6) va_nil))))))) (va_cons (ve_var 6) va_nil))))) va_nil)) ve_int))))

/-! ### least_looks -/
abbrev s_least_looks : Stmt := topS 10
theorem S_least_looks : FnScope ["n", "most", "found", "day", "look"] ["n", "most"] (defScope s_least_looks) := ⟨rfl, rfl, rfl, by decide +kernel, rfl, by decide +kernel, by decide +kernel⟩
def g_least_looks_1 : GS := (sSeq (sAsg 4 false (eA minB (aCons (e2 addG (eVar 3) (eVar 1)) (aCons (e2 subG (eVar 0) (eC (.int 1))) aNil))))
  (sSeq (sApp 2 (aCons (eVar 4) aNil))
  (sAsg 3 false (e2 addG (eVar 4) (eC (.int 1))))))
def g_least_looks : GS := (sSeq (sPar [(2, true), (3, false)] (aCons (eA lstG aNil) (aCons (eC (.int 0)) aNil)))
  (sSeq (sWhile [4] (eB (e2 ltA (eVar 3) (eVar 0)))
   g_least_looks_1)
  (sRet (eA (one tupleG) (aCons (eVar 2) aNil)))))
def f_least_looks : List RV → Option RV := fnG 2 5 g_least_looks
theorem o_least_looks (T : Tp K mg "least_looks" s_least_looks) (B : ∀ x ∈ bl, mg x = none)    : Cl P w K mg base 1 "least_looks" f_least_looks :=
  have S := S_least_looks
  cl_of T S rfl rfl (by decide) (fun _ _ _ _ _ _ us hl => match us, hl with | [_, _], _ => rfl) fun f cdv A outer s H E hr =>
  (vss_cons (vs_par2 rfl S.nd (va_cons (ve_lst va_nil) (va_cons ve_int va_nil)))
  (vss_cons (vs_while [4] PassesOwn.never (vb_cmp (opF_ltA hr.units) (ve_var 3) (ve_var 0))
   (vss_cons (vs_asg 4 false S.nd (ve_callB (callF_minB rfl hr.units) (by rfl) (B "min" (by decide)) bt_min (va_cons (ve_op opF_add (ve_var 3) (ve_var 1)) (va_cons (ve_op opF_sub (ve_var 0) ve_int) va_nil))))
  (vss_cons (vs_app 2 (va_cons (ve_var 4) va_nil))
  (vss_one (vs_asg 3 false S.nd (ve_op opF_add (ve_var 4) ve_int))))))
  (vss_one (vs_ret (ve_callTy callF_tuple (by rfl) (B "tuple" (by decide)) bt_tuple (va_cons (ve_var 2) va_nil))))))

/-! ### _law_mixed -/
abbrev s__law_mixed : Stmt := topS 12
theorem S__law_mixed : FnScope ["script", "k", "cell", "first", "second", "third"] ["script", "k"] (defScope s__law_mixed) := ⟨rfl, rfl, rfl, by decide +kernel, rfl, by decide +kernel, by decide +kernel⟩
def g__law_mixed_1 : GS := (sSeq (sAsg 5 false (e2 modG (eA (one intG) (aCons (e2 addG (e2 addG (e2 mulA (eVar 4) (eVar 4)) (e2 divG (eVar 4) (eC (.int 11)))) (eC (.int 40692))) aNil)) (eC (.int 2147483563))))
  (sRet (e2 modG (e2 divG (eVar 5) (eC (.int 5))) (eC (.int 1000003)))))
def g__law_mixed_2 : GS := (sSeq (sAsg 4 false (e2 modG (eA (one intG) (aCons (e2 addG (e2 addG (e2 mulA (eVar 3) (eVar 3)) (e2 divG (eVar 3) (eC (.int 7)))) (e2 mulA (eVar 1) (eC (.int 16807)))) aNil)) (eC (.int 2147483629))))
  g__law_mixed_1)
def g__law_mixed_3 : GS := (sSeq (sAsg 3 false (e2 modG (eA (one intG) (aCons (e2 addG (e2 addG (e2 mulA (eVar 2) (eC (.int 48271))) (e2 mulA (eVar 1) (eC (.int 69621)))) (eC (.int 8191))) aNil)) (eC (.int 2147483647))))
  g__law_mixed_2)
def g__law_mixed : GS := (sSeq (sAsg 2 false (eC (.int 0)))
  (sSeq (sIf (eB (e2 gtA (eA (one lenG) (aCons (eVar 0) aNil)) (eC (.int 0)))) (sAsg 2 false (e2 ixG (eVar 0) (e2 modG (eVar 1) (eA (one lenG) (aCons (eVar 0) aNil))))) sSkip)
  g__law_mixed_3))
def f__law_mixed : List RV → Option RV := fnG 2 6 g__law_mixed
theorem o__law_mixed (T : Tp K mg "_law_mixed" s__law_mixed) (B : ∀ x ∈ bl, mg x = none)    : Cl P w K mg base 1 "_law_mixed" f__law_mixed :=
  have S := S__law_mixed
  cl_of T S rfl rfl (by decide) (fun _ _ _ _ _ _ us hl => match us, hl with | [_, _], _ => rfl) fun f cdv A outer s H E hr =>
  (vss_cons (vs_asg 2 false S.nd ve_int)
  (vss_cons (vs_if (vb_cmp (opF_gtA hr.units) (ve_callB callF_len (by rfl) (B "len" (by decide)) bt_len (va_cons (ve_var 0) va_nil)) ve_int) (vss_one (vs_asg 2 false S.nd (ve_ix (ve_var 0) (ve_op opF_mod (ve_var 1) (ve_callB callF_len (by rfl) (B "len" (by decide)) bt_len (va_cons (ve_var 0) va_nil)))))) vss_nil)
  (vss_cons (vs_asg 3 false S.nd (ve_op opF_mod (ve_callTy callF_int (by rfl) (B "int" (by decide)) bt_int (va_cons (ve_op opF_add (ve_op opF_add (ve_op opF_mulA (ve_var 2) ve_int) (ve_op opF_mulA (ve_var 1) ve_int)) ve_int) va_nil)) ve_int))
  (vss_cons (vs_asg 4 false S.nd (ve_op opF_mod (ve_callTy callF_int (by rfl) (B "int" (by decide)) bt_int (va_cons (ve_op opF_add (ve_op opF_add (ve_op opF_mulA (ve_var 3) (ve_var 3)) (ve_op opF_div (ve_var 3) ve_int)) (ve_op opF_mulA (ve_var 1) ve_int)) va_nil)) ve_int))
  (vss_cons (vs_asg 5 false S.nd (ve_op opF_mod (ve_callTy callF_int (by rfl) (B "int" (by decide)) bt_int (va_cons (ve_op opF_add (ve_op opF_add (ve_op opF_mulA (ve_var 4) (ve_var 4)) (ve_op opF_div (ve_var 4) ve_int)) ve_int) va_nil)) ve_int))
  (vss_one (vs_ret (ve_op opF_mod (ve_op opF_div (ve_var 5) ve_int) ve_int))))))))

/-! ### _law_row -/
abbrev s__law_row : Stmt := topS 13
theorem S__law_row : FnScope ["script", "many", "big", "row", "k"] ["script", "many"] (defScope s__law_row) := ⟨rfl, rfl, rfl, by decide +kernel, rfl, by decide +kernel, by decide +kernel⟩
def g__law_row_1 : GS := (sIf (eB (e2 gtA (eVar 2) (eC (.int 0)))) (sSeq (sApp 3 (aCons (e2 modG (eA (one intG) (aCons (eVar 2) aNil)) (eC (.int 1000))) aNil))
  (sAsg 2 false (e2 divG (eVar 2) (eC (.int 1000))))) (sApp 3 (aCons (eA f__law_mixed (aCons (eVar 0) (aCons (eVar 4) aNil))) aNil)))
def g__law_row_2 : GS := (sSeq (sIf (bAnd (eB (e2 gtA (eA (one lenG) (aCons (eVar 0) aNil)) (eC (.int 0)))) (eB (e2 geA (e2 ixG (eVar 0) (eC (.int 0))) (e2 powG (eC (.int 10)) (eC (.int 18)))))) (sAsg 2 false (e2 ixG (eVar 0) (eC (.int 0)))) sSkip)
  (sSeq (sAsg 3 true (eA lstG aNil))
  (sSeq (sFor [4] (.nm 4) (aS rng1G (aCons (eVar 1) aNil))
   g__law_row_1)
  (sRetM 3))))
def g__law_row : GS := (sSeq (sAsg 2 false (eC (.int 0)))
  g__law_row_2)
def f__law_row : List RV → Option RV := fnG 2 5 g__law_row
theorem o__law_row (T : Tp K mg "_law_row" s__law_row) (B : ∀ x ∈ bl, mg x = none) (c__law_mixed : Cl P w K mg base 1 "_law_mixed" f__law_mixed)   : Cl P w K mg base 2 "_law_row" f__law_row :=
  have S := S__law_row
  cl_of T S rfl rfl (by decide) (fun _ _ _ _ _ _ us hl => match us, hl with | [_, _], _ => rfl) fun f cdv A outer s H E hr =>
  (vss_cons (vs_asg 2 false S.nd ve_int)
  (vss_cons (vs_if (vb_w (vw_and (vb_cmp (opF_gtA hr.units) (ve_callB callF_len (by rfl) (B "len" (by decide)) bt_len (va_cons (ve_var 0) va_nil)) ve_int) (vw_one (vb_cmp (opF_geA hr.units) (ve_ix (ve_var 0) ve_int) (ve_op opF_pow ve_int ve_int))))) (vss_one (vs_asg 2 false S.nd (ve_ix (ve_var 0) ve_int))) vss_nil)
  (vss_cons (vs_asg 3 true S.nd (ve_lst va_nil))
  (vss_cons (vs_for [4] PassesOwn.never rfl (vi_range1 (by rfl) (B "range" (by decide)) (va_cons (ve_var 1) va_nil)) (vg_name 4 S.nd)
   (vss_one (vs_if (vb_cmp (opF_gtA hr.units) (ve_var 2) ve_int) (vss_cons (vs_app 3 (va_cons (ve_op opF_mod (ve_callTy callF_int (by rfl) (B "int" (by decide)) bt_int (va_cons (ve_var 2) va_nil)) ve_int) va_nil))
  (vss_one (vs_asg 2 false S.nd (ve_op opF_div (ve_var 2) ve_int)))) (vss_one (vs_app 3 (va_cons (ve_call c__law_mixed hr (by decide) (by rfl) (va_cons (ve_var 0) (va_cons (ve_var 4) va_nil))) va_nil))))))
  (vss_one (vs_retM 3))))))

/-! ### _law_is_int -/
abbrev s__law_is_int : Stmt := topS 14
theorem S__law_is_int : FnScope ["value"] ["value"] (defScope s__law_is_int) := ⟨rfl, rfl, rfl, by decide +kernel, rfl, by decide +kernel, by decide +kernel⟩
def g__law_is_int : GS := (sRet (eAnd (eIsi "int" (eVar 0)) (eNot (eIsi "bool" (eVar 0)))))
def f__law_is_int : List RV → Option RV := fnG 1 1 g__law_is_int
theorem o__law_is_int (T : Tp K mg "_law_is_int" s__law_is_int) (B : ∀ x ∈ bl, mg x = none)    : Cl P w K mg base 1 "_law_is_int" f__law_is_int :=
  have S := S__law_is_int
  cl_of T S rfl rfl (by decide) (fun _ _ _ _ _ _ us hl => match us, hl with | [_], _ => rfl) fun f cdv A outer s H E hr =>
  (vss_one (vs_ret (ve_and (ve_isi "int" (ve_var 0) (by rfl) (B "isinstance" (by decide)) (by rfl) (B "int" (by decide)) bt_int) (ve_one (ve_not (ve_isi "bool" (ve_var 0) (by rfl) (B "isinstance" (by decide)) (by rfl) (B "bool" (by decide)) bt_bool))))))

/-! ### _law_like -/
abbrev s__law_like : Stmt := topS 15
theorem S__law_like : FnScope ["value", "due", "k"] ["value", "due"] (defScope s__law_like) := ⟨rfl, rfl, rfl, by decide +kernel, rfl, by decide +kernel, by decide +kernel⟩
def g__law_like_1 (self : List RV → Option RV) : GS := (sRet (eA (one (boolsG allL)) (aCons (eLc [2] (.nm 2) (aS rng1G (aCons (eA (one lenG) (aCons (eVar 1) aNil)) aNil)) bYes (eA self (aCons (e2 ixG (eVar 0) (eVar 2)) (aCons (e2 ixG (eVar 1) (eVar 2)) aNil)))) aNil)))
def g__law_like_2 (self : List RV → Option RV) : GS := (sSeq (sIf (eT (eIsi "tuple" (eVar 1))) (sSeq (sIf (bOr (bNot (eT (eIsi "tuple" (eVar 0)))) (eB (e2 neG (eA (one lenG) (aCons (eVar 0) aNil)) (eA (one lenG) (aCons (eVar 1) aNil))))) (sRet (eC (.bool false))) sSkip)
  (g__law_like_1 self)) sSkip)
  (sSeq (sIf (eT (eIsi "str" (eVar 1))) (sRet (eAnd (eIsi "str" (eVar 0)) (e2 eqG (eVar 0) (eVar 1)))) sSkip)
  (sRet (eAnd (eA f__law_is_int (aCons (eVar 0) aNil)) (e2 eqG (eVar 0) (eVar 1))))))
def g__law_like (self : List RV → Option RV) : GS := (sSeq (sIf (eB (e2 (isG false) (eVar 1) (eC .none))) (sRet (e2 (isG false) (eVar 0) (eC .none))) sSkip)
  (sSeq (sIf (eT (eIsi "bool" (eVar 1))) (sRet (eAnd (eIsi "bool" (eVar 0)) (e2 eqG (eVar 0) (eVar 1)))) sSkip)
  (g__law_like_2 self)))
def r__law_like : Nat → List RV → Option RV
  | 0 => fun _ => none
  | m + 1 => fnG 2 3 (g__law_like (r__law_like m))
def f__law_like : List RV → Option RV := r__law_like 6
theorem o__law_like (T : Tp K mg "_law_like" s__law_like) (B : ∀ x ∈ bl, mg x = none) (c__law_is_int : Cl P w K mg base 1 "_law_is_int" f__law_is_int)   : Cl P w K mg base 7 "_law_like" f__law_like := by
  have S := S__law_like
  have step : ∀ m : Nat, Cl P w K mg base (1 + m) "_law_like" (r__law_like m) := fun m => by
    induction m with
    | zero => exact cl_none (ps := ["value", "due"]) T (fun _ _ _ _ _ _ us hl => match us, hl with | [_, _], _ => rfl)
    | succ m c__law_like =>
      exact cl_of T S rfl rfl (by decide) (fun _ _ _ _ _ _ us hl => match us, hl with | [_, _], _ => rfl) fun f cdv A outer s H E hr =>
  (vss_cons (vs_if (vb_cmp opF_is (ve_var 1) ve_none) (vss_one (vs_ret (ve_cmp opF_is (ve_var 0) ve_none))) vss_nil)
  (vss_cons (vs_if (vb_tru (ve_isi "bool" (ve_var 1) (by rfl) (B "isinstance" (by decide)) (by rfl) (B "bool" (by decide)) bt_bool)) (vss_one (vs_ret (ve_and (ve_isi "bool" (ve_var 0) (by rfl) (B "isinstance" (by decide)) (by rfl) (B "bool" (by decide)) bt_bool) (ve_one (ve_cmp (opF_eq hr.units) (ve_var 0) (ve_var 1)))))) vss_nil)
  (vss_cons (vs_if (vb_tru (ve_isi "tuple" (ve_var 1) (by rfl) (B "isinstance" (by decide)) (by rfl) (B "tuple" (by decide)) bt_tuple)) (vss_cons (vs_if (vb_w (vw_or (vb_not (vb_tru (ve_isi "tuple" (ve_var 0) (by rfl) (B "isinstance" (by decide)) (by rfl) (B "tuple" (by decide)) bt_tuple))) (vw_one (vb_cmp (opF_ne hr.units) (ve_callB callF_len (by rfl) (B "len" (by decide)) bt_len (va_cons (ve_var 0) va_nil)) (ve_callB callF_len (by rfl) (B "len" (by decide)) bt_len (va_cons (ve_var 1) va_nil)))))) (vss_one (vs_ret ve_bool)) vss_nil)
  (vss_one (vs_ret (ve_callB (callF_all rfl) (by rfl) (B "all" (by decide)) bt_all (va_cons (ve_lc rfl S.nd (vi_range1 (by rfl) (B "range" (by decide)) (va_cons (ve_callB callF_len (by rfl) (B "len" (by decide)) bt_len (va_cons (ve_var 1) va_nil)) va_nil)) (blkOk_by (own := [("k", 2)]) (by kernel_rfl)) (by decide) (fun _ _ _ _ _ => (vg_name 2 S.nd)) (fun _ _ _ _ _ => vts_nil) (fun _ _ _ _ _ => (ve_call c__law_like hr (Nat.le_refl _) (by rfl) (va_cons (ve_ix (ve_var 0) (ve_var 2)) (va_cons (ve_ix (ve_var 1) (ve_var 2)) va_nil))))) va_nil))))) vss_nil)
  (vss_cons (vs_if (vb_tru (ve_isi "str" (ve_var 1) (by rfl) (B "isinstance" (by decide)) (by rfl) (B "str" (by decide)) bt_str)) (vss_one (vs_ret (ve_and (ve_isi "str" (ve_var 0) (by rfl) (B "isinstance" (by decide)) (by rfl) (B "str" (by decide)) bt_str) (ve_one (ve_cmp (opF_eq hr.units) (ve_var 0) (ve_var 1)))))) vss_nil)
  (vss_one (vs_ret (ve_and (ve_call c__law_is_int hr (Nat.le_trans (show 1 ≤ 1 by decide) (Nat.le_add_right 1 m)) (by rfl) (va_cons (ve_var 0) va_nil)) (ve_one (ve_cmp (opF_eq hr.units) (ve_var 0) (ve_var 1))))))))))
  exact step 6

/-! ### _law_sets -/
abbrev s__law_sets : Stmt := topS 16
theorem S__law_sets : FnScope ["n", "found", "thing", "one"] ["n"] (defScope s__law_sets) := ⟨rfl, rfl, rfl, by decide +kernel, rfl, by decide +kernel, by decide +kernel⟩
def g__law_sets_1 : GS := (sSeq (sFor [2] (.nm 2) (aS rng1G (aCons (eVar 0) aNil))
   (sAsg 1 false (e2 addG (eVar 1) (eLc [3] (.nm 3) (seqS (eVar 1)) bYes (e2 addG (eVar 3) (eA tupG (aCons (eVar 2) aNil)))))))
  (sRet (eA (one sortG) (aCons (eVar 1) aNil))))
def g__law_sets : GS := (sSeq (sAsg 1 false (eA lstG (aCons (eA tupG aNil) aNil)))
  g__law_sets_1)
def f__law_sets : List RV → Option RV := fnG 1 4 g__law_sets
theorem o__law_sets (T : Tp K mg "_law_sets" s__law_sets) (B : ∀ x ∈ bl, mg x = none)    : Cl P w K mg base 1 "_law_sets" f__law_sets :=
  have S := S__law_sets
  cl_of T S rfl rfl (by decide) (fun _ _ _ _ _ _ us hl => match us, hl with | [_], _ => rfl) fun f cdv A outer s H E hr =>
  (vss_cons (vs_asg 1 false S.nd (ve_lst (va_cons (ve_tup va_nil) va_nil)))
  (vss_cons (vs_for [2] PassesOwn.never rfl (vi_range1 (by rfl) (B "range" (by decide)) (va_cons (ve_var 0) va_nil)) (vg_name 2 S.nd)
   (vss_one (vs_asg 1 false S.nd (ve_op opF_add (ve_var 1) (ve_lc rfl S.nd (vi_seq (ve_var 1)) (blkOk_by (own := [("one", 3)]) (by kernel_rfl)) (by decide) (fun _ _ _ _ _ => (vg_name 3 S.nd)) (fun _ _ _ _ _ => vts_nil) (fun _ _ _ _ _ => (ve_op opF_add (ve_var 3) (ve_tup (va_cons (ve_var 2) va_nil)))))))))
  (vss_one (vs_ret (ve_callB (callF_sorted hr.units) (by rfl) (B "sorted" (by decide)) bt_sorted (va_cons (ve_var 1) va_nil))))))

/-! ### _law_cost -/
abbrev s__law_cost : Stmt := topS 17
theorem S__law_cost : FnScope ["ages", "costs", "new", "trench", "plan", "some", "now", "total", "k"] ["ages", "costs", "new", "trench", "plan"] (defScope s__law_cost) := ⟨rfl, rfl, rfl, by decide +kernel, rfl, by decide +kernel, by decide +kernel⟩
def g__law_cost_1 : GS := (sSeq (sAsg 7 false (e2 addG (eVar 7) (e2 ixG (eVar 1) (eA minB (aCons (e2 ixG (eVar 6) (eVar 8)) (aCons (e2 subG (eA (one lenG) (aCons (eVar 1) aNil)) (eC (.int 1))) aNil))))))
  (sSet 6 (eVar 8) (e2 addG (e2 ixG (eVar 6) (eVar 8)) (eC (.int 1)))))
def g__law_cost_2 : GS := (sSeq (sAsg 7 false (e2 addG (e2 addG (eVar 7) (e2 mulA (eVar 3) (eA (one intG) (aCons (e2 gtA (eA (one lenG) (aCons (eVar 5) aNil)) (eC (.int 0))) aNil)))) (e2 mulA (eVar 2) (eA (one lenG) (aCons (eVar 5) aNil)))))
  (sFor [8] (.nm 8) (aS rng1G (aCons (eA (one lenG) (aCons (eVar 6) aNil)) aNil))
   (sSeq (sIf (eB (e2 (inG false) (eVar 8) (eVar 5))) (sSet 6 (eVar 8) (eC (.int 0))) sSkip)
  g__law_cost_1)))
def g__law_cost : GS := (sSeq (sPar [(6, true), (7, false)] (aCons (eA (one listG) (aCons (eVar 0) aNil)) (aCons (eC (.int 0)) aNil)))
  (sSeq (sFor [5, 8] (.nm 5) (seqS (eVar 4))
   g__law_cost_2)
  (sRet (eVar 7))))
def f__law_cost : List RV → Option RV := fnG 5 9 g__law_cost
theorem o__law_cost (T : Tp K mg "_law_cost" s__law_cost) (B : ∀ x ∈ bl, mg x = none)    : Cl P w K mg base 1 "_law_cost" f__law_cost :=
  have S := S__law_cost
  cl_of T S rfl rfl (by decide) (fun _ _ _ _ _ _ us hl => match us, hl with | [_, _, _, _, _], _ => rfl) fun f cdv A outer s H E hr =>
  (vss_cons (vs_par2 rfl S.nd (va_cons (ve_callTy callF_list (by rfl) (B "list" (by decide)) bt_list (va_cons (ve_var 0) va_nil)) (va_cons ve_int va_nil)))
  (vss_cons (vs_for [5, 8] PassesOwn.never rfl (vi_seq (ve_var 4)) (vg_name 5 S.nd)
   (vss_cons (vs_asg 7 false S.nd (ve_op opF_add (ve_op opF_add (ve_var 7) (ve_op opF_mulA (ve_var 3) (ve_callTy callF_int (by rfl) (B "int" (by decide)) bt_int (va_cons (ve_cmp (opF_gtA hr.units) (ve_callB callF_len (by rfl) (B "len" (by decide)) bt_len (va_cons (ve_var 5) va_nil)) ve_int) va_nil)))) (ve_op opF_mulA (ve_var 2) (ve_callB callF_len (by rfl) (B "len" (by decide)) bt_len (va_cons (ve_var 5) va_nil)))))
  (vss_one (vs_for [8] PassesOwn.never rfl (vi_range1 (by rfl) (B "range" (by decide)) (va_cons (ve_callB callF_len (by rfl) (B "len" (by decide)) bt_len (va_cons (ve_var 6) va_nil)) va_nil)) (vg_name 8 S.nd)
   (vss_cons (vs_if (vb_cmp (opF_in hr.units) (ve_var 8) (ve_var 5)) (vss_one (vs_setI 6 ve_int (ve_var 8))) vss_nil)
  (vss_cons (vs_asg 7 false S.nd (ve_op opF_add (ve_var 7) (ve_ix (ve_var 1) (ve_callB (callF_minB rfl hr.units) (by rfl) (B "min" (by decide)) bt_min (va_cons (ve_ix (ve_var 6) (ve_var 8)) (va_cons (ve_op opF_sub (ve_callB callF_len (by rfl) (B "len" (by decide)) bt_len (va_cons (ve_var 1) va_nil)) ve_int) va_nil))))))
  (vss_one (vs_setI 6 (ve_op opF_add (ve_ix (ve_var 6) (ve_var 8)) ve_int) (ve_var 8)))))))))
  (vss_one (vs_ret (ve_var 7)))))

/-! ### _law_plans -/
abbrev s__law_plans : Stmt := topS 18
theorem S__law_plans : FnScope ["count", "years", "year", "plans", "sets", "grown", "plan", "some"] ["count", "years"] (defScope s__law_plans) := ⟨rfl, rfl, rfl, by decide +kernel, rfl, by decide +kernel, by decide +kernel⟩
def g__law_plans_1 : GS := (sSeq (sAsg 5 true (eA lstG aNil))
  (sSeq (sFor [6] (.nm 6) (seqS (eVar 3))
   (sExt 5 (aCons (eLc [7] (.nm 7) (seqS (eVar 4)) bYes (e2 addG (eVar 6) (eA tupG (aCons (eVar 7) aNil)))) aNil)))
  (sPre 5 (sAsg 3 false (eVar 5)))))
def g__law_plans : GS := (sSeq (sPar [(3, false), (4, false)] (aCons (eA lstG (aCons (eA tupG aNil) aNil)) (aCons (eA f__law_sets (aCons (eVar 0) aNil)) aNil)))
  (sSeq (sFor [2, 5, 6] (.nm 2) (aS rng1G (aCons (eVar 1) aNil))
   g__law_plans_1)
  (sRet (eVar 3))))
def f__law_plans : List RV → Option RV := fnG 2 8 g__law_plans
theorem o__law_plans (T : Tp K mg "_law_plans" s__law_plans) (B : ∀ x ∈ bl, mg x = none) (c__law_sets : Cl P w K mg base 1 "_law_sets" f__law_sets)   : Cl P w K mg base 2 "_law_plans" f__law_plans :=
  have S := S__law_plans
  cl_of T S rfl rfl (by decide) (fun _ _ _ _ _ _ us hl => match us, hl with | [_, _], _ => rfl) fun f cdv A outer s H E hr =>
  (vss_cons (vs_par2 rfl S.nd (va_cons (ve_lst (va_cons (ve_tup va_nil) va_nil)) (va_cons (ve_call c__law_sets hr (by decide) (by rfl) (va_cons (ve_var 0) va_nil)) va_nil)))
  (vss_cons (vs_for [2, 5, 6] PassesOwn.never rfl (vi_range1 (by rfl) (B "range" (by decide)) (va_cons (ve_var 1) va_nil)) (vg_name 2 S.nd)
   (vss_cons (vs_asg 5 true S.nd (ve_lst va_nil))
  (vss_cons (vs_for [6] PassesOwn.never rfl (vi_seq (ve_var 3)) (vg_name 6 S.nd)
   (vss_one (vs_ext 5 (va_cons (ve_lc rfl S.nd (vi_seq (ve_var 4)) (blkOk_by (own := [("some", 7)]) (by kernel_rfl)) (by decide) (fun _ _ _ _ _ => (vg_name 7 S.nd)) (fun _ _ _ _ _ => vts_nil) (fun _ _ _ _ _ => (ve_op opF_add (ve_var 6) (ve_tup (va_cons (ve_var 7) va_nil))))) va_nil))))
  (vss_one (vs_pre 5 (vs_asg 3 false S.nd (ve_var 5)))))))
  (vss_one (vs_ret (ve_var 3)))))

/-! ### _law_least -/
abbrev s__law_least : Stmt := topS 19
theorem S__law_least : FnScope ["ages", "costs", "new", "trench", "years", "plan"] ["ages", "costs", "new", "trench", "years"] (defScope s__law_least) := ⟨rfl, rfl, rfl, by decide +kernel, rfl, by decide +kernel, by decide +kernel⟩
def g__law_least : GS := (sRet (eA minB (aCons (eLc [5] (.nm 5) (seqS (eA f__law_plans (aCons (eA (one lenG) (aCons (eVar 0) aNil)) (aCons (eVar 4) aNil)))) bYes (eA tupG (aCons (eA f__law_cost (aCons (eVar 0) (aCons (eVar 1) (aCons (eVar 2) (aCons (eVar 3) (aCons (eVar 5) aNil)))))) (aCons (eVar 5) aNil)))) aNil)))
def f__law_least : List RV → Option RV := fnG 5 6 g__law_least
theorem o__law_least (T : Tp K mg "_law_least" s__law_least) (B : ∀ x ∈ bl, mg x = none) (c__law_cost : Cl P w K mg base 1 "_law_cost" f__law_cost) (c__law_plans : Cl P w K mg base 2 "_law_plans" f__law_plans)   : Cl P w K mg base 3 "_law_least" f__law_least :=
  have S := S__law_least
  cl_of T S rfl rfl (by decide) (fun _ _ _ _ _ _ us hl => match us, hl with | [_, _, _, _, _], _ => rfl) fun f cdv A outer s H E hr =>
  (vss_one (vs_ret (ve_callB (callF_minB rfl hr.units) (by rfl) (B "min" (by decide)) bt_min (va_cons (ve_lc rfl S.nd (vi_seq (ve_call c__law_plans hr (by decide) (by rfl) (va_cons (ve_callB callF_len (by rfl) (B "len" (by decide)) bt_len (va_cons (ve_var 0) va_nil)) (va_cons (ve_var 4) va_nil)))) (blkOk_by (own := [("plan", 5)]) (by kernel_rfl)) (by decide) (fun _ _ _ _ _ => (vg_name 5 S.nd)) (fun _ _ _ _ _ => vts_nil) (fun _ _ _ _ _ => (ve_tup (va_cons (ve_call c__law_cost hr (by decide) (by rfl) (va_cons (ve_var 0) (va_cons (ve_var 1) (va_cons (ve_var 2) (va_cons (ve_var 3) (va_cons (ve_var 5) va_nil)))))) (va_cons (ve_var 5) va_nil))))) va_nil))))

/-! ### _law_alone -/
abbrev s__law_alone : Stmt := topS 20
theorem S__law_alone : FnScope ["ages", "costs", "new", "trench", "years", "age"] ["ages", "costs", "new", "trench", "years"] (defScope s__law_alone) := ⟨rfl, rfl, rfl, by decide +kernel, rfl, by decide +kernel, by decide +kernel⟩
def g__law_alone : GS := (sRet (eA (one sumG) (aCons (eLc [5] (.nm 5) (seqS (eVar 0)) bYes (e2 ixG (eA f__law_least (aCons (eA tupG (aCons (eVar 5) aNil)) (aCons (eVar 1) (aCons (eVar 2) (aCons (eVar 3) (aCons (eVar 4) aNil)))))) (eC (.int 0)))) aNil)))
def f__law_alone : List RV → Option RV := fnG 5 6 g__law_alone
theorem o__law_alone (T : Tp K mg "_law_alone" s__law_alone) (B : ∀ x ∈ bl, mg x = none) (c__law_least : Cl P w K mg base 3 "_law_least" f__law_least)   : Cl P w K mg base 4 "_law_alone" f__law_alone :=
  have S := S__law_alone
  cl_of T S rfl rfl (by decide) (fun _ _ _ _ _ _ us hl => match us, hl with | [_, _, _, _, _], _ => rfl) fun f cdv A outer s H E hr =>
  (vss_one (vs_ret (ve_callB (callF_sum rfl) (by rfl) (B "sum" (by decide)) bt_sum (va_cons (ve_lc rfl S.nd (vi_seq (ve_var 0)) (blkOk_by (own := [("age", 5)]) (by kernel_rfl)) (by decide) (fun _ _ _ _ _ => (vg_name 5 S.nd)) (fun _ _ _ _ _ => vts_nil) (fun _ _ _ _ _ => (ve_ix (ve_call c__law_least hr (by decide) (by rfl) (va_cons (ve_tup (va_cons (ve_var 5) va_nil)) (va_cons (ve_var 1) (va_cons (ve_var 2) (va_cons (ve_var 3) (va_cons (ve_var 4) va_nil)))))) ve_int))) va_nil))))

/-! ### _law_at -/
abbrev s__law_at : Stmt := topS 21
theorem S__law_at : FnScope ["ages", "costs", "new", "trench", "years", "least", "year", "now", "plan", "some", "k"] ["ages", "costs", "new", "trench", "years", "least"] (defScope s__law_at) := ⟨rfl, rfl, rfl, by decide +kernel, rfl, by decide +kernel, by decide +kernel⟩
def g__law_at_1 : GS := (sAsg 7 false (eLc [10] (.nm 10) (aS rng1G (aCons (eA (one lenG) (aCons (eVar 7) aNil)) aNil)) bYes (e2 addG (e2 mulA (e2 ixG (eVar 7) (eVar 10)) (eA (one intG) (aCons (e2 (inG true) (eVar 10) (eVar 9)) aNil))) (eC (.int 1)))))
def g__law_at_2 : GS := (sSeq (sAsg 9 false (eA (one tupleG) (aCons (eLc [10] (.nm 10) (aS rng1G (aCons (eA (one lenG) (aCons (eVar 7) aNil)) aNil)) (eB (e2 geA (e2 ixG (eVar 7) (eVar 10)) (eVar 5))) (eVar 10)) aNil)))
  (sSeq (sApp 8 (aCons (eVar 9) aNil))
  g__law_at_1))
def g__law_at_3 : GS := (sSeq (sFor [6, 9] (.nm 6) (aS rng1G (aCons (eVar 4) aNil))
   g__law_at_2)
  (sPre 8 (sRet (eA f__law_cost (aCons (eVar 0) (aCons (eVar 1) (aCons (eVar 2) (aCons (eVar 3) (aCons (eVar 8) aNil)))))))))
def g__law_at : GS := (sSeq (sPar [(7, false), (8, true)] (aCons (eA (one listG) (aCons (eVar 0) aNil)) (aCons (eA lstG aNil) aNil)))
  g__law_at_3)
def f__law_at : List RV → Option RV := fnG 6 11 g__law_at
theorem o__law_at (T : Tp K mg "_law_at" s__law_at) (B : ∀ x ∈ bl, mg x = none) (c__law_cost : Cl P w K mg base 1 "_law_cost" f__law_cost)   : Cl P w K mg base 2 "_law_at" f__law_at :=
  have S := S__law_at
  cl_of T S rfl rfl (by decide) (fun _ _ _ _ _ _ us hl => match us, hl with | [_, _, _, _, _, _], _ => rfl) fun f cdv A outer s H E hr =>
  (vss_cons (vs_parN rfl (va_cons (ve_callTy callF_list (by rfl) (B "list" (by decide)) bt_list (va_cons (ve_var 0) va_nil)) (va_cons (ve_lst va_nil) va_nil)) (pgn_cons (pgn_name 7 S.nd) (pgn_cons (pgn_name 8 S.nd) pgn_nil)))
  (vss_cons (vs_for [6, 9] PassesOwn.never rfl (vi_range1 (by rfl) (B "range" (by decide)) (va_cons (ve_var 4) va_nil)) (vg_name 6 S.nd)
   (vss_cons (vs_asg 9 false S.nd (ve_callTy callF_tuple (by rfl) (B "tuple" (by decide)) bt_tuple (va_cons (ve_lc rfl S.nd (vi_range1 (by rfl) (B "range" (by decide)) (va_cons (ve_callB callF_len (by rfl) (B "len" (by decide)) bt_len (va_cons (ve_var 7) va_nil)) va_nil)) (blkOk_by (own := [("k", 10)]) (by kernel_rfl)) (by decide) (fun _ _ _ _ _ => (vg_name 10 S.nd)) (fun _ _ _ _ _ => (vts_one (vb_cmp (opF_geA hr.units) (ve_ix (ve_var 7) (ve_var 10)) (ve_var 5)))) (fun _ _ _ _ _ => (ve_var 10))) va_nil)))
  (vss_cons (vs_app 8 (va_cons (ve_var 9) va_nil))
  (vss_one (vs_asg 7 false S.nd (ve_lc rfl S.nd (vi_range1 (by rfl) (B "range" (by decide)) (va_cons (ve_callB callF_len (by rfl) (B "len" (by decide)) bt_len (va_cons (ve_var 7) va_nil)) va_nil)) (blkOk_by (own := [("k", 10)]) (by kernel_rfl)) (by decide) (fun _ _ _ _ _ => (vg_name 10 S.nd)) (fun _ _ _ _ _ => vts_nil) (fun _ _ _ _ _ => (ve_op opF_add (ve_op opF_mulA (ve_ix (ve_var 7) (ve_var 10)) (ve_callTy callF_int (by rfl) (B "int" (by decide)) bt_int (va_cons (ve_cmp (opF_notIn hr.units) (ve_var 10) (ve_var 9)) va_nil))) ve_int))))))))
  (vss_one (vs_pre 8 (vs_ret (ve_call c__law_cost hr (by decide) (by rfl) (va_cons (ve_var 0) (va_cons (ve_var 1) (va_cons (ve_var 2) (va_cons (ve_var 3) (va_cons (ve_var 8) va_nil)))))))))))

/-! ### _law_large -/
abbrev s__law_large : Stmt := topS 22
theorem S__law_large : FnScope ["ages", "costs", "new", "years", "plan", "due", "told", "some", "k"] ["ages", "costs", "new", "years"] (defScope s__law_large) := ⟨rfl, rfl, rfl, by decide +kernel, rfl, by decide +kernel, by decide +kernel⟩
def g__law_large_1 : GS := (sSeq (sIf (eB (e2 neG (eA f__law_cost (aCons (eVar 0) (aCons (eVar 1) (aCons (eVar 2) (aCons (eC (.int 0)) (aCons (eVar 4) aNil)))))) (eVar 5))) (sRet (eC (.bool false))) sSkip)
  (sRet (eA f__law_like (aCons (eA f_renew_alone (aCons (eVar 0) (aCons (eVar 1) (aCons (eVar 2) (aCons (eC (.int 0)) (aCons (eVar 3) aNil)))))) (aCons (eVar 5) aNil)))))
def g__law_large_2 : GS := (sSeq (sIf (bNot (eT (eA (one (boolsG allL)) (aCons (eLc [7] (.nm 7) (seqS (eVar 4)) bYes (eA f__law_like (aCons (eVar 7) (aCons (eA (one tupleG) (aCons (eLc [8] (.nm 8) (aS rng1G (aCons (eC (.int 3)) aNil)) (eB (e2 (inG false) (eVar 8) (eVar 7))) (eVar 8)) aNil)) aNil)))) aNil)))) (sRet (eC (.bool false))) sSkip)
  g__law_large_1)
def g__law_large_3 : GS := (sSeq (sAsg 4 false (e2 ixG (eVar 6) (eC (.int 1))))
  (sSeq (sIf (bOr (bNot (eT (eIsi "tuple" (eVar 4)))) (eB (e2 neG (eA (one lenG) (aCons (eVar 4) aNil)) (eVar 3)))) (sRet (eC (.bool false))) sSkip)
  g__law_large_2))
def g__law_large_4 : GS := (sSeq (sIf (bOr (bNot (eT (eIsi "tuple" (eVar 6)))) (bOr (eB (e2 neG (eA (one lenG) (aCons (eVar 6) aNil)) (eC (.int 2)))) (bNot (eT (eA f__law_like (aCons (e2 ixG (eVar 6) (eC (.int 0))) (aCons (eVar 5) aNil))))))) (sRet (eC (.bool false))) sSkip)
  g__law_large_3)
def g__law_large : GS := (sSeq (sPar [(5, false), (6, false)] (aCons (eA f__law_alone (aCons (eVar 0) (aCons (eVar 1) (aCons (eVar 2) (aCons (eC (.int 0)) (aCons (eVar 3) aNil)))))) (aCons (eA f_renew_least (aCons (eVar 0) (aCons (eVar 1) (aCons (eVar 2) (aCons (eC (.int 0)) (aCons (eVar 3) aNil)))))) aNil)))
  g__law_large_4)
def f__law_large : List RV → Option RV := fnG 4 9 g__law_large
theorem o__law_large (T : Tp K mg "_law_large" s__law_large) (B : ∀ x ∈ bl, mg x = none) (c_renew_least : Cl P w K mg base 2 "renew_least" f_renew_least) (c__law_alone : Cl P w K mg base 4 "_law_alone" f__law_alone) (c__law_like : Cl P w K mg base 7 "_law_like" f__law_like) (c__law_cost : Cl P w K mg base 1 "_law_cost" f__law_cost) (c_renew_alone : Cl P w K mg base 3 "renew_alone" f_renew_alone)   : Cl P w K mg base 8 "_law_large" f__law_large :=
  have S := S__law_large
  cl_of T S rfl rfl (by decide) (fun _ _ _ _ _ _ us hl => match us, hl with | [_, _, _, _], _ => rfl) fun f cdv A outer s H E hr =>
  (vss_cons (vs_par2 rfl S.nd (va_cons (ve_call c__law_alone hr (by decide) (by rfl) (va_cons (ve_var 0) (va_cons (ve_var 1) (va_cons (ve_var 2) (va_cons ve_int (va_cons (ve_var 3) va_nil)))))) (va_cons (ve_call c_renew_least hr (by decide) (by rfl) (va_cons (ve_var 0) (va_cons (ve_var 1) (va_cons (ve_var 2) (va_cons ve_int (va_cons (ve_var 3) va_nil)))))) va_nil)))
  (vss_cons (vs_if (vb_w (vw_or (vb_not (vb_tru (ve_isi "tuple" (ve_var 6) (by rfl) (B "isinstance" (by decide)) (by rfl) (B "tuple" (by decide)) bt_tuple))) (vw_or (vb_cmp (opF_ne hr.units) (ve_callB callF_len (by rfl) (B "len" (by decide)) bt_len (va_cons (ve_var 6) va_nil)) ve_int) (vw_one (vb_not (vb_tru (ve_call c__law_like hr (by decide) (by rfl) (va_cons (ve_ix (ve_var 6) ve_int) (va_cons (ve_var 5) va_nil))))))))) (vss_one (vs_ret ve_bool)) vss_nil)
  (vss_cons (vs_asg 4 false S.nd (ve_ix (ve_var 6) ve_int))
  (vss_cons (vs_if (vb_w (vw_or (vb_not (vb_tru (ve_isi "tuple" (ve_var 4) (by rfl) (B "isinstance" (by decide)) (by rfl) (B "tuple" (by decide)) bt_tuple))) (vw_one (vb_cmp (opF_ne hr.units) (ve_callB callF_len (by rfl) (B "len" (by decide)) bt_len (va_cons (ve_var 4) va_nil)) (ve_var 3))))) (vss_one (vs_ret ve_bool)) vss_nil)
  (vss_cons (vs_if (vb_not (vb_tru (ve_callB (callF_all rfl) (by rfl) (B "all" (by decide)) bt_all (va_cons (ve_lc rfl S.nd (vi_seq (ve_var 4)) (blkOk_by (own := [("some", 7)]) (by kernel_rfl)) (by decide) (fun _ _ _ _ _ => (vg_name 7 S.nd)) (fun _ _ _ _ _ => vts_nil) (fun _ _ _ _ _ => (ve_call c__law_like hr (by decide) (by rfl) (va_cons (ve_var 7) (va_cons (ve_callTy callF_tuple (by rfl) (B "tuple" (by decide)) bt_tuple (va_cons (ve_lc rfl S.nd (vi_range1 (by rfl) (B "range" (by decide)) (va_cons ve_int va_nil)) (blkOk_by (own := [("k", 8)]) (by kernel_rfl)) (by decide) (fun _ _ _ _ _ => (vg_name 8 S.nd)) (fun _ _ _ _ _ => (vts_one (vb_cmp (opF_in hr.units) (ve_var 8) (ve_var 7)))) (fun _ _ _ _ _ => (ve_var 8))) va_nil)) va_nil))))) va_nil)))) (vss_one (vs_ret ve_bool)) vss_nil)
  (vss_cons (vs_if (vb_cmp (opF_ne hr.units) (ve_call c__law_cost hr (by decide) (by rfl) (va_cons (ve_var 0) (va_cons (ve_var 1) (va_cons (ve_var 2) (va_cons ve_int (va_cons (ve_var 4) va_nil)))))) (ve_var 5)) (vss_one (vs_ret ve_bool)) vss_nil)
  (vss_one (vs_ret (ve_call c__law_like hr (by decide) (by rfl) (va_cons (ve_call c_renew_alone hr (by decide) (by rfl) (va_cons (ve_var 0) (va_cons (ve_var 1) (va_cons (ve_var 2) (va_cons ve_int (va_cons (ve_var 3) va_nil)))))) (va_cons (ve_var 5) va_nil)))))))))))

/-! ### _law_late -/
abbrev s__law_late : Stmt := topS 23
theorem S__law_late : FnScope ["row", "new", "trench", "years", "age", "turn", "plan", "look", "looks", "day", "costs", "many", "some"] ["row", "new", "trench", "years"] (defScope s__law_late) := ⟨rfl, rfl, rfl, by decide +kernel, rfl, by decide +kernel, by decide +kernel⟩
def g__law_late_1 : GS := (sIf (bOr (eB (e2 eqG (eA (one lenG) (aCons (eVar 8) aNil)) (eC (.int 0)))) (eB (e2 ltA (e2 ixG (eVar 8) (e2 subG (eA (one lenG) (aCons (eVar 8) aNil)) (eC (.int 1)))) (e2 subG (eVar 3) (eC (.int 1)))))) (sSeq (sApp 8 (aCons (eA minB (aCons (eVar 9) (aCons (e2 subG (eVar 3) (eC (.int 1))) aNil))) aNil))
  (sAsg 9 false (e2 addG (eVar 9) (eVar 4)))) sSkip)
def g__law_late_2 : GS := (sRet (eA f__law_like (aCons (eA f_renew_least (aCons (eA tupG (aCons (eC (.int 0)) aNil)) (aCons (eVar 10) (aCons (e2 addG (eC (.int 1)) (eVar 1)) (aCons (eVar 2) (aCons (eVar 3) aNil)))))) (aCons (eA tupG (aCons (e2 mulA (e2 addG (e2 addG (eC (.int 1)) (eVar 1)) (eVar 2)) (eVar 11)) (aCons (eA (one tupleG) (aCons (eVar 6) aNil)) aNil))) aNil))))
def g__law_late_3 : GS := (sSeq (sPar [(10, false), (11, false)] (aCons (e2 addG (e2 mulA (eA tupG (aCons (eC (.int 0)) aNil)) (eVar 4)) (eA tupG (aCons (eC (.int 100)) aNil))) (aCons (eA (one lenG) (aCons (eLc [12] (.nm 12) (seqS (eVar 6)) (eB (e2 gtA (eA (one lenG) (aCons (eVar 12) aNil)) (eC (.int 0)))) (eC (.int 1))) aNil)) aNil)))
  g__law_late_2)
def g__law_late_4 : GS := (sSeq (sPre 8 (sFor [7] (.nm 7) (seqS (eVar 8))
   (sIf (eB (e2 ltA (eVar 7) (e2 subG (eVar 3) (eC (.int 1))))) (sSet 6 (e2 addG (eVar 7) (eC (.int 1))) (eA tupG (aCons (eC (.int 0)) aNil))) sSkip)))
  g__law_late_3)
def g__law_late_5 : GS := (sSeq (sIf (bNot (eT (eA f__law_like (aCons (eA f_least_looks (aCons (eVar 3) (aCons (e2 subG (eVar 4) (eC (.int 1))) aNil))) (aCons (eA (one tupleG) (aCons (eVar 8) aNil)) aNil))))) (sRet (eC (.bool false))) sSkip)
  (sSeq (sAsg 6 true (e2 mulA (eA lstG (aCons (eA tupG aNil) aNil)) (eVar 3)))
  g__law_late_4))
def g__law_late_6 : GS := (sSeq (sPar [(8, true), (9, false)] (aCons (eA lstG aNil) (aCons (e2 subG (eVar 4) (eC (.int 1))) aNil)))
  (sSeq (sFor [5] (.nm 5) (aS rng1G (aCons (eVar 3) aNil))
   g__law_late_1)
  g__law_late_5))
def g__law_late : GS := (sSeq (sAsg 4 false (e2 addG (eC (.int 1)) (e2 modG (eA (one intG) (aCons (e2 ixG (eVar 0) (eC (.int 20))) aNil)) (eC (.int 4)))))
  g__law_late_6)
def f__law_late : List RV → Option RV := fnG 4 13 g__law_late
theorem o__law_late (T : Tp K mg "_law_late" s__law_late) (B : ∀ x ∈ bl, mg x = none) (c__law_like : Cl P w K mg base 7 "_law_like" f__law_like) (c_least_looks : Cl P w K mg base 1 "least_looks" f_least_looks) (c_renew_least : Cl P w K mg base 2 "renew_least" f_renew_least)   : Cl P w K mg base 8 "_law_late" f__law_late :=
  have S := S__law_late
  cl_of T S rfl rfl (by decide) (fun _ _ _ _ _ _ us hl => match us, hl with | [_, _, _, _], _ => rfl) fun f cdv A outer s H E hr =>
  (vss_cons (vs_asg 4 false S.nd (ve_op opF_add ve_int (ve_op opF_mod (ve_callTy callF_int (by rfl) (B "int" (by decide)) bt_int (va_cons (ve_ix (ve_var 0) ve_int) va_nil)) ve_int)))
  (vss_cons (vs_par2 rfl S.nd (va_cons (ve_lst va_nil) (va_cons (ve_op opF_sub (ve_var 4) ve_int) va_nil)))
  (vss_cons (vs_for [5] PassesOwn.never rfl (vi_range1 (by rfl) (B "range" (by decide)) (va_cons (ve_var 3) va_nil)) (vg_name 5 S.nd)
   (vss_one (vs_if (vb_w (vw_or (vb_cmp (opF_eq hr.units) (ve_callB callF_len (by rfl) (B "len" (by decide)) bt_len (va_cons (ve_var 8) va_nil)) ve_int) (vw_one (vb_cmp (opF_ltA hr.units) (ve_ix (ve_var 8) (ve_op opF_sub (ve_callB callF_len (by rfl) (B "len" (by decide)) bt_len (va_cons (ve_var 8) va_nil)) ve_int)) (ve_op opF_sub (ve_var 3) ve_int))))) (vss_cons (vs_app 8 (va_cons (ve_callB (callF_minB rfl hr.units) (by rfl) (B "min" (by decide)) bt_min (va_cons (ve_var 9) (va_cons (ve_op opF_sub (ve_var 3) ve_int) va_nil))) va_nil))
  (vss_one (vs_asg 9 false S.nd (ve_op opF_add (ve_var 9) (ve_var 4))))) vss_nil)))
  (vss_cons (vs_if (vb_not (vb_tru (ve_call c__law_like hr (by decide) (by rfl) (va_cons (ve_call c_least_looks hr (by decide) (by rfl) (va_cons (ve_var 3) (va_cons (ve_op opF_sub (ve_var 4) ve_int) va_nil))) (va_cons (ve_callTy callF_tuple (by rfl) (B "tuple" (by decide)) bt_tuple (va_cons (ve_var 8) va_nil)) va_nil))))) (vss_one (vs_ret ve_bool)) vss_nil)
  (vss_cons (vs_asg 6 true S.nd (ve_op opF_mulA (ve_lst (va_cons (ve_tup va_nil) va_nil)) (ve_var 3)))
  (vss_cons (vs_pre 8 (vs_for [7] PassesOwn.never rfl (vi_seq (ve_var 8)) (vg_name 7 S.nd)
   (vss_one (vs_if (vb_cmp (opF_ltA hr.units) (ve_var 7) (ve_op opF_sub (ve_var 3) ve_int)) (vss_one (vs_setI 6 (ve_tup (va_cons ve_int va_nil)) (ve_op opF_add (ve_var 7) ve_int))) vss_nil))))
  (vss_cons (vs_par2 rfl S.nd (va_cons (ve_op opF_add (ve_op opF_mulA (ve_tup (va_cons ve_int va_nil)) (ve_var 4)) (ve_tup (va_cons ve_int va_nil))) (va_cons (ve_callB callF_len (by rfl) (B "len" (by decide)) bt_len (va_cons (ve_lc rfl S.nd (vi_seq (ve_var 6)) (blkOk_by (own := [("some", 12)]) (by kernel_rfl)) (by decide) (fun _ _ _ _ _ => (vg_name 12 S.nd)) (fun _ _ _ _ _ => (vts_one (vb_cmp (opF_gtA hr.units) (ve_callB callF_len (by rfl) (B "len" (by decide)) bt_len (va_cons (ve_var 12) va_nil)) ve_int))) (fun _ _ _ _ _ => ve_int)) va_nil)) va_nil)))
  (vss_one (vs_ret (ve_call c__law_like hr (by decide) (by rfl) (va_cons (ve_call c_renew_least hr (by decide) (by rfl) (va_cons (ve_tup (va_cons ve_int va_nil)) (va_cons (ve_var 10) (va_cons (ve_op opF_add ve_int (ve_var 1)) (va_cons (ve_var 2) (va_cons (ve_var 3) va_nil)))))) (va_cons (ve_tup (va_cons (ve_op opF_mulA (ve_op opF_add (ve_op opF_add ve_int (ve_var 1)) (ve_var 2)) (ve_var 11)) (va_cons (ve_callTy callF_tuple (by rfl) (B "tuple" (by decide)) bt_tuple (va_cons (ve_var 6) va_nil)) va_nil))) va_nil))))))))))))

/-! ### law -/
abbrev s_law : Stmt := topS 24
theorem S_law : FnScope ["script", "row", "count", "ages", "costs", "alone", "single", "sums", "k", "years", "large", "new", "trench", "least"] ["script"] (defScope s_law) := ⟨rfl, rfl, rfl, by decide +kernel, rfl, by decide +kernel, by decide +kernel⟩
def g_law_1 : GS := (sIf (bNot (eT (eA f__law_like (aCons (eA f_renew_at (aCons (eVar 3) (aCons (eVar 4) (aCons (eVar 11) (aCons (eVar 12) (aCons (eVar 9) (aCons (e2 addG (eC (.int 1)) (eVar 8)) aNil))))))) (aCons (e2 ixG (eVar 7) (eVar 8)) aNil))))) (sRet (eC (.bool false))) sSkip)
def g_law_2 : GS := (sSeq (sIf (bNot (eT (eA f__law_like (aCons (eA f_best_age (aCons (eVar 3) (aCons (eVar 4) (aCons (eVar 11) (aCons (eVar 12) (aCons (eVar 9) aNil)))))) (aCons (e2 addG (eC (.int 1)) (e2 ixA (eVar 7) (eA minB (aCons (eVar 7) aNil)))) aNil))))) (sRet (eC (.bool false))) sSkip)
  (sRet (eA f__law_late (aCons (eVar 1) (aCons (eVar 11) (aCons (eVar 12) (aCons (e2 addG (eC (.int 1)) (e2 modG (eA (one intG) (aCons (e2 ixG (eVar 1) (eC (.int 21))) aNil)) (eC (.int 5)))) aNil)))))))
def g_law_3 : GS := (sSeq (sFor [8] (.nm 8) (seqS (eA tupG (aCons (eC (.int 0)) (aCons (e2 modG (eA (one intG) (aCons (e2 ixG (eVar 1) (eC (.int 14))) aNil)) (eA (one lenG) (aCons (eVar 7) aNil))) (aCons (e2 subG (eA (one lenG) (aCons (eVar 7) aNil)) (eC (.int 1))) aNil)))))
   g_law_1)
  g_law_2)
def g_law_4 : GS := (sSeq (sAsg 7 false (eLc [13] (.nm 13) (aS rng2G (aCons (eC (.int 1)) (aCons (e2 addG (e2 addG (eA maxA (aCons (eVar 3) aNil)) (eVar 9)) (eC (.int 2))) aNil))) bYes (eA f__law_at (aCons (eVar 3) (aCons (eVar 4) (aCons (eVar 11) (aCons (eVar 12) (aCons (eVar 9) (aCons (eVar 13) aNil)))))))))
  g_law_3)
def g_law_5 : GS := (sSeq (sIf (bNot (eT (eA f__law_like (aCons (eA f_renew_alone (aCons (eVar 3) (aCons (eVar 4) (aCons (eVar 11) (aCons (eC (.int 0)) (aCons (eVar 9) aNil)))))) (aCons (eVar 6) aNil))))) (sRet (eC (.bool false))) sSkip)
  g_law_4)
def g_law_6 : GS := (sSeq (sIf (bNot (eT (eA f__law_like (aCons (e2 ixG (eA f_renew_least (aCons (eVar 3) (aCons (eVar 4) (aCons (eVar 11) (aCons (eC (.int 0)) (aCons (eVar 9) aNil)))))) (eC (.int 0))) (aCons (eVar 6) aNil))))) (sRet (eC (.bool false))) sSkip)
  g_law_5)
def g_law_7 : GS := (sSeq (sIf (bNot (eT (eA f__law_like (aCons (eA f_renew_alone (aCons (eVar 3) (aCons (eVar 4) (aCons (eVar 11) (aCons (eVar 12) (aCons (eVar 9) aNil)))))) (aCons (eVar 5) aNil))))) (sRet (eC (.bool false))) sSkip)
  (sSeq (sAsg 6 false (eA f__law_alone (aCons (eVar 3) (aCons (eVar 4) (aCons (eVar 11) (aCons (eC (.int 0)) (aCons (eVar 9) aNil)))))))
  g_law_6))
def g_law_8 : GS := (sSeq (sIf (bNot (eT (eA f__law_like (aCons (eA f_renew_least (aCons (eVar 3) (aCons (eVar 4) (aCons (eVar 11) (aCons (eVar 12) (aCons (eVar 9) aNil)))))) (aCons (eA f__law_least (aCons (eVar 3) (aCons (eVar 4) (aCons (eVar 11) (aCons (eVar 12) (aCons (eVar 9) aNil)))))) aNil))))) (sRet (eC (.bool false))) sSkip)
  (sSeq (sAsg 5 false (eA f__law_alone (aCons (eVar 3) (aCons (eVar 4) (aCons (eVar 11) (aCons (eVar 12) (aCons (eVar 9) aNil)))))))
  g_law_7))
def g_law_9 : GS := (sSeq (sPar [(4, false), (11, false), (12, false)] (aCons (eA (one tupleG) (aCons (eVar 4) aNil)) (aCons (e2 modG (eA (one intG) (aCons (e2 ixG (eVar 1) (eC (.int 12))) aNil)) (eC (.int 13))) (aCons (e2 modG (eA (one intG) (aCons (e2 ixG (eVar 1) (eC (.int 13))) aNil)) (eC (.int 7))) aNil))))
  (sSeq (sIf (eT (eVar 10)) (sRet (eA f__law_large (aCons (eVar 3) (aCons (eVar 4) (aCons (eVar 11) (aCons (eVar 9) aNil)))))) sSkip)
  g_law_8))
def g_law_10 : GS := (sSeq (sAsg 4 false (eLc [8] (.nm 8) (aS rng1G (aCons (e2 addG (eC (.int 1)) (e2 modG (eA (one intG) (aCons (e2 ixG (eVar 1) (eC (.int 10))) aNil)) (eC (.int 4)))) aNil)) bYes (e2 modG (eA (one intG) (aCons (e2 ixG (eVar 1) (e2 addG (eC (.int 6)) (eVar 8))) aNil)) (eC (.int 10)))))
  (sSeq (sIf (eB (e2 gtA (e2 modG (eA (one intG) (aCons (e2 ixG (eVar 1) (eC (.int 11))) aNil)) (eC (.int 3))) (eC (.int 0)))) (sAsg 4 false (eA (one sortG) (aCons (eVar 4) aNil))) sSkip)
  g_law_9))
def g_law_11 : GS := (sSeq (sAsg 3 false (eA (one tupleG) (aCons (eLc [8] (.nm 8) (aS rng1G (aCons (eVar 2) aNil)) bYes (e2 modG (eA (one intG) (aCons (e2 ixG (eVar 1) (e2 addG (eC (.int 3)) (eVar 8))) aNil)) (eC (.int 6)))) aNil)))
  g_law_10)
def g_law_12 : GS := (sSeq (sIf (eT (eVar 10)) (sPar [(2, false), (9, false)] (aCons (eC (.int 3)) (aCons (e2 addG (eC (.int 4)) (e2 modG (eA (one intG) (aCons (e2 ixG (eVar 1) (eC (.int 1))) aNil)) (eC (.int 2)))) aNil))) sSkip)
  g_law_11)
def g_law_13 : GS := (sSeq (sPar [(9, false), (10, false)] (aCons (e2 addG (eC (.int 1)) (e2 modG (eA (one intG) (aCons (e2 ixG (eVar 1) (eC (.int 1))) aNil)) (e2 ixG (eA tupG (aCons (eC (.int 5)) (aCons (eC (.int 4)) (aCons (eC (.int 2)) aNil)))) (e2 subG (eVar 2) (eC (.int 1)))))) (aCons (e2 eqG (e2 modG (eA (one intG) (aCons (e2 ixG (eVar 1) (eC (.int 2))) aNil)) (eC (.int 16))) (eC (.int 5))) aNil)))
  g_law_12)
def g_law : GS := (sSeq (sAsg 1 false (eA f__law_row (aCons (eVar 0) (aCons (eC (.int 30)) aNil))))
  (sSeq (sAsg 2 false (e2 addG (eC (.int 1)) (e2 modG (eA (one intG) (aCons (e2 ixG (eVar 1) (eC (.int 0))) aNil)) (eC (.int 3)))))
  g_law_13))
def f_law : List RV → Option RV := fnG 1 14 g_law
theorem o_law (T : Tp K mg "law" s_law) (B : ∀ x ∈ bl, mg x = none) (c__law_row : Cl P w K mg base 2 "_law_row" f__law_row) (c__law_large : Cl P w K mg base 8 "_law_large" f__law_large) (c__law_like : Cl P w K mg base 7 "_law_like" f__law_like) (c__law_least : Cl P w K mg base 3 "_law_least" f__law_least) (c_renew_least : Cl P w K mg base 2 "renew_least" f_renew_least) (c__law_alone : Cl P w K mg base 4 "_law_alone" f__law_alone) (c_renew_alone : Cl P w K mg base 3 "renew_alone" f_renew_alone) (c__law_at : Cl P w K mg base 2 "_law_at" f__law_at) (c_renew_at : Cl P w K mg base 3 "renew_at" f_renew_at) (c_best_age : Cl P w K mg base 4 "best_age" f_best_age) (c__law_late : Cl P w K mg base 8 "_law_late" f__law_late)   : Cl P w K mg base 9 "law" f_law :=
  have S := S_law
  cl_of T S rfl rfl (by decide) (fun _ _ _ _ _ _ us hl => match us, hl with | [_], _ => rfl) fun f cdv A outer s H E hr =>
  (vss_cons (vs_asg 1 false S.nd (ve_call c__law_row hr (by decide) (by rfl) (va_cons (ve_var 0) (va_cons ve_int va_nil))))
  (vss_cons (vs_asg 2 false S.nd (ve_op opF_add ve_int (ve_op opF_mod (ve_callTy callF_int (by rfl) (B "int" (by decide)) bt_int (va_cons (ve_ix (ve_var 1) ve_int) va_nil)) ve_int)))
  (vss_cons (vs_parN rfl (va_cons (ve_op opF_add ve_int (ve_op opF_mod (ve_callTy callF_int (by rfl) (B "int" (by decide)) bt_int (va_cons (ve_ix (ve_var 1) ve_int) va_nil)) (ve_ix (ve_tup (va_cons ve_int (va_cons ve_int (va_cons ve_int va_nil)))) (ve_op opF_sub (ve_var 2) ve_int)))) (va_cons (ve_cmp (opF_eq hr.units) (ve_op opF_mod (ve_callTy callF_int (by rfl) (B "int" (by decide)) bt_int (va_cons (ve_ix (ve_var 1) ve_int) va_nil)) ve_int) ve_int) va_nil)) (pgn_cons (pgn_name 9 S.nd) (pgn_cons (pgn_name 10 S.nd) pgn_nil)))
  (vss_cons (vs_if (vb_tru (ve_var 10)) (vss_one (vs_parN rfl (va_cons ve_int (va_cons (ve_op opF_add ve_int (ve_op opF_mod (ve_callTy callF_int (by rfl) (B "int" (by decide)) bt_int (va_cons (ve_ix (ve_var 1) ve_int) va_nil)) ve_int)) va_nil)) (pgn_cons (pgn_name 2 S.nd) (pgn_cons (pgn_name 9 S.nd) pgn_nil)))) vss_nil)
  (vss_cons (vs_asg 3 false S.nd (ve_callTy callF_tuple (by rfl) (B "tuple" (by decide)) bt_tuple (va_cons (ve_lc rfl S.nd (vi_range1 (by rfl) (B "range" (by decide)) (va_cons (ve_var 2) va_nil)) (blkOk_by (own := [("k", 8)]) (by kernel_rfl)) (by decide) (fun _ _ _ _ _ => (vg_name 8 S.nd)) (fun _ _ _ _ _ => vts_nil) (fun _ _ _ _ _ => (ve_op opF_mod (ve_callTy callF_int (by rfl) (B "int" (by decide)) bt_int (va_cons (ve_ix (ve_var 1) (ve_op opF_add ve_int (ve_var 8))) va_nil)) ve_int))) va_nil)))
  (vss_cons (vs_asg 4 false S.nd (ve_lc rfl S.nd (vi_range1 (by rfl) (B "range" (by decide)) (va_cons (ve_op opF_add ve_int (ve_op opF_mod (ve_callTy callF_int (by rfl) (B "int" (by decide)) bt_int (va_cons (ve_ix (ve_var 1) ve_int) va_nil)) ve_int)) va_nil)) (blkOk_by (own := [("k", 8)]) (by kernel_rfl)) (by decide) (fun _ _ _ _ _ => (vg_name 8 S.nd)) (fun _ _ _ _ _ => vts_nil) (fun _ _ _ _ _ => (ve_op opF_mod (ve_callTy callF_int (by rfl) (B "int" (by decide)) bt_int (va_cons (ve_ix (ve_var 1) (ve_op opF_add ve_int (ve_var 8))) va_nil)) ve_int))))
  (vss_cons (vs_if (vb_cmp (opF_gtA hr.units) (ve_op opF_mod (ve_callTy callF_int (by rfl) (B "int" (by decide)) bt_int (va_cons (ve_ix (ve_var 1) ve_int) va_nil)) ve_int) ve_int) (vss_one (vs_asg 4 false S.nd (ve_callB (callF_sorted hr.units) (by rfl) (B "sorted" (by decide)) bt_sorted (va_cons (ve_var 4) va_nil)))) vss_nil)
  (vss_cons (vs_parN rfl (va_cons (ve_callTy callF_tuple (by rfl) (B "tuple" (by decide)) bt_tuple (va_cons (ve_var 4) va_nil)) (va_cons (ve_op opF_mod (ve_callTy callF_int (by rfl) (B "int" (by decide)) bt_int (va_cons (ve_ix (ve_var 1) ve_int) va_nil)) ve_int) (va_cons (ve_op opF_mod (ve_callTy callF_int (by rfl) (B "int" (by decide)) bt_int (va_cons (ve_ix (ve_var 1) ve_int) va_nil)) ve_int) va_nil))) (pgn_cons (pgn_name 4 S.nd) (pgn_cons (pgn_name 11 S.nd) (pgn_cons (pgn_name 12 S.nd) pgn_nil))))
  (vss_cons (vs_if (vb_tru (ve_var 10)) (vss_one (vs_ret (ve_call c__law_large hr (by decide) (by rfl) (va_cons (ve_var 3) (va_cons (ve_var 4) (va_cons (ve_var 11) (va_cons (ve_var 9) va_nil))))))) vss_nil)
  (vss_cons (vs_if (vb_not (vb_tru (ve_call c__law_like hr (by decide) (by rfl) (va_cons (ve_call c_renew_least hr (by decide) (by rfl) (va_cons (ve_var 3) (va_cons (ve_var 4) (va_cons (ve_var 11) (va_cons (ve_var 12) (va_cons (ve_var 9) va_nil)))))) (va_cons (ve_call c__law_least hr (by decide) (by rfl) (va_cons (ve_var 3) (va_cons (ve_var 4) (va_cons (ve_var 11) (va_cons (ve_var 12) (va_cons (ve_var 9) va_nil)))))) va_nil))))) (vss_one (vs_ret ve_bool)) vss_nil)
  (vss_cons (vs_asg 5 false S.nd (ve_call c__law_alone hr (by decide) (by rfl) (va_cons (ve_var 3) (va_cons (ve_var 4) (va_cons (ve_var 11) (va_cons (ve_var 12) (va_cons (ve_var 9) va_nil)))))))
  (vss_cons (vs_if (vb_not (vb_tru (ve_call c__law_like hr (by decide) (by rfl) (va_cons (ve_call c_renew_alone hr (by decide) (by rfl) (va_cons (ve_var 3) (va_cons (ve_var 4) (va_cons (ve_var 11) (va_cons (ve_var 12) (va_cons (ve_var 9) va_nil)))))) (va_cons (ve_var 5) va_nil))))) (vss_one (vs_ret ve_bool)) vss_nil)
  (vss_cons (vs_asg 6 false S.nd (ve_call c__law_alone hr (by decide) (by rfl) (va_cons (ve_var 3) (va_cons (ve_var 4) (va_cons (ve_var 11) (va_cons ve_int (va_cons (ve_var 9) va_nil)))))))
  (vss_cons (vs_if (vb_not (vb_tru (ve_call c__law_like hr (by decide) (by rfl) (va_cons (ve_ix (ve_call c_renew_least hr (by decide) (by rfl) (va_cons (ve_var 3) (va_cons (ve_var 4) (va_cons (ve_var 11) (va_cons ve_int (va_cons (ve_var 9) va_nil)))))) ve_int) (va_cons (ve_var 6) va_nil))))) (vss_one (vs_ret ve_bool)) vss_nil)
  (vss_cons (vs_if (vb_not (vb_tru (ve_call c__law_like hr (by decide) (by rfl) (va_cons (ve_call c_renew_alone hr (by decide) (by rfl) (va_cons (ve_var 3) (va_cons (ve_var 4) (va_cons (ve_var 11) (va_cons ve_int (va_cons (ve_var 9) va_nil)))))) (va_cons (ve_var 6) va_nil))))) (vss_one (vs_ret ve_bool)) vss_nil)
  (vss_cons (vs_asgLc 7 false rfl S.nd (vi_range2 (by rfl) (B "range" (by decide)) (va_cons ve_int (va_cons (ve_op opF_add (ve_op opF_add (ve_callB (callF_maxA rfl hr.units) (by rfl) (B "max" (by decide)) bt_max (va_cons (ve_var 3) va_nil)) (ve_var 9)) ve_int) va_nil))) (blkOk_by (own := [("least", 13)]) (by kernel_rfl)) (by decide) (fun _ _ _ _ _ => (vg_name 13 S.nd)) (fun _ _ _ _ _ => vts_nil) (fun _ _ _ _ _ => (ve_call c__law_at hr (by decide) (by rfl) (va_cons (ve_var 3) (va_cons (ve_var 4) (va_cons (ve_var 11) (va_cons (ve_var 12) (va_cons (ve_var 9) (va_cons (ve_var 13) va_nil)))))))))
  (vss_cons (vs_for [8] PassesOwn.never rfl (vi_seq (ve_tup (va_cons ve_int (va_cons (ve_op opF_mod (ve_callTy callF_int (by rfl) (B "int" (by decide)) bt_int (va_cons (ve_ix (ve_var 1) ve_int) va_nil)) (ve_callB callF_len (by rfl) (B "len" (by decide)) bt_len (va_cons (ve_var 7) va_nil))) (va_cons (ve_op opF_sub (ve_callB callF_len (by rfl) (B "len" (by decide)) bt_len (va_cons (ve_var 7) va_nil)) ve_int) va_nil))))) (vg_name 8 S.nd)
   (vss_one (vs_if (vb_not (vb_tru (ve_call c__law_like hr (by decide) (by rfl) (va_cons (ve_call c_renew_at hr (by decide) (by rfl) (va_cons (ve_var 3) (va_cons (ve_var 4) (va_cons (ve_var 11) (va_cons (ve_var 12) (va_cons (ve_var 9) (va_cons (ve_op opF_add ve_int (ve_var 8)) va_nil))))))) (va_cons (ve_ix (ve_var 7) (ve_var 8)) va_nil))))) (vss_one (vs_ret ve_bool)) vss_nil)))
  (vss_cons (vs_if (vb_not (vb_tru (ve_call c__law_like hr (by decide) (by rfl) (va_cons (ve_call c_best_age hr (by decide) (by rfl) (va_cons (ve_var 3) (va_cons (ve_var 4) (va_cons (ve_var 11) (va_cons (ve_var 12) (va_cons (ve_var 9) va_nil)))))) (va_cons (ve_op opF_add ve_int (ve_indexA (units65 hr) (ve_var 7) (ve_callB (callF_minB rfl hr.units) (by rfl) (B "min" (by decide)) bt_min (va_cons (ve_var 7) va_nil)))) va_nil))))) (vss_one (vs_ret ve_bool)) vss_nil)
  (vss_one (vs_ret (ve_call c__law_late hr (by decide) (by rfl) (va_cons (ve_var 1) (va_cons (ve_var 11) (va_cons (ve_var 12) (va_cons (ve_op opF_add ve_int (ve_op opF_mod (ve_callTy callF_int (by rfl) (B "int" (by decide)) bt_int (va_cons (ve_ix (ve_var 1) ve_int) va_nil)) ve_int)) va_nil)))))))))))))))))))))))))

/-! ### the law, all its defs joined -/
theorem l_law {f : Addr} {fd : FuncData} (F : Fun K "law" "law" s_law f fd) (B : ∀ x ∈ bl, mg x = none) (c__law_row : Cl P w K mg base 2 "_law_row" f__law_row) (c__law_large : Cl P w K mg base 8 "_law_large" f__law_large) (c__law_like : Cl P w K mg base 7 "_law_like" f__law_like) (c__law_least : Cl P w K mg base 3 "_law_least" f__law_least) (c_renew_least : Cl P w K mg base 2 "renew_least" f_renew_least) (c__law_alone : Cl P w K mg base 4 "_law_alone" f__law_alone) (c_renew_alone : Cl P w K mg base 3 "renew_alone" f_renew_alone) (c__law_at : Cl P w K mg base 2 "_law_at" f__law_at) (c_renew_at : Cl P w K mg base 3 "renew_at" f_renew_at) (c_best_age : Cl P w K mg base 4 "best_age" f_best_age) (c__law_late : Cl P w K mg base 8 "_law_late" f__law_late) : FnOk P w K mg base CX0 9 f fd ["script"] (spG K f_law) :=
  have S := S_law
  fn_ok F S rfl rfl (by decide) fun cdv A outer s H E hr =>
  (vss_cons (vs_asg 1 false S.nd (ve_call c__law_row hr (by decide) (by rfl) (va_cons (ve_var 0) (va_cons ve_int va_nil))))
  (vss_cons (vs_asg 2 false S.nd (ve_op opF_add ve_int (ve_op opF_mod (ve_callTy callF_int (by rfl) (B "int" (by decide)) bt_int (va_cons (ve_ix (ve_var 1) ve_int) va_nil)) ve_int)))
  (vss_cons (vs_parN rfl (va_cons (ve_op opF_add ve_int (ve_op opF_mod (ve_callTy callF_int (by rfl) (B "int" (by decide)) bt_int (va_cons (ve_ix (ve_var 1) ve_int) va_nil)) (ve_ix (ve_tup (va_cons ve_int (va_cons ve_int (va_cons ve_int va_nil)))) (ve_op opF_sub (ve_var 2) ve_int)))) (va_cons (ve_cmp (opF_eq hr.units) (ve_op opF_mod (ve_callTy callF_int (by rfl) (B "int" (by decide)) bt_int (va_cons (ve_ix (ve_var 1) ve_int) va_nil)) ve_int) ve_int) va_nil)) (pgn_cons (pgn_name 9 S.nd) (pgn_cons (pgn_name 10 S.nd) pgn_nil)))
  (vss_cons (vs_if (vb_tru (ve_var 10)) (vss_one (vs_parN rfl (va_cons ve_int (va_cons (ve_op opF_add ve_int (ve_op opF_mod (ve_callTy callF_int (by rfl) (B "int" (by decide)) bt_int (va_cons (ve_ix (ve_var 1) ve_int) va_nil)) ve_int)) va_nil)) (pgn_cons (pgn_name 2 S.nd) (pgn_cons (pgn_name 9 S.nd) pgn_nil)))) vss_nil)
  (vss_cons (vs_asg 3 false S.nd (ve_callTy callF_tuple (by rfl) (B "tuple" (by decide)) bt_tuple (va_cons (ve_lc rfl S.nd (vi_range1 (by rfl) (B "range" (by decide)) (va_cons (ve_var 2) va_nil)) (blkOk_by (own := [("k", 8)]) (by kernel_rfl)) (by decide) (fun _ _ _ _ _ => (vg_name 8 S.nd)) (fun _ _ _ _ _ => vts_nil) (fun _ _ _ _ _ => (ve_op opF_mod (ve_callTy callF_int (by rfl) (B "int" (by decide)) bt_int (va_cons (ve_ix (ve_var 1) (ve_op opF_add ve_int (ve_var 8))) va_nil)) ve_int))) va_nil)))
  (vss_cons (vs_asg 4 false S.nd (ve_lc rfl S.nd (vi_range1 (by rfl) (B "range" (by decide)) (va_cons (ve_op opF_add ve_int (ve_op opF_mod (ve_callTy callF_int (by rfl) (B "int" (by decide)) bt_int (va_cons (ve_ix (ve_var 1) ve_int) va_nil)) ve_int)) va_nil)) (blkOk_by (own := [("k", 8)]) (by kernel_rfl)) (by decide) (fun _ _ _ _ _ => (vg_name 8 S.nd)) (fun _ _ _ _ _ => vts_nil) (fun _ _ _ _ _ => (ve_op opF_mod (ve_callTy callF_int (by rfl) (B "int" (by decide)) bt_int (va_cons (ve_ix (ve_var 1) (ve_op opF_add ve_int (ve_var 8))) va_nil)) ve_int))))
  (vss_cons (vs_if (vb_cmp (opF_gtA hr.units) (ve_op opF_mod (ve_callTy callF_int (by rfl) (B "int" (by decide)) bt_int (va_cons (ve_ix (ve_var 1) ve_int) va_nil)) ve_int) ve_int) (vss_one (vs_asg 4 false S.nd (ve_callB (callF_sorted hr.units) (by rfl) (B "sorted" (by decide)) bt_sorted (va_cons (ve_var 4) va_nil)))) vss_nil)
  (vss_cons (vs_parN rfl (va_cons (ve_callTy callF_tuple (by rfl) (B "tuple" (by decide)) bt_tuple (va_cons (ve_var 4) va_nil)) (va_cons (ve_op opF_mod (ve_callTy callF_int (by rfl) (B "int" (by decide)) bt_int (va_cons (ve_ix (ve_var 1) ve_int) va_nil)) ve_int) (va_cons (ve_op opF_mod (ve_callTy callF_int (by rfl) (B "int" (by decide)) bt_int (va_cons (ve_ix (ve_var 1) ve_int) va_nil)) ve_int) va_nil))) (pgn_cons (pgn_name 4 S.nd) (pgn_cons (pgn_name 11 S.nd) (pgn_cons (pgn_name 12 S.nd) pgn_nil))))
  (vss_cons (vs_if (vb_tru (ve_var 10)) (vss_one (vs_ret (ve_call c__law_large hr (by decide) (by rfl) (va_cons (ve_var 3) (va_cons (ve_var 4) (va_cons (ve_var 11) (va_cons (ve_var 9) va_nil))))))) vss_nil)
  (vss_cons (vs_if (vb_not (vb_tru (ve_call c__law_like hr (by decide) (by rfl) (va_cons (ve_call c_renew_least hr (by decide) (by rfl) (va_cons (ve_var 3) (va_cons (ve_var 4) (va_cons (ve_var 11) (va_cons (ve_var 12) (va_cons (ve_var 9) va_nil)))))) (va_cons (ve_call c__law_least hr (by decide) (by rfl) (va_cons (ve_var 3) (va_cons (ve_var 4) (va_cons (ve_var 11) (va_cons (ve_var 12) (va_cons (ve_var 9) va_nil)))))) va_nil))))) (vss_one (vs_ret ve_bool)) vss_nil)
  (vss_cons (vs_asg 5 false S.nd (ve_call c__law_alone hr (by decide) (by rfl) (va_cons (ve_var 3) (va_cons (ve_var 4) (va_cons (ve_var 11) (va_cons (ve_var 12) (va_cons (ve_var 9) va_nil)))))))
  (vss_cons (vs_if (vb_not (vb_tru (ve_call c__law_like hr (by decide) (by rfl) (va_cons (ve_call c_renew_alone hr (by decide) (by rfl) (va_cons (ve_var 3) (va_cons (ve_var 4) (va_cons (ve_var 11) (va_cons (ve_var 12) (va_cons (ve_var 9) va_nil)))))) (va_cons (ve_var 5) va_nil))))) (vss_one (vs_ret ve_bool)) vss_nil)
  (vss_cons (vs_asg 6 false S.nd (ve_call c__law_alone hr (by decide) (by rfl) (va_cons (ve_var 3) (va_cons (ve_var 4) (va_cons (ve_var 11) (va_cons ve_int (va_cons (ve_var 9) va_nil)))))))
  (vss_cons (vs_if (vb_not (vb_tru (ve_call c__law_like hr (by decide) (by rfl) (va_cons (ve_ix (ve_call c_renew_least hr (by decide) (by rfl) (va_cons (ve_var 3) (va_cons (ve_var 4) (va_cons (ve_var 11) (va_cons ve_int (va_cons (ve_var 9) va_nil)))))) ve_int) (va_cons (ve_var 6) va_nil))))) (vss_one (vs_ret ve_bool)) vss_nil)
  (vss_cons (vs_if (vb_not (vb_tru (ve_call c__law_like hr (by decide) (by rfl) (va_cons (ve_call c_renew_alone hr (by decide) (by rfl) (va_cons (ve_var 3) (va_cons (ve_var 4) (va_cons (ve_var 11) (va_cons ve_int (va_cons (ve_var 9) va_nil)))))) (va_cons (ve_var 6) va_nil))))) (vss_one (vs_ret ve_bool)) vss_nil)
  (vss_cons (vs_asgLc 7 false rfl S.nd (vi_range2 (by rfl) (B "range" (by decide)) (va_cons ve_int (va_cons (ve_op opF_add (ve_op opF_add (ve_callB (callF_maxA rfl hr.units) (by rfl) (B "max" (by decide)) bt_max (va_cons (ve_var 3) va_nil)) (ve_var 9)) ve_int) va_nil))) (blkOk_by (own := [("least", 13)]) (by kernel_rfl)) (by decide) (fun _ _ _ _ _ => (vg_name 13 S.nd)) (fun _ _ _ _ _ => vts_nil) (fun _ _ _ _ _ => (ve_call c__law_at hr (by decide) (by rfl) (va_cons (ve_var 3) (va_cons (ve_var 4) (va_cons (ve_var 11) (va_cons (ve_var 12) (va_cons (ve_var 9) (va_cons (ve_var 13) va_nil)))))))))
  (vss_cons (vs_for [8] PassesOwn.never rfl (vi_seq (ve_tup (va_cons ve_int (va_cons (ve_op opF_mod (ve_callTy callF_int (by rfl) (B "int" (by decide)) bt_int (va_cons (ve_ix (ve_var 1) ve_int) va_nil)) (ve_callB callF_len (by rfl) (B "len" (by decide)) bt_len (va_cons (ve_var 7) va_nil))) (va_cons (ve_op opF_sub (ve_callB callF_len (by rfl) (B "len" (by decide)) bt_len (va_cons (ve_var 7) va_nil)) ve_int) va_nil))))) (vg_name 8 S.nd)
   (vss_one (vs_if (vb_not (vb_tru (ve_call c__law_like hr (by decide) (by rfl) (va_cons (ve_call c_renew_at hr (by decide) (by rfl) (va_cons (ve_var 3) (va_cons (ve_var 4) (va_cons (ve_var 11) (va_cons (ve_var 12) (va_cons (ve_var 9) (va_cons (ve_op opF_add ve_int (ve_var 8)) va_nil))))))) (va_cons (ve_ix (ve_var 7) (ve_var 8)) va_nil))))) (vss_one (vs_ret ve_bool)) vss_nil)))
  (vss_cons (vs_if (vb_not (vb_tru (ve_call c__law_like hr (by decide) (by rfl) (va_cons (ve_call c_best_age hr (by decide) (by rfl) (va_cons (ve_var 3) (va_cons (ve_var 4) (va_cons (ve_var 11) (va_cons (ve_var 12) (va_cons (ve_var 9) va_nil)))))) (va_cons (ve_op opF_add ve_int (ve_indexA (units65 hr) (ve_var 7) (ve_callB (callF_minB rfl hr.units) (by rfl) (B "min" (by decide)) bt_min (va_cons (ve_var 7) va_nil)))) va_nil))))) (vss_one (vs_ret ve_bool)) vss_nil)
  (vss_one (vs_ret (ve_call c__law_late hr (by decide) (by rfl) (va_cons (ve_var 1) (va_cons (ve_var 11) (va_cons (ve_var 12) (va_cons (ve_op opF_add ve_int (ve_op opF_mod (ve_callTy callF_int (by rfl) (B "int" (by decide)) bt_int (va_cons (ve_ix (ve_var 1) ve_int) va_nil)) ve_int)) va_nil)))))))))))))))))))))))))

theorem all_ok {f : Addr} {fd : FuncData} (F : Fun K "law" "law" s_law f fd) (B : ∀ x ∈ bl, mg x = none) (t__law_mixed : Tp K mg "_law_mixed" s__law_mixed) (t__law_row : Tp K mg "_law_row" s__law_row) (t_all_sets : Tp K mg "all_sets" s_all_sets) (t_cost_at : Tp K mg "cost_at" s_cost_at) (t_renew_least : Tp K mg "renew_least" s_renew_least) (t__law_cost : Tp K mg "_law_cost" s__law_cost) (t__law_sets : Tp K mg "_law_sets" s__law_sets) (t__law_plans : Tp K mg "_law_plans" s__law_plans) (t__law_least : Tp K mg "_law_least" s__law_least) (t__law_alone : Tp K mg "_law_alone" s__law_alone) (t__law_is_int : Tp K mg "_law_is_int" s__law_is_int) (t__law_like : Tp K mg "_law_like" s__law_like) (t_renew_alone : Tp K mg "renew_alone" s_renew_alone) (t__law_large : Tp K mg "_law_large" s__law_large) (t__law_at : Tp K mg "_law_at" s__law_at) (t_plan_sum : Tp K mg "plan_sum" s_plan_sum) (t_renew_at : Tp K mg "renew_at" s_renew_at) (t_best_age : Tp K mg "best_age" s_best_age) (t_least_looks : Tp K mg "least_looks" s_least_looks) (t__law_late : Tp K mg "_law_late" s__law_late) : FnOk P w K mg base CX0 9 f fd ["script"] (spG K f_law) := by
  have c__law_mixed := o__law_mixed (P := P) (w := w) (base := base) t__law_mixed B  
  have c__law_row := o__law_row (P := P) (w := w) (base := base) t__law_row B c__law_mixed 
  have c_all_sets := o_all_sets (P := P) (w := w) (base := base) t_all_sets B  
  have c_cost_at := o_cost_at (P := P) (w := w) (base := base) t_cost_at B  
  have c_renew_least := o_renew_least (P := P) (w := w) (base := base) t_renew_least B c_all_sets c_cost_at 
  have c__law_cost := o__law_cost (P := P) (w := w) (base := base) t__law_cost B  
  have c__law_sets := o__law_sets (P := P) (w := w) (base := base) t__law_sets B  
  have c__law_plans := o__law_plans (P := P) (w := w) (base := base) t__law_plans B c__law_sets 
  have c__law_least := o__law_least (P := P) (w := w) (base := base) t__law_least B c__law_cost c__law_plans 
  have c__law_alone := o__law_alone (P := P) (w := w) (base := base) t__law_alone B c__law_least 
  have c__law_is_int := o__law_is_int (P := P) (w := w) (base := base) t__law_is_int B  
  have c__law_like := o__law_like (P := P) (w := w) (base := base) t__law_like B c__law_is_int 
  have c_renew_alone := o_renew_alone (P := P) (w := w) (base := base) t_renew_alone B c_renew_least 
  have c__law_large := o__law_large (P := P) (w := w) (base := base) t__law_large B c_renew_least c__law_alone c__law_like c__law_cost c_renew_alone 
  have c__law_at := o__law_at (P := P) (w := w) (base := base) t__law_at B c__law_cost 
  have c_plan_sum := o_plan_sum (P := P) (w := w) (base := base) t_plan_sum B c_cost_at 
  have c_renew_at := o_renew_at (P := P) (w := w) (base := base) t_renew_at B c_plan_sum 
  have c_best_age := o_best_age (P := P) (w := w) (base := base) t_best_age B c_renew_at 
  have c_least_looks := o_least_looks (P := P) (w := w) (base := base) t_least_looks B  
  have c__law_late := o__law_late (P := P) (w := w) (base := base) t__law_late B c__law_like c_least_looks c_renew_least 
  exact l_law F B c__law_row c__law_large c__law_like c__law_least c_renew_least c__law_alone c_renew_alone c__law_at c_renew_at c_best_age c__law_late
end Lk45

set_option Elab.async false
set_option linter.all false
set_option maxRecDepth 100000
set_option maxHeartbeats 4000000
namespace Lk45
open PySem PySem.Spec L2 Pl
/-! ### _law_like, _law_is_int -/
theorem r_like : ∀ n, r__law_like n = q_r (fun s => q_like s (fnG 1 1 q_isint)) n
  | 0 => rfl
  | n + 1 => by
    show fnG 2 3 (g__law_like (r__law_like n)) = _
    rw [r_like n]; rfl
def t__law_like (a b : D) : Option Bool := q_likeT a b
theorem b__law_like (a b : D) {f f' : Fl} (hf : argF (a, f) = (a, .fz)) (hf' : argF (b, f') = (b, .fz)) : f__law_like [(a, f), (b, f')] = (t__law_like a b).map (zz cB) := by
  show _ = (q_likeT a b).map (zz cB)
  rw [← q_likeB (r_like 6) a b]
  show fnG 2 3 _ [(a, f), (b, f')] = fnG 2 3 _ [(a, .fz), (b, .fz)]
  unfold fnG
  simp only [List.map_cons, hf, hf', List.length_cons, List.map_nil, argF_z]
theorem b__law_is_int {i : Int} {f : Fl} : f__law_is_int [(cI i, f)] = some (cB true, .fz) := isint_int
/-! ### _law_mixed -/
def t__law_mixed (script_ : (List Int)) (k_ : Int) : Option Int :=
  (if (decide ((0 : Int) < (script_.length : Int))) = true then ((modT k_ (script_.length : Int)).bind fun (v_ : Int) => atI script_ v_).bind fun (cell_ : Int) =>
  some cell_
  else some (0 : Int)).bind fun (cell_1 : Int) =>
  bnd (Int.fmod (((cell_1 * (48271 : Int)) + (k_ * (69621 : Int))) + (8191 : Int)) (2147483647 : Int)) fun (first_ : Int) =>
  (((((mulT first_ first_).bind fun (v_1 : Int) => some (v_1 + (Int.fdiv first_ (7 : Int)))).bind fun (v_2 : Int) => some (v_2 + (k_ * (16807 : Int)))).bind fun (v_3 : Int) => some v_3).bind fun (v_4 : Int) => some (Int.fmod v_4 (2147483629 : Int))).bind fun (second_ : Int) =>
  (((((mulT second_ second_).bind fun (v_5 : Int) => some (v_5 + (Int.fdiv second_ (11 : Int)))).bind fun (v_6 : Int) => some (v_6 + (40692 : Int))).bind fun (v_7 : Int) => some v_7).bind fun (v_8 : Int) => some (Int.fmod v_8 (2147483563 : Int))).bind fun (third_ : Int) =>
  some (Int.fmod (Int.fdiv third_ (5 : Int)) (1000003 : Int))

theorem b__law_mixed (script_ : (List Int)) (k_ : Int) : f__law_mixed [((cL cI) script_, .sc), (cI k_, .fz)] = (t__law_mixed script_ k_).map (zz cI) :=
  fn_k (env := [some ((cL cI) script_, .sc), some (cI k_, .fz), none, none, none, none]) rfl rfl
  (st_asg (kb (eC_I (i := 0)) (asgl rfl (st_jn (Env := fun (cell_1 : Int) => [some ((cL cI) script_, .sc), some (cI k_, .fz), some (cI cell_1, .fz), none, none, none]) (st_j (st_last (st_if (X := ((modT k_ (script_.length : Int)).bind fun (v_ : Int) => atI script_ v_).bind fun (cell_ : Int) =>
  some cell_) (Y := some (0 : Int)) (tst (e2_k (kb (eA_k (aC_k (kb rfl (aN_k lenL_l)))) (kb (eC_I (i := 0)) gtA_l)))) (st_asg (ko (r := (zz cI)) (e2_k (kb rfl (ko (r := (zz cI)) (e2_k (kb rfl (kb (eA_k (aC_k (kb rfl (aN_k lenL_l)))) mod_t))) fun v_ => ixL_l))) fun cell_ => (asgl rfl (st_end rfl)))) (st_skip (st_end rfl))))) fun cell_1 => (st_asg (kbb (r := (zz cI)) (e2_k (kb (eA_k (aC_k (kb (e2_k (kb (e2_k (kb (e2_k (kb rfl (kb (eC_I (i := 48271)) (mulcA_l (.inr (by decide)))))) (kb (e2_k (kb rfl (kb (eC_I (i := 69621)) (mulcA_l (.inr (by decide)))))) add_l))) (kb (eC_I (i := 8191)) add_l))) (aN_k int_l)))) (kb (eC_I (i := 2147483647)) (modc_l (by decide))))) fun first_ => (asgl rfl (st_asg (ko (r := (zz cI)) (e2_k (ko (r := (zz cI)) (eA_k (aC_k (ko (r := (zz cI)) (e2_k (ko (r := (zz cI)) (e2_k (ko (r := (zz cI)) (e2_k (kb rfl (kb rfl mulA_t))) fun v_1 => (kb (e2_k (kb rfl (kb (eC_I (i := 7)) (divc_l (by decide))))) add_l))) fun v_2 => (kb (e2_k (kb rfl (kb (eC_I (i := 16807)) (mulcA_l (.inr (by decide)))))) add_l))) fun v_3 => (aN_k int_l)))) fun v_4 => (kb (eC_I (i := 2147483629)) (modc_l (by decide))))) fun second_ => (asgl rfl (st_asg (ko (r := (zz cI)) (e2_k (ko (r := (zz cI)) (eA_k (aC_k (ko (r := (zz cI)) (e2_k (ko (r := (zz cI)) (e2_k (ko (r := (zz cI)) (e2_k (kb rfl (kb rfl mulA_t))) fun v_5 => (kb (e2_k (kb rfl (kb (eC_I (i := 11)) (divc_l (by decide))))) add_l))) fun v_6 => (kb (eC_I (i := 40692)) add_l))) fun v_7 => (aN_k int_l)))) fun v_8 => (kb (eC_I (i := 2147483563)) (modc_l (by decide))))) fun third_ => (asgl rfl (nrm (e' := [some ((cL cI) script_, .sc), some (cI k_, .fz), some (cI cell_1, .fz), some (cI first_, .fz), some (cI second_, .fz), some (cI third_, .fz)]) rfl (st_last (st_ret (kb (e2_k (kb (e2_k (kb rfl (kb (eC_I (i := 5)) (divc_l (by decide))))) (kb (eC_I (i := 1000003)) (modc_l (by decide))))) (retl rfl rfl))))))))))))))))))

/-! ### _law_row -/
def t__law_row_1 (script_ : (List Int)) (s_ : (Int × (List Int))) (k_ : Int) : Option ((Int × (List Int))) :=
  if (decide ((0 : Int) < s_.1)) = true then (pshT s_.2 (Int.fmod s_.1 (1000 : Int))).bind fun (row_ : (List Int)) =>
  some (bnd (Int.fdiv s_.1 (1000 : Int)) fun (big_2 : Int) =>
  (big_2, row_))
  else (t__law_mixed script_ k_).bind fun (v_1 : Int) => (pshT s_.2 v_1).bind fun (row_1 : (List Int)) =>
  some (s_.1, row_1)

def t__law_row (script_ : (List Int)) (many_ : Int) : Option (List Int) :=
  ((andO (some (decide ((0 : Int) < (script_.length : Int)))) ((atI script_ (0 : Int)).bind fun (v_ : Int) => some (decide ((1000000000000000000 : Int) ≤ v_)))).bind fun b_ => if b_ = true then (atI script_ (0 : Int)).bind fun (big_ : Int) =>
  some big_
  else some (0 : Int)).bind fun (big_1 : Int) =>
  (rng1T many_).bind fun (xs_ : List Int) =>
  (foldO (t__law_row_1 script_) (big_1, ([] : List Int)) xs_).bind fun (s_1 : (Int × (List Int))) =>
  some s_1.2

theorem b__law_row (script_ : (List Int)) (many_ : Int) : f__law_row [((cL cI) script_, .sc), (cI many_, .fz)] = (t__law_row script_ many_).map (ww (cL cI)) :=
  fn_k (env := [some ((cL cI) script_, .sc), some (cI many_, .fz), none, none, none]) rfl rfl
  (st_asg (kb (eC_I (i := 0)) (asgl rfl (st_jn (Env := fun (big_1 : Int) => [some ((cL cI) script_, .sc), some (cI many_, .fz), some (cI big_1, .fz), none, none]) (st_j (st_last (st_ifO (X := (atI script_ (0 : Int)).bind fun (big_ : Int) =>
  some big_) (Y := some (0 : Int)) (band_o (ta := (some (decide ((0 : Int) < (script_.length : Int))))) (tb := ((atI script_ (0 : Int)).bind fun (v_ : Int) => some (decide ((1000000000000000000 : Int) ≤ v_)))) (tst (e2_k (kb (eA_k (aC_k (kb rfl (aN_k lenL_l)))) (kb (eC_I (i := 0)) gtA_l)))) (tst_o (e2_k (ko (r := (zz cI)) (e2_k (kb rfl (kb (eC_I (i := 0)) ixL_l))) fun v_ => (kb (e2_k (kb (eC_I (i := 10)) (kb (eC_I (i := 18)) (powc_l (by decide) (by decide))))) geA_l))))) (st_asg (ko (r := (zz cI)) (e2_k (kb rfl (kb (eC_I (i := 0)) ixL_l))) fun big_ => (asgl rfl (st_end rfl)))) (st_skip (st_end rfl))))) fun big_1 => (st_asg (kb (eA_k (aN_k (lst0 (E := cI)))) (asgl rfl (st_for (ko (r := (fun ys : List Int => (ys.map cI, false))) (aS_k (aC_k (kb rfl (aN_k rg1)))) fun xs_ => (lp_o (Env := fun (s_ : (Int × (List Int))) => [some ((cL cI) script_, .sc), some (cI many_, .fz), some (cI s_.1, .fz), some ((cL cI) s_.2, .ow), none]) (s0 := (big_1, ([] : List Int))) (step := t__law_row_1 script_) rfl (fun s_ k_ => (turn_k as_nm (st_last (st_if (X := (pshT s_.2 (Int.fmod s_.1 (1000 : Int))).bind fun (row_ : (List Int)) =>
  some (bnd (Int.fdiv s_.1 (1000 : Int)) fun (big_2 : Int) =>
  (big_2, row_))) (Y := (t__law_mixed script_ k_).bind fun (v_1 : Int) => (pshT s_.2 v_1).bind fun (row_1 : (List Int)) =>
  some (s_.1, row_1)) (tst (e2_k (kb rfl (kb (eC_I (i := 0)) gtA_l)))) (st_assoc (st_app (aC_k (kb (e2_k (kb (eA_k (aC_k (kb rfl (aN_k int_l)))) (kb (eC_I (i := 1000)) (modc_l (by decide))))) (aN_k (app_l (E := cI) (a := Int.fmod s_.1 (1000 : Int)) (f := .fz) rfl rfl fun row_ => (st_asg (kbbp (r := (zz cI)) (e2_k (kb rfl (kb (eC_I (i := 1000)) (divc_l (by decide))))) fun big_2 => (asgl rfl (st_end rfl)))))))))) (st_app (aC_k (ko (r := (zz cI)) (eA_k (aC_k (kb rfl (aC_k (kb rfl (aN_k (b__law_mixed script_ k_))))))) fun v_1 => (aN_k (app_l (E := cI) (a := v_1) (f := .fz) rfl rfl fun row_1 => (st_end rfl)))))))))) (fun s_1 => (st_last (st_retM rfl rfl)))))))))))))

/-! ### _law_sets -/
def t__law_sets_1  (found_1 : (List (List Int))) (thing_ : Int) : Option ((List (List Int))) :=
  ((mapO (fun (one_ : (List Int)) => catT one_ [thing_]) found_1).bind fun (v_ : (List (List Int))) => catT found_1 v_).bind fun (found_2 : (List (List Int))) =>
  some found_2

def t__law_sets (n_ : Int) : Option (List (List Int)) :=
  bnd ([([] : (List Int))]) fun (found_ : (List (List Int))) =>
  (rng1T n_).bind fun (xs_ : List Int) =>
  (foldO t__law_sets_1 found_ xs_).bind fun (found_3 : (List (List Int))) =>
  sortT (ltL ltI) found_3

theorem b__law_sets (n_ : Int) : f__law_sets [(cI n_, .fz)] = (t__law_sets n_).map (ww (cL (cT cI))) :=
  fn_k (env := [some (cI n_, .fz), none, none, none]) rfl rfl
  (st_asg (kbb (r := (ww (cL (cT cI)))) (eA_k (aC_k (kb (eA_k (aN_k (tupT0 (E := cI)))) (aN_k (lst1 (E := (cT cI))))))) fun found_ => (asgl rfl (st_for (ko (r := (fun ys : List Int => (ys.map cI, false))) (aS_k (aC_k (kb rfl (aN_k rg1)))) fun xs_ => (lp_o (Env := fun (found_1 : (List (List Int))) => [some (cI n_, .fz), some ((cL (cT cI)) found_1, .fz), none, none]) (s0 := found_) (step := t__law_sets_1) rfl (fun found_1 thing_ => (turn_k as_nm (st_last (st_asg (ko (r := (ww (cL (cT cI)))) (e2_k (kb rfl (ko (r := (ww (cL (cT cI)))) (lc_k (kb (seqS_k (kb rfl sq_z)) (lg_o (g_mapO (k := fun (one_ : (List Int)) => catT one_ [thing_]) (F := (cT cI)) fun one_ => lcF_k as_nm (ly_o (f := .fz) (e2_k (kb rfl (kb (eA_k (aC_k (kb rfl (aN_k (tupT1 (E := cI)))))) catT_l)))))))) fun v_ => (catL_l rfl rfl)))) fun found_2 => (asgl rfl (st_end rfl))))))) (fun found_3 => (st_last (st_ret (koe (r := (ww (cL (cT cI)))) (eA_k (aC_k (kb rfl (aN_k sortL_l)))) fun _ => (retl rfl rfl)))))))))))

/-! ### _law_plans -/
def t__law_plans_1 (sets_ : (List (List Int))) (grown_1 : (List (List (List Int)))) (plan_ : (List (List Int))) : Option ((List (List (List Int)))) :=
  (mapO (fun (some_ : (List Int)) => catT plan_ [some_]) sets_).bind fun (v_ : (List (List (List Int)))) => (extT grown_1 v_).bind fun (grown_2 : (List (List (List Int)))) =>
  some grown_2

def t__law_plans_2 (sets_ : (List (List Int))) (plans_1 : (List (List (List Int)))) (year_ : Int) : Option ((List (List (List Int)))) :=
  bnd (([] : List (List (List Int)))) fun (grown_ : (List (List (List Int)))) =>
  (foldO (t__law_plans_1 sets_) grown_ plans_1).bind fun (grown_3 : (List (List (List Int)))) =>
  some grown_3

def t__law_plans (count_ : Int) (years_ : Int) : Option (List (List (List Int))) :=
  bnd ([([] : (List (List Int)))]) fun (plans_ : (List (List (List Int)))) =>
  (t__law_sets count_).bind fun (sets_ : (List (List Int))) =>
  (rng1T years_).bind fun (xs_ : List Int) =>
  (foldO (t__law_plans_2 sets_) plans_ xs_).bind fun (plans_2 : (List (List (List Int)))) =>
  some plans_2

theorem b__law_plans (count_ : Int) (years_ : Int) : f__law_plans [(cI count_, .fz), (cI years_, .fz)] = (t__law_plans count_ years_).map (zz (cL (cT (cT cI)))) :=
  fn_k (env := [some (cI count_, .fz), some (cI years_, .fz), none, none, none, none, none, none]) rfl rfl
  (st_par (aC_k (kbb (r := (ww (cL (cT (cT cI))))) (eA_k (aC_k (kb (eA_k (aN_k (tupT0 (E := (cT cI))))) (aN_k (lst1 (E := (cT (cT cI)))))))) fun plans_ => (aC_k (ko (r := (ww (cL (cT cI)))) (eA_k (aC_k (kb rfl (aN_k (b__law_sets count_))))) fun sets_ => (aN_k (parl (parlc rfl (parlc rfl parl0)) (st_for (ko (r := (fun ys : List Int => (ys.map cI, false))) (aS_k (aC_k (kb rfl (aN_k rg1)))) fun xs_ => (lp_o (Env := fun (plans_1 : (List (List (List Int)))) => [some (cI count_, .fz), some (cI years_, .fz), none, some ((cL (cT (cT cI))) plans_1, .fz), some ((cL (cT cI)) sets_, .fz), none, none, none]) (s0 := plans_) (step := t__law_plans_2 sets_) rfl (fun plans_1 year_ => (turn_k as_nm (st_asg (kbb (r := (ww (cL (cT (cT cI))))) (eA_k (aN_k (lst0 (E := (cT (cT cI)))))) fun grown_ => (asgl rfl (st_for (kb (seqS_k (kb rfl sq_z)) (lp_o (Env := fun (grown_1 : (List (List (List Int)))) => [some (cI count_, .fz), some (cI years_, .fz), some (cI year_, .fz), some ((cL (cT (cT cI))) plans_1, .fz), some ((cL (cT cI)) sets_, .fz), some ((cL (cT (cT cI))) grown_1, .ow), none, none]) (s0 := grown_) (step := t__law_plans_1 sets_) rfl (fun grown_1 plan_ => (turn_k as_nm (st_last (st_ext (aC_k (ko (r := (ww (cL (cT (cT cI))))) (lc_k (kb (seqS_k (kb rfl sq_z)) (lg_o (g_mapO (k := fun (some_ : (List Int)) => catT plan_ [some_]) (F := (cT (cT cI))) fun some_ => lcF_k as_nm (ly_o (f := .fz) (e2_k (kb rfl (kb (eA_k (aC_k (kb rfl (aN_k (tupT1 (E := (cT cI))))))) catT_l)))))))) fun v_ => (aN_k (ext_l rfl rfl fun grown_2 => (st_end rfl))))))))) (fun grown_3 => (st_last (st_pre (st_asg (kb rfl (asgl rfl (st_end rfl))))))))))))))) (fun plans_2 => (st_last (st_ret (kb rfl (retl rfl rfl)))))))))))))))

/-! ### _law_cost_i1 -/
def t__law_cost_i1_1 (costs_ : (List Int)) (some_ : (List Int)) (s_1 : ((List Int) × Int)) (k_ : Int) : Option (((List Int) × Int)) :=
  (if (decide (k_ ∈ some_)) = true then (setT s_1.1 k_ (0 : Int)).bind fun (now_ : (List Int)) =>
  some now_
  else some s_1.1).bind fun (now_1 : (List Int)) =>
  ((((atI now_1 k_).bind fun (v_3 : Int) => some (minI v_3 ((costs_.length : Int) - (1 : Int)))).bind fun (v_4 : Int) => atI costs_ v_4).bind fun (v_5 : Int) => some (s_1.2 + v_5)).bind fun (total_1 : Int) =>
  ((atI now_1 k_).bind fun (v_6 : Int) => some (v_6 + (1 : Int))).bind fun (v_7 : Int) => (setT now_1 k_ v_7).bind fun (now_2 : (List Int)) =>
  some (now_2, total_1)

def t__law_cost_i1_2 (costs_ : (List Int)) (new_ : Int) (trench_ : Int) (s_ : ((List Int) × Int)) (some_ : (List Int)) : Option (((List Int) × Int)) :=
  (((mulT trench_ (if (decide ((0 : Int) < (some_.length : Int))) = true then (1 : Int) else 0)).bind fun (v_ : Int) => some (s_.2 + v_)).bind fun (v_1 : Int) => (mulT new_ (some_.length : Int)).bind fun (v_2 : Int) => some (v_1 + v_2)).bind fun (total_ : Int) =>
  (rng1T (s_.1.length : Int)).bind fun (xs_ : List Int) =>
  (foldO (t__law_cost_i1_1 costs_ some_) (s_.1, total_) xs_).bind fun (s_2 : ((List Int) × Int)) =>
  some (s_2.1, s_2.2)

def t__law_cost_i1 (ages_ : (List Int)) (costs_ : (List Int)) (new_ : Int) (trench_ : Int) (plan_ : (List (List Int))) : Option Int :=
  (foldO (t__law_cost_i1_2 costs_ new_ trench_) (ages_, (0 : Int)) plan_).bind fun (s_3 : ((List Int) × Int)) =>
  some s_3.2

theorem b__law_cost_i1 (ages_ : (List Int)) (costs_ : (List Int)) (new_ : Int) (trench_ : Int) (plan_ : (List (List Int))) : f__law_cost [((cT cI) ages_, .fz), ((cT cI) costs_, .fz), (cI new_, .fz), (cI trench_, .fz), ((cT (cT cI)) plan_, .fz)] = (t__law_cost_i1 ages_ costs_ new_ trench_ plan_).map (zz cI) :=
  fn_k (env := [some ((cT cI) ages_, .fz), some ((cT cI) costs_, .fz), some (cI new_, .fz), some (cI trench_, .fz), some ((cT (cT cI)) plan_, .fz), none, none, none, none]) rfl rfl
  (st_par (aC_k (kb (eA_k (aC_k (kb rfl (aN_k listT_l)))) (aC_k (kb (eC_I (i := 0)) (aN_k (parl (parlc rfl (parlc rfl parl0)) (st_for (kb (seqS_k (kb rfl sq_t)) (lp_o (Env := fun (s_ : ((List Int) × Int)) => [some ((cT cI) ages_, .fz), some ((cT cI) costs_, .fz), some (cI new_, .fz), some (cI trench_, .fz), some ((cT (cT cI)) plan_, .fz), none, some ((cL cI) s_.1, .ow), some (cI s_.2, .fz), none]) (s0 := (ages_, (0 : Int))) (step := t__law_cost_i1_2 costs_ new_ trench_) rfl (fun s_ some_ => (turn_k as_nm (st_asg (ko (r := (zz cI)) (e2_k (ko (r := (zz cI)) (e2_k (kb rfl (ko (r := (zz cI)) (e2_k (kb rfl (kb (eA_k (aC_k (kb (e2_k (kb (eA_k (aC_k (kb rfl (aN_k lenT_l)))) (kb (eC_I (i := 0)) gtA_l))) (aN_k intB_l)))) mulA_t))) fun v_ => add_l))) fun v_1 => (ko (r := (zz cI)) (e2_k (kb rfl (kb (eA_k (aC_k (kb rfl (aN_k lenT_l)))) mulA_t))) fun v_2 => add_l))) fun total_ => (asgl rfl (st_last (st_for (ko (r := (fun ys : List Int => (ys.map cI, false))) (aS_k (aC_k (kb (eA_k (aC_k (kb rfl (aN_k lenL_l)))) (aN_k rg1)))) fun xs_ => (lp_o (Env := fun (s_1 : ((List Int) × Int)) => [some ((cT cI) ages_, .fz), some ((cT cI) costs_, .fz), some (cI new_, .fz), some (cI trench_, .fz), some ((cT (cT cI)) plan_, .fz), some ((cT cI) some_, .fz), some ((cL cI) s_1.1, .ow), some (cI s_1.2, .fz), none]) (s0 := (s_.1, total_)) (step := t__law_cost_i1_1 costs_ some_) rfl (fun s_1 k_ => (turn_k as_nm (st_jn (Env := fun (now_1 : (List Int)) => [some ((cT cI) ages_, .fz), some ((cT cI) costs_, .fz), some (cI new_, .fz), some (cI trench_, .fz), some ((cT (cT cI)) plan_, .fz), some ((cT cI) some_, .fz), some ((cL cI) now_1, .ow), some (cI s_1.2, .fz), some (cI k_, .fz)]) (st_j (st_last (st_if (X := (setT s_1.1 k_ (0 : Int)).bind fun (now_ : (List Int)) =>
  some now_) (Y := some s_1.1) (tst (e2_k (kb rfl (kb rfl (inT_f (E := cI)))))) (st_set (kb (eC_I (i := 0)) (kb rfl (set_l (E := cI) (a := (0 : Int)) (f := .fz) rfl rfl fun now_ => (st_end rfl))))) (st_skip (st_end rfl))))) fun now_1 => (st_asg (ko (r := (zz cI)) (e2_k (kb rfl (ko (r := (zz cI)) (e2_k (kb rfl (ko (r := (zz cI)) (eA_k (aC_k (ko (r := (zz cI)) (e2_k (kb rfl (kb rfl ixL_l))) fun v_3 => (aC_k (kb (e2_k (kb (eA_k (aC_k (kb rfl (aN_k lenT_l)))) (kb (eC_I (i := 1)) sub_l))) (aN_k minB2_l)))))) fun v_4 => ixT_l))) fun v_5 => add_l))) fun total_1 => (asgl rfl (st_last (st_set (ko (r := (zz cI)) (e2_k (ko (r := (zz cI)) (e2_k (kb rfl (kb rfl ixL_l))) fun v_6 => (kb (eC_I (i := 1)) add_l))) fun v_7 => (kb rfl (set_l (E := cI) (a := v_7) (f := .fz) rfl rfl fun now_2 => (st_end rfl)))))))))))) (fun s_2 => (st_end rfl))))))))))) (fun s_3 => (st_last (st_ret (kb rfl (retl rfl rfl)))))))))))))))

/-! ### _law_least -/
def t__law_least (ages_ : (List Int)) (costs_ : (List Int)) (new_ : Int) (trench_ : Int) (years_ : Int) : Option (Int × (List (List Int))) :=
  (((t__law_plans (ages_.length : Int) years_).bind fun (v_ : (List (List (List Int)))) => some v_).bind fun (v_2 : (List (List (List Int)))) => mapO (fun (plan_ : (List (List Int))) => (t__law_cost_i1 ages_ costs_ new_ trench_ plan_).bind fun (v_1 : Int) => some (v_1, plan_)) v_2).bind fun (v_3 : (List (Int × (List (List Int))))) => minT (ltP ltI (ltL (ltL ltI))) v_3

theorem b__law_least (ages_ : (List Int)) (costs_ : (List Int)) (new_ : Int) (trench_ : Int) (years_ : Int) : f__law_least [((cT cI) ages_, .fz), ((cT cI) costs_, .fz), (cI new_, .fz), (cI trench_, .fz), (cI years_, .fz)] = (t__law_least ages_ costs_ new_ trench_ years_).map (zz (cP2 cI (cT (cT cI)))) :=
  fn_k (env := [some ((cT cI) ages_, .fz), some ((cT cI) costs_, .fz), some (cI new_, .fz), some (cI trench_, .fz), some (cI years_, .fz), none]) rfl rfl
  (st_last (st_ret (koe (r := (zz (cP2 cI (cT (cT cI))))) (eA_k (aC_k (ko (r := (ww (cL (cP2 cI (cT (cT cI)))))) (lc_k (ko (r := (fun ys : List (List (List Int)) => (ys.map (cT (cT cI)), false))) (seqS_k (ko (r := (zz (cL (cT (cT cI))))) (eA_k (aC_k (kb (eA_k (aC_k (kb rfl (aN_k lenT_l)))) (aC_k (kb rfl (aN_k (b__law_plans (ages_.length : Int) years_))))))) fun v_ => sq_z)) fun v_2 => (lg_o (g_mapO (k := fun (plan_ : (List (List Int))) => (t__law_cost_i1 ages_ costs_ new_ trench_ plan_).bind fun (v_1 : Int) => some (v_1, plan_)) (F := (cP2 cI (cT (cT cI)))) fun plan_ => lcF_k as_nm (ly_o (f := .fz) (eA_k (aC_k (ko (r := (zz cI)) (eA_k (aC_k (kb rfl (aC_k (kb rfl (aC_k (kb rfl (aC_k (kb rfl (aC_k (kb rfl (aN_k (b__law_cost_i1 ages_ costs_ new_ trench_ plan_))))))))))))) fun v_1 => (aC_k (kb rfl (aN_k (tup2 (E := cI) (F := (cT (cT cI))))))))))))))) fun v_3 => (aN_k minBL_l)))) fun _ => (retl rfl rfl))))

/-! ### _law_alone -/
def t__law_alone (ages_ : (List Int)) (costs_ : (List Int)) (new_ : Int) (trench_ : Int) (years_ : Int) : Option Int :=
  (mapO (fun (age_ : Int) => (t__law_least [age_] costs_ new_ trench_ years_).bind fun (v_ : (Int × (List (List Int)))) => some v_.1) ages_).bind fun (v_1 : (List Int)) => some v_1.sum

theorem b__law_alone (ages_ : (List Int)) (costs_ : (List Int)) (new_ : Int) (trench_ : Int) (years_ : Int) : f__law_alone [((cT cI) ages_, .fz), ((cT cI) costs_, .fz), (cI new_, .fz), (cI trench_, .fz), (cI years_, .fz)] = (t__law_alone ages_ costs_ new_ trench_ years_).map (zz cI) :=
  fn_k (env := [some ((cT cI) ages_, .fz), some ((cT cI) costs_, .fz), some (cI new_, .fz), some (cI trench_, .fz), some (cI years_, .fz), none]) rfl rfl
  (st_last (st_ret (koe (r := (zz cI)) (eA_k (aC_k (ko (r := (ww (cL cI))) (lc_k (kb (seqS_k (kb rfl sq_t)) (lg_o (g_mapO (k := fun (age_ : Int) => (t__law_least [age_] costs_ new_ trench_ years_).bind fun (v_ : (Int × (List (List Int)))) => some v_.1) (F := cI) fun age_ => lcF_k as_nm (ly_o (f := .fz) (e2_k (ko (r := (zz (cP2 cI (cT (cT cI))))) (eA_k (aC_k (kb (eA_k (aC_k (kb rfl (aN_k (tupT1 (E := cI)))))) (aC_k (kb rfl (aC_k (kb rfl (aC_k (kb rfl (aC_k (kb rfl (aN_k (b__law_least [age_] costs_ new_ trench_ years_))))))))))))) fun v_ => (kb rfl ix2_0)))))))) fun v_1 => (aN_k sumL_l)))) fun _ => (retl rfl rfl))))

/-! ### all_sets -/
def t_all_sets_1  (found_1 : (List (List Int))) (index_ : Int) : Option ((List (List Int))) :=
  (((mapO (fun (row_ : (List Int)) => catT [index_] row_) found_1).bind fun (v_ : (List (List Int))) => catT [([] : (List Int))] v_).bind fun (v_1 : (List (List Int))) => catT v_1 (found_1.filter fun (row_1 : (List Int)) => !row_1.isEmpty)).bind fun (found_2 : (List (List Int))) =>
  some found_2

def t_all_sets (n_ : Int) : Option (List (List Int)) :=
  bnd ([([] : (List Int))]) fun (found_ : (List (List Int))) =>
  (rng3T (n_ - (1 : Int)) (-(1 : Int))).bind fun (xs_ : List Int) =>
  (foldO t_all_sets_1 found_ xs_).bind fun (found_3 : (List (List Int))) =>
  some found_3

theorem b_all_sets (n_ : Int) : f_all_sets [(cI n_, .fz)] = (t_all_sets n_).map (zz (cL (cT cI))) :=
  fn_k (env := [some (cI n_, .fz), none, none, none]) rfl rfl
  (st_asg (kbb (r := (ww (cL (cT cI)))) (eA_k (aC_k (kb (eA_k (aN_k (tupT0 (E := cI)))) (aN_k (lst1 (E := (cT cI))))))) fun found_ => (asgl rfl (st_for (ko (r := (fun ys : List Int => (ys.map cI, false))) (aS_k (aC_k (kb (e2_k (kb rfl (kb (eC_I (i := 1)) sub_l))) (aC_k (kb (neg_k (kb (eC_I (i := 1)) neg_l)) (aC_k (kb (neg_k (kb (eC_I (i := 1)) neg_l)) (aN_k rg3)))))))) fun xs_ => (lp_o (Env := fun (found_1 : (List (List Int))) => [some (cI n_, .fz), some ((cL (cT cI)) found_1, .fz), none, none]) (s0 := found_) (step := t_all_sets_1) rfl (fun found_1 index_ => (turn_k as_nm (st_last (st_asg (ko (r := (ww (cL (cT cI)))) (e2_k (ko (r := (ww (cL (cT cI)))) (e2_k (kb (eA_k (aC_k (kb (eA_k (aN_k (tupT0 (E := cI)))) (aN_k (lst1 (E := (cT cI))))))) (ko (r := (ww (cL (cT cI)))) (lc_k (kb (seqS_k (kb rfl sq_z)) (lg_o (g_mapO (k := fun (row_ : (List Int)) => catT [index_] row_) (F := (cT cI)) fun row_ => lcF_k as_nm (ly_o (f := .fz) (e2_k (kb (eA_k (aC_k (kb rfl (aN_k (tupT1 (E := cI)))))) (kb rfl catT_l)))))))) fun v_ => (catL_l rfl rfl)))) fun v_1 => (kb (lc_k (kb (seqS_k (kb rfl sq_z)) (lg_p (g_filt0 (p := fun (row_1 : (List Int)) => !row_1.isEmpty) fun row_1 => lcF_k as_nm (lfi (tru_l' rfl truT) rfl))))) (catL_l rfl rfl)))) fun found_2 => (asgl rfl (st_end rfl))))))) (fun found_3 => (st_last (st_ret (kb rfl (retl rfl rfl)))))))))))

/-! ### cost_at -/
def t_cost_at (costs_ : (List Int)) (age_ : Int) : Option Int :=
  atI costs_ (minI age_ ((costs_.length : Int) - (1 : Int)))

theorem b_cost_at (costs_ : (List Int)) (age_ : Int) : f_cost_at [((cT cI) costs_, .fz), (cI age_, .fz)] = (t_cost_at costs_ age_).map (zz cI) :=
  fn_k (env := [some ((cT cI) costs_, .fz), some (cI age_, .fz)]) rfl rfl
  (st_last (st_ret (koe (r := (zz cI)) (e2_k (kb rfl (kb (eA_k (aC_k (kb rfl (aC_k (kb (e2_k (kb (eA_k (aC_k (kb rfl (aN_k lenT_l)))) (kb (eC_I (i := 1)) sub_l))) (aN_k minB2_l)))))) ixT_l))) fun _ => (retl rfl rfl))))

/-! ### renew_least -/
def t_renew_least_1 (costs_ : (List Int)) (new_ : Int) (trench_ : Int) (old_ : (List Int)) (p_ : (Int × (List (List Int)))) (later_2 : (List ((List Int) × (Int × (List (List Int)))))) (chosen_ : (List Int)) : Option ((List ((List Int) × (Int × (List (List Int)))))) :=
  bnd ((enumI old_).map fun (p_1 : (Int × Int)) => if (decide (p_1.1 ∈ chosen_)) = true then (0 : Int) else p_1.2) fun (young_ : (List Int)) =>
  (((mulT new_ (chosen_.length : Int)).bind fun (v_1 : Int) => some ((if (!chosen_.isEmpty) = true then trench_ else (0 : Int)) + v_1)).bind fun (v_3 : Int) => ((mapO (fun (age_ : Int) => t_cost_at costs_ age_) young_).bind fun (v_2 : (List Int)) => some v_2.sum).bind fun (v_4 : Int) => some (v_3 + v_4)).bind fun (more_ : Int) =>
  bnd (young_.map fun (age_1 : Int) => age_1 + (1 : Int)) fun (key_ : (List Int)) =>
  ((catT p_.2 [chosen_]).bind fun (v_5 : (List (List Int))) => some (p_.1 + more_, v_5)).bind fun (told_ : (Int × (List (List Int)))) =>
  (dputA later_2 key_ (min2T (ltP ltI (ltL (ltL ltI))) ((getA later_2 key_).getD told_) told_)).bind fun (later_3 : (List ((List Int) × (Int × (List (List Int)))))) =>
  some later_3

def t_renew_least_2 (ages_ : (List Int)) (costs_ : (List Int)) (new_ : Int) (trench_ : Int) (states_1 : (List ((List Int) × (Int × (List (List Int)))))) (later_1 : (List ((List Int) × (Int × (List (List Int)))))) (old_ : (List Int)) : Option ((List ((List Int) × (Int × (List (List Int)))))) :=
  (getA states_1 old_).bind fun (p_ : (Int × (List (List Int)))) =>
  ((t_all_sets (ages_.length : Int)).bind fun (v_ : (List (List Int))) => some v_).bind fun (xs_ : List (List Int)) =>
  (foldO (t_renew_least_1 costs_ new_ trench_ old_ p_) later_1 xs_).bind fun (later_4 : (List ((List Int) × (Int × (List (List Int)))))) =>
  some later_4

def t_renew_least_3 (ages_ : (List Int)) (costs_ : (List Int)) (new_ : Int) (trench_ : Int) (states_1 : (List ((List Int) × (Int × (List (List Int)))))) (__ : Int) : Option ((List ((List Int) × (Int × (List (List Int)))))) :=
  bnd (([] : (List ((List Int) × (Int × (List (List Int))))))) fun (later_ : (List ((List Int) × (Int × (List (List Int)))))) =>
  (foldO (t_renew_least_2 ages_ costs_ new_ trench_ states_1) later_ (states_1.map (·.1))).bind fun (later_5 : (List ((List Int) × (Int × (List (List Int)))))) =>
  some later_5

def t_renew_least (ages_ : (List Int)) (costs_ : (List Int)) (new_ : Int) (trench_ : Int) (years_ : Int) : Option (Int × (List (List Int))) :=
  bnd ([(ages_, ((0 : Int), ([] : (List (List Int)))))]) fun (states_ : (List ((List Int) × (Int × (List (List Int)))))) =>
  (rng1T years_).bind fun (xs_2 : List Int) =>
  (foldO (t_renew_least_3 ages_ costs_ new_ trench_) states_ xs_2).bind fun (states_2 : (List ((List Int) × (Int × (List (List Int)))))) =>
  ((keysA states_2).bind fun (xs_1 : List (List Int)) => mapO (fun (old_1 : (List Int)) => getA states_2 old_1) xs_1).bind fun (v_6 : (List (Int × (List (List Int))))) => minT (ltP ltI (ltL (ltL ltI))) v_6

theorem b_renew_least (ages_ : (List Int)) (costs_ : (List Int)) (new_ : Int) (trench_ : Int) (years_ : Int) : f_renew_least [((cT cI) ages_, .fz), ((cT cI) costs_, .fz), (cI new_, .fz), (cI trench_, .fz), (cI years_, .fz)] = (t_renew_least ages_ costs_ new_ trench_ years_).map (zz (cP2 cI (cT (cT cI)))) :=
  fn_k (env := [some ((cT cI) ages_, .fz), some ((cT cI) costs_, .fz), some (cI new_, .fz), some (cI trench_, .fz), some (cI years_, .fz), none, none, none, none, none, none, none, none, none, none, none, none, none]) rfl rfl
  (st_asg (kbb (r := (ww (cN (cT cI) (cP2 cI (cT (cT cI)))))) (dictN1_k (kb (eA_k (aC_k (kb rfl (aN_k tupT_l)))) (kb (eA_k (aC_k (kb (eC_I (i := 0)) (aC_k (kb (eA_k (aN_k (tupT0 (E := (cT cI))))) (aN_k (tup2 (E := cI) (F := (cT (cT cI)))))))))) (dictN1_l (E := (cT cI)) (F := (cP2 cI (cT (cT cI)))))))) fun states_ => (asgl rfl (st_for (ko (r := (fun ys : List Int => (ys.map cI, false))) (aS_k (aC_k (kb rfl (aN_k rg1)))) fun xs_2 => (lp_o (Env := fun (states_1 : (List ((List Int) × (Int × (List (List Int)))))) => [some ((cT cI) ages_, .fz), some ((cT cI) costs_, .fz), some (cI new_, .fz), some (cI trench_, .fz), some (cI years_, .fz), some ((cN (cT cI) (cP2 cI (cT (cT cI)))) states_1, .fz), none, none, none, none, none, none, none, none, none, none, none, none]) (s0 := states_) (step := t_renew_least_3 ages_ costs_ new_ trench_) rfl (fun states_1 __ => (turn_k as_nm (st_asg (kbb (r := (ww (cN (cT cI) (cP2 cI (cT (cT cI)))))) dictN0_l fun later_ => (asgl rfl (st_forDN (kvs := states_1) rfl (lp_o (Env := fun (later_1 : (List ((List Int) × (Int × (List (List Int)))))) => [some ((cT cI) ages_, .fz), some ((cT cI) costs_, .fz), some (cI new_, .fz), some (cI trench_, .fz), some (cI years_, .fz), some ((cN (cT cI) (cP2 cI (cT (cT cI)))) states_1, .fz), some (cI __, .fz), some ((cN (cT cI) (cP2 cI (cT (cT cI)))) later_1, .ow), none, none, none, none, none, none, none, none, none, none]) (s0 := later_) (step := t_renew_least_2 ages_ costs_ new_ trench_ states_1) rfl (fun later_1 old_ => (turn_k as_nm (st_asgT (ko (r := (zz (cP2 cI (cT (cT cI))))) (e2_k (kb rfl (kb rfl dgetN_l))) fun p_ => (asTl rfl (as_p2 as_nm as_nm) (st_last (st_for (ko (r := (fun ys : List (List Int) => (ys.map (cT cI), false))) (seqS_k (ko (r := (zz (cL (cT cI)))) (eA_k (aC_k (kb (eA_k (aC_k (kb rfl (aN_k lenT_l)))) (aN_k (b_all_sets (ages_.length : Int)))))) fun v_ => sq_z)) fun xs_ => (lp_o (Env := fun (later_2 : (List ((List Int) × (Int × (List (List Int)))))) => [some ((cT cI) ages_, .fz), some ((cT cI) costs_, .fz), some (cI new_, .fz), some (cI trench_, .fz), some (cI years_, .fz), some ((cN (cT cI) (cP2 cI (cT (cT cI)))) states_1, .fz), some (cI __, .fz), some ((cN (cT cI) (cP2 cI (cT (cT cI)))) later_2, .ow), some ((cT cI) old_, .fz), none, some (cI p_.1, .fz), some ((cT (cT cI)) p_.2, .fz), none, none, none, none, none, none]) (s0 := later_1) (step := t_renew_least_1 costs_ new_ trench_ old_ p_) rfl (fun later_2 chosen_ => (turn_k as_nm (st_asg (kbb (r := (ww (cL cI))) (lc_k (kb (aS_k (aC_k (kb rfl (aN_k en_t)))) (lg_p (g_map (k := fun (p_1 : (Int × Int)) => if (decide (p_1.1 ∈ chosen_)) = true then (0 : Int) else p_1.2) (F := cI) fun p_1 => lcF_k (as_p2 as_nm as_nm) (ly (eIf_l (E := cI) (tst (e2_k (kb rfl (kb rfl (inT_f (E := cI)))))) (eC_I (i := 0)) rfl)))))) fun young_ => (asgl rfl (nrm (e' := [some ((cT cI) ages_, .fz), some ((cT cI) costs_, .fz), some (cI new_, .fz), some (cI trench_, .fz), some (cI years_, .fz), some ((cN (cT cI) (cP2 cI (cT (cT cI)))) states_1, .fz), some (cI __, .fz), some ((cN (cT cI) (cP2 cI (cT (cT cI)))) later_2, .ow), some ((cT cI) old_, .fz), some ((cT cI) chosen_, .fz), some (cI p_.1, .fz), some ((cT (cT cI)) p_.2, .fz), some ((cL cI) young_, .fz), none, none, none, none, none]) rfl (st_asg (ko (r := (zz cI)) (e2_k (ko (r := (zz cI)) (e2_k (kb (eIf_l (E := cI) (tru_l' rfl truT) rfl (eC_I (i := 0))) (ko (r := (zz cI)) (e2_k (kb rfl (kb (eA_k (aC_k (kb rfl (aN_k lenT_l)))) mulA_t))) fun v_1 => add_l))) fun v_3 => (ko (r := (zz cI)) (eA_k (aC_k (ko (r := (ww (cL cI))) (lc_k (kb (seqS_k (kb rfl sq_z)) (lg_o (g_mapO (k := fun (age_ : Int) => t_cost_at costs_ age_) (F := cI) fun age_ => lcF_k as_nm (ly_o (f := .fz) (eA_k (aC_k (kb rfl (aC_k (kb rfl (aN_k (b_cost_at costs_ age_)))))))))))) fun v_2 => (aN_k sumL_l)))) fun v_4 => add_l))) fun more_ => (asgl rfl (st_par (aC_k (kbb (r := (zz (cT cI))) (eA_k (aC_k (kb (lc_k (kb (seqS_k (kb rfl sq_z)) (lg_p (g_map (k := fun (age_1 : Int) => age_1 + (1 : Int)) (F := cI) fun age_1 => lcF_k as_nm (ly (e2_k (kb rfl (kb (eC_I (i := 1)) add_l)))))))) (aN_k tupL_l)))) fun key_ => (aC_k (ko (r := (zz (cP2 cI (cT (cT cI))))) (eA_k (aC_k (kb (e2_k (kb rfl (kb rfl add_l))) (aC_k (ko (r := (zz (cT (cT cI)))) (e2_k (kb rfl (kb (eA_k (aC_k (kb rfl (aN_k (tupT1 (E := (cT cI))))))) catT_l))) fun v_5 => (aN_k (tup2 (E := cI) (F := (cT (cT cI)))))))))) fun told_ => (aN_k (parl (parlc rfl (parlc rfl parl0)) (st_last (st_dsetN (kb (eA_k (aC_k (kb (dgN_k (kb rfl (kb rfl (kb rfl dget2N_l)))) (aC_k (kb rfl (aN_k (minBD_l rfl))))))) (kb rfl (dsetN_i (E := (cT cI)) (F := (cP2 cI (cT (cT cI)))) (a := min2T (ltP ltI (ltL (ltL ltI))) ((getA later_2 key_).getD told_) told_) (f := .fz) rfl rfl fun later_3 => (st_end rfl)))))))))))))))))))))) (fun later_4 => (st_end rfl))))))))))) (fun later_5 => (st_last (st_pre (st_asg (kb rfl (asgl rfl (st_end rfl)))))))))))))) (fun states_2 => (st_last (st_ret (koe (r := (zz (cP2 cI (cT (cT cI))))) (eA_k (aC_k (ko (r := (ww (cL (cP2 cI (cT (cT cI)))))) (lcDN_k (q := (ww (cL (cP2 cI (cT (cT cI)))))) rfl fun xs_1 => (lg_o (g_mapO (k := fun (old_1 : (List Int)) => getA states_2 old_1) (F := (cP2 cI (cT (cT cI)))) fun old_1 => lcF_k as_nm (ly_o (f := .fz) (e2_k (kb rfl (kb rfl dgetN_l))))))) fun v_6 => (aN_k minBL_l)))) fun _ => (retl rfl rfl)))))))))))

/-! ### renew_alone -/
def t_renew_alone (ages_ : (List Int)) (costs_ : (List Int)) (new_ : Int) (trench_ : Int) (years_ : Int) : Option Int :=
  (mapO (fun (age_ : Int) => (t_renew_least [age_] costs_ new_ trench_ years_).bind fun (v_ : (Int × (List (List Int)))) => some v_.1) ages_).bind fun (v_1 : (List Int)) => some v_1.sum

theorem b_renew_alone (ages_ : (List Int)) (costs_ : (List Int)) (new_ : Int) (trench_ : Int) (years_ : Int) : f_renew_alone [((cT cI) ages_, .fz), ((cT cI) costs_, .fz), (cI new_, .fz), (cI trench_, .fz), (cI years_, .fz)] = (t_renew_alone ages_ costs_ new_ trench_ years_).map (zz cI) :=
  fn_k (env := [some ((cT cI) ages_, .fz), some ((cT cI) costs_, .fz), some (cI new_, .fz), some (cI trench_, .fz), some (cI years_, .fz), none]) rfl rfl
  (st_last (st_ret (koe (r := (zz cI)) (eA_k (aC_k (ko (r := (ww (cL cI))) (lc_k (kb (seqS_k (kb rfl sq_t)) (lg_o (g_mapO (k := fun (age_ : Int) => (t_renew_least [age_] costs_ new_ trench_ years_).bind fun (v_ : (Int × (List (List Int)))) => some v_.1) (F := cI) fun age_ => lcF_k as_nm (ly_o (f := .fz) (e2_k (ko (r := (zz (cP2 cI (cT (cT cI))))) (eA_k (aC_k (kb (eA_k (aC_k (kb rfl (aN_k (tupT1 (E := cI)))))) (aC_k (kb rfl (aC_k (kb rfl (aC_k (kb rfl (aC_k (kb rfl (aN_k (b_renew_least [age_] costs_ new_ trench_ years_))))))))))))) fun v_ => (kb rfl ix2_0)))))))) fun v_1 => (aN_k sumL_l)))) fun _ => (retl rfl rfl))))

/-! ### _law_large -/
def t__law_large_e1 (ages_ : (List Int)) (costs_ : (List Int)) (new_ : Int) (years_ : Int) (due_ : Int) (told_ : (Int × (List (List Int)))) : Option Bool :=
  (((mapO (fun (some_ : (List Int)) => ((((rng1T (3 : Int)).bind fun (v_ : (List Int)) => some (v_.filter fun (k_ : Int) => decide (k_ ∈ some_))).bind fun (v_1 : (List Int)) => some v_1).map fun (c_ : (List Int)) => (cT cI) c_).bind fun (v_2 : D) => t__law_like ((cT cI) some_) v_2) told_.2).bind fun (v_3 : (List Bool)) => some (v_3.all id)).map (!·)).bind fun b_ => if b_ = true then some false
  else ((t__law_cost_i1 ages_ costs_ new_ (0 : Int) told_.2).bind fun (v_4 : Int) => some (!decide (v_4 = due_))).bind fun b_ => if b_ = true then some false
  else ((t_renew_alone ages_ costs_ new_ (0 : Int) years_).map fun (c_1 : Int) => cI c_1).bind fun (v_5 : D) => t__law_like v_5 (cI due_)

def t__law_large (ages_ : (List Int)) (costs_ : (List Int)) (new_ : Int) (years_ : Int) : Option Bool :=
  (t__law_alone ages_ costs_ new_ (0 : Int) years_).bind fun (due_ : Int) =>
  (t_renew_least ages_ costs_ new_ (0 : Int) years_).bind fun (told_ : (Int × (List (List Int)))) =>
  (orO (some (!true)) (orO (some (!decide ((2 : Int) = (2 : Int)))) ((t__law_like (cI told_.1) (cI due_)).map (!·)))).bind fun b_ => if b_ = true then some false
  else if ((!true) || (!decide ((told_.2.length : Int) = years_))) = true then some false
  else t__law_large_e1 ages_ costs_ new_ years_ due_ told_

theorem b__law_large (ages_ : (List Int)) (costs_ : (List Int)) (new_ : Int) (years_ : Int) : f__law_large [((cT cI) ages_, .fz), ((cT cI) costs_, .fz), (cI new_, .fz), (cI years_, .fz)] = (t__law_large ages_ costs_ new_ years_).map (zz cB) :=
  fn_k (env := [some ((cT cI) ages_, .fz), some ((cT cI) costs_, .fz), some (cI new_, .fz), some (cI years_, .fz), none, none, none, none, none]) rfl rfl
  (st_par (aC_k (ko (r := (zz cI)) (eA_k (aC_k (kb rfl (aC_k (kb rfl (aC_k (kb rfl (aC_k (kb (eC_I (i := 0)) (aC_k (kb rfl (aN_k (b__law_alone ages_ costs_ new_ (0 : Int) years_))))))))))))) fun due_ => (aC_k (ko (r := (zz (cP2 cI (cT (cT cI))))) (eA_k (aC_k (kb rfl (aC_k (kb rfl (aC_k (kb rfl (aC_k (kb (eC_I (i := 0)) (aC_k (kb rfl (aN_k (b_renew_least ages_ costs_ new_ (0 : Int) years_))))))))))))) fun told_ => (aN_k (parl (parlc rfl (parlc rfl parl0)) (st_ifO (X := some false) (Y := if ((!true) || (!decide ((told_.2.length : Int) = years_))) = true then some false
  else t__law_large_e1 ages_ costs_ new_ years_ due_ told_) (bor_o (ta := (some (!true))) (tb := (orO (some (!decide ((2 : Int) = (2 : Int)))) ((t__law_like (cI told_.1) (cI due_)).map (!·)))) (bnot (tru_l' (isi_k rfl isi_tt) truB)) (bor_o (ta := (some (!decide ((2 : Int) = (2 : Int))))) (tb := ((t__law_like (cI told_.1) (cI due_)).map (!·))) (tst (e2_k (kb (eA_k (aC_k (kb rfl (aN_k lenP_l)))) (kb (eC_I (i := 2)) ne_l)))) (bnot_o (truB_o (eA_k (aC_k (kb (co_p (F := cD) (y := (cI told_.1)) rfl (e2_k (kb rfl (kb rfl ix2_0)))) (aC_k (kb (co_p (F := cD) (y := (cI due_)) rfl rfl) (aN_k (b__law_like _ _ rfl rfl))))))))))) (st_ret (kb (eC_B (b := false)) (retl rfl rfl))) (st_skip (st_asg (kb (e2_k (kb rfl (kb rfl ix2_1))) (asgl rfl (st_if (X := some false) (Y := t__law_large_e1 ages_ costs_ new_ years_ due_ told_) (bor (bnot (tru_l' (isi_k rfl isi_tt) truB)) (tst (e2_k (kb (eA_k (aC_k (kb rfl (aN_k lenT_l)))) (kb rfl ne_l))))) (st_ret (kb (eC_B (b := false)) (retl rfl rfl))) (st_skip (st_ifO (X := some false) (Y := ((t__law_cost_i1 ages_ costs_ new_ (0 : Int) told_.2).bind fun (v_4 : Int) => some (!decide (v_4 = due_))).bind fun b_ => if b_ = true then some false
  else ((t_renew_alone ages_ costs_ new_ (0 : Int) years_).map fun (c_1 : Int) => cI c_1).bind fun (v_5 : D) => t__law_like v_5 (cI due_)) (bnot_o (truB_o (eA_k (aC_k (ko (r := (ww (cL cB))) (lc_k (kb (seqS_k (kb rfl sq_t)) (lg_o (g_mapO (k := fun (some_ : (List Int)) => ((((rng1T (3 : Int)).bind fun (v_ : (List Int)) => some (v_.filter fun (k_ : Int) => decide (k_ ∈ some_))).bind fun (v_1 : (List Int)) => some v_1).map fun (c_ : (List Int)) => (cT cI) c_).bind fun (v_2 : D) => t__law_like ((cT cI) some_) v_2) (F := cB) fun some_ => lcF_k as_nm (ly_o (f := .fz) (eA_k (aC_k (kb (co_p (F := cD) (y := ((cT cI) some_)) rfl rfl) (aC_k (ko (r := (zz cD)) (co_o (F := cD) (fun (c_ : (List Int)) => (cT cI) c_) (fun _ => rfl) (eA_k (aC_k (ko (r := (ww (cL cI))) (lc_k (ko (r := (fun ys : List Int => (ys.map cI, false))) (aS_k (aC_k (kb (eC_I (i := 3)) (aN_k rg1)))) fun v_ => (lg_p (g_filt0 (p := fun (k_ : Int) => decide (k_ ∈ some_)) fun k_ => lcF_k as_nm (lfi (tst (e2_k (kb rfl (kb rfl (inT_f (E := cI)))))) rfl))))) fun v_1 => (aN_k tupL_l))))) fun v_2 => (aN_k (b__law_like _ _ rfl rfl)))))))))))) fun v_3 => (aN_k all_l)))))) (st_ret (kb (eC_B (b := false)) (retl rfl rfl))) (st_skip (st_ifO (X := some false) (Y := ((t_renew_alone ages_ costs_ new_ (0 : Int) years_).map fun (c_1 : Int) => cI c_1).bind fun (v_5 : D) => t__law_like v_5 (cI due_)) (tst_o (e2_k (ko (r := (zz cI)) (eA_k (aC_k (kb rfl (aC_k (kb rfl (aC_k (kb rfl (aC_k (kb (eC_I (i := 0)) (aC_k (kb rfl (aN_k (b__law_cost_i1 ages_ costs_ new_ (0 : Int) told_.2))))))))))))) fun v_4 => (kb rfl ne_l)))) (st_ret (kb (eC_B (b := false)) (retl rfl rfl))) (st_skip (st_last (st_ret (koe (r := (zz cB)) (eA_k (aC_k (ko (r := (zz cD)) (co_o (F := cD) (fun (c_1 : Int) => cI c_1) (fun _ => rfl) (eA_k (aC_k (kb rfl (aC_k (kb rfl (aC_k (kb rfl (aC_k (kb (eC_I (i := 0)) (aC_k (kb rfl (aN_k (b_renew_alone ages_ costs_ new_ (0 : Int) years_)))))))))))))) fun v_5 => (aC_k (kb (co_p (F := cD) (y := (cI due_)) rfl rfl) (aN_k (b__law_like _ _ rfl rfl))))))) fun _ => (retl rfl rfl))))))))))))))))))))))

/-! ### _law_cost -/
def t__law_cost_1 (costs_ : (List Int)) (some_ : (List Int)) (s_1 : ((List Int) × Int)) (k_ : Int) : Option (((List Int) × Int)) :=
  (if (decide (k_ ∈ some_)) = true then (setT s_1.1 k_ (0 : Int)).bind fun (now_ : (List Int)) =>
  some now_
  else some s_1.1).bind fun (now_1 : (List Int)) =>
  ((((atI now_1 k_).bind fun (v_3 : Int) => some (minI v_3 ((costs_.length : Int) - (1 : Int)))).bind fun (v_4 : Int) => atI costs_ v_4).bind fun (v_5 : Int) => some (s_1.2 + v_5)).bind fun (total_1 : Int) =>
  ((atI now_1 k_).bind fun (v_6 : Int) => some (v_6 + (1 : Int))).bind fun (v_7 : Int) => (setT now_1 k_ v_7).bind fun (now_2 : (List Int)) =>
  some (now_2, total_1)

def t__law_cost_2 (costs_ : (List Int)) (new_ : Int) (trench_ : Int) (s_ : ((List Int) × Int)) (some_ : (List Int)) : Option (((List Int) × Int)) :=
  (((mulT trench_ (if (decide ((0 : Int) < (some_.length : Int))) = true then (1 : Int) else 0)).bind fun (v_ : Int) => some (s_.2 + v_)).bind fun (v_1 : Int) => (mulT new_ (some_.length : Int)).bind fun (v_2 : Int) => some (v_1 + v_2)).bind fun (total_ : Int) =>
  (rng1T (s_.1.length : Int)).bind fun (xs_ : List Int) =>
  (foldO (t__law_cost_1 costs_ some_) (s_.1, total_) xs_).bind fun (s_2 : ((List Int) × Int)) =>
  some (s_2.1, s_2.2)

def t__law_cost (ages_ : (List Int)) (costs_ : (List Int)) (new_ : Int) (trench_ : Int) (plan_ : (List (List Int))) : Option Int :=
  (foldO (t__law_cost_2 costs_ new_ trench_) (ages_, (0 : Int)) plan_).bind fun (s_3 : ((List Int) × Int)) =>
  some s_3.2

theorem b__law_cost (ages_ : (List Int)) (costs_ : (List Int)) (new_ : Int) (trench_ : Int) (plan_ : (List (List Int))) : f__law_cost [((cT cI) ages_, .fz), ((cT cI) costs_, .fz), (cI new_, .fz), (cI trench_, .fz), ((cL (cT cI)) plan_, .fz)] = (t__law_cost ages_ costs_ new_ trench_ plan_).map (zz cI) :=
  fn_k (env := [some ((cT cI) ages_, .fz), some ((cT cI) costs_, .fz), some (cI new_, .fz), some (cI trench_, .fz), some ((cL (cT cI)) plan_, .fz), none, none, none, none]) rfl rfl
  (st_par (aC_k (kb (eA_k (aC_k (kb rfl (aN_k listT_l)))) (aC_k (kb (eC_I (i := 0)) (aN_k (parl (parlc rfl (parlc rfl parl0)) (st_for (kb (seqS_k (kb rfl sq_z)) (lp_o (Env := fun (s_ : ((List Int) × Int)) => [some ((cT cI) ages_, .fz), some ((cT cI) costs_, .fz), some (cI new_, .fz), some (cI trench_, .fz), some ((cL (cT cI)) plan_, .fz), none, some ((cL cI) s_.1, .ow), some (cI s_.2, .fz), none]) (s0 := (ages_, (0 : Int))) (step := t__law_cost_2 costs_ new_ trench_) rfl (fun s_ some_ => (turn_k as_nm (st_asg (ko (r := (zz cI)) (e2_k (ko (r := (zz cI)) (e2_k (kb rfl (ko (r := (zz cI)) (e2_k (kb rfl (kb (eA_k (aC_k (kb (e2_k (kb (eA_k (aC_k (kb rfl (aN_k lenT_l)))) (kb (eC_I (i := 0)) gtA_l))) (aN_k intB_l)))) mulA_t))) fun v_ => add_l))) fun v_1 => (ko (r := (zz cI)) (e2_k (kb rfl (kb (eA_k (aC_k (kb rfl (aN_k lenT_l)))) mulA_t))) fun v_2 => add_l))) fun total_ => (asgl rfl (st_last (st_for (ko (r := (fun ys : List Int => (ys.map cI, false))) (aS_k (aC_k (kb (eA_k (aC_k (kb rfl (aN_k lenL_l)))) (aN_k rg1)))) fun xs_ => (lp_o (Env := fun (s_1 : ((List Int) × Int)) => [some ((cT cI) ages_, .fz), some ((cT cI) costs_, .fz), some (cI new_, .fz), some (cI trench_, .fz), some ((cL (cT cI)) plan_, .fz), some ((cT cI) some_, .fz), some ((cL cI) s_1.1, .ow), some (cI s_1.2, .fz), none]) (s0 := (s_.1, total_)) (step := t__law_cost_1 costs_ some_) rfl (fun s_1 k_ => (turn_k as_nm (st_jn (Env := fun (now_1 : (List Int)) => [some ((cT cI) ages_, .fz), some ((cT cI) costs_, .fz), some (cI new_, .fz), some (cI trench_, .fz), some ((cL (cT cI)) plan_, .fz), some ((cT cI) some_, .fz), some ((cL cI) now_1, .ow), some (cI s_1.2, .fz), some (cI k_, .fz)]) (st_j (st_last (st_if (X := (setT s_1.1 k_ (0 : Int)).bind fun (now_ : (List Int)) =>
  some now_) (Y := some s_1.1) (tst (e2_k (kb rfl (kb rfl (inT_f (E := cI)))))) (st_set (kb (eC_I (i := 0)) (kb rfl (set_l (E := cI) (a := (0 : Int)) (f := .fz) rfl rfl fun now_ => (st_end rfl))))) (st_skip (st_end rfl))))) fun now_1 => (st_asg (ko (r := (zz cI)) (e2_k (kb rfl (ko (r := (zz cI)) (e2_k (kb rfl (ko (r := (zz cI)) (eA_k (aC_k (ko (r := (zz cI)) (e2_k (kb rfl (kb rfl ixL_l))) fun v_3 => (aC_k (kb (e2_k (kb (eA_k (aC_k (kb rfl (aN_k lenT_l)))) (kb (eC_I (i := 1)) sub_l))) (aN_k minB2_l)))))) fun v_4 => ixT_l))) fun v_5 => add_l))) fun total_1 => (asgl rfl (st_last (st_set (ko (r := (zz cI)) (e2_k (ko (r := (zz cI)) (e2_k (kb rfl (kb rfl ixL_l))) fun v_6 => (kb (eC_I (i := 1)) add_l))) fun v_7 => (kb rfl (set_l (E := cI) (a := v_7) (f := .fz) rfl rfl fun now_2 => (st_end rfl)))))))))))) (fun s_2 => (st_end rfl))))))))))) (fun s_3 => (st_last (st_ret (kb rfl (retl rfl rfl)))))))))))))))

/-! ### _law_at -/
def t__law_at_1 (least_ : Int) (s_ : ((List Int) × (List (List Int)))) (year_ : Int) : Option (((List Int) × (List (List Int)))) :=
  (((rng1T (s_.1.length : Int)).bind fun (v_1 : (List Int)) => fmO (fun (k_ : Int) => ((atI s_.1 k_).bind fun (v_ : Int) => some (decide (least_ ≤ v_))).bind fun b_ => if b_ = true then (some k_).map some else some none) v_1).bind fun (v_2 : (List Int)) => some v_2).bind fun (some_ : (List Int)) =>
  (pshT s_.2 some_).bind fun (plan_1 : (List (List Int))) =>
  ((rng1T (s_.1.length : Int)).bind fun (v_5 : (List Int)) => mapO (fun (k_1 : Int) => ((atI s_.1 k_1).bind fun (v_3 : Int) => mulT v_3 (if (!decide (k_1 ∈ some_)) = true then (1 : Int) else 0)).bind fun (v_4 : Int) => some (v_4 + (1 : Int))) v_5).bind fun (now_ : (List Int)) =>
  some (now_, plan_1)

def t__law_at (ages_ : (List Int)) (costs_ : (List Int)) (new_ : Int) (trench_ : Int) (years_ : Int) (least_ : Int) : Option Int :=
  bnd (([] : List (List Int))) fun (plan_ : (List (List Int))) =>
  (rng1T years_).bind fun (xs_ : List Int) =>
  (foldO (t__law_at_1 least_) (ages_, plan_) xs_).bind fun (s_1 : ((List Int) × (List (List Int)))) =>
  t__law_cost ages_ costs_ new_ trench_ s_1.2

theorem b__law_at (ages_ : (List Int)) (costs_ : (List Int)) (new_ : Int) (trench_ : Int) (years_ : Int) (least_ : Int) : f__law_at [((cT cI) ages_, .fz), ((cT cI) costs_, .fz), (cI new_, .fz), (cI trench_, .fz), (cI years_, .fz), (cI least_, .fz)] = (t__law_at ages_ costs_ new_ trench_ years_ least_).map (zz cI) :=
  fn_k (env := [some ((cT cI) ages_, .fz), some ((cT cI) costs_, .fz), some (cI new_, .fz), some (cI trench_, .fz), some (cI years_, .fz), some (cI least_, .fz), none, none, none, none, none]) rfl rfl
  (st_par (aC_k (kb (eA_k (aC_k (kb rfl (aN_k listT_l)))) (aC_k (kbb (r := (ww (cL (cT cI)))) (eA_k (aN_k (lst0 (E := (cT cI))))) fun plan_ => (aN_k (parl (parlc rfl (parlc rfl parl0)) (st_for (ko (r := (fun ys : List Int => (ys.map cI, false))) (aS_k (aC_k (kb rfl (aN_k rg1)))) fun xs_ => (lp_o (Env := fun (s_ : ((List Int) × (List (List Int)))) => [some ((cT cI) ages_, .fz), some ((cT cI) costs_, .fz), some (cI new_, .fz), some (cI trench_, .fz), some (cI years_, .fz), some (cI least_, .fz), none, some ((cL cI) s_.1, .fz), some ((cL (cT cI)) s_.2, .ow), none, none]) (s0 := (ages_, plan_)) (step := t__law_at_1 least_) rfl (fun s_ year_ => (turn_k as_nm (st_asg (ko (r := (zz (cT cI))) (eA_k (aC_k (ko (r := (ww (cL cI))) (lc_k (ko (r := (fun ys : List Int => (ys.map cI, false))) (aS_k (aC_k (kb (eA_k (aC_k (kb rfl (aN_k lenL_l)))) (aN_k rg1)))) fun v_1 => (lg_o (g_fmO (k := fun (k_ : Int) => ((atI s_.1 k_).bind fun (v_ : Int) => some (decide (least_ ≤ v_))).bind fun b_ => if b_ = true then (some k_).map some else some none) (F := cI) fun k_ => lcF_k as_nm (lfi_oo (t := some k_) (F := cI) (tst_o (e2_k (ko (r := (zz cI)) (e2_k (kb rfl (kb rfl ixL_l))) fun v_ => (kb rfl geA_l)))) rfl))))) fun v_2 => (aN_k tupL_l)))) fun some_ => (asgl rfl (st_app (aC_k (kb rfl (aN_k (app_l (E := (cT cI)) (a := some_) (f := .fz) rfl rfl fun plan_1 => (st_last (st_asg (ko (r := (ww (cL cI))) (lc_k (ko (r := (fun ys : List Int => (ys.map cI, false))) (aS_k (aC_k (kb (eA_k (aC_k (kb rfl (aN_k lenL_l)))) (aN_k rg1)))) fun v_5 => (lg_o (g_mapO (k := fun (k_1 : Int) => ((atI s_.1 k_1).bind fun (v_3 : Int) => mulT v_3 (if (!decide (k_1 ∈ some_)) = true then (1 : Int) else 0)).bind fun (v_4 : Int) => some (v_4 + (1 : Int))) (F := cI) fun k_1 => lcF_k as_nm (ly_o (f := .fz) (e2_k (ko (r := (zz cI)) (e2_k (ko (r := (zz cI)) (e2_k (kb rfl (kb rfl ixL_l))) fun v_3 => (kb (eA_k (aC_k (kb (e2_k (kb rfl (kb rfl (inT_n (E := cI))))) (aN_k intB_l)))) mulA_t))) fun v_4 => (kb (eC_I (i := 1)) add_l)))))))) fun now_ => (asgl rfl (st_end rfl))))))))))))))) (fun s_1 => (st_last (st_pre (st_ret (koe (r := (zz cI)) (eA_k (aC_k (kb rfl (aC_k (kb rfl (aC_k (kb rfl (aC_k (kb rfl (aC_k (kb rfl (aN_k (b__law_cost ages_ costs_ new_ trench_ s_1.2))))))))))))) fun _ => (retl rfl rfl))))))))))))))))

/-! ### plan_sum -/
def t_plan_sum_1 (costs_ : (List Int)) (chosen_ : (List Int)) (s_1 : ((List Int) × Int)) (pipe_ : Int) : Option (((List Int) × Int)) :=
  (if (decide (pipe_ ∈ chosen_)) = true then some (0 : Int) else atI s_1.1 pipe_).bind fun (v_1 : Int) => (setT s_1.1 pipe_ v_1).bind fun (ages_1 : (List Int)) =>
  ((atI ages_1 pipe_).bind fun (v_2 : Int) => t_cost_at costs_ v_2).bind fun (v_3 : Int) => bnd (s_1.2 + v_3) fun (total_1 : Int) =>
  (augT (fun i j => i + j) ages_1 pipe_ (1 : Int)).bind fun (ages_2 : (List Int)) =>
  some (ages_2, total_1)

def t_plan_sum_2 (costs_ : (List Int)) (new_ : Int) (trench_ : Int) (s_ : ((List Int) × Int)) (chosen_ : (List Int)) : Option (((List Int) × Int)) :=
  ((mulT new_ (chosen_.length : Int)).bind fun (v_ : Int) => some ((if (!chosen_.isEmpty) = true then trench_ else (0 : Int)) + v_)).bind fun (v_4 : Int) => bnd (s_.2 + v_4) fun (total_ : Int) =>
  (rng1T (s_.1.length : Int)).bind fun (xs_ : List Int) =>
  (foldO (t_plan_sum_1 costs_ chosen_) (s_.1, total_) xs_).bind fun (s_2 : ((List Int) × Int)) =>
  some (s_2.1, s_2.2)

def t_plan_sum (ages_ : (List Int)) (costs_ : (List Int)) (new_ : Int) (trench_ : Int) (plan_ : (List (List Int))) : Option Int :=
  (foldO (t_plan_sum_2 costs_ new_ trench_) (ages_, (0 : Int)) plan_).bind fun (s_3 : ((List Int) × Int)) =>
  some s_3.2

theorem b_plan_sum (ages_ : (List Int)) (costs_ : (List Int)) (new_ : Int) (trench_ : Int) (plan_ : (List (List Int))) : f_plan_sum [((cT cI) ages_, .fz), ((cT cI) costs_, .fz), (cI new_, .fz), (cI trench_, .fz), ((cL (cT cI)) plan_, .fz)] = (t_plan_sum ages_ costs_ new_ trench_ plan_).map (zz cI) :=
  fn_k (env := [some ((cT cI) ages_, .fz), some ((cT cI) costs_, .fz), some (cI new_, .fz), some (cI trench_, .fz), some ((cL (cT cI)) plan_, .fz), none, none, none]) rfl rfl
  (st_par (aC_k (kb (eA_k (aC_k (kb rfl (aN_k listT_l)))) (aC_k (kb (eC_I (i := 0)) (aN_k (parl (parlc rfl (parlc rfl parl0)) (st_for (kb (seqS_k (kb rfl sq_z)) (lp_o (Env := fun (s_ : ((List Int) × Int)) => [some ((cL cI) s_.1, .ow), some ((cT cI) costs_, .fz), some (cI new_, .fz), some (cI trench_, .fz), some ((cL (cT cI)) plan_, .fz), none, some (cI s_.2, .fz), none]) (s0 := (ages_, (0 : Int))) (step := t_plan_sum_2 costs_ new_ trench_) rfl (fun s_ chosen_ => (turn_k as_nm (st_aug1o rfl (e2_k (kb (eIf_l (E := cI) (tru_l' rfl truT) rfl (eC_I (i := 0))) (ko (r := (zz cI)) (e2_k (kb rfl (kb (eA_k (aC_k (kb rfl (aN_k lenT_l)))) mulA_t))) fun v_ => add_l))) fun total_ => (st_last (st_for (ko (r := (fun ys : List Int => (ys.map cI, false))) (aS_k (aC_k (kb (eA_k (aC_k (kb rfl (aN_k lenL_l)))) (aN_k rg1)))) fun xs_ => (lp_o (Env := fun (s_1 : ((List Int) × Int)) => [some ((cL cI) s_1.1, .ow), some ((cT cI) costs_, .fz), some (cI new_, .fz), some (cI trench_, .fz), some ((cL (cT cI)) plan_, .fz), some ((cT cI) chosen_, .fz), some (cI s_1.2, .fz), none]) (s0 := (s_.1, total_)) (step := t_plan_sum_1 costs_ chosen_) rfl (fun s_1 pipe_ => (turn_k as_nm (st_set (ko (r := (zz cI)) (eIf_o (r := (zz cI)) (x := some (0 : Int)) (y := atI s_1.1 pipe_) (tst (e2_k (kb rfl (kb rfl (inT_f (E := cI)))))) (eC_I (i := 0)) (e2_k (kb rfl (kb rfl ixL_l)))) fun v_1 => (kb rfl (set_l (E := cI) (a := v_1) (f := .fz) rfl rfl fun ages_1 => (st_aug1o rfl (eA_k (aC_k (kb rfl (aC_k (ko (r := (zz cI)) (e2_k (kb rfl (kb rfl ixL_l))) fun v_2 => (aN_k (b_cost_at costs_ v_2))))))) fun total_1 => (st_last (st_augS (kb rfl (asI_k (kb (eC_I (i := 1)) (asI_k (aug_l rfl fun ages_2 => (st_end rfl))))))))))))))) (fun s_2 => (st_end rfl))))))))) (fun s_3 => (st_last (st_ret (kb rfl (retl rfl rfl)))))))))))))))

/-! ### renew_at -/
def t_renew_at_1 (age_ : Int) (s_ : ((List Int) × (List (List Int)))) (__ : Int) : Option (((List Int) × (List (List Int)))) :=
  bnd (((enumI s_.1).filter fun (p_ : (Int × Int)) => decide (age_ ≤ p_.2)).map fun (p_ : (Int × Int)) => p_.1) fun (chosen_ : (List Int)) =>
  (pshT s_.2 chosen_).bind fun (plan_1 : (List (List Int))) =>
  some (bnd ((enumI s_.1).map fun (p_1 : (Int × Int)) => if (decide (p_1.1 ∈ chosen_)) = true then (1 : Int) else p_1.2 + (1 : Int)) fun (rows_ : (List Int)) =>
  (rows_, plan_1))

def t_renew_at (ages_ : (List Int)) (costs_ : (List Int)) (new_ : Int) (trench_ : Int) (years_ : Int) (age_ : Int) : Option Int :=
  bnd (([] : List (List Int))) fun (plan_ : (List (List Int))) =>
  (rng1T years_).bind fun (xs_ : List Int) =>
  (foldO (t_renew_at_1 age_) (ages_, plan_) xs_).bind fun (s_1 : ((List Int) × (List (List Int)))) =>
  t_plan_sum ages_ costs_ new_ trench_ s_1.2

theorem b_renew_at (ages_ : (List Int)) (costs_ : (List Int)) (new_ : Int) (trench_ : Int) (years_ : Int) (age_ : Int) : f_renew_at [((cT cI) ages_, .fz), ((cT cI) costs_, .fz), (cI new_, .fz), (cI trench_, .fz), (cI years_, .fz), (cI age_, .fz)] = (t_renew_at ages_ costs_ new_ trench_ years_ age_).map (zz cI) :=
  fn_k (env := [some ((cT cI) ages_, .fz), some ((cT cI) costs_, .fz), some (cI new_, .fz), some (cI trench_, .fz), some (cI years_, .fz), some (cI age_, .fz), none, none, none, none, none, none]) rfl rfl
  (st_par (aC_k (kb (eA_k (aC_k (kb rfl (aN_k listT_l)))) (aC_k (kbb (r := (ww (cL (cT cI)))) (eA_k (aN_k (lst0 (E := (cT cI))))) fun plan_ => (aN_k (parl (parlc rfl (parlc rfl parl0)) (st_for (ko (r := (fun ys : List Int => (ys.map cI, false))) (aS_k (aC_k (kb rfl (aN_k rg1)))) fun xs_ => (lp_o (Env := fun (s_ : ((List Int) × (List (List Int)))) => [some ((cT cI) ages_, .fz), some ((cT cI) costs_, .fz), some (cI new_, .fz), some (cI trench_, .fz), some (cI years_, .fz), some (cI age_, .fz), none, some ((cL cI) s_.1, .fz), some ((cL (cT cI)) s_.2, .ow), none, none, none]) (s0 := (ages_, plan_)) (step := t_renew_at_1 age_) rfl (fun s_ __ => (turn_k as_nm (st_asg (kbb (r := (zz (cT cI))) (eA_k (aC_k (kb (lc_k (kb (aS_k (aC_k (kb rfl (aN_k en_z)))) (lg_p (g_filt (p := fun (p_ : (Int × Int)) => decide (age_ ≤ p_.2)) (k := fun (p_ : (Int × Int)) => p_.1) (F := cI) fun p_ => lcF_k (as_p2 as_nm as_nm) (lfi (tst (e2_k (kb rfl (kb rfl geA_l)))) rfl))))) (aN_k tupL_l)))) fun chosen_ => (asgl rfl (st_app (aC_k (kb rfl (aN_k (app_l (E := (cT cI)) (a := chosen_) (f := .fz) rfl rfl fun plan_1 => (st_last (st_asg (kbbp (r := (ww (cL cI))) (lc_k (kb (aS_k (aC_k (kb rfl (aN_k en_z)))) (lg_p (g_map (k := fun (p_1 : (Int × Int)) => if (decide (p_1.1 ∈ chosen_)) = true then (1 : Int) else p_1.2 + (1 : Int)) (F := cI) fun p_1 => lcF_k (as_p2 as_nm as_nm) (ly (eIf_l (E := cI) (tst (e2_k (kb rfl (kb rfl (inT_f (E := cI)))))) (eC_I (i := 1)) (e2_k (kb rfl (kb (eC_I (i := 1)) add_l))))))))) fun rows_ => (asgl rfl (st_end rfl))))))))))))))) (fun s_1 => (st_last (st_pre (st_ret (koe (r := (zz cI)) (eA_k (aC_k (kb rfl (aC_k (kb rfl (aC_k (kb rfl (aC_k (kb rfl (aC_k (kb rfl (aN_k (b_plan_sum ages_ costs_ new_ trench_ s_1.2))))))))))))) fun _ => (retl rfl rfl))))))))))))))))

/-! ### best_age -/
def t_best_age (ages_ : (List Int)) (costs_ : (List Int)) (new_ : Int) (trench_ : Int) (years_ : Int) : Option Int :=
  (((maxT ltI ages_).bind fun (v_ : Int) => some (v_ + years_)).bind fun (v_1 : Int) => some (v_1 + (1 : Int))).bind fun (most_ : Int) =>
  (((rng2T (1 : Int) (most_ + (1 : Int))).bind fun (v_3 : (List Int)) => mapO (fun (age_ : Int) => (t_renew_at ages_ costs_ new_ trench_ years_ age_).bind fun (v_2 : Int) => some (v_2, age_)) v_3).bind fun (v_4 : (List (Int × Int))) => minT (ltP ltI ltI) v_4).bind fun (v_5 : (Int × Int)) => some v_5.2

theorem b_best_age (ages_ : (List Int)) (costs_ : (List Int)) (new_ : Int) (trench_ : Int) (years_ : Int) : f_best_age [((cT cI) ages_, .fz), ((cT cI) costs_, .fz), (cI new_, .fz), (cI trench_, .fz), (cI years_, .fz)] = (t_best_age ages_ costs_ new_ trench_ years_).map (zz cI) :=
  fn_k (env := [some ((cT cI) ages_, .fz), some ((cT cI) costs_, .fz), some (cI new_, .fz), some (cI trench_, .fz), some (cI years_, .fz), none, none]) rfl rfl
  (st_asg (ko (r := (zz cI)) (e2_k (ko (r := (zz cI)) (e2_k (ko (r := (zz cI)) (eA_k (aC_k (kb rfl (aN_k maxT_l)))) fun v_ => (kb rfl add_l))) fun v_1 => (kb (eC_I (i := 1)) add_l))) fun most_ => (asgl rfl (st_last (st_ret (koe (r := (zz cI)) (e2_k (ko (r := (zz (cP2 cI cI))) (eA_k (aC_k (ko (r := (ww (cL (cP2 cI cI)))) (lc_k (ko (r := (fun ys : List Int => (ys.map cI, false))) (aS_k (aC_k (kb (eC_I (i := 1)) (aC_k (kb (e2_k (kb rfl (kb (eC_I (i := 1)) add_l))) (aN_k rg2)))))) fun v_3 => (lg_o (g_mapO (k := fun (age_ : Int) => (t_renew_at ages_ costs_ new_ trench_ years_ age_).bind fun (v_2 : Int) => some (v_2, age_)) (F := (cP2 cI cI)) fun age_ => lcF_k as_nm (ly_o (f := .fz) (eA_k (aC_k (ko (r := (zz cI)) (eA_k (aC_k (kb rfl (aC_k (kb rfl (aC_k (kb rfl (aC_k (kb rfl (aC_k (kb rfl (aC_k (kb rfl (aN_k (b_renew_at ages_ costs_ new_ trench_ years_ age_))))))))))))))) fun v_2 => (aC_k (kb rfl (aN_k (tup2 (E := cI) (F := cI))))))))))))) fun v_4 => (aN_k minBL_l)))) fun v_5 => (kb rfl ix2_1))) fun _ => (retl rfl rfl)))))))

/-! ### least_looks -/
def t_least_looks_1 (n_ : Int) (most_ : Int) (s_ : ((List Int) × Int)) : Option (((List Int) × Int)) :=
  bnd (minI (s_.2 + most_) (n_ - (1 : Int))) fun (look_ : Int) =>
  (pshT s_.1 look_).bind fun (found_ : (List Int)) =>
  some (bnd (look_ + (1 : Int)) fun (day_ : Int) =>
  (found_, day_))

def t_least_looks (n_ : Int) (most_ : Int) : Option (List Int) :=
  (whileS (fun (s_ : ((List Int) × Int)) => some (decide (s_.2 < n_))) (t_least_looks_1 n_ most_) fuel (([] : List Int), (0 : Int))).bind fun (s_1 : ((List Int) × Int)) =>
  some s_1.1

theorem b_least_looks (n_ : Int) (most_ : Int) : f_least_looks [(cI n_, .fz), (cI most_, .fz)] = (t_least_looks n_ most_).map (zz (cT cI)) :=
  fn_k (env := [some (cI n_, .fz), some (cI most_, .fz), none, none, none]) rfl rfl
  (st_par (aC_k (kb (eA_k (aN_k (lst0 (E := cI)))) (aC_k (kb (eC_I (i := 0)) (aN_k (parl (parlc rfl (parlc rfl parl0)) (st_wh (Env := fun (s_ : ((List Int) × Int)) => [some (cI n_, .fz), some (cI most_, .fz), some ((cL cI) s_.1, .ow), some (cI s_.2, .fz), none]) (s0 := (([] : List Int), (0 : Int))) (ct := (fun (s_ : ((List Int) × Int)) => some (decide (s_.2 < n_)))) (step := t_least_looks_1 n_ most_) rfl (fun s_ => (tst (e2_k (kb rfl (kb rfl ltI_l))))) (fun s_ => (st_asg (kbb (r := (zz cI)) (eA_k (aC_k (kb (e2_k (kb rfl (kb rfl add_l))) (aC_k (kb (e2_k (kb rfl (kb (eC_I (i := 1)) sub_l))) (aN_k minB2_l)))))) fun look_ => (asgl rfl (st_app (aC_k (kb rfl (aN_k (app_l (E := cI) (a := look_) (f := .fz) rfl rfl fun found_ => (st_last (st_asg (kbbp (r := (zz cI)) (e2_k (kb rfl (kb (eC_I (i := 1)) add_l))) fun day_ => (asgl rfl (st_end rfl)))))))))))))) (fun s_1 => (st_last (st_ret (kb (eA_k (aC_k (kb rfl (aN_k tupL_l)))) (retl rfl rfl)))))))))))))

/-! ### _law_late -/
def t__law_late_1 (years_ : Int) (age_ : Int) (s_ : ((List Int) × Int)) (turn_ : Int) : Option (((List Int) × Int)) :=
  (orO (some (decide ((s_.1.length : Int) = (0 : Int)))) ((atI s_.1 ((s_.1.length : Int) - (1 : Int))).bind fun (v_3 : Int) => some (decide (v_3 < years_ - (1 : Int))))).bind fun b_ => if b_ = true then (pshT s_.1 (minI s_.2 (years_ - (1 : Int)))).bind fun (looks_ : (List Int)) =>
  some (bnd (s_.2 + age_) fun (day_1 : Int) =>
  (looks_, day_1))
  else some (s_.1, s_.2)

def t__law_late_2 (years_ : Int) (plan_1 : (List (List Int))) (look_ : Int) : Option ((List (List Int))) :=
  if (decide (look_ < years_ - (1 : Int))) = true then (setT plan_1 (look_ + (1 : Int)) [(0 : Int)]).bind fun (plan_2 : (List (List Int))) =>
  some plan_2
  else some plan_1

def t__law_late_e1 (new_ : Int) (trench_ : Int) (years_ : Int) (age_ : Int) (s_1 : ((List Int) × Int)) : Option Bool :=
  (repT [([] : (List Int))] years_).bind fun (plan_ : (List (List Int))) =>
  (foldO (t__law_late_2 years_) plan_ s_1.1).bind fun (plan_3 : (List (List Int))) =>
  ((repA [(0 : Int)] age_).bind fun (v_5 : (List Int)) => catT v_5 [(100 : Int)]).bind fun (costs_ : (List Int)) =>
  bnd ((((plan_3.filter fun (some_ : (List Int)) => decide ((0 : Int) < (some_.length : Int))).map fun (some_ : (List Int)) => (1 : Int)).length : Int)) fun (many_ : Int) =>
  ((t_renew_least [(0 : Int)] costs_ ((1 : Int) + new_) trench_ years_).map fun (c_1 : (Int × (List (List Int)))) => (cP2 cI (cT (cT cI))) c_1).bind fun (v_7 : D) => (((mulT (((1 : Int) + new_) + trench_) many_).bind fun (v_6 : Int) => some (v_6, plan_3)).map fun (c_2 : (Int × (List (List Int)))) => (cP2 cI (cT (cT cI))) c_2).bind fun (v_8 : D) => t__law_like v_7 v_8

def t__law_late (row_ : (List Int)) (new_ : Int) (trench_ : Int) (years_ : Int) : Option Bool :=
  ((((atI row_ (20 : Int)).bind fun (v_ : Int) => some v_).bind fun (v_1 : Int) => some (Int.fmod v_1 (4 : Int))).bind fun (v_2 : Int) => some ((1 : Int) + v_2)).bind fun (age_ : Int) =>
  bnd (age_ - (1 : Int)) fun (day_ : Int) =>
  (rng1T years_).bind fun (xs_ : List Int) =>
  (foldO (t__law_late_1 years_ age_) (([] : List Int), day_) xs_).bind fun (s_1 : ((List Int) × Int)) =>
  ((((t_least_looks years_ (age_ - (1 : Int))).map fun (c_ : (List Int)) => (cT cI) c_).bind fun (v_4 : D) => t__law_like v_4 ((cT cI) s_1.1)).map (!·)).bind fun b_ => if b_ = true then some false
  else t__law_late_e1 new_ trench_ years_ age_ s_1

theorem b__law_late (row_ : (List Int)) (new_ : Int) (trench_ : Int) (years_ : Int) : f__law_late [((cL cI) row_, .fz), (cI new_, .fz), (cI trench_, .fz), (cI years_, .fz)] = (t__law_late row_ new_ trench_ years_).map (zz cB) :=
  fn_k (env := [some ((cL cI) row_, .fz), some (cI new_, .fz), some (cI trench_, .fz), some (cI years_, .fz), none, none, none, none, none, none, none, none, none]) rfl rfl
  (st_asg (ko (r := (zz cI)) (e2_k (kb (eC_I (i := 1)) (ko (r := (zz cI)) (e2_k (ko (r := (zz cI)) (eA_k (aC_k (ko (r := (zz cI)) (e2_k (kb rfl (kb (eC_I (i := 20)) ixL_l))) fun v_ => (aN_k int_l)))) fun v_1 => (kb (eC_I (i := 4)) (modc_l (by decide))))) fun v_2 => add_l))) fun age_ => (asgl rfl (st_par (aC_k (kb (eA_k (aN_k (lst0 (E := cI)))) (aC_k (kbb (r := (zz cI)) (e2_k (kb rfl (kb (eC_I (i := 1)) sub_l))) fun day_ => (aN_k (parl (parlc rfl (parlc rfl parl0)) (st_for (ko (r := (fun ys : List Int => (ys.map cI, false))) (aS_k (aC_k (kb rfl (aN_k rg1)))) fun xs_ => (lp_o (Env := fun (s_ : ((List Int) × Int)) => [some ((cL cI) row_, .fz), some (cI new_, .fz), some (cI trench_, .fz), some (cI years_, .fz), some (cI age_, .fz), none, none, none, some ((cL cI) s_.1, .ow), some (cI s_.2, .fz), none, none, none]) (s0 := (([] : List Int), day_)) (step := t__law_late_1 years_ age_) rfl (fun s_ turn_ => (turn_k as_nm (st_last (st_ifO (X := (pshT s_.1 (minI s_.2 (years_ - (1 : Int)))).bind fun (looks_ : (List Int)) =>
  some (bnd (s_.2 + age_) fun (day_1 : Int) =>
  (looks_, day_1))) (Y := some (s_.1, s_.2)) (bor_o (ta := (some (decide ((s_.1.length : Int) = (0 : Int))))) (tb := ((atI s_.1 ((s_.1.length : Int) - (1 : Int))).bind fun (v_3 : Int) => some (decide (v_3 < years_ - (1 : Int))))) (tst (e2_k (kb (eA_k (aC_k (kb rfl (aN_k lenL_l)))) (kb (eC_I (i := 0)) eq_l)))) (tst_o (e2_k (ko (r := (zz cI)) (e2_k (kb rfl (kb (e2_k (kb (eA_k (aC_k (kb rfl (aN_k lenL_l)))) (kb (eC_I (i := 1)) sub_l))) ixL_l))) fun v_3 => (kb (e2_k (kb rfl (kb (eC_I (i := 1)) sub_l))) ltI_l))))) (st_assoc (st_app (aC_k (kb (eA_k (aC_k (kb rfl (aC_k (kb (e2_k (kb rfl (kb (eC_I (i := 1)) sub_l))) (aN_k minB2_l)))))) (aN_k (app_l (E := cI) (a := minI s_.2 (years_ - (1 : Int))) (f := .fz) rfl rfl fun looks_ => (st_asg (kbbp (r := (zz cI)) (e2_k (kb rfl (kb rfl add_l))) fun day_1 => (asgl rfl (st_end rfl)))))))))) (st_skip (st_end rfl)))))) (fun s_1 => (st_ifO (X := some false) (Y := t__law_late_e1 new_ trench_ years_ age_ s_1) (bnot_o (truB_o (eA_k (aC_k (ko (r := (zz cD)) (co_o (F := cD) (fun (c_ : (List Int)) => (cT cI) c_) (fun _ => rfl) (eA_k (aC_k (kb rfl (aC_k (kb (e2_k (kb rfl (kb (eC_I (i := 1)) sub_l))) (aN_k (b_least_looks years_ (age_ - (1 : Int)))))))))) fun v_4 => (aC_k (kb (co_p (F := cD) (y := ((cT cI) s_1.1)) rfl (eA_k (aC_k (kb rfl (aN_k tupL_l))))) (aN_k (b__law_like _ _ rfl rfl))))))))) (st_ret (kb (eC_B (b := false)) (retl rfl rfl))) (st_skip (st_asg (ko (r := (ww (cL (cT cI)))) (e2_k (kb (eA_k (aC_k (kb (eA_k (aN_k (tupT0 (E := cI)))) (aN_k (lst1 (E := (cT cI))))))) (kb rfl (repLA_l rfl)))) fun plan_ => (asgl rfl (nrm (e' := [some ((cL cI) row_, .fz), some (cI new_, .fz), some (cI trench_, .fz), some (cI years_, .fz), some (cI age_, .fz), none, some ((cL (cT cI)) plan_, .ow), none, some ((cL cI) s_1.1, .ow), some (cI s_1.2, .fz), none, none, none]) rfl (st_pre (st_for (kb (seqS_k (kb rfl sq_z)) (lp_o (Env := fun (plan_1 : (List (List Int))) => [some ((cL cI) row_, .fz), some (cI new_, .fz), some (cI trench_, .fz), some (cI years_, .fz), some (cI age_, .fz), none, some ((cL (cT cI)) plan_1, .ow), none, some ((cL cI) s_1.1, .fz), some (cI s_1.2, .fz), none, none, none]) (s0 := plan_) (step := t__law_late_2 years_) rfl (fun plan_1 look_ => (turn_k as_nm (st_last (st_if (X := (setT plan_1 (look_ + (1 : Int)) [(0 : Int)]).bind fun (plan_2 : (List (List Int))) =>
  some plan_2) (Y := some plan_1) (tst (e2_k (kb rfl (kb (e2_k (kb rfl (kb (eC_I (i := 1)) sub_l))) ltI_l)))) (st_set (kb (eA_k (aC_k (kb (eC_I (i := 0)) (aN_k (tupT1 (E := cI)))))) (kb (e2_k (kb rfl (kb (eC_I (i := 1)) add_l))) (set_l (E := (cT cI)) (a := [(0 : Int)]) (f := .fz) rfl rfl fun plan_2 => (st_end rfl))))) (st_skip (st_end rfl)))))) (fun plan_3 => (st_par (aC_k (ko (r := (zz (cT cI))) (e2_k (ko (r := (zz (cT cI))) (e2_k (kb (eA_k (aC_k (kb (eC_I (i := 0)) (aN_k (tupT1 (E := cI)))))) (kb rfl repA_l))) fun v_5 => (kb (eA_k (aC_k (kb (eC_I (i := 100)) (aN_k (tupT1 (E := cI)))))) catT_l))) fun costs_ => (aC_k (kbb (r := (zz cI)) (eA_k (aC_k (kb (lc_k (kb (seqS_k (kb rfl sq_b)) (lg_p (g_filt (p := fun (some_ : (List Int)) => decide ((0 : Int) < (some_.length : Int))) (k := fun (some_ : (List Int)) => (1 : Int)) (F := cI) fun some_ => lcF_k as_nm (lfi (tst (e2_k (kb (eA_k (aC_k (kb rfl (aN_k lenT_l)))) (kb (eC_I (i := 0)) gtA_l)))) (eC_I (i := 1))))))) (aN_k lenL_l)))) fun many_ => (aN_k (parl (parlc rfl (parlc rfl parl0)) (st_last (st_ret (koe (r := (zz cB)) (eA_k (aC_k (ko (r := (zz cD)) (co_o (F := cD) (fun (c_1 : (Int × (List (List Int)))) => (cP2 cI (cT (cT cI))) c_1) (fun _ => rfl) (eA_k (aC_k (kb (eA_k (aC_k (kb (eC_I (i := 0)) (aN_k (tupT1 (E := cI)))))) (aC_k (kb rfl (aC_k (kb (e2_k (kb (eC_I (i := 1)) (kb rfl add_l))) (aC_k (kb rfl (aC_k (kb rfl (aN_k (b_renew_least [(0 : Int)] costs_ ((1 : Int) + new_) trench_ years_)))))))))))))) fun v_7 => (aC_k (ko (r := (zz cD)) (co_o (F := cD) (fun (c_2 : (Int × (List (List Int)))) => (cP2 cI (cT (cT cI))) c_2) (fun _ => rfl) (eA_k (aC_k (ko (r := (zz cI)) (e2_k (kb (e2_k (kb (e2_k (kb (eC_I (i := 1)) (kb rfl add_l))) (kb rfl add_l))) (kb rfl mulA_t))) fun v_6 => (aC_k (kb (eA_k (aC_k (kb rfl (aN_k tupL_l)))) (aN_k (tup2 (E := cI) (F := (cT (cT cI))))))))))) fun v_8 => (aN_k (b__law_like _ _ rfl rfl))))))) fun _ => (retl rfl rfl))))))))))))))))))))))))))))))))))))

/-! ### law -/
def t_law_1 (s_ : (Int × Int)) (ages_ : (List Int)) (costs_2 : (List Int)) (new_ : Int) (trench_ : Int) (sums_ : (List Int)) (s_1 : Unit) (k_2 : Int) : Option (Ctl Unit Bool) :=
  ((((t_renew_at ages_ costs_2 new_ trench_ s_.2 ((1 : Int) + k_2)).map fun (c_5 : Int) => cI c_5).bind fun (v_45 : D) => ((atI sums_ k_2).map fun (c_6 : Int) => cI c_6).bind fun (v_46 : D) => t__law_like v_45 v_46).map (!·)).bind fun b_ => if b_ = true then some (Ctl.rt false)
  else some (Ctl.nx ())

def t_law_e1 (row_ : (List Int)) (s_ : (Int × Int)) (ages_ : (List Int)) (costs_2 : (List Int)) (new_ : Int) (trench_ : Int) : Option Bool :=
  (((((maxT ltI ages_).bind fun (v_37 : Int) => some (v_37 + s_.2)).bind fun (v_38 : Int) => some (v_38 + (2 : Int))).bind fun (v_39 : Int) => rng2T (1 : Int) v_39).bind fun (v_40 : (List Int)) => mapO (fun (least_ : Int) => t__law_at ages_ costs_2 new_ trench_ s_.2 least_) v_40).bind fun (sums_ : (List Int)) =>
  (((((atI row_ (14 : Int)).bind fun (v_41 : Int) => some v_41).bind fun (v_42 : Int) => modT v_42 (sums_.length : Int)).bind fun (v_43 : Int) => some [(0 : Int), v_43, (sums_.length : Int) - (1 : Int)]).bind fun (v_44 : (List Int)) => some v_44).bind fun (xs_ : List Int) =>
  (loopO (t_law_1 s_ ages_ costs_2 new_ trench_ sums_) () xs_).bind (Lp.el (fun (s_2 : Unit) =>
  ((((t_best_age ages_ costs_2 new_ trench_ s_.2).map fun (c_7 : Int) => cI c_7).bind fun (v_49 : D) => ((((minT ltI sums_).bind fun (v_47 : Int) => idxD sums_ v_47).bind fun (v_48 : Int) => some ((1 : Int) + v_48)).map fun (c_8 : Int) => cI c_8).bind fun (v_50 : D) => t__law_like v_49 v_50).map (!·)).bind fun b_ => if b_ = true then some false
  else ((((atI row_ (21 : Int)).bind fun (v_51 : Int) => some v_51).bind fun (v_52 : Int) => some (Int.fmod v_52 (5 : Int))).bind fun (v_53 : Int) => some ((1 : Int) + v_53)).bind fun (v_54 : Int) => t__law_late row_ new_ trench_ v_54) (fun (r_ : Bool) => some r_))

def t_law_e2 (row_ : (List Int)) (s_ : (Int × Int)) (ages_ : (List Int)) (costs_2 : (List Int)) (new_ : Int) (trench_ : Int) : Option Bool :=
  (t__law_alone ages_ costs_2 new_ (0 : Int) s_.2).bind fun (single_ : Int) =>
  (((((t_renew_least ages_ costs_2 new_ (0 : Int) s_.2).bind fun (v_34 : (Int × (List (List Int)))) => some v_34.1).map fun (c_3 : Int) => cI c_3).bind fun (v_35 : D) => t__law_like v_35 (cI single_)).map (!·)).bind fun b_ => if b_ = true then some false
  else ((((t_renew_alone ages_ costs_2 new_ (0 : Int) s_.2).map fun (c_4 : Int) => cI c_4).bind fun (v_36 : D) => t__law_like v_36 (cI single_)).map (!·)).bind fun b_ => if b_ = true then some false
  else t_law_e1 row_ s_ ages_ costs_2 new_ trench_

def t_law_e3 (row_ : (List Int)) (s_ : (Int × Int)) (ages_ : (List Int)) (costs_2 : (List Int)) (new_ : Int) (trench_ : Int) : Option Bool :=
  ((((t_renew_least ages_ costs_2 new_ trench_ s_.2).map fun (c_ : (Int × (List (List Int)))) => (cP2 cI (cT (cT cI))) c_).bind fun (v_31 : D) => ((t__law_least ages_ costs_2 new_ trench_ s_.2).map fun (c_1 : (Int × (List (List Int)))) => (cP2 cI (cT (cT cI))) c_1).bind fun (v_32 : D) => t__law_like v_31 v_32).map (!·)).bind fun b_ => if b_ = true then some false
  else (t__law_alone ages_ costs_2 new_ trench_ s_.2).bind fun (alone_ : Int) =>
  ((((t_renew_alone ages_ costs_2 new_ trench_ s_.2).map fun (c_2 : Int) => cI c_2).bind fun (v_33 : D) => t__law_like v_33 (cI alone_)).map (!·)).bind fun b_ => if b_ = true then some false
  else t_law_e2 row_ s_ ages_ costs_2 new_ trench_

def t_law (script_ : (List Int)) : Option Bool :=
  (t__law_row script_ (30 : Int)).bind fun (row_ : (List Int)) =>
  ((((atI row_ (0 : Int)).bind fun (v_ : Int) => some v_).bind fun (v_1 : Int) => some (Int.fmod v_1 (3 : Int))).bind fun (v_2 : Int) => some ((1 : Int) + v_2)).bind fun (count_ : Int) =>
  ((((atI row_ (1 : Int)).bind fun (v_3 : Int) => some v_3).bind fun (v_4 : Int) => (atI [(5 : Int), (4 : Int), (2 : Int)] (count_ - (1 : Int))).bind fun (v_5 : Int) => modT v_4 v_5).bind fun (v_6 : Int) => some ((1 : Int) + v_6)).bind fun (years_ : Int) =>
  ((((atI row_ (2 : Int)).bind fun (v_7 : Int) => some v_7).bind fun (v_8 : Int) => some (Int.fmod v_8 (16 : Int))).bind fun (v_9 : Int) => some (decide (v_9 = (5 : Int)))).bind fun (large_ : Bool) =>
  (if large_ = true then ((((atI row_ (1 : Int)).bind fun (v_10 : Int) => some v_10).bind fun (v_11 : Int) => some (Int.fmod v_11 (2 : Int))).bind fun (v_12 : Int) => some ((4 : Int) + v_12)).bind fun (years_1 : Int) =>
  some ((3 : Int), years_1)
  else some (count_, years_)).bind fun (s_ : (Int × Int)) =>
  (((rng1T s_.1).bind fun (v_15 : (List Int)) => mapO (fun (k_ : Int) => ((atI row_ ((3 : Int) + k_)).bind fun (v_13 : Int) => some v_13).bind fun (v_14 : Int) => some (Int.fmod v_14 (6 : Int))) v_15).bind fun (v_16 : (List Int)) => some v_16).bind fun (ages_ : (List Int)) =>
  ((((((atI row_ (10 : Int)).bind fun (v_17 : Int) => some v_17).bind fun (v_18 : Int) => some (Int.fmod v_18 (4 : Int))).bind fun (v_19 : Int) => some ((1 : Int) + v_19)).bind fun (v_20 : Int) => rng1T v_20).bind fun (v_23 : (List Int)) => mapO (fun (k_1 : Int) => ((atI row_ ((6 : Int) + k_1)).bind fun (v_21 : Int) => some v_21).bind fun (v_22 : Int) => some (Int.fmod v_22 (10 : Int))) v_23).bind fun (costs_ : (List Int)) =>
  (((((atI row_ (11 : Int)).bind fun (v_24 : Int) => some v_24).bind fun (v_25 : Int) => some (Int.fmod v_25 (3 : Int))).bind fun (v_26 : Int) => some (decide ((0 : Int) < v_26))).bind fun b_ => if b_ = true then (sortT ltI costs_).bind fun (costs_1 : (List Int)) =>
  some costs_1
  else some costs_).bind fun (costs_2 : (List Int)) =>
  (((atI row_ (12 : Int)).bind fun (v_27 : Int) => some v_27).bind fun (v_28 : Int) => some (Int.fmod v_28 (13 : Int))).bind fun (new_ : Int) =>
  (((atI row_ (13 : Int)).bind fun (v_29 : Int) => some v_29).bind fun (v_30 : Int) => some (Int.fmod v_30 (7 : Int))).bind fun (trench_ : Int) =>
  if large_ = true then t__law_large ages_ costs_2 new_ s_.2
  else t_law_e3 row_ s_ ages_ costs_2 new_ trench_

theorem b_law (script_ : (List Int)) : f_law [((cL cI) script_, .sc)] = (t_law script_).map (zz cB) :=
  fn_k (env := [some ((cL cI) script_, .sc), none, none, none, none, none, none, none, none, none, none, none, none, none]) rfl rfl
  (st_asg (ko (r := (ww (cL cI))) (eA_k (aC_k (kb rfl (aC_k (kb (eC_I (i := 30)) (aN_k (b__law_row script_ (30 : Int)))))))) fun row_ => (asgl rfl (st_asg (ko (r := (zz cI)) (e2_k (kb (eC_I (i := 1)) (ko (r := (zz cI)) (e2_k (ko (r := (zz cI)) (eA_k (aC_k (ko (r := (zz cI)) (e2_k (kb rfl (kb (eC_I (i := 0)) ixL_l))) fun v_ => (aN_k int_l)))) fun v_1 => (kb (eC_I (i := 3)) (modc_l (by decide))))) fun v_2 => add_l))) fun count_ => (asgl rfl (st_par (aC_k (ko (r := (zz cI)) (e2_k (kb (eC_I (i := 1)) (ko (r := (zz cI)) (e2_k (ko (r := (zz cI)) (eA_k (aC_k (ko (r := (zz cI)) (e2_k (kb rfl (kb (eC_I (i := 1)) ixL_l))) fun v_3 => (aN_k int_l)))) fun v_4 => (ko (r := (zz cI)) (e2_k (kb (eA_k (aC_k (kb (eC_I (i := 5)) (aC_k (kb (eC_I (i := 4)) (aC_k (kb (eC_I (i := 2)) (aN_k (tupT3 (E := cI)))))))))) (kb (e2_k (kb rfl (kb (eC_I (i := 1)) sub_l))) ixT_l))) fun v_5 => mod_t))) fun v_6 => add_l))) fun years_ => (aC_k (ko (r := (zz cB)) (e2_k (ko (r := (zz cI)) (e2_k (ko (r := (zz cI)) (eA_k (aC_k (ko (r := (zz cI)) (e2_k (kb rfl (kb (eC_I (i := 2)) ixL_l))) fun v_7 => (aN_k int_l)))) fun v_8 => (kb (eC_I (i := 16)) (modc_l (by decide))))) fun v_9 => (kb (eC_I (i := 5)) eq_l))) fun large_ => (aN_k (parl (parlc rfl (parlc rfl parl0)) (st_jn (Env := fun (s_ : (Int × Int)) => [some ((cL cI) script_, .sc), some ((cL cI) row_, .fz), some (cI s_.1, .fz), none, none, none, none, none, none, some (cI s_.2, .fz), some (cB large_, .fz), none, none, none]) (st_j (st_last (st_if (X := ((((atI row_ (1 : Int)).bind fun (v_10 : Int) => some v_10).bind fun (v_11 : Int) => some (Int.fmod v_11 (2 : Int))).bind fun (v_12 : Int) => some ((4 : Int) + v_12)).bind fun (years_1 : Int) =>
  some ((3 : Int), years_1)) (Y := some (count_, years_)) (tru_l' rfl truB) (st_par (aC_k (kb (eC_I (i := 3)) (aC_k (ko (r := (zz cI)) (e2_k (kb (eC_I (i := 4)) (ko (r := (zz cI)) (e2_k (ko (r := (zz cI)) (eA_k (aC_k (ko (r := (zz cI)) (e2_k (kb rfl (kb (eC_I (i := 1)) ixL_l))) fun v_10 => (aN_k int_l)))) fun v_11 => (kb (eC_I (i := 2)) (modc_l (by decide))))) fun v_12 => add_l))) fun years_1 => (aN_k (parl (parlc rfl (parlc rfl parl0)) (st_end rfl)))))))) (st_skip (st_end rfl))))) fun s_ => (nrm (e' := [some ((cL cI) script_, .sc), some ((cL cI) row_, .fz), some (cI s_.1, .fz), none, none, none, none, none, none, some (cI s_.2, .fz), some (cB large_, .fz), none, none, none]) rfl (st_asg (ko (r := (zz (cT cI))) (eA_k (aC_k (ko (r := (ww (cL cI))) (lc_k (ko (r := (fun ys : List Int => (ys.map cI, false))) (aS_k (aC_k (kb rfl (aN_k rg1)))) fun v_15 => (lg_o (g_mapO (k := fun (k_ : Int) => ((atI row_ ((3 : Int) + k_)).bind fun (v_13 : Int) => some v_13).bind fun (v_14 : Int) => some (Int.fmod v_14 (6 : Int))) (F := cI) fun k_ => lcF_k as_nm (ly_o (f := .fz) (e2_k (ko (r := (zz cI)) (eA_k (aC_k (ko (r := (zz cI)) (e2_k (kb rfl (kb (e2_k (kb (eC_I (i := 3)) (kb rfl add_l))) ixL_l))) fun v_13 => (aN_k int_l)))) fun v_14 => (kb (eC_I (i := 6)) (modc_l (by decide)))))))))) fun v_16 => (aN_k tupL_l)))) fun ages_ => (asgl rfl (st_asg (ko (r := (ww (cL cI))) (lc_k (ko (r := (fun ys : List Int => (ys.map cI, false))) (aS_k (aC_k (ko (r := (zz cI)) (e2_k (kb (eC_I (i := 1)) (ko (r := (zz cI)) (e2_k (ko (r := (zz cI)) (eA_k (aC_k (ko (r := (zz cI)) (e2_k (kb rfl (kb (eC_I (i := 10)) ixL_l))) fun v_17 => (aN_k int_l)))) fun v_18 => (kb (eC_I (i := 4)) (modc_l (by decide))))) fun v_19 => add_l))) fun v_20 => (aN_k rg1)))) fun v_23 => (lg_o (g_mapO (k := fun (k_1 : Int) => ((atI row_ ((6 : Int) + k_1)).bind fun (v_21 : Int) => some v_21).bind fun (v_22 : Int) => some (Int.fmod v_22 (10 : Int))) (F := cI) fun k_1 => lcF_k as_nm (ly_o (f := .fz) (e2_k (ko (r := (zz cI)) (eA_k (aC_k (ko (r := (zz cI)) (e2_k (kb rfl (kb (e2_k (kb (eC_I (i := 6)) (kb rfl add_l))) ixL_l))) fun v_21 => (aN_k int_l)))) fun v_22 => (kb (eC_I (i := 10)) (modc_l (by decide)))))))))) fun costs_ => (asgl rfl (st_jn (Env := fun (costs_2 : (List Int)) => [some ((cL cI) script_, .sc), some ((cL cI) row_, .fz), some (cI s_.1, .fz), some ((cT cI) ages_, .fz), some ((cL cI) costs_2, .fz), none, none, none, none, some (cI s_.2, .fz), some (cB large_, .fz), none, none, none]) (st_j (st_last (st_ifO (X := (sortT ltI costs_).bind fun (costs_1 : (List Int)) =>
  some costs_1) (Y := some costs_) (tst_o (e2_k (ko (r := (zz cI)) (e2_k (ko (r := (zz cI)) (eA_k (aC_k (ko (r := (zz cI)) (e2_k (kb rfl (kb (eC_I (i := 11)) ixL_l))) fun v_24 => (aN_k int_l)))) fun v_25 => (kb (eC_I (i := 3)) (modc_l (by decide))))) fun v_26 => (kb (eC_I (i := 0)) gtA_l)))) (st_asg (ko (r := (ww (cL cI))) (eA_k (aC_k (kb rfl (aN_k sortL_l)))) fun costs_1 => (asgl rfl (st_end rfl)))) (st_skip (st_end rfl))))) fun costs_2 => (st_par (aC_k (kb (eA_k (aC_k (kb rfl (aN_k tupL_l)))) (aC_k (ko (r := (zz cI)) (e2_k (ko (r := (zz cI)) (eA_k (aC_k (ko (r := (zz cI)) (e2_k (kb rfl (kb (eC_I (i := 12)) ixL_l))) fun v_27 => (aN_k int_l)))) fun v_28 => (kb (eC_I (i := 13)) (modc_l (by decide))))) fun new_ => (aC_k (ko (r := (zz cI)) (e2_k (ko (r := (zz cI)) (eA_k (aC_k (ko (r := (zz cI)) (e2_k (kb rfl (kb (eC_I (i := 13)) ixL_l))) fun v_29 => (aN_k int_l)))) fun v_30 => (kb (eC_I (i := 7)) (modc_l (by decide))))) fun trench_ => (aN_k (parl (parlc rfl (parlc rfl (parlc rfl parl0))) (nrm (e' := [some ((cL cI) script_, .sc), some ((cL cI) row_, .fz), some (cI s_.1, .fz), some ((cT cI) ages_, .fz), some ((cT cI) costs_2, .fz), none, none, none, none, some (cI s_.2, .fz), some (cB large_, .fz), some (cI new_, .fz), some (cI trench_, .fz), none]) rfl (st_if (X := t__law_large ages_ costs_2 new_ s_.2) (Y := t_law_e3 row_ s_ ages_ costs_2 new_ trench_) (tru_l' rfl truB) (st_ret (koe (r := (zz cB)) (eA_k (aC_k (kb rfl (aC_k (kb rfl (aC_k (kb rfl (aC_k (kb rfl (aN_k (b__law_large ages_ costs_2 new_ s_.2))))))))))) fun _ => (retl rfl rfl))) (st_skip (st_ifO (X := some false) (Y := (t__law_alone ages_ costs_2 new_ trench_ s_.2).bind fun (alone_ : Int) =>
  ((((t_renew_alone ages_ costs_2 new_ trench_ s_.2).map fun (c_2 : Int) => cI c_2).bind fun (v_33 : D) => t__law_like v_33 (cI alone_)).map (!·)).bind fun b_ => if b_ = true then some false
  else t_law_e2 row_ s_ ages_ costs_2 new_ trench_) (bnot_o (truB_o (eA_k (aC_k (ko (r := (zz cD)) (co_o (F := cD) (fun (c_ : (Int × (List (List Int)))) => (cP2 cI (cT (cT cI))) c_) (fun _ => rfl) (eA_k (aC_k (kb rfl (aC_k (kb rfl (aC_k (kb rfl (aC_k (kb rfl (aC_k (kb rfl (aN_k (b_renew_least ages_ costs_2 new_ trench_ s_.2)))))))))))))) fun v_31 => (aC_k (ko (r := (zz cD)) (co_o (F := cD) (fun (c_1 : (Int × (List (List Int)))) => (cP2 cI (cT (cT cI))) c_1) (fun _ => rfl) (eA_k (aC_k (kb rfl (aC_k (kb rfl (aC_k (kb rfl (aC_k (kb rfl (aC_k (kb rfl (aN_k (b__law_least ages_ costs_2 new_ trench_ s_.2)))))))))))))) fun v_32 => (aN_k (b__law_like _ _ rfl rfl))))))))) (st_ret (kb (eC_B (b := false)) (retl rfl rfl))) (st_skip (st_asg (ko (r := (zz cI)) (eA_k (aC_k (kb rfl (aC_k (kb rfl (aC_k (kb rfl (aC_k (kb rfl (aC_k (kb rfl (aN_k (b__law_alone ages_ costs_2 new_ trench_ s_.2))))))))))))) fun alone_ => (asgl rfl (st_ifO (X := some false) (Y := t_law_e2 row_ s_ ages_ costs_2 new_ trench_) (bnot_o (truB_o (eA_k (aC_k (ko (r := (zz cD)) (co_o (F := cD) (fun (c_2 : Int) => cI c_2) (fun _ => rfl) (eA_k (aC_k (kb rfl (aC_k (kb rfl (aC_k (kb rfl (aC_k (kb rfl (aC_k (kb rfl (aN_k (b_renew_alone ages_ costs_2 new_ trench_ s_.2)))))))))))))) fun v_33 => (aC_k (kb (co_p (F := cD) (y := (cI alone_)) rfl rfl) (aN_k (b__law_like _ _ rfl rfl))))))))) (st_ret (kb (eC_B (b := false)) (retl rfl rfl))) (st_skip (st_asg (ko (r := (zz cI)) (eA_k (aC_k (kb rfl (aC_k (kb rfl (aC_k (kb rfl (aC_k (kb (eC_I (i := 0)) (aC_k (kb rfl (aN_k (b__law_alone ages_ costs_2 new_ (0 : Int) s_.2))))))))))))) fun single_ => (asgl rfl (st_ifO (X := some false) (Y := ((((t_renew_alone ages_ costs_2 new_ (0 : Int) s_.2).map fun (c_4 : Int) => cI c_4).bind fun (v_36 : D) => t__law_like v_36 (cI single_)).map (!·)).bind fun b_ => if b_ = true then some false
  else t_law_e1 row_ s_ ages_ costs_2 new_ trench_) (bnot_o (truB_o (eA_k (aC_k (ko (r := (zz cD)) (co_o (F := cD) (fun (c_3 : Int) => cI c_3) (fun _ => rfl) (e2_k (ko (r := (zz (cP2 cI (cT (cT cI))))) (eA_k (aC_k (kb rfl (aC_k (kb rfl (aC_k (kb rfl (aC_k (kb (eC_I (i := 0)) (aC_k (kb rfl (aN_k (b_renew_least ages_ costs_2 new_ (0 : Int) s_.2))))))))))))) fun v_34 => (kb rfl ix2_0)))) fun v_35 => (aC_k (kb (co_p (F := cD) (y := (cI single_)) rfl rfl) (aN_k (b__law_like _ _ rfl rfl))))))))) (st_ret (kb (eC_B (b := false)) (retl rfl rfl))) (st_skip (st_ifO (X := some false) (Y := t_law_e1 row_ s_ ages_ costs_2 new_ trench_) (bnot_o (truB_o (eA_k (aC_k (ko (r := (zz cD)) (co_o (F := cD) (fun (c_4 : Int) => cI c_4) (fun _ => rfl) (eA_k (aC_k (kb rfl (aC_k (kb rfl (aC_k (kb rfl (aC_k (kb (eC_I (i := 0)) (aC_k (kb rfl (aN_k (b_renew_alone ages_ costs_2 new_ (0 : Int) s_.2)))))))))))))) fun v_36 => (aC_k (kb (co_p (F := cD) (y := (cI single_)) rfl rfl) (aN_k (b__law_like _ _ rfl rfl))))))))) (st_ret (kb (eC_B (b := false)) (retl rfl rfl))) (st_skip (st_asg (ko (r := (ww (cL cI))) (lc_k (ko (r := (fun ys : List Int => (ys.map cI, false))) (aS_k (aC_k (kb (eC_I (i := 1)) (aC_k (ko (r := (zz cI)) (e2_k (ko (r := (zz cI)) (e2_k (ko (r := (zz cI)) (eA_k (aC_k (kb rfl (aN_k maxT_l)))) fun v_37 => (kb rfl add_l))) fun v_38 => (kb (eC_I (i := 2)) add_l))) fun v_39 => (aN_k rg2)))))) fun v_40 => (lg_o (g_mapO (k := fun (least_ : Int) => t__law_at ages_ costs_2 new_ trench_ s_.2 least_) (F := cI) fun least_ => lcF_k as_nm (ly_o (f := .fz) (eA_k (aC_k (kb rfl (aC_k (kb rfl (aC_k (kb rfl (aC_k (kb rfl (aC_k (kb rfl (aC_k (kb rfl (aN_k (b__law_at ages_ costs_2 new_ trench_ s_.2 least_)))))))))))))))))))) fun sums_ => (asgl rfl (st_for (ko (r := (fun ys : List Int => (ys.map cI, false))) (seqS_k (ko (r := (zz (cT cI))) (eA_k (aC_k (kb (eC_I (i := 0)) (aC_k (ko (r := (zz cI)) (e2_k (ko (r := (zz cI)) (eA_k (aC_k (ko (r := (zz cI)) (e2_k (kb rfl (kb (eC_I (i := 14)) ixL_l))) fun v_41 => (aN_k int_l)))) fun v_42 => (kb (eA_k (aC_k (kb rfl (aN_k lenL_l)))) mod_t))) fun v_43 => (aC_k (kb (e2_k (kb (eA_k (aC_k (kb rfl (aN_k lenL_l)))) (kb (eC_I (i := 1)) sub_l))) (aN_k (tupT3 (E := cI)))))))))) fun v_44 => sq_t)) fun xs_ => (lp_c (Env := fun (s_1 : Unit) => [some ((cL cI) script_, .sc), some ((cL cI) row_, .fz), some (cI s_.1, .fz), some ((cT cI) ages_, .fz), some ((cT cI) costs_2, .fz), some (cI alone_, .fz), some (cI single_, .fz), some ((cL cI) sums_, .fz), none, some (cI s_.2, .fz), some (cB large_, .fz), some (cI new_, .fz), some (cI trench_, .fz), none]) (s0 := ()) (step := t_law_1 s_ ages_ costs_2 new_ trench_ sums_) (p := (zz cB)) rfl (fun s_1 k_2 => (turn_k as_nm (st_last (st_ifO (X := some (Ctl.rt false)) (Y := some (Ctl.nx ())) (bnot_o (truB_o (eA_k (aC_k (ko (r := (zz cD)) (co_o (F := cD) (fun (c_5 : Int) => cI c_5) (fun _ => rfl) (eA_k (aC_k (kb rfl (aC_k (kb rfl (aC_k (kb rfl (aC_k (kb rfl (aC_k (kb rfl (aC_k (kb (e2_k (kb (eC_I (i := 1)) (kb rfl add_l))) (aN_k (b_renew_at ages_ costs_2 new_ trench_ s_.2 ((1 : Int) + k_2))))))))))))))))) fun v_45 => (aC_k (ko (r := (zz cD)) (co_o (F := cD) (fun (c_6 : Int) => cI c_6) (fun _ => rfl) (e2_k (kb rfl (kb rfl ixL_l)))) fun v_46 => (aN_k (b__law_like _ _ rfl rfl))))))))) (st_ret (kb (eC_B (b := false)) (retl rfl rfl))) (st_skip (st_end rfl)))))) (fun s_2 => (st_ifO (X := some false) (Y := ((((atI row_ (21 : Int)).bind fun (v_51 : Int) => some v_51).bind fun (v_52 : Int) => some (Int.fmod v_52 (5 : Int))).bind fun (v_53 : Int) => some ((1 : Int) + v_53)).bind fun (v_54 : Int) => t__law_late row_ new_ trench_ v_54) (bnot_o (truB_o (eA_k (aC_k (ko (r := (zz cD)) (co_o (F := cD) (fun (c_7 : Int) => cI c_7) (fun _ => rfl) (eA_k (aC_k (kb rfl (aC_k (kb rfl (aC_k (kb rfl (aC_k (kb rfl (aC_k (kb rfl (aN_k (b_best_age ages_ costs_2 new_ trench_ s_.2)))))))))))))) fun v_49 => (aC_k (ko (r := (zz cD)) (co_o (F := cD) (fun (c_8 : Int) => cI c_8) (fun _ => rfl) (e2_k (kb (eC_I (i := 1)) (ko (r := (zz cI)) (e2_k (kb rfl (ko (r := (zz cI)) (eA_k (aC_k (kb rfl (aN_k minBL_l)))) fun v_47 => ixA_lI))) fun v_48 => add_l)))) fun v_50 => (aN_k (b__law_like _ _ rfl rfl))))))))) (st_ret (kb (eC_B (b := false)) (retl rfl rfl))) (st_skip (st_last (st_ret (koe (r := (zz cB)) (eA_k (aC_k (kb rfl (aC_k (kb rfl (aC_k (kb rfl (aC_k (ko (r := (zz cI)) (e2_k (kb (eC_I (i := 1)) (ko (r := (zz cI)) (e2_k (ko (r := (zz cI)) (eA_k (aC_k (ko (r := (zz cI)) (e2_k (kb rfl (kb (eC_I (i := 21)) ixL_l))) fun v_51 => (aN_k int_l)))) fun v_52 => (kb (eC_I (i := 5)) (modc_l (by decide))))) fun v_53 => add_l))) fun v_54 => (aN_k (b__law_late row_ new_ trench_ v_54))))))))))) fun _ => (retl rfl rfl))))))) (fun _ => rfl)))))))))))))))))))))))))))))))))))))))))))))))))))))))

end Lk45

set_option Elab.async false
set_option linter.all false
set_option maxRecDepth 100000
set_option maxHeartbeats 4000000
/-! Ev1: plain facts about the typed operations -/
namespace Pl
open PySem L2
section
variable {α β γ S R : Type}
theorem bnd_eq (a : α) (f : α → β) : bnd a f = f a := (rfl)
theorem mapO_some {f : α → Option β} (g : α → β) : ∀ {xs : List α}, (∀ x ∈ xs, f x = some (g x)) → mapO f xs = some (xs.map g)
  | [], _ => rfl
  | x :: xs, h => by
    rw [mapO, h x List.mem_cons_self, mapO_some g fun y hy => h y (List.mem_cons_of_mem _ hy)]; rfl
theorem mapO_congr {f f' : α → Option β} : ∀ {xs : List α}, (∀ x ∈ xs, f x = f' x) → mapO f xs = mapO f' xs
  | [], _ => rfl
  | x :: xs, h => by rw [mapO, mapO, h x List.mem_cons_self, mapO_congr fun y hy => h y (List.mem_cons_of_mem _ hy)]
theorem fmO_some {f : α → Option (Option β)} (g : α → Option β) : ∀ {xs : List α}, (∀ x ∈ xs, f x = some (g x)) → fmO f xs = some (xs.filterMap g)
  | [], _ => rfl
  | x :: xs, h => by
    rw [fmO, h x List.mem_cons_self, fmO_some g fun y hy => h y (List.mem_cons_of_mem _ hy), List.filterMap_cons]
    cases g x <;> rfl
theorem fmO_filter {f : α → Option (Option α)} (p : α → Bool) {xs : List α} (h : ∀ x ∈ xs, f x = some (if p x = true then some x else none)) : fmO f xs = some (xs.filter p) := by
  rw [fmO_some (fun x => if p x = true then some x else none) h]
  congr 1
  induction xs with
  | nil => rfl
  | cons x xs ih =>
    rw [List.filterMap_cons, List.filter_cons, ih fun y hy => h y (List.mem_cons_of_mem _ hy)]
    by_cases c : p x = true <;> simp [c]
theorem ccO_some {f : α → Option (List β)} (g : α → List β) : ∀ {xs : List α}, (∀ x ∈ xs, f x = some (g x)) → ccO f xs = some (xs.flatMap g)
  | [], _ => rfl
  | x :: xs, h => by
    rw [ccO, h x List.mem_cons_self, ccO_some g fun y hy => h y (List.mem_cons_of_mem _ hy), List.flatMap_cons]; rfl
theorem limT_some {xs : List α} (h : xs.length ≤ 16777216) : limT xs = some xs := if_pos h
theorem pshT_some {xs : List α} {a : α} (h : xs.length < 16777216) : pshT xs a = some (xs ++ [a]) := if_pos h
theorem catT_some {a b : List α} (h : a.length + b.length ≤ 16777216) : catT a b = some (a ++ b) := if_pos h
theorem extT_some {a b : List α} (h : a.length + b.length ≤ 16777216) : extT a b = some (a ++ b) := if_pos h
theorem mulT_l {i j : Int} (h : -(2 ^ 64) < i ∧ i < 2 ^ 64) : mulT i j = some (i * j) := if_pos (mulC_l h)
theorem mulT_r {i j : Int} (h : -(2 ^ 64) < j ∧ j < 2 ^ 64) : mulT i j = some (i * j) := if_pos (mulC_r h)
theorem divT_n {i j : Int} (h : j ≠ 0 ∧ j.natAbs < 1073741824) : divT i j = some (i.fdiv j) := if_pos (divC_n h)
theorem modT_n {i j : Int} (h : j ≠ 0) : modT i j = some (i.fmod j) := if_pos h
/-- 0, 1 .. n - 1 -/
def nI (n : Nat) : List Int := (List.range n).map fun i : Nat => (i : Int)
theorem nI_len {n : Nat} : (nI n).length = n := by simp [nI]
theorem nI_mem {n : Nat} {z : Int} : z ∈ nI n ↔ 0 ≤ z ∧ z < n := by
  unfold nI
  rw [List.mem_map]
  constructor
  · rintro ⟨i, hi, rfl⟩; have := List.mem_range.mp hi; omega
  · rintro ⟨h1, h2⟩; exact ⟨z.toNat, List.mem_range.mpr (by omega), by omega⟩
theorem rngI_0 {n : Nat} : rngI 0 n = nI n := by
  unfold rngI nI
  apply List.map_congr_left
  intro i _
  omega
theorem rngI_len {a : Int} {n : Nat} : (rngI a n).length = n := by simp [rngI]
theorem rngI_mem {a z : Int} {n : Nat} : z ∈ rngI a n ↔ a ≤ z ∧ z < a + n := by
  unfold rngI
  rw [List.mem_map]
  constructor
  · rintro ⟨i, hi, rfl⟩; have := List.mem_range.mp hi; omega
  · rintro ⟨h1, h2⟩; exact ⟨(z - a).toNat, List.mem_range.mpr (by omega), by omega⟩
theorem rngI_succ (a : Int) (n : Nat) : rngI a (n + 1) = a :: rngI (a + 1) n := by
  unfold rngI
  rw [List.range_succ_eq_map, List.map_cons, List.map_map]
  congr 1
  · simp
  · apply List.map_congr_left
    intro k _
    show a + ((k + 1 : Nat) : Int) = a + 1 + k
    omega
theorem inB_ok {i : Int} (h : -1000000000000 ≤ i) (h' : i ≤ 1000000000000) : inB i = true := by
  simp only [inB, Bool.and_eq_true, decide_eq_true_eq]; omega
theorem rng1T_nat {n : Nat} (h : n ≤ 16777216) : rng1T (n : Int) = some (nI n) := by
  unfold rng1T
  rw [if_pos ⟨inB_ok (by omega) (by omega), by omega⟩, Int.toNat_natCast, rngI_0]
theorem rng1T_some {z : Int} (h : z ≤ 16777216) (h' : -1000000000000 ≤ z) : rng1T z = some (nI z.toNat) := by
  unfold rng1T
  rw [if_pos ⟨inB_ok (by omega) (by omega), by omega⟩, rngI_0]
theorem rng2T_some {a b : Int} (h : -1000000000000 ≤ a) (h' : a ≤ 1000000000000) (k : -1000000000000 ≤ b) (k' : b ≤ 1000000000000) (l : (b - a).toNat ≤ 16777216) : rng2T a b = some (rngI a (b - a).toNat) := if_pos ⟨⟨inB_ok h h', inB_ok k k'⟩, l⟩
theorem atI_nt {xs : List α} {i : Nat} : atI xs (i : Nat) = xs[i]? := atI_nat
theorem atI_some {xs : List α} {z : Int} (h : 0 ≤ z) (h' : z < xs.length) : ∃ a, atI xs z = some a ∧ xs[z.toNat]? = some a ∧ a ∈ xs := by
  obtain ⟨n, rfl⟩ := Int.eq_ofNat_of_zero_le h
  rw [atI_nt]
  have hn : n < xs.length := by omega
  exact ⟨xs[n], List.getElem?_eq_getElem hn, by simp [hn], List.getElem_mem hn⟩
theorem foldO_inv {step : S → α → Option S} (g : S → α → S) (I : S → Prop) : ∀ {xs : List α} {s : S}, I s → (∀ s x, x ∈ xs → I s → step s x = some (g s x) ∧ I (g s x)) → foldO step s xs = some (xs.foldl g s) ∧ I (xs.foldl g s)
  | [], s, h, _ => ⟨rfl, h⟩
  | x :: xs, s, h, k => by
    obtain ⟨h1, h2⟩ := k s x List.mem_cons_self h
    rw [foldO, h1]
    exact foldO_inv g I h2 fun s y hy => k s y (List.mem_cons_of_mem _ hy)
theorem foldO_some {step : S → α → Option S} (g : S → α → S) {xs : List α} {s : S} (h : ∀ s x, x ∈ xs → step s x = some (g s x)) : foldO step s xs = some (xs.foldl g s) :=
  (foldO_inv g (fun _ => True) trivial fun s x hx _ => ⟨h s x hx, trivial⟩).1
/-- a loop that puts more at the end of a list -/
theorem foldO_push {step : List β → α → Option (List β)} (g : α → List β) (m N : Nat) (hg : ∀ x, (g x).length ≤ m) : ∀ {xs : List α} {acc : List β}, acc.length + xs.length * m ≤ N → (∀ acc x, x ∈ xs → acc.length + m ≤ N → step acc x = some (acc ++ g x)) → foldO step acc xs = some (acc ++ xs.flatMap g)
  | [], acc, _, _ => by simp [foldO]
  | x :: xs, acc, h, k => by
    rw [List.length_cons, Nat.succ_mul] at h
    have hl := hg x
    rw [foldO, k acc x List.mem_cons_self (by omega)]
    show foldO step (acc ++ g x) xs = _
    rw [foldO_push g m N hg (by rw [List.length_append]; omega) fun acc y hy => k acc y (List.mem_cons_of_mem _ hy), List.flatMap_cons, List.append_assoc]
theorem foldO_push1 {step : List β → α → Option (List β)} (g : α → β) {xs : List α} {acc : List β} (hl : acc.length + xs.length ≤ 16777215) (h : ∀ acc x, x ∈ xs → acc.length < 16777216 → step acc x = some (acc ++ [g x])) : foldO step acc xs = some (acc ++ xs.map g) := by
  rw [foldO_push (fun x => [g x]) 1 16777216 (fun _ => by simp) (by omega) fun acc x hx ha => h acc x hx (by omega), List.map_eq_flatMap]
theorem foldO_congr {step step' : S → α → Option S} : ∀ {xs : List α} {s : S}, (∀ s x, x ∈ xs → step s x = step' s x) → foldO step s xs = foldO step' s xs
  | [], s, _ => rfl
  | x :: xs, s, h => by
    rw [foldO, foldO, h s x List.mem_cons_self]
    cases step' s x with
    | none => rfl
    | some s' => exact foldO_congr fun s y hy => h s y (List.mem_cons_of_mem _ hy)
/-! loops that may be left -/
theorem loopO_nil {step : S → α → Option (Ctl S R)} {s : S} : loopO step s [] = some (.go s) := (rfl)
theorem loopO_nx {step : S → α → Option (Ctl S R)} {s s' : S} {x : α} {xs : List α} (h : step s x = some (.nx s')) : loopO step s (x :: xs) = loopO step s' xs := by rw [loopO, h]; rfl
theorem loopO_rt {step : S → α → Option (Ctl S R)} {s : S} {r : R} {x : α} {xs : List α} (h : step s x = some (.rt r)) : loopO step s (x :: xs) = some (.rt r) := by rw [loopO, h]; rfl
/-- the first that is found -/
theorem loopO_find {step : Unit → α → Option (Ctl Unit R)} (p : α → Bool) (f : α → R) : ∀ {xs : List α}, (∀ x ∈ xs, step () x = some (if p x = true then .rt (f x) else .nx ())) → loopO step () xs = some (match xs.find? p with
    | some x => .rt (f x)
    | none => .go ())
  | [], _ => rfl
  | x :: xs, h => by
    have h1 := h x List.mem_cons_self
    rw [List.find?_cons]
    by_cases c : p x = true
    · rw [if_pos c] at h1
      rw [loopO_rt h1, c]
    · rw [if_neg c] at h1
      rw [loopO_nx h1, loopO_find p f fun y hy => h y (List.mem_cons_of_mem _ hy)]
      simp [c]
theorem lp_go {T : S → Option β} {U : R → Option β} {s : S} : Lp.el T U (.go s) = T s := (rfl)
theorem lp_rt {T : S → Option β} {U : R → Option β} {r : R} : Lp.el T U (.rt r) = U r := (rfl)
/-! orders -/
class TotL (lt : α → α → Bool) : Prop where
  irr : ∀ a, lt a a = false
  tra : ∀ a b c, lt a b = true → lt b c = true → lt a c = true
  tri : ∀ a b, lt a b = false → lt b a = false → a = b
instance : TotL ltI := ⟨fun a => by simp [ltI], fun a b c h k => by simp [ltI] at *; omega, fun a b h k => by simp [ltI] at *; omega⟩
instance [DecidableEq α] {la : α → α → Bool} {lb : β → β → Bool} [TotL la] [TotL lb] : TotL (ltP la lb) := ⟨fun a => by simp [ltP, TotL.irr], fun a b c h k => by
  unfold ltP at *
  by_cases e : a.1 = b.1
  · rw [if_pos e] at h
    by_cases e2 : b.1 = c.1
    · rw [if_pos e2] at k; rw [if_pos (e.trans e2)]; exact TotL.tra _ _ _ h k
    · rw [if_neg e2] at k; rw [if_neg (by rw [e]; exact e2), e]; exact k
  · rw [if_neg e] at h
    by_cases e2 : b.1 = c.1
    · rw [if_neg (by rw [← e2]; exact e), ← e2]; exact h
    · rw [if_neg e2] at k
      have := TotL.tra _ _ _ h k
      by_cases e3 : a.1 = c.1
      · rw [e3, TotL.irr (lt := la)] at this; cases this
      · rw [if_neg e3]; exact this, fun a b h k => by
  unfold ltP at *
  by_cases e : a.1 = b.1
  · rw [if_pos e] at h; rw [if_pos e.symm] at k
    exact Prod.ext e (TotL.tri _ _ h k)
  · rw [if_neg e] at h; rw [if_neg fun z => e z.symm] at k
    exact absurd (TotL.tri _ _ h k) e⟩
theorem ltL_irr [DecidableEq α] {la : α → α → Bool} [TotL la] : ∀ a : List α, ltL la a a = false
  | [] => rfl
  | x :: xs => by rw [ltL, if_pos rfl]; exact ltL_irr xs
theorem ltL_tra [DecidableEq α] {la : α → α → Bool} [TotL la] : ∀ a b c : List α, ltL la a b = true → ltL la b c = true → ltL la a c = true
  | _, [], _, h, _ => by cases ‹List α› <;> simp [ltL] at h
  | _, _ :: _, [], _, k => by simp [ltL] at k
  | [], _ :: _, _ :: _, _, _ => rfl
  | x :: xs, y :: ys, z :: zs, h, k => by
    rw [ltL] at *
    by_cases e : x = y
    · rw [if_pos e] at h
      by_cases e2 : y = z
      · rw [if_pos e2] at k; rw [if_pos (e.trans e2)]; exact ltL_tra _ _ _ h k
      · rw [if_neg e2] at k; rw [if_neg (by rw [e]; exact e2), e]; exact k
    · rw [if_neg e] at h
      by_cases e2 : y = z
      · rw [if_neg (by rw [← e2]; exact e), ← e2]; exact h
      · rw [if_neg e2] at k
        have := TotL.tra _ _ _ h k
        by_cases e3 : x = z
        · rw [e3, TotL.irr (lt := la)] at this; cases this
        · rw [if_neg e3]; exact this
theorem ltL_tri [DecidableEq α] {la : α → α → Bool} [TotL la] : ∀ a b : List α, ltL la a b = false → ltL la b a = false → a = b
  | [], [], _, _ => rfl
  | [], _ :: _, h, _ => by simp [ltL] at h
  | _ :: _, [], _, k => by simp [ltL] at k
  | x :: xs, y :: ys, h, k => by
    rw [ltL] at *
    by_cases e : x = y
    · rw [if_pos e] at h; rw [if_pos e.symm] at k
      rw [e, ltL_tri _ _ h k]
    · rw [if_neg e] at h; rw [if_neg fun z => e z.symm] at k
      exact absurd (TotL.tri _ _ h k) e
instance [DecidableEq α] {la : α → α → Bool} [TotL la] : TotL (ltL la) := ⟨ltL_irr, ltL_tra, ltL_tri⟩
section
variable {lt : α → α → Bool} [TotL lt]
theorem minF_is : ∀ (xs : List α) (x : α), minF lt x xs ∈ x :: xs ∧ ∀ y ∈ x :: xs, lt y (minF lt x xs) = false
  | [], x => ⟨List.mem_cons_self, fun y hy => by rw [List.mem_singleton] at hy; subst hy; exact TotL.irr _⟩
  | y :: ys, x => by
    have e : minF lt x (y :: ys) = minF lt (if lt y x = true then y else x) ys := rfl
    rw [e]
    by_cases c : lt y x = true
    · rw [if_pos c]
      obtain ⟨h1, h2⟩ := minF_is ys y
      refine ⟨List.mem_cons_of_mem _ h1, fun z hz => ?_⟩
      rcases List.mem_cons.mp hz with rfl | hz
      · cases e2 : lt z (minF lt y ys) with
        | false => rfl
        | true =>
          have := h2 y List.mem_cons_self
          rw [TotL.tra _ _ _ c e2] at this; cases this
      · exact h2 z hz
    · rw [if_neg c]
      obtain ⟨h1, h2⟩ := minF_is ys x
      refine ⟨?_, fun z hz => ?_⟩
      · rcases List.mem_cons.mp h1 with h | h
        · rw [h]; exact List.mem_cons_self
        · exact List.mem_cons_of_mem _ (List.mem_cons_of_mem _ h)
      · rcases List.mem_cons.mp hz with rfl | hz
        · exact h2 z List.mem_cons_self
        · rcases List.mem_cons.mp hz with rfl | hz
          · cases e2 : lt z (minF lt x ys) with
            | false => rfl
            | true =>
              have hx := h2 x List.mem_cons_self
              exfalso
              -- z < m, and not z < x; m is x or m < x
              cases e3 : lt (minF lt x ys) x with
              | true => exact c (TotL.tra _ _ _ e2 e3)
              | false => rw [TotL.tri _ _ e3 hx] at e2; exact c e2
          · exact h2 z (List.mem_cons_of_mem _ hz)
/-- m is the least of xs -/
def IsMin (lt : α → α → Bool) (xs : List α) (m : α) : Prop := m ∈ xs ∧ ∀ y ∈ xs, lt y m = false
omit [TotL lt] in
theorem minT_nil : minT lt [] = none := rfl
theorem minT_is {xs : List α} {m : α} (h : minT lt xs = some m) : IsMin lt xs m := by
  cases xs with
  | nil => cases h
  | cons x xs => cases h; exact minF_is xs x
theorem minT_of {xs : List α} {m : α} (h : IsMin lt xs m) : minT lt xs = some m := by
  cases xs with
  | nil => exact absurd h.1 (by simp)
  | cons x xs =>
    have k := minF_is (lt := lt) xs x
    show some (minF lt x xs) = some m
    rw [TotL.tri _ _ (h.2 _ k.1) (k.2 _ h.1)]
theorem minT_ex {xs : List α} (h : xs ≠ []) : ∃ m, minT lt xs = some m ∧ IsMin lt xs m := by
  cases xs with
  | nil => exact absurd rfl h
  | cons x xs => exact ⟨_, rfl, minF_is xs x⟩
theorem minT_same {xs ys : List α} (h : ∀ z, z ∈ xs ↔ z ∈ ys) : minT lt xs = minT lt ys := by
  by_cases c : xs = []
  · subst c
    cases ys with
    | nil => rfl
    | cons y ys => exact absurd ((h y).mpr List.mem_cons_self) (by simp)
  · obtain ⟨m, h1, h2, h3⟩ := minT_ex (lt := lt) c
    rw [h1, minT_of ⟨(h m).mp h2, fun y hy => h3 y ((h y).mpr hy)⟩]
/-! sorting -/
theorem sort_perm {xs : List α} : (xs.mergeSort fun a b => !lt b a).Perm xs := List.mergeSort_perm ..
theorem sort_up (xs : List α) : (xs.mergeSort fun a b => !lt b a).Pairwise fun a b => lt b a = false := by
  have := List.pairwise_mergeSort (le := fun a b => !lt b a) (fun a b c h k => by
    simp only [Bool.not_eq_true'] at *
    cases e : lt c a with
    | false => rfl
    | true =>
      cases e2 : lt a b with
      | true => rw [TotL.tra _ _ _ e e2] at k; cases k
      | false => rw [TotL.tri _ _ e2 h] at e; rw [e] at k; cases k) (fun a b => by
    cases e : lt b a with
    | false => simp
    | true =>
      cases e2 : lt a b with
      | false => simp
      | true => have := TotL.tra _ _ _ e e2; rw [TotL.irr (lt := lt)] at this; cases this) xs
  exact this.imp fun h => by simpa using h
theorem up_eq : ∀ {xs ys : List α}, xs.Pairwise (fun a b => lt b a = false) → ys.Pairwise (fun a b => lt b a = false) → xs.Perm ys → xs = ys
  | [], ys, _, _, p => (List.nil_perm.mp p).symm
  | x :: xs, [], _, _, p => by simp at p
  | x :: xs, y :: ys, hx, hy, p => by
    obtain ⟨a1, a2⟩ := List.pairwise_cons.mp hx
    obtain ⟨b1, b2⟩ := List.pairwise_cons.mp hy
    have e : x = y := by
      rcases List.mem_cons.mp (p.mem_iff.mp List.mem_cons_self) with h | h
      · exact h
      · rcases List.mem_cons.mp (p.mem_iff.mpr List.mem_cons_self) with k | k
        · exact k.symm
        · exact TotL.tri _ _ (a1 y k |> fun z => by
            have := b1 x h; exact this) (a1 y k)
    subst e
    rw [up_eq a2 b2 ((List.perm_cons x).mp p)]
theorem sort_same {xs ys : List α} (p : xs.Perm ys) : (xs.mergeSort fun a b => !lt b a) = ys.mergeSort fun a b => !lt b a :=
  up_eq (sort_up xs) (sort_up ys) (sort_perm.trans (p.trans sort_perm.symm))
theorem sortT_some {xs : List α} (h : xs.length ≤ 16777216) : sortT lt xs = some (xs.mergeSort fun a b => !lt b a) := if_pos h
end
theorem maxF_is : ∀ (ns : List Int) (n : Int), maxF ltI n ns ∈ n :: ns ∧ ∀ y ∈ n :: ns, y ≤ maxF ltI n ns
  | [], n => ⟨List.mem_cons_self, fun y hy => by rw [List.mem_singleton] at hy; subst hy; exact Int.le_refl _⟩
  | m :: ms, n => by
    have e : maxF ltI n (m :: ms) = maxF ltI (if ltI n m = true then m else n) ms := rfl
    rw [e]
    by_cases c : ltI n m = true
    · rw [if_pos c]
      obtain ⟨h1, h2⟩ := maxF_is ms m
      refine ⟨List.mem_cons_of_mem _ h1, fun z hz => ?_⟩
      rcases List.mem_cons.mp hz with rfl | hz
      · have := h2 m List.mem_cons_self; simp [ltI] at c; omega
      · exact h2 z hz
    · rw [if_neg c]
      obtain ⟨h1, h2⟩ := maxF_is ms n
      refine ⟨?_, fun z hz => ?_⟩
      · rcases List.mem_cons.mp h1 with h | h
        · rw [h]; exact List.mem_cons_self
        · exact List.mem_cons_of_mem _ (List.mem_cons_of_mem _ h)
      · rcases List.mem_cons.mp hz with rfl | hz
        · exact h2 z List.mem_cons_self
        · rcases List.mem_cons.mp hz with rfl | hz
          · have := h2 n List.mem_cons_self; simp [ltI] at c; omega
          · exact h2 z (List.mem_cons_of_mem _ hz)
theorem andO_t {a b : Option Bool} (h : a = some true) (k : b = some true) : andO a b = some true := by rw [h, k]; rfl
/-! like -/
class PlC (n : Nat) (E : α → D) : Prop where
  pl : ∀ a, plD n (E a) = true
instance {n : Nat} : PlC n cI := ⟨fun _ => by cases n <;> rfl⟩
instance {n : Nat} : PlC n cB := ⟨fun _ => by cases n <;> rfl⟩
instance {n : Nat} : PlC n cZ := ⟨fun _ => by cases n <;> rfl⟩
instance {n : Nat} {E : α → D} [PlC n E] : PlC n (cO E) := ⟨fun a => by cases a with
  | none => cases n <;> rfl
  | some a => exact PlC.pl a⟩
instance {n : Nat} {E : α → D} [PlC n E] : PlC (n + 1) (cP1 E) := ⟨fun a => by simp [cP1, plD, PlC.pl]⟩
instance {n : Nat} {E : α → D} {F : β → D} [PlC n E] [PlC n F] : PlC (n + 1) (cP2 E F) := ⟨fun a => by simp [cP2, plD, PlC.pl]⟩
instance {n : Nat} {E : α → D} {F : β → D} {G : γ → D} [PlC n E] [PlC n F] [PlC n G] : PlC (n + 1) (cP3 E F G) := ⟨fun a => by simp [cP3, plD, PlC.pl]⟩
theorem pl_T {n : Nat} {E : α → D} {xs : List α} (h : ∀ x ∈ xs, plD n (E x) = true) (hl : xs.length ≤ 1000) : plD (n + 1) (cT E xs) = true := by
  rw [cT, plD, Bool.and_eq_true, List.all_eq_true]
  refine ⟨decide_eq_true (by rw [List.length_map]; exact hl), fun d hd => ?_⟩
  obtain ⟨a, ha, rfl⟩ := List.mem_map.mp hd
  exact h a ha
theorem pl_O {n : Nat} {E : α → D} {o : Option α} (h : ∀ x, o = some x → plD n (E x) = true) : plD n (cO E o) = true := by
  cases o with
  | none => cases n <;> rfl
  | some a => exact h a rfl
theorem like_C {E : α → D} [PlC 5 E] {a : α} : q_likeT (E a) (E a) = some true := likeT_same (PlC.pl a)
end
end Pl

set_option Elab.async false
set_option linter.all false
set_option maxRecDepth 100000
set_option maxHeartbeats 4000000
/-! Ev2: more plain facts about the typed operations -/
namespace Pl
open PySem PySem.Spec L2
theorem rngI_up (a : Int) : ∀ n : Nat, (rngI a n).Pairwise (· < ·) := fun n => by
  unfold rngI
  rw [List.pairwise_map]
  have : (List.range n).Pairwise (· < ·) := List.pairwise_lt_range
  exact this.imp fun h => by omega
theorem cut_at {α : Type} (xs : List α) {z : Int} (h : 0 ≤ z) : cutL xs (some z) none = xs.drop z.toNat := by
  obtain ⟨n, rfl⟩ := Int.eq_ofNat_of_zero_le h
  unfold cutL
  rw [HT.sIx_none, HT.sIx_nat]
  by_cases c : n ≤ xs.length
  · rw [Nat.min_eq_left c, List.take_of_length_le (by rw [List.length_drop]; exact Nat.le_refl _)]; rfl
  · rw [Nat.min_eq_right (by omega)]
    simp [List.drop_of_length_le (show xs.length ≤ n by omega)]
theorem cut_to {α : Type} (xs : List α) {z : Int} (h : 0 ≤ z) (h1 : z ≤ xs.length) : cutL xs none (some z) = xs.take z.toNat := by
  obtain ⟨n, rfl⟩ := Int.eq_ofNat_of_zero_le h
  unfold cutL
  rw [HT.sIx_none, HT.sIx_nat, List.drop_zero, Nat.min_eq_left (by omega), Nat.sub_zero]
  simp
theorem foldO_map {α β S : Type} {step : S → β → Option S} (f : α → β) : ∀ (xs : List α) (s : S), foldO step s (xs.map f) = foldO (fun s x => step s (f x)) s xs
  | [], _ => rfl
  | x :: xs, s => by
    rw [List.map_cons, foldO, foldO]
    cases step s (f x) with
    | none => rfl
    | some s' => exact foldO_map f xs s'
theorem loopO_congr {α S R : Type} {step step' : S → α → Option (Ctl S R)} : ∀ {xs : List α} {s : S}, (∀ s x, x ∈ xs → step s x = step' s x) → loopO step s xs = loopO step' s xs
  | [], _, _ => rfl
  | x :: xs, s, h => by
    rw [loopO, loopO, h s x List.mem_cons_self]
    cases step' s x with
    | none => rfl
    | some c => cases c with
      | nx s' => exact loopO_congr fun s y hy => h s y (List.mem_cons_of_mem _ hy)
      | bk _ => rfl
      | rt _ => rfl
theorem nI_enum {α : Type} (xs : List α) : nI xs.length = (enumI xs).map (·.1) := by
  unfold nI enumI
  rw [List.map_map]
  apply List.ext_getElem?
  intro i
  by_cases h : i < xs.length
  · simp [h]
  · simp [h]
theorem enum_at {α : Type} {xs : List α} {p : Int × α} (h : p ∈ enumI xs) : atI xs p.1 = some p.2 ∧ 0 ≤ p.1 ∧ p.1 < xs.length := by
  unfold enumI at h
  obtain ⟨⟨a, i⟩, hq, rfl⟩ := List.mem_map.mp h
  have := List.mk_mem_zipIdx_iff_getElem?.mp hq
  refine ⟨by rw [atI_nt]; exact this, by simp only; omega, ?_⟩
  have := (List.getElem?_eq_some_iff.mp this).1
  simp only; omega
theorem enum_len {α : Type} {xs : List α} : (enumI xs).length = xs.length := by simp [enumI]
theorem set_at {has : List Int} {z v : Int} (h0 : 0 ≤ z) (h1 : z < has.length) : setT has z v = some (has.set z.toNat v) := by
  unfold setT
  obtain ⟨n, rfl⟩ := Int.eq_ofNat_of_zero_le h0
  have : ixN has.length (n : Int) = some n := by
    have hn : n < has.length := by omega
    have e := atI_nt (xs := List.range has.length) (i := n)
    unfold atI at e
    rw [List.length_range] at e
    cases e1 : ixN has.length (n : Int) with
    | none => rw [e1] at e; simp [hn] at e
    | some j =>
      rw [e1] at e
      simp only [bindS] at e
      rw [show (List.range has.length)[n]? = some n by simp [hn]] at e
      obtain ⟨hj, e2⟩ := List.getElem?_eq_some_iff.mp e
      rw [List.getElem_range] at e2
      rw [e2]
  rw [this]; rfl
theorem aug_at {f : Int → Int → Int} {has : List Int} {z y : Int} (h0 : 0 ≤ z) (h1 : z < has.length) : augT f has z y = some (has.set z.toNat (f (has.getD z.toNat 0) y)) := by
  have s := set_at (v := 0) h0 h1
  unfold setT at s
  unfold augT
  cases e1 : ixN has.length z with
  | none => rw [e1] at s; cases s
  | some j =>
    -- j is z
    have k := atI_some (xs := has) h0 h1
    obtain ⟨a, k1, k2, k3⟩ := k
    unfold atI at k1
    rw [e1] at k1
    have ej : j = z.toNat := by
      have e := atI_some (xs := List.range has.length) (z := z) h0 (by rw [List.length_range]; exact h1)
      obtain ⟨b, b1, b2, b3⟩ := e
      unfold atI at b1
      rw [List.length_range, e1] at b1
      simp only [bindS] at b1
      obtain ⟨hj, c1⟩ := List.getElem?_eq_some_iff.mp b1
      obtain ⟨hj2, c2⟩ := List.getElem?_eq_some_iff.mp b2
      rw [List.getElem_range] at c1 c2
      omega
    subst ej
    simp only [bindS, k2, mapS]
    congr 3
    rw [List.getD_eq_getElem?_getD, k2]; rfl
/-- sorting that the kernel can run -/
def ins {α : Type} (lt : α → α → Bool) (x : α) : List α → List α
  | [] => [x]
  | y :: ys => if lt y x = true then y :: ins lt x ys else x :: y :: ys
def isort {α : Type} (lt : α → α → Bool) : List α → List α
  | [] => []
  | x :: xs => ins lt x (isort lt xs)
section
variable {α : Type} {lt : α → α → Bool} [TotL lt]
omit [TotL lt] in
theorem ins_perm (x : α) : ∀ ys : List α, (ins lt x ys).Perm (x :: ys)
  | [] => .refl _
  | y :: ys => by
    unfold ins
    split
    · exact ((ins_perm x ys).cons y).trans (.swap x y ys)
    · exact .refl _
omit [TotL lt] in
theorem isort_perm : ∀ xs : List α, (isort lt xs).Perm xs
  | [] => .refl _
  | x :: xs => (ins_perm x _).trans ((isort_perm xs).cons x)
theorem le_tra {a b c : α} (h : lt b a = false) (k : lt c b = false) : lt c a = false := by
  cases e : lt c a with
  | false => rfl
  | true =>
    cases e2 : lt a b with
    | true => rw [TotL.tra _ _ _ e e2] at k; cases k
    | false => rw [TotL.tri _ _ e2 h] at e; rw [e] at k; cases k
theorem lt_asy {a b : α} (h : lt a b = true) : lt b a = false := by
  cases e : lt b a with
  | false => rfl
  | true => have := TotL.tra _ _ _ h e; rw [TotL.irr (lt := lt)] at this; cases this
theorem ins_up (x : α) : ∀ ys : List α, ys.Pairwise (fun a b => lt b a = false) → (ins lt x ys).Pairwise fun a b => lt b a = false
  | [], _ => by simp [ins]
  | y :: ys, h => by
    obtain ⟨h1, h2⟩ := List.pairwise_cons.mp h
    unfold ins
    split
    · rename_i c
      refine List.pairwise_cons.mpr ⟨fun z hz => ?_, ins_up x ys h2⟩
      rcases List.mem_cons.mp ((ins_perm x ys).mem_iff.mp hz) with rfl | hz
      · exact lt_asy c
      · exact h1 z hz
    · rename_i c
      have c : lt y x = false := by simpa using c
      refine List.pairwise_cons.mpr ⟨fun z hz => ?_, h⟩
      rcases List.mem_cons.mp hz with rfl | hz
      · exact c
      · exact le_tra c (h1 z hz)
theorem isort_up : ∀ xs : List α, (isort lt xs).Pairwise fun a b => lt b a = false
  | [] => List.Pairwise.nil
  | x :: xs => ins_up x _ (isort_up xs)
theorem merge_isort (xs : List α) : (xs.mergeSort fun a b => !lt b a) = isort lt xs := up_eq (sort_up xs) (isort_up xs) (sort_perm.trans (isort_perm xs).symm)
end
/-- by length, then itself -/
def ltS (m : Nat → Int) (a b : List Int) : Bool := Pl.ltP ltI (ltL ltI) (m a.length, a) (m b.length, b)
instance {m : Nat → Int} : TotL (ltS m) := ⟨fun a => TotL.irr (lt := Pl.ltP ltI (ltL ltI)) _, fun a b c h k => TotL.tra (lt := Pl.ltP ltI (ltL ltI)) _ _ _ h k, fun a b h k => congrArg Prod.snd (TotL.tri (lt := Pl.ltP ltI (ltL ltI)) _ _ h k)⟩
theorem sortKT_some {m : Nat → Int} {xs : List (List Int)} (h : xs.length ≤ 16777216) : sortKT m ltI xs = some (isort (ltS m) xs) := by
  unfold sortKT
  rw [if_pos h]
  exact congrArg some (merge_isort (lt := ltS m) xs)
theorem foldO_first {α β : Type} {step : Option β → α → Option (Option β)} (q : α → Bool) (F : α → β) : ∀ {xs : List α}, (∀ d x, x ∈ xs → step d x = some (if (d.isNone && q x) = true then some (F x) else d)) → ∀ d, foldO step d xs = some (match d with
    | some b => some b
    | none => (xs.find? q).map F)
  | [], _, d => by cases d <;> rfl
  | x :: xs, h, d => by
    rw [foldO, h d x List.mem_cons_self]
    simp only [bindS]
    rw [foldO_first q F fun d y hy => h d y (List.mem_cons_of_mem _ hy)]
    cases d with
    | some b => simp
    | none =>
      by_cases c : q x = true
      · simp [c]
      · simp [c]
theorem pl_P2 {α β : Type} {n : Nat} {E : α → D} {F : β → D} {p : α × β} (h1 : plD n (E p.1) = true) (h2 : plD n (F p.2) = true) : plD (n + 1) (cP2 E F p) = true := by simp [cP2, plD, h1, h2]
/-- a number of the row -/
def rv (row : List Int) (z : Int) : Int := row.getD z.toNat 0
theorem row_at {row : List Int} {n : Nat} (h : row.length = n) {z : Int} (h0 : 0 ≤ z) (h1 : z < n) : atI row z = some (rv row z) := by
  obtain ⟨a, a1, a2, a3⟩ := atI_some (xs := row) h0 (by rw [h]; exact h1)
  rw [a1]; unfold rv
  rw [List.getD_eq_getElem?_getD, a2]; rfl
theorem fm {a j : Int} (h : 0 < j) : 0 ≤ a.fmod j ∧ a.fmod j < j := fmod_in a h
theorem fmO_ok {α : Type} {f : α → Option (Option α)} : ∀ {xs : List α}, (∀ x ∈ xs, ∃ b : Bool, f x = some (if b = true then some x else none)) → ∃ ys, fmO f xs = some ys ∧ ∀ y ∈ ys, y ∈ xs
  | [], _ => ⟨[], rfl, fun _ h => h⟩
  | x :: xs, h => by
    obtain ⟨b, hb⟩ := h x List.mem_cons_self
    obtain ⟨ys, e, hy⟩ := fmO_ok (xs := xs) fun y hy => h y (List.mem_cons_of_mem _ hy)
    rw [fmO, hb, e]
    cases b with
    | true => exact ⟨x :: ys, rfl, fun y h => (List.mem_cons.mp h).elim (fun z => by rw [z]; exact List.mem_cons_self) fun z => List.mem_cons_of_mem _ (hy y z)⟩
    | false => exact ⟨ys, rfl, fun y h => List.mem_cons_of_mem _ (hy y h)⟩
theorem map_not {o : Option Bool} (h : o = some true) : o.map (!·) = some false := by rw [h]; rfl
theorem nodup_map {α β : Type} {f : α → β} {l : List α} (h : l.Nodup) (inj : ∀ x ∈ l, ∀ y ∈ l, f x = f y → x = y) : (l.map f).Nodup := by
  induction l with
  | nil => exact List.Pairwise.nil
  | cons a l ih =>
    obtain ⟨h1, h2⟩ := List.nodup_cons.mp h
    rw [List.map_cons, List.nodup_cons]
    refine ⟨fun z => ?_, ih h2 fun x hx y hy => inj x (List.mem_cons_of_mem _ hx) y (List.mem_cons_of_mem _ hy)⟩
    obtain ⟨x, hx, e⟩ := List.mem_map.mp z
    have := inj x (List.mem_cons_of_mem _ hx) a List.mem_cons_self e
    subst this
    exact h1 hx
theorem nodup_len : ∀ {l m : List Int}, l.Nodup → (∀ x ∈ l, x ∈ m) → l.length ≤ m.length
  | [], m, _, _ => Nat.zero_le _
  | x :: l, m, h, s => by
    obtain ⟨h1, h2⟩ := List.nodup_cons.mp h
    have hx := s x List.mem_cons_self
    have := nodup_len (l := l) (m := m.erase x) h2 fun y hy => (List.mem_erase_of_ne (fun z => by subst z; exact h1 hy)).mpr (s y (List.mem_cons_of_mem _ hy))
    rw [List.length_erase_of_mem hx] at this
    have := List.length_pos_of_mem hx
    rw [List.length_cons]; omega
end Pl

set_option Elab.async false
set_option linter.all false
set_option maxRecDepth 100000
set_option maxHeartbeats 4000000
/-! Ev3: leasts, sorted heads, tables of leasts (dicts whose values are made less) -/
namespace Pl
open PySem L2
section
variable {α β κ ι : Type}
instance : TotL ltB := ⟨fun a => by cases a <;> rfl, fun a b c h k => by cases a <;> cases b <;> cases c <;> simp_all [ltB], fun a b h k => by cases a <;> cases b <;> simp_all [ltB]⟩
theorem le_trans' {lt : α → α → Bool} [TotL lt] {a b c : α} (h : lt b a = false) (k : lt c b = false) : lt c a = false := le_tra h k
theorem find_congr {p q : α → Bool} : ∀ {xs : List α}, (∀ x ∈ xs, p x = q x) → xs.find? p = xs.find? q
  | [], _ => rfl
  | x :: xs, h => by rw [List.find?_cons, List.find?_cons, h x List.mem_cons_self, find_congr fun y hy => h y (List.mem_cons_of_mem _ hy)]
/-- the head of the sorted ones is the least -/
theorem sort_head {lt : α → α → Bool} [TotL lt] (xs : List α) : (xs.mergeSort fun a b => !lt b a).head? = minT lt xs := by
  have p := sort_perm (lt := lt) (xs := xs)
  have u := sort_up (lt := lt) xs
  generalize (xs.mergeSort fun a b => !lt b a) = ys at p u
  cases ys with
  | nil => rw [List.nil_perm.mp p]; rfl
  | cons y ys =>
    refine (minT_of ⟨p.mem_iff.mp List.mem_cons_self, fun z hz => ?_⟩).symm
    rcases List.mem_cons.mp (p.mem_iff.mpr hz) with rfl | h
    · exact TotL.irr _
    · exact List.rel_of_pairwise_cons u h
/-- (sorted(xs) + [None])[0] -/
theorem sort_none {lt : α → α → Bool} [TotL lt] {xs : List α} (h : xs.length ≤ 16777215) : (((sortT lt xs).map fun c => c.map fun y => some y).bind fun v => catT v [none]).bind (fun v => atI v (0 : Int)) = some (minT lt xs) := by
  rw [sortT_some (by omega)]
  simp only [Option.map_some, bindS]
  rw [catT_some (by simp; omega)]
  simp only [bindS]
  rw [← sort_head]
  rw [show (0 : Int) = ((0 : Nat) : Int) from rfl, atI_nt]
  cases (xs.mergeSort fun a b => !lt b a) <;> simp
theorem minT_map {lt : α → α → Bool} {lt' : β → β → Bool} (f : α → β) (h : ∀ a b, lt' (f a) (f b) = lt a b) (xs : List α) : minT lt' (xs.map f) = (minT lt xs).map f := by
  cases xs with
  | nil => rfl
  | cons x xs =>
    show some (minF lt' (f x) (xs.map f)) = some (f (minF lt x xs))
    congr 1
    induction xs generalizing x with
    | nil => rfl
    | cons y ys ih =>
      show minF lt' (if lt' (f y) (f x) = true then f y else f x) (ys.map f) = f (minF lt (if lt y x = true then y else x) ys)
      rw [h]
      by_cases c : lt y x = true
      · rw [if_pos c, if_pos c]; exact ih y
      · rw [if_neg c, if_neg c]; exact ih x
theorem minT_mem {lt : α → α → Bool} [TotL lt] {xs : List α} {m : α} (h : minT lt xs = some m) : m ∈ xs := (minT_is h).1
/-! tables -/
theorem getT_A (kvs : List (Int × α)) (i : Int) : getT kvs i = getA kvs i := rfl
theorem putT_A (kvs : List (Int × α)) (i : Int) (a : α) : putT kvs i a = putA kvs i a := rfl
variable [DecidableEq κ]
theorem getA_cons (p : κ × α) (kvs : List (κ × α)) (k : κ) : getA (p :: kvs) k = if p.1 = k then some p.2 else getA kvs k := by
  unfold getA
  rw [List.find?_cons]
  by_cases h : p.1 = k
  · simp [h]
  · simp [h]
theorem getA_none {kvs : List (κ × α)} {k : κ} : getA kvs k = none ↔ k ∉ kvs.map (·.1) := by
  unfold getA
  rw [Option.map_eq_none_iff, List.find?_eq_none]
  simp only [decide_eq_true_eq, List.mem_map, not_exists, not_and]
theorem getA_mem {kvs : List (κ × α)} {k : κ} {a : α} (h : getA kvs k = some a) : (k, a) ∈ kvs := by
  unfold getA at h
  obtain ⟨p, h1, rfl⟩ := Option.map_eq_some_iff.mp h
  have h2 := List.find?_some h1
  have h3 := List.mem_of_find?_eq_some h1
  have : p.1 = k := of_decide_eq_true h2
  rw [← this]; exact h3
theorem getA_of {kvs : List (κ × α)} {k : κ} {a : α} (n : (kvs.map (·.1)).Nodup) (h : (k, a) ∈ kvs) : getA kvs k = some a := by
  induction kvs with
  | nil => cases h
  | cons p kvs ih =>
    rw [List.map_cons, List.nodup_cons] at n
    rw [getA_cons]
    rcases List.mem_cons.mp h with rfl | h
    · simp
    · have : p.1 ≠ k := fun e => n.1 (by rw [e]; exact List.mem_map.mpr ⟨_, h, rfl⟩)
      rw [if_neg this]; exact ih n.2 h
theorem putA_any {kvs : List (κ × α)} {k : κ} : (kvs.any fun p => decide (p.1 = k)) = true ↔ k ∈ kvs.map (·.1) := by
  rw [List.any_eq_true]
  simp [List.mem_map, eq_comm]
theorem getA_put (kvs : List (κ × α)) (k k' : κ) (a : α) : getA (putA kvs k a) k' = if k = k' then some a else getA kvs k' := by
  unfold putA
  by_cases c : (kvs.any fun p => decide (p.1 = k)) = true
  · rw [if_pos c]
    have hk := putA_any.mp c
    clear c
    induction kvs with
    | nil => cases hk
    | cons p kvs ih =>
      rw [List.map_cons, getA_cons, getA_cons]
      by_cases e : p.1 = k
      · rw [if_pos e]
        by_cases e2 : k = k'
        · rw [if_pos e2]; simp [e, e2]
        · rw [if_neg e2]
          have : p.1 ≠ k' := by rw [e]; exact e2
          simp only [this, if_false]
          by_cases hk2 : k ∈ kvs.map (·.1)
          · rw [ih hk2, if_neg e2]
          · have same : (kvs.map fun p => if p.1 = k then (p.1, a) else p) = kvs := by
              conv => rhs; rw [← List.map_id kvs]
              apply List.map_congr_left
              intro q hq
              rw [if_neg fun z => hk2 (List.mem_map.mpr ⟨q, hq, z⟩)]; rfl
            rw [same]
      · rw [if_neg e]
        have hk2 : k ∈ kvs.map (·.1) := by
          rw [List.map_cons] at hk
          exact (List.mem_cons.mp hk).resolve_left fun z => e z.symm
        rw [ih hk2]
        by_cases e3 : p.1 = k'
        · rw [if_pos e3, if_pos e3, if_neg fun z => e (e3.trans z.symm)]
        · rw [if_neg e3, if_neg e3]
  · rw [if_neg c]
    have hk : k ∉ kvs.map (·.1) := fun z => c (putA_any.mpr z)
    clear c
    induction kvs with
    | nil => rw [List.nil_append, getA_cons]
    | cons p kvs ih =>
      rw [List.cons_append, getA_cons, getA_cons]
      rw [List.map_cons] at hk
      have hp : p.1 ≠ k := fun z => hk (by rw [z]; exact List.mem_cons_self)
      rw [ih fun z => hk (List.mem_cons_of_mem _ z)]
      by_cases e3 : p.1 = k'
      · rw [if_pos e3, if_pos e3, if_neg fun z => hp (e3.trans z.symm)]
      · rw [if_neg e3, if_neg e3]
theorem keys_put (kvs : List (κ × α)) (k : κ) (a : α) : (putA kvs k a).map (·.1) = if k ∈ kvs.map (·.1) then kvs.map (·.1) else kvs.map (·.1) ++ [k] := by
  unfold putA
  by_cases c : (kvs.any fun p => decide (p.1 = k)) = true
  · rw [if_pos c, if_pos (putA_any.mp c), List.map_map]
    apply List.map_congr_left
    intro p _
    show (if p.1 = k then (p.1, a) else p).1 = p.1
    split <;> rfl
  · rw [if_neg c, if_neg fun z => c (putA_any.mpr z), List.map_append]; rfl
theorem nodup_put {kvs : List (κ × α)} (n : (kvs.map (·.1)).Nodup) (k : κ) (a : α) : ((putA kvs k a).map (·.1)).Nodup := by
  rw [keys_put]
  by_cases c : k ∈ kvs.map (·.1)
  · rw [if_pos c]; exact n
  · rw [if_neg c, List.nodup_append]
    exact ⟨n, by simp, fun x hx y hy => by rw [List.mem_singleton] at hy; rw [hy]; rintro rfl; exact c hx⟩
theorem putA_len (kvs : List (κ × α)) (k : κ) (a : α) : (putA kvs k a).length ≤ kvs.length + 1 := by
  unfold putA
  split
  · rw [List.length_map]; omega
  · simp
/-- those of a key -/
def grp (k : κ) (V : List (κ × α)) : List α := (V.filter fun p => decide (p.1 = k)).map (·.2)
theorem grp_mem {k : κ} {V : List (κ × α)} {a : α} : a ∈ grp k V ↔ (k, a) ∈ V := by
  unfold grp
  simp only [List.mem_map, List.mem_filter, decide_eq_true_eq]
  constructor
  · rintro ⟨p, ⟨h1, h2⟩, rfl⟩
    rw [← h2]; exact h1
  · intro h; exact ⟨_, ⟨h, rfl⟩, rfl⟩
theorem grp_cons (k : κ) (p : κ × α) (V : List (κ × α)) : grp k (p :: V) = if p.1 = k then p.2 :: grp k V else grp k V := by
  unfold grp
  rw [List.filter_cons]
  by_cases h : p.1 = k <;> simp [h]
/-- t[k] = min(t.get(k, v), v) -/
def updM (lt : α → α → Bool) (T : List (κ × α)) (u : κ × α) : List (κ × α) := putA T u.1 (min2T lt ((getA T u.1).getD u.2) u.2)
variable {lt : α → α → Bool} [TotL lt]
theorem getA_upd (T : List (κ × α)) (u : κ × α) (k : κ) : getA (updM lt T u) k = if u.1 = k then some (match getA T k with | none => u.2 | some w => if lt u.2 w = true then u.2 else w) else getA T k := by
  unfold updM
  rw [getA_put]
  by_cases h : u.1 = k
  · rw [if_pos h, if_pos h, h]
    unfold min2T
    cases getA T k with
    | none => simp
    | some w => rfl
  · rw [if_neg h, if_neg h]
theorem getA_fold : ∀ (us : List (κ × α)) (T : List (κ × α)) (k : κ), getA (us.foldl (updM lt) T) k = match getA T k with | none => minT lt (grp k us) | some w => some (minF lt w (grp k us))
  | [], T, k => by cases h : getA T k <;> simp [h, grp, minT, minF]
  | u :: us, T, k => by
    rw [List.foldl_cons, getA_fold us, getA_upd, grp_cons]
    by_cases h : u.1 = k
    · rw [if_pos h, if_pos h]
      cases getA T k <;> rfl
    · rw [if_neg h, if_neg h]
theorem nodup_fold : ∀ (us : List (κ × α)) (T : List (κ × α)), (T.map (·.1)).Nodup → ((us.foldl (updM lt) T).map (·.1)).Nodup
  | [], T, h => h
  | u :: us, T, h => nodup_fold us _ (nodup_put h _ _)
theorem fold_len : ∀ (us : List (κ × α)) (T : List (κ × α)), (us.foldl (updM lt) T).length ≤ T.length + us.length
  | [], T => by simp
  | u :: us, T => by
    rw [List.foldl_cons, List.length_cons]
    have h1 := fold_len us (updM lt T u)
    have h2 := putA_len T u.1 (min2T lt ((getA T u.1).getD u.2) u.2)
    have h3 : (updM lt T u).length ≤ T.length + 1 := h2
    omega
/-- T tells the least of each key in V -/
structure Tab (lt : α → α → Bool) (T V : List (κ × α)) : Prop where
  nd : (T.map (·.1)).Nodup
  eq : ∀ k, getA T k = minT lt (grp k V)
theorem tab_of (us V : List (κ × α)) (h : ∀ k, minT lt (grp k us) = minT lt (grp k V)) : Tab lt (us.foldl (updM lt) []) V :=
  ⟨nodup_fold us [] (by simp), fun k => by rw [getA_fold]; exact h k⟩
theorem Tab.mem {T V : List (κ × α)} (h : Tab lt T V) {k : κ} {a : α} : (k, a) ∈ T ↔ minT lt (grp k V) = some a := by
  rw [← h.eq]
  exact ⟨fun z => getA_of h.nd z, getA_mem⟩
/-- all values' least -/
theorem Tab.least {T V : List (κ × α)} (h : Tab lt T V) : minT lt (T.map (·.2)) = minT lt (V.map (·.2)) := by
  by_cases c : V = []
  · subst c
    have : T = [] := by
      cases T with
      | nil => rfl
      | cons p T =>
        have := h.mem.mp (show (p.1, p.2) ∈ p :: T from List.mem_cons_self)
        simp [grp, minT] at this
    rw [this]
  · obtain ⟨m, h1, h2, h3⟩ := minT_ex (lt := lt) (xs := V.map (·.2)) (by simpa using c)
    rw [h1]
    obtain ⟨p, hp, rfl⟩ := List.mem_map.mp h2
    refine minT_of ⟨?_, fun y hy => ?_⟩
    · have : minT lt (grp p.1 V) = some p.2 := minT_of ⟨grp_mem.mpr hp, fun y hy => h3 y (List.mem_map.mpr ⟨_, grp_mem.mp hy, rfl⟩)⟩
      exact List.mem_map.mpr ⟨(p.1, p.2), h.mem.mpr this, rfl⟩
    · obtain ⟨q, hq, rfl⟩ := List.mem_map.mp hy
      have := h.mem.mp (show (q.1, q.2) ∈ T from hq)
      exact h3 _ (List.mem_map.mpr ⟨(q.1, q.2), grp_mem.mp (minT_mem this), rfl⟩)
/-- one step: from each key and value by some choices -/
def stepV (nxt : κ → α → List (κ × α)) (V : List (κ × α)) : List (κ × α) := V.flatMap fun p => nxt p.1 p.2
theorem Tab.step {T V : List (κ × α)} (h : Tab lt T V) (nxt : κ → α → List (κ × α))
    (mono : ∀ k v b, (k, v) ∈ V → (k, b) ∈ V → lt v b = false → ∀ k' w, (k', w) ∈ nxt k v → ∃ u, (k', u) ∈ nxt k b ∧ lt w u = false) : Tab lt ((stepV nxt T).foldl (updM lt) []) (stepV nxt V) := by
  refine tab_of _ _ fun k' => ?_
  by_cases c : grp k' (stepV nxt V) = []
  · rw [c]
    have : grp k' (stepV nxt T) = [] := by
      rw [List.eq_nil_iff_forall_not_mem]
      intro w hw
      obtain ⟨p, hp, hw⟩ := List.mem_flatMap.mp (grp_mem.mp hw)
      have h2 := grp_mem.mp (minT_mem (h.mem.mp (show (p.1, p.2) ∈ T from hp)))
      have : w ∈ grp k' (stepV nxt V) := grp_mem.mpr (List.mem_flatMap.mpr ⟨_, h2, hw⟩)
      rw [c] at this; cases this
    rw [this]
  · -- the least of T's group is the least of V's
    have sub : ∀ w ∈ grp k' (stepV nxt T), w ∈ grp k' (stepV nxt V) := fun w hw => by
      obtain ⟨p, hp, hw⟩ := List.mem_flatMap.mp (grp_mem.mp hw)
      exact grp_mem.mpr (List.mem_flatMap.mpr ⟨_, grp_mem.mp (minT_mem (h.mem.mp (show (p.1, p.2) ∈ T from hp))), hw⟩)
    have low : ∀ w ∈ grp k' (stepV nxt V), ∃ u ∈ grp k' (stepV nxt T), lt w u = false := fun w hw => by
      obtain ⟨p, hp, hw⟩ := List.mem_flatMap.mp (grp_mem.mp hw)
      obtain ⟨b, b1, b2, b3⟩ := minT_ex (lt := lt) (xs := grp p.1 V) (List.ne_nil_of_mem (grp_mem.mpr (show (p.1, p.2) ∈ V from hp)))
      obtain ⟨u, u1, u2⟩ := mono p.1 p.2 b hp (grp_mem.mp b2) (b3 _ (grp_mem.mpr hp)) k' w hw
      exact ⟨u, grp_mem.mpr (List.mem_flatMap.mpr ⟨(p.1, b), h.mem.mpr b1, u1⟩), u2⟩
    obtain ⟨w0, hw0⟩ := List.exists_mem_of_ne_nil _ c
    obtain ⟨u0, hu0, _⟩ := low w0 hw0
    obtain ⟨m, m1, m2, m3⟩ := minT_ex (lt := lt) (xs := grp k' (stepV nxt T)) (List.ne_nil_of_mem hu0)
    rw [m1]
    refine (minT_of ⟨sub m m2, fun y hy => ?_⟩).symm
    obtain ⟨u, u1, u2⟩ := low y hy
    exact le_tra (m3 u u1) u2
end
end Pl

set_option Elab.async false
set_option linter.all false
set_option maxRecDepth 100000
set_option maxHeartbeats 4000000
/-! Ev4: the drawn row of every law -/
namespace Pl
open PySem L2
def mixT (script_ : (List Int)) (k_ : Int) : Option Int :=
  (if (decide ((0 : Int) < (script_.length : Int))) = true then ((modT k_ (script_.length : Int)).bind fun (v_ : Int) => atI script_ v_).bind fun (cell_ : Int) =>
  some cell_
  else some (0 : Int)).bind fun (cell_1 : Int) =>
  bnd (Int.fmod (((cell_1 * (48271 : Int)) + (k_ * (69621 : Int))) + (8191 : Int)) (2147483647 : Int)) fun (first_ : Int) =>
  (((((mulT first_ first_).bind fun (v_1 : Int) => some (v_1 + (Int.fdiv first_ (7 : Int)))).bind fun (v_2 : Int) => some (v_2 + (k_ * (16807 : Int)))).bind fun (v_3 : Int) => some v_3).bind fun (v_4 : Int) => some (Int.fmod v_4 (2147483629 : Int))).bind fun (second_ : Int) =>
  (((((mulT second_ second_).bind fun (v_5 : Int) => some (v_5 + (Int.fdiv second_ (11 : Int)))).bind fun (v_6 : Int) => some (v_6 + (40692 : Int))).bind fun (v_7 : Int) => some v_7).bind fun (v_8 : Int) => some (Int.fmod v_8 (2147483563 : Int))).bind fun (third_ : Int) =>
  some (Int.fmod (Int.fdiv third_ (5 : Int)) (1000003 : Int))
def rowT_1 (script_ : (List Int)) (s_ : (Int × (List Int))) (k_ : Int) : Option ((Int × (List Int))) :=
  if (decide ((0 : Int) < s_.1)) = true then (pshT s_.2 (Int.fmod s_.1 (1000 : Int))).bind fun (row_ : (List Int)) =>
  some (bnd (Int.fdiv s_.1 (1000 : Int)) fun (big_2 : Int) =>
  (big_2, row_))
  else (mixT script_ k_).bind fun (v_1 : Int) => (pshT s_.2 v_1).bind fun (row_1 : (List Int)) =>
  some (s_.1, row_1)
def rowT (script_ : (List Int)) (many_ : Int) : Option (List Int) :=
  ((andO (some (decide ((0 : Int) < (script_.length : Int)))) ((atI script_ (0 : Int)).bind fun (v_ : Int) => some (decide ((1000000000000000000 : Int) ≤ v_)))).bind fun b_ => if b_ = true then (atI script_ (0 : Int)).bind fun (big_ : Int) =>
  some big_
  else some (0 : Int)).bind fun (big_1 : Int) =>
  (rng1T many_).bind fun (xs_ : List Int) =>
  (foldO (rowT_1 script_) (big_1, ([] : List Int)) xs_).bind fun (s_1 : (Int × (List Int))) =>
  some s_1.2
theorem mixT_ok (ns : List Int) (k : Int) : ∃ z, mixT ns k = some z ∧ 0 ≤ z ∧ z < 1000003 := by
  unfold mixT
  have h : ∃ c, (if (decide ((0 : Int) < (ns.length : Int))) = true then ((modT k (ns.length : Int)).bind fun (v_ : Int) => atI ns v_).bind fun (cell_ : Int) => some cell_ else some (0 : Int)) = some c := by
    by_cases c : (0 : Int) < ns.length
    · rw [if_pos (decide_eq_true c), modT_n (by omega)]
      simp only [bindS]
      have := fmod_in k c
      obtain ⟨a, a1, _⟩ := atI_some (xs := ns) this.1 this.2
      rw [a1]
      exact ⟨a, rfl⟩
    · rw [if_neg (by simpa using c)]
      exact ⟨0, rfl⟩
  obtain ⟨c, e⟩ := h
  rw [e]
  simp only [bindS, bnd_eq]
  have f1 := fmod_in (c * 48271 + k * 69621 + 8191) (show (0 : Int) < 2147483647 by decide)
  generalize (c * 48271 + k * 69621 + 8191).fmod 2147483647 = first at *
  rw [mulT_l (by omega)]
  simp only [bindS]
  have f2 := fmod_in (first * first + first.fdiv 7 + k * 16807) (show (0 : Int) < 2147483629 by decide)
  generalize (first * first + first.fdiv 7 + k * 16807).fmod 2147483629 = second at *
  rw [mulT_l (by omega)]
  simp only [bindS]
  exact ⟨_, rfl, fmod_in _ (by decide)⟩
theorem rowT_fold (ns : List Int) : ∀ (xs : List Int) (s : Int × List Int), s.2.length + xs.length ≤ 16777215 → (∀ x ∈ s.2, 0 ≤ x ∧ x < 1000003) → ∃ t, foldO (rowT_1 ns) s xs = some t ∧ t.2.length = s.2.length + xs.length ∧ ∀ x ∈ t.2, 0 ≤ x ∧ x < 1000003
  | [], s, _, h => ⟨s, rfl, rfl, h⟩
  | k :: xs, s, hl, h => by
    rw [List.length_cons] at hl
    have one : ∃ b z, rowT_1 ns s k = some (b, s.2 ++ [z]) ∧ 0 ≤ z ∧ z < 1000003 := by
      unfold rowT_1
      by_cases c : (0 : Int) < s.1
      · rw [if_pos (decide_eq_true c), pshT_some (by omega)]
        simp only [bindS, bnd_eq]
        have := fmod_in s.1 (show (0 : Int) < 1000 by decide)
        exact ⟨_, _, rfl, this.1, by omega⟩
      · rw [if_neg (by simpa using c)]
        obtain ⟨z, e, z0, z1⟩ := mixT_ok ns k
        rw [e]
        simp only [bindS]
        rw [pshT_some (by omega)]
        exact ⟨_, z, rfl, z0, z1⟩
    obtain ⟨b, z, e, z0, z1⟩ := one
    obtain ⟨t, t1, t2, t3⟩ := rowT_fold ns xs (b, s.2 ++ [z]) (by simp; omega) (fun x hx => by
      rcases List.mem_append.mp hx with hx | hx
      · exact h x hx
      · rw [List.mem_singleton] at hx; rw [hx]; exact ⟨z0, z1⟩)
    refine ⟨t, ?_, by rw [t2]; simp; omega, t3⟩
    rw [foldO, e]
    exact t1
theorem rowT_ok (ns : List Int) {m : Nat} (hm : m ≤ 100000) : ∃ row : List Int, row.length = m ∧ rowT ns (m : Int) = some row ∧ ∀ x ∈ row, 0 ≤ x ∧ x < 1000003 := by
  unfold rowT
  have h : ∃ b, ((andO (some (decide ((0 : Int) < (ns.length : Int)))) ((atI ns (0 : Int)).bind fun (v_ : Int) => some (decide ((1000000000000000000 : Int) ≤ v_)))).bind fun b_ => if b_ = true then (atI ns (0 : Int)).bind fun (big_ : Int) => some big_ else some (0 : Int)) = some b := by
    cases ns with
    | nil => exact ⟨0, rfl⟩
    | cons n ns =>
      have e : atI (n :: ns) (0 : Int) = some n := by rw [show (0 : Int) = ((0 : Nat) : Int) from rfl, atI_nt]; rfl
      rw [e, decide_eq_true (by simp)]
      by_cases c : (1000000000000000000 : Int) ≤ n
      · exact ⟨n, by simp [andO, c]⟩
      · exact ⟨0, by simp [andO, c]⟩
  obtain ⟨b, e⟩ := h
  rw [e, rng1T_nat (by omega)]
  simp only [bindS]
  obtain ⟨t, t1, t2, t3⟩ := rowT_fold ns (nI m) (b, []) (by rw [nI_len]; simp; omega) (fun x hx => by cases hx)
  rw [t1]
  simp only [bindS]
  exact ⟨t.2, by rw [t2, nI_len]; simp, rfl, t3⟩
end Pl

set_option Elab.async false
set_option linter.all false
set_option maxRecDepth 100000
set_option maxHeartbeats 4000000
/-! Ev5: folds with what is done so far, while with levels, sums, short lists of positive rows -/
namespace Pl
open PySem L2
section
variable {α β S T : Type}
theorem snoc_ind {P : List α → Prop} (h0 : P []) (h1 : ∀ xs x, P xs → P (xs ++ [x])) (xs : List α) : P xs := by
  have : ∀ n (xs : List α), xs.length = n → P xs := by
    intro n
    induction n with
    | zero => intro xs h; rw [List.length_eq_zero_iff.mp h]; exact h0
    | succ n ih =>
      intro xs h
      have hn : xs ≠ [] := fun z => by rw [z] at h; simp at h
      have := h1 xs.dropLast (xs.getLast hn) (ih _ (by simp [h]))
      rwa [List.dropLast_concat_getLast] at this
  exact this _ xs rfl
theorem foldO_pre2 {step1 : S → α → Option S} {step2 : T → α → Option T} (I : List α → S → T → Prop) (xs : List α)
    (h : ∀ pre x post s t, xs = pre ++ x :: post → I pre s t → ∃ s' t', step1 s x = some s' ∧ step2 t x = some t' ∧ I (pre ++ [x]) s' t') :
    ∀ (rest pre : List α) (s : S) (t : T), xs = pre ++ rest → I pre s t → ∃ s' t', foldO step1 s rest = some s' ∧ foldO step2 t rest = some t' ∧ I xs s' t'
  | [], pre, s, t, e, i => ⟨s, t, rfl, rfl, by rw [e, List.append_nil]; exact i⟩
  | x :: rest, pre, s, t, e, i => by
    obtain ⟨s', t', h1, h2, i'⟩ := h pre x rest s t e i
    obtain ⟨a, b, k1, k2, k3⟩ := foldO_pre2 I xs h rest (pre ++ [x]) s' t' (by rw [e, List.append_assoc]; rfl) i'
    refine ⟨a, b, ?_, ?_, k3⟩
    · rw [foldO, h1]; exact k1
    · rw [foldO, h2]; exact k2
theorem foldO_pre {step : S → α → Option S} (I : List α → S → Prop) (xs : List α) (s : S) (h0 : I [] s)
    (h : ∀ pre x post s, xs = pre ++ x :: post → I pre s → ∃ s', step s x = some s' ∧ I (pre ++ [x]) s') : ∃ s', foldO step s xs = some s' ∧ I xs s' := by
  obtain ⟨a, b, k1, _, k3⟩ := foldO_pre2 (step2 := fun (_ : Unit) (_ : α) => some ()) (fun pre s _ => I pre s) xs (fun pre x post s t e i => by
    obtain ⟨s', k, k'⟩ := h pre x post s e i
    exact ⟨s', (), k, rfl, k'⟩) xs [] s () rfl h0
  exact ⟨a, k1, k3⟩
theorem whileS_lv {c : S → Option Bool} {step : S → Option S} (I : Nat → S → Prop) (N : Nat) (hc : ∀ i s, i ≤ N → I i s → c s = some false ∨ (i < N ∧ c s = some true ∧ ∃ s', step s = some s' ∧ I (i + 1) s')) :
    ∀ (m i : Nat) (s : S), i ≤ N → N - i < m → I i s → ∃ j s', j ≤ N ∧ whileS c step m s = some s' ∧ I j s' ∧ c s' = some false
  | 0, _, _, _, h, _ => absurd h (by omega)
  | m + 1, i, s, hi, hm, k => by
    rw [whileS]
    rcases hc i s hi k with h | ⟨hl, h, s', h1, h2⟩
    · exact ⟨i, s, hi, by rw [h]; rfl, k, h⟩
    · obtain ⟨j, t, a, b, d⟩ := whileS_lv I N hc m (i + 1) s' (by omega) (by omega) h2
      exact ⟨j, t, a, by rw [h, h1]; exact b, d⟩
theorem sum_perm {xs ys : List Int} (h : xs.Perm ys) : xs.sum = ys.sum := by
  induction h with
  | nil => rfl
  | cons x _ ih => rw [List.sum_cons, List.sum_cons, ih]
  | swap x y l => simp only [List.sum_cons]; omega
  | trans _ _ h1 h2 => exact h1.trans h2
theorem sum_app (xs ys : List Int) : (xs ++ ys).sum = xs.sum + ys.sum := List.sum_append
theorem sum_one (x : Int) : [x].sum = x := by simp
theorem sum_pos {xs : List Int} (h : ∀ x ∈ xs, 0 ≤ x) : 0 ≤ xs.sum := by
  induction xs with
  | nil => exact Int.le_refl 0
  | cons x xs ih =>
    rw [List.sum_cons]
    have := h x (List.mem_cons_self ..)
    have := ih fun y hy => h y (List.mem_cons_of_mem _ hy)
    omega
theorem sum_in {xs : List Int} (h : ∀ x ∈ xs, 0 ≤ x) {x : Int} (hx : x ∈ xs) : x ≤ xs.sum := by
  induction xs with
  | nil => exact (List.not_mem_nil hx).elim
  | cons y ys ih =>
    rw [List.sum_cons]
    have h1 := h y (List.mem_cons_self ..)
    have h2 := sum_pos fun z hz => h z (List.mem_cons_of_mem _ hz)
    rcases List.mem_cons.mp hx with e | e
    · omega
    · have := ih (fun z hz => h z (List.mem_cons_of_mem _ hz)) e
      omega
theorem nodup_le [DecidableEq α] {l m : List α} (h : l.Nodup) (s : ∀ x ∈ l, x ∈ m) : l.length ≤ m.length := by
  induction l generalizing m with
  | nil => exact Nat.zero_le _
  | cons x l ih =>
    obtain ⟨hx, hl⟩ := List.nodup_cons.mp h
    have hm := s x (List.mem_cons_self ..)
    have := ih (m := m.erase x) hl (fun y hy => (List.mem_erase_of_ne (fun e : y = x => hx (e ▸ hy))).mpr (s y (List.mem_cons_of_mem _ hy)))
    rw [List.length_erase_of_mem hm] at this
    have : 0 < m.length := List.length_pos_of_mem hm
    simp only [List.length_cons]; omega
/-- a row of positive numbers as a number -/
def codeR : List Int → Nat
  | [] => 0
  | x :: xs => 2 ^ (x - 1).toNat * (2 * codeR xs + 1)
theorem codeR_lt : ∀ {xs : List Int}, (∀ x ∈ xs, 1 ≤ x) → codeR xs < 2 ^ xs.sum.toNat
  | [], _ => by simp [codeR]
  | x :: xs, h => by
    have h1 := h x (List.mem_cons_self ..)
    have h2 : ∀ y ∈ xs, 1 ≤ y := fun y hy => h y (List.mem_cons_of_mem _ hy)
    have h3 : 0 ≤ xs.sum := sum_pos fun y hy => by have := h2 y hy; omega
    have ih := codeR_lt h2
    rw [codeR, List.sum_cons, show (x + xs.sum).toNat = (x - 1).toNat + 1 + xs.sum.toNat by omega, Nat.pow_add, Nat.pow_add, Nat.mul_assoc]
    exact (Nat.mul_lt_mul_left (Nat.two_pow_pos _)).mpr (by omega)
theorem codeR_odd {a b : Nat} : ∀ {i j : Nat}, 2 ^ i * (2 * a + 1) = 2 ^ j * (2 * b + 1) → i = j ∧ a = b
  | 0, 0, h => ⟨rfl, by omega⟩
  | 0, j + 1, h => by
    rw [Nat.pow_succ, Nat.mul_comm (2 ^ j) 2, Nat.mul_assoc] at h
    have := Nat.mul_comm; omega
  | i + 1, 0, h => by
    rw [Nat.pow_succ, Nat.mul_comm (2 ^ i) 2, Nat.mul_assoc] at h
    omega
  | i + 1, j + 1, h => by
    rw [Nat.pow_succ, Nat.pow_succ, Nat.mul_comm (2 ^ i) 2, Nat.mul_comm (2 ^ j) 2, Nat.mul_assoc, Nat.mul_assoc] at h
    obtain ⟨h1, h2⟩ := codeR_odd (a := a) (b := b) (Nat.eq_of_mul_eq_mul_left (by decide) h)
    exact ⟨by rw [h1], h2⟩
theorem codeR_inj : ∀ {xs ys : List Int}, (∀ x ∈ xs, 1 ≤ x) → (∀ y ∈ ys, 1 ≤ y) → codeR xs = codeR ys → xs = ys
  | [], [], _, _, _ => rfl
  | [], y :: ys, _, _, h => by
    have : 0 < codeR (y :: ys) := by rw [codeR]; exact Nat.mul_pos (Nat.two_pow_pos _) (by omega)
    rw [← h] at this; simp [codeR] at this
  | x :: xs, [], _, _, h => by
    have : 0 < codeR (x :: xs) := by rw [codeR]; exact Nat.mul_pos (Nat.two_pow_pos _) (by omega)
    rw [h] at this; simp [codeR] at this
  | x :: xs, y :: ys, h1, h2, h => by
    rw [codeR, codeR] at h
    obtain ⟨a, b⟩ := codeR_odd h
    have p := h1 x (List.mem_cons_self ..)
    have q := h2 y (List.mem_cons_self ..)
    have e : x = y := by omega
    rw [e, codeR_inj (fun z hz => h1 z (List.mem_cons_of_mem _ hz)) (fun z hz => h2 z (List.mem_cons_of_mem _ hz)) b]
theorem rows_small {rows : List (List Int)} {n : Nat} (hn : rows.Nodup) (h : ∀ r ∈ rows, (∀ x ∈ r, 1 ≤ x) ∧ r.sum ≤ n) : rows.length ≤ 2 ^ n := by
  have : (rows.map codeR).Nodup := nodup_map hn fun x hx y hy e => codeR_inj (h x hx).1 (h y hy).1 e
  have := nodup_le (m := List.range (2 ^ n)) this (fun z hz => by
    obtain ⟨r, hr, e⟩ := List.mem_map.mp hz
    rw [List.mem_range, ← e]
    refine Nat.lt_of_lt_of_le (codeR_lt (h r hr).1) (Nat.pow_le_pow_right (by decide) ?_)
    have := (h r hr).2
    omega)
  simpa using this
end
end Pl

set_option Elab.async false
set_option linter.all false
set_option maxRecDepth 100000
set_option maxHeartbeats 4000000
/-! C45a: what a plan costs -/
namespace Lk45
open PySem PySem.Spec L2 Pl
theorem list_rv {xs ys : List Int} (h : xs.length = ys.length) (k : ∀ p : Int, 0 ≤ p → p < xs.length → rv xs p = rv ys p) : xs = ys := by
  apply List.ext_getElem h
  intro i h1 h2
  have := k (i : Int) (by omega) (by omega)
  unfold rv at this
  simpa [List.getD, h1, h2] using this
theorem rv_set {xs : List Int} {p q : Int} {v : Int} (h0 : 0 ≤ p) (h1 : p < xs.length) (g0 : 0 ≤ q) : rv (xs.set p.toNat v) q = if p = q then v else rv xs q := by
  unfold rv
  rw [List.getD_eq_getElem?_getD, List.getD_eq_getElem?_getD, List.getElem?_set]
  by_cases e : p = q
  · subst e
    rw [if_pos rfl, if_pos (by omega), if_pos rfl]; rfl
  · rw [if_neg (by omega), if_neg e]
theorem rv_map {n : Nat} {f : Int → Int} {p : Int} (h0 : 0 ≤ p) (h1 : p < n) : rv ((nI n).map f) p = f p := by
  unfold rv nI
  rw [List.getD_eq_getElem?_getD, List.getElem?_map, List.getElem?_map, List.getElem?_range (by omega)]
  simp [Int.toNat_of_nonneg h0]
theorem enum_rv {xs : List Int} {q : Int × Int} (h : q ∈ enumI xs) : rv xs q.1 = q.2 ∧ 0 ≤ q.1 ∧ q.1 < xs.length := by
  obtain ⟨a, b, c⟩ := enum_at h
  rw [row_at rfl b c] at a
  exact ⟨Option.some.inj a, b, c⟩
theorem rv_mem {xs : List Int} {p : Int} (h0 : 0 ≤ p) (h1 : p < xs.length) : rv xs p ∈ xs := by
  obtain ⟨a, a1, _, a2⟩ := atI_some (xs := xs) h0 h1
  rw [row_at rfl h0 h1] at a1
  rwa [← Option.some.inj a1] at a2
/-- what one pipe costs -/
def cst (C : List Int) (a : Int) : Int := rv C (minI a ((C.length : Int) - 1))
theorem minI_in {a b : Int} (ha : 0 ≤ a) (hb : 0 ≤ b) : 0 ≤ minI a b ∧ minI a b ≤ b := by
  unfold minI
  split <;> omega
theorem cst_t {C : List Int} (hC : C ≠ []) {a : Int} (ha : 0 ≤ a) : atI C (minI a ((C.length : Int) - 1)) = some (cst C a) := by
  have := List.length_pos_iff.mpr hC
  have := minI_in (a := a) (b := (C.length : Int) - 1) ha (by omega)
  exact row_at rfl this.1 (by omega)
/-- one pipe behind the renewal of S -/
def yv (S now : List Int) (k : Int) : Int := if k ∈ S then 0 else rv now k
def keyS (S now : List Int) : List Int := (nI now.length).map fun k => yv S now k + 1
def moreS (C : List Int) (new trench : Int) (S now : List Int) : Int := (if S = [] then 0 else trench) + new * S.length + ((nI now.length).map fun k => cst C (yv S now k)).sum
def pc (C : List Int) (new trench : Int) : List Int → List (List Int) → Int
  | _, [] => 0
  | now, S :: P => moreS C new trench S now + pc C new trench (keyS S now) P
def endS : List Int → List (List Int) → List Int
  | now, [] => now
  | now, S :: P => endS (keyS S now) P
def Nn (now : List Int) : Prop := ∀ x ∈ now, 0 ≤ x
theorem yv_ge {S now : List Int} (h : Nn now) {k : Int} (h0 : 0 ≤ k) (h1 : k < now.length) : 0 ≤ yv S now k := by
  unfold yv
  split
  · exact Int.le_refl 0
  · exact h _ (rv_mem h0 h1)
theorem keyS_nn {S now : List Int} (h : Nn now) : Nn (keyS S now) := fun x hx => by
  obtain ⟨k, hk, e⟩ := List.mem_map.mp hx
  have := nI_mem.mp hk
  have := yv_ge (S := S) h this.1 this.2
  omega
theorem keyS_len {S now : List Int} : (keyS S now).length = now.length := by unfold keyS; rw [List.length_map, nI_len]
/-- the inner loop, of the law's kind and of the program's -/
theorem pipes_t {C S now : List Int} (hC : C ≠ []) (hn : Nn now) (hl : now.length ≤ 100) {step : List Int × Int → Int → Option (List Int × Int)} (t0 : Int)
    (h : ∀ (s : List Int × Int) (k : Int), 0 ≤ k → k < now.length → s.1.length = now.length → rv s.1 k = rv now k → step s k = some (s.1.set k.toNat (yv S now k + 1), s.2 + cst C (yv S now k))) :
    (rng1T (now.length : Int)).bind (fun xs => (foldO step (now, t0) xs).bind fun s => some (s.1, s.2)) = some (keyS S now, t0 + ((nI now.length).map fun k => cst C (yv S now k)).sum) := by
  rw [rng1T_nat (by omega)]
  simp only [bindS]
  obtain ⟨t, ht, h1, h2, h3⟩ := foldO_pre (step := step) (fun pre s => s.1.length = now.length ∧ (∀ p : Int, 0 ≤ p → p < now.length → rv s.1 p = if p ∈ pre then yv S now p + 1 else rv now p) ∧ s.2 = t0 + (pre.map fun k => cst C (yv S now k)).sum) (nI now.length) (now, t0) ⟨rfl, fun p _ _ => by rw [if_neg (by simp)], by simp⟩ (fun pre k post s e i => by
    obtain ⟨i1, i2, i3⟩ := i
    have hk := nI_mem.mp (show k ∈ nI now.length by rw [e]; simp)
    have nd : (nI now.length).Nodup := nodup_map List.nodup_range fun a _ b _ e => Int.ofNat.inj e
    have hnew : k ∉ pre := fun z => by
      rw [e, List.nodup_append] at nd
      exact nd.2.2 k z k List.mem_cons_self rfl
    refine ⟨_, h s k hk.1 hk.2 i1 (by rw [i2 k hk.1 hk.2, if_neg hnew]), by rw [List.length_set, i1], fun p p0 p1 => ?_, ?_⟩
    · show rv (s.1.set k.toNat _) p = _
      rw [rv_set hk.1 (by omega) p0]
      by_cases c : k = p
      · rw [if_pos c, if_pos (by rw [c]; simp), c]
      · rw [if_neg c, i2 p p0 p1]
        have : p ∈ pre ++ [k] ↔ p ∈ pre := by
          rw [List.mem_append, List.mem_singleton]
          exact ⟨fun z => z.elim id fun w => absurd w.symm c, .inl⟩
        by_cases d : p ∈ pre
        · rw [if_pos d, if_pos (this.mpr d)]
        · rw [if_neg d, if_neg fun z => d (this.mp z)]
    · rw [List.map_append, sum_app, List.map_singleton, sum_one, i3]
      show _ + _ + _ = _
      omega)
  rw [ht]
  simp only [bindS]
  congr 1
  refine Prod.ext ?_ h3
  refine list_rv (by rw [keyS_len]; exact h1) fun p p0 p1 => ?_
  have p1 : p < now.length := by rw [← h1]; exact p1
  rw [h2 p p0 p1, if_pos (nI_mem.mpr ⟨p0, p1⟩)]
  unfold keyS
  rw [rv_map p0 p1]
theorem law_pipe {C S now : List Int} (hC : C ≠ []) (hn : Nn now) (s : List Int × Int) (k : Int) (h0 : 0 ≤ k) (h1 : k < now.length) (hs : s.1.length = now.length) (hr : rv s.1 k = rv now k) :
    t__law_cost_1 C S s k = some (s.1.set k.toNat (yv S now k + 1), s.2 + cst C (yv S now k)) ∧ t__law_cost_i1_1 C S s k = some (s.1.set k.toNat (yv S now k + 1), s.2 + cst C (yv S now k)) := by
  have hy := yv_ge (S := S) hn h0 h1
  have key : ∀ l : List Int, l.length = now.length → rv l k = yv S now k → l.set k.toNat (yv S now k + 1) = s.1.set k.toNat (yv S now k + 1) →
      ((((atI l k).bind fun (v_3 : Int) => some (minI v_3 ((C.length : Int) - (1 : Int)))).bind fun (v_4 : Int) => atI C v_4).bind fun (v_5 : Int) => some (s.2 + v_5)).bind (fun (total_1 : Int) =>
        ((atI l k).bind fun (v_6 : Int) => some (v_6 + (1 : Int))).bind fun (v_7 : Int) => (setT l k v_7).bind fun (now_2 : (List Int)) => some (now_2, total_1)) = some (s.1.set k.toNat (yv S now k + 1), s.2 + cst C (yv S now k)) := fun l hl e1 e2 => by
    rw [row_at rfl h0 (by omega), e1]
    simp only [bindS]
    rw [cst_t hC hy]
    simp only [bindS]
    rw [set_at h0 (by omega), e2]; rfl
  have go : (if (decide (k ∈ S)) = true then (setT s.1 k (0 : Int)).bind fun (now_ : (List Int)) => some now_ else some s.1) = some (if k ∈ S then s.1.set k.toNat 0 else s.1) := by
    by_cases c : k ∈ S
    · rw [if_pos (decide_eq_true c), if_pos c, set_at h0 (by omega)]; rfl
    · rw [if_neg (by simpa using c), if_neg c]
  have fin : ∀ o, o = (if k ∈ S then s.1.set k.toNat 0 else s.1) → o.length = now.length ∧ rv o k = yv S now k ∧ o.set k.toNat (yv S now k + 1) = s.1.set k.toNat (yv S now k + 1) := fun o e => by
    by_cases c : k ∈ S
    · rw [if_pos c] at e
      subst e
      refine ⟨by rw [List.length_set, hs], ?_, List.set_set ..⟩
      rw [rv_set h0 (by omega) h0, if_pos rfl]
      unfold yv
      rw [if_pos c]
    · rw [if_neg c] at e
      subst e
      refine ⟨hs, ?_, rfl⟩
      rw [hr]
      unfold yv
      rw [if_neg c]
  obtain ⟨f1, f2, f3⟩ := fin _ rfl
  constructor
  · unfold t__law_cost_1
    rw [go]
    exact key _ f1 f2 f3
  · unfold t__law_cost_i1_1
    rw [go]
    exact key _ f1 f2 f3
theorem prog_pipe {C S now : List Int} (hC : C ≠ []) (hn : Nn now) (s : List Int × Int) (k : Int) (h0 : 0 ≤ k) (h1 : k < now.length) (hs : s.1.length = now.length) (hr : rv s.1 k = rv now k) :
    t_plan_sum_1 C S s k = some (s.1.set k.toNat (yv S now k + 1), s.2 + cst C (yv S now k)) := by
  have hy := yv_ge (S := S) hn h0 h1
  have go : (if (decide (k ∈ S)) = true then some (0 : Int) else atI s.1 k) = some (yv S now k) := by
    unfold yv
    by_cases c : k ∈ S
    · rw [if_pos (decide_eq_true c), if_pos c]
    · rw [if_neg (by simpa using c), if_neg c, row_at rfl h0 (by omega), hr]
  unfold t_plan_sum_1
  rw [go]
  simp only [bindS]
  rw [set_at h0 (by omega)]
  simp only [bindS]
  rw [row_at rfl h0 (by rw [List.length_set]; omega), rv_set h0 (by omega) h0, if_pos rfl]
  simp only [bindS]
  unfold t_cost_at
  rw [cst_t hC hy]
  simp only [bindS, bnd_eq]
  rw [aug_at h0 (by rw [List.length_set]; omega)]
  have : (s.1.set k.toNat (yv S now k)).getD k.toNat 0 = yv S now k := by
    have := rv_set (xs := s.1) (v := yv S now k) h0 (by omega) h0
    rw [if_pos rfl] at this
    exact this
  rw [this, List.set_set]; rfl
def Small (new trench : Int) : Prop := 0 ≤ new ∧ new ≤ 1000 ∧ 0 ≤ trench ∧ trench ≤ 1000
theorem fee {new trench : Int} (h : Small new trench) (S : List Int) (t : Int) (f : Int → Option (List Int × Int)) :
    ((((mulT trench (if (decide ((0 : Int) < (S.length : Int))) = true then (1 : Int) else 0)).bind fun (v_ : Int) => some (t + v_)).bind fun (v_1 : Int) => (mulT new (S.length : Int)).bind fun (v_2 : Int) => some (v_1 + v_2)).bind f) = f (t + ((if S = [] then 0 else trench) + new * S.length)) ∧
    (((mulT new (S.length : Int)).bind fun (v_ : Int) => some ((if (!S.isEmpty) = true then trench else (0 : Int)) + v_)).bind fun (v_4 : Int) => bnd (t + v_4) f) = f (t + ((if S = [] then 0 else trench) + new * S.length)) := by
  obtain ⟨a, b, c, d⟩ := h
  constructor
  · rw [mulT_l (by omega)]
    simp only [bindS]
    rw [mulT_l (by omega)]
    simp only [bindS]
    congr 1
    cases S with
    | nil => simp
    | cons x S =>
      rw [if_pos (by simp), if_neg (by simp)]; omega
  · rw [mulT_l (by omega)]
    simp only [bindS, bnd_eq]
    cases S with
    | nil => simp
    | cons x S => simp
theorem cost_t {C : List Int} (hC : C ≠ []) {new trench : Int} (hm : Small new trench) : ∀ (P : List (List Int)) (now : List Int) (t : Int), Nn now → now.length ≤ 100 →
    foldO (t__law_cost_2 C new trench) (now, t) P = some (endS now P, t + pc C new trench now P) ∧ foldO (t__law_cost_i1_2 C new trench) (now, t) P = some (endS now P, t + pc C new trench now P) ∧ foldO (t_plan_sum_2 C new trench) (now, t) P = some (endS now P, t + pc C new trench now P)
  | [], now, t, _, _ => by
    have : t + pc C new trench now [] = t := by unfold pc; omega
    rw [this]; exact ⟨rfl, rfl, rfl⟩
  | S :: P, now, t, hn, hl => by
    obtain ⟨ih1, ih2, ih3⟩ := cost_t hC hm P (keyS S now) (t + moreS C new trench S now) (keyS_nn hn) (by rw [keyS_len]; exact hl)
    have e : t + moreS C new trench S now + pc C new trench (keyS S now) P = t + pc C new trench now (S :: P) := by rw [pc]; omega
    rw [e] at ih1 ih2 ih3
    have et : ∀ z, t + ((if S = [] then 0 else trench) + new * S.length) + z = t + (((if S = [] then 0 else trench) + new * S.length) + z) := fun z => by omega
    refine ⟨?_, ?_, ?_⟩
    · rw [foldO, show t__law_cost_2 C new trench (now, t) S = some (keyS S now, t + moreS C new trench S now) from ?_]
      · exact ih1
      · unfold t__law_cost_2
        rw [(fee hm S t _).1, pipes_t hC hn hl _ fun s k a b c d => (law_pipe hC hn s k a b c d).1, et]; rfl
    · rw [foldO, show t__law_cost_i1_2 C new trench (now, t) S = some (keyS S now, t + moreS C new trench S now) from ?_]
      · exact ih2
      · unfold t__law_cost_i1_2
        rw [(fee hm S t _).1, pipes_t hC hn hl _ fun s k a b c d => (law_pipe hC hn s k a b c d).2, et]; rfl
    · rw [foldO, show t_plan_sum_2 C new trench (now, t) S = some (keyS S now, t + moreS C new trench S now) from ?_]
      · exact ih3
      · unfold t_plan_sum_2
        rw [(fee hm S t _).2, pipes_t hC hn hl _ fun s k a b c d => prog_pipe hC hn s k a b c d, et]; rfl
theorem costs_t {C : List Int} (hC : C ≠ []) {new trench : Int} (hm : Small new trench) (P : List (List Int)) {now : List Int} (hn : Nn now) (hl : now.length ≤ 100) :
    t__law_cost now C new trench P = some (pc C new trench now P) ∧ t__law_cost_i1 now C new trench P = some (pc C new trench now P) ∧ t_plan_sum now C new trench P = some (pc C new trench now P) := by
  obtain ⟨h1, h2, h3⟩ := cost_t hC hm P now 0 hn hl
  rw [Int.zero_add] at h1 h2 h3
  refine ⟨?_, ?_, ?_⟩
  · unfold t__law_cost; rw [h1]; rfl
  · unfold t__law_cost_i1; rw [h2]; rfl
  · unfold t_plan_sum; rw [h3]; rfl
end Lk45

set_option Elab.async false
set_option linter.all false
set_option maxRecDepth 100000
set_option maxHeartbeats 4000000
/-! C45b: the least plan -/
namespace Lk45
open PySem PySem.Spec L2 Pl
abbrev Plan := List (List Int)
abbrev Tld := Int × Plan
def lt3 : Tld → Tld → Bool := Pl.ltP ltI (ltL (ltL ltI))
instance : TotL lt3 := inferInstanceAs (TotL (Pl.ltP ltI (ltL (ltL ltI))))
/-- all sets of n pipes -/
def A (n : Nat) : List (List Int) := (t_all_sets (n : Int)).getD []
theorem sets_all : ([1, 2, 3].all fun n : Nat => decide (t_all_sets (n : Int) = some (A n)) && decide ((A n).length = 2 ^ n) && (A n).all (fun S => decide (S = (nI n).filter (fun k => decide (k ∈ S)))) &&
    match foldO t__law_sets_1 [[]] (nI n) with
    | none => false
    | some F => decide (F.length = 2 ^ n) && F.all (fun S => decide (S ∈ A n)) && (A n).all (fun S => decide (S ∈ F))) = true := by decide +kernel
structure NOk (n : Nat) : Prop where
  n0 : 1 ≤ n
  n1 : n ≤ 3
  all : t_all_sets (n : Int) = some (A n)
  len : (A n).length = 2 ^ n
  flt : ∀ S ∈ A n, S = (nI n).filter fun k => decide (k ∈ S)
  law : ∃ B, t__law_sets (n : Int) = some B ∧ B.length = 2 ^ n ∧ ∀ S, S ∈ B ↔ S ∈ A n
theorem n_ok {n : Nat} (h0 : 1 ≤ n) (h1 : n ≤ 3) : NOk n := by
  have hm : n ∈ [1, 2, 3] := by simp; omega
  have a := List.all_eq_true.mp sets_all n hm
  rw [Bool.and_eq_true, Bool.and_eq_true, Bool.and_eq_true] at a
  obtain ⟨⟨⟨a1, a2⟩, a3⟩, a4⟩ := a
  refine ⟨h0, h1, of_decide_eq_true a1, of_decide_eq_true a2, fun S hS => of_decide_eq_true (List.all_eq_true.mp a3 S hS), ?_⟩
  cases e : foldO t__law_sets_1 [[]] (nI n) with
  | none => rw [e] at a4; cases a4
  | some F =>
    rw [e] at a4
    have a4 : (decide (F.length = 2 ^ n) && F.all (fun S => decide (S ∈ A n)) && (A n).all (fun S => decide (S ∈ F))) = true := a4
    rw [Bool.and_eq_true, Bool.and_eq_true] at a4
    obtain ⟨⟨b1, b2⟩, b3⟩ := a4
    have b1 := of_decide_eq_true b1
    have hp : 2 ^ n ≤ 2 ^ 3 := Nat.pow_le_pow_right (by decide) h1
    have pm := sort_perm (lt := ltL ltI) (xs := F)
    refine ⟨F.mergeSort fun a b => !ltL ltI b a, ?_, by rw [pm.length_eq, b1], fun S => ?_⟩
    · unfold t__law_sets
      rw [bnd_eq, rng1T_nat (by omega)]
      simp only [bindS]
      rw [e]
      simp only [bindS]
      rw [sortT_some (by omega)]
    · rw [pm.mem_iff]
      exact ⟨fun h => of_decide_eq_true (List.all_eq_true.mp b2 S h), fun h => of_decide_eq_true (List.all_eq_true.mp b3 S h)⟩
theorem A_in {n : Nat} (N : NOk n) {S : List Int} (h : S ∈ A n) : ∀ k ∈ S, 0 ≤ k ∧ k < n := fun k hk => by
  have := N.flt S h
  rw [this] at hk
  exact nI_mem.mp (List.mem_filter.mp hk).1
theorem A_len {n : Nat} (N : NOk n) {S : List Int} (h : S ∈ A n) : S.length ≤ 3 := by
  rw [N.flt S h]
  have := List.length_filter_le (fun k => decide (k ∈ S)) (nI n)
  rw [nI_len] at this
  have := N.n1
  omega
def Valid (n years : Nat) (P : Plan) : Prop := P.length = years ∧ ∀ S ∈ P, S ∈ A n
theorem Valid.snoc {n m : Nat} {P : Plan} {S : List Int} (h : Valid n m P) (hS : S ∈ A n) : Valid n (m + 1) (P ++ [S]) :=
  ⟨by rw [List.length_append, h.1]; rfl, fun x hx => (List.mem_append.mp hx).elim (h.2 x) fun z => by rw [List.mem_singleton.mp z]; exact hS⟩
theorem Valid.init {n m : Nat} {P : Plan} (h : Valid n (m + 1) P) : ∃ Q S, P = Q ++ [S] ∧ Valid n m Q ∧ S ∈ A n := by
  have hn : P ≠ [] := fun z => by have := h.1; rw [z] at this; simp at this
  have e := (List.dropLast_concat_getLast hn).symm
  refine ⟨_, _, e, ⟨?_, fun x hx => h.2 x (List.dropLast_subset _ hx)⟩, h.2 _ (List.getLast_mem hn)⟩
  rw [List.length_dropLast, h.1]; rfl
theorem plans_t {n years : Nat} (N : NOk n) (hy : (2 ^ n) ^ years ≤ 4096) (hy' : years ≤ 100) : ∃ PL, t__law_plans (n : Int) (years : Int) = some PL ∧ PL.length ≤ 4096 ∧ ∀ P, P ∈ PL ↔ Valid n years P := by
  obtain ⟨B, b1, b2, b3⟩ := N.law
  unfold t__law_plans
  rw [bnd_eq, b1]
  simp only [bindS]
  rw [rng1T_nat (by omega)]
  simp only [bindS]
  have pw : ∀ k, k ≤ years → (2 ^ n) ^ k ≤ 4096 := fun k hk => Nat.le_trans (Nat.pow_le_pow_right (Nat.two_pow_pos n) hk) hy
  have hB : 2 ^ n ≤ 2 ^ 3 := Nat.pow_le_pow_right (by decide) N.n1
  obtain ⟨t, ht, h1, h2⟩ := foldO_pre (step := t__law_plans_2 B) (fun pre PL => PL.length = (2 ^ n) ^ pre.length ∧ ∀ P, P ∈ PL ↔ Valid n pre.length P) (nI years) [[]] ⟨by simp, fun P => by
    rw [List.mem_singleton]
    exact ⟨fun h => by subst h; exact ⟨rfl, fun _ h => (List.not_mem_nil h).elim⟩, fun h => List.length_eq_zero_iff.mp h.1⟩⟩ (fun pre x post PL e i => by
    obtain ⟨i1, i2⟩ := i
    have hlen : pre.length + 1 ≤ years := by
      have := congrArg List.length e
      rw [nI_len, List.length_append, List.length_cons] at this; omega
    have p0 := pw _ (Nat.le_trans (Nat.le_succ _) hlen)
    have pl : ∀ P ∈ PL, P.length ≤ 100 := fun P hP => by have := ((i2 P).mp hP).1; omega
    refine ⟨PL.flatMap fun P => B.map fun S => P ++ [S], ?_, ?_, fun P => ?_⟩
    · unfold t__law_plans_2
      rw [bnd_eq, foldO_push (fun P => B.map fun S => P ++ [S]) 8 (PL.length * 8) (fun P => by rw [List.length_map]; omega) (by simp) fun acc P hP ha => by
        unfold t__law_plans_1
        rw [mapO_some (fun S => P ++ [S]) fun S _ => catT_some (by have := pl P hP; simp; omega)]
        simp only [bindS]
        rw [extT_some (by rw [List.length_map]; omega)]; rfl]
      rfl
    · rw [List.length_append, List.length_singleton, Nat.pow_succ, ← i1]
      have : ∀ xs : List Plan, (xs.flatMap fun P => B.map fun S => P ++ [S]).length = xs.length * 2 ^ n := fun xs => by
        induction xs with
        | nil => simp
        | cons x xs ih => rw [List.flatMap_cons, List.length_append, ih, List.length_map, b2, List.length_cons, Nat.add_mul]; omega
      exact this PL
    · rw [List.mem_flatMap, List.length_append, List.length_singleton]
      constructor
      · rintro ⟨Q, h1, h2⟩
        obtain ⟨S, hS, e⟩ := List.mem_map.mp h2
        subst e
        exact ((i2 Q).mp h1).snoc ((b3 S).mp hS)
      · intro h
        obtain ⟨Q, S, e, h1, h2⟩ := h.init
        exact ⟨Q, (i2 Q).mpr h1, List.mem_map.mpr ⟨S, (b3 S).mpr h2, e.symm⟩⟩)
  rw [ht]
  rw [nI_len] at h1 h2
  exact ⟨t, rfl, by rw [h1]; exact hy, h2⟩
/-- the least of all plans -/
def IsLeast (C : List Int) (new trench : Int) (ages : List Int) (years : Nat) (m : Tld) : Prop :=
  (∃ P, Valid ages.length years P ∧ m = (pc C new trench ages P, P)) ∧ ∀ P, Valid ages.length years P → lt3 (pc C new trench ages P, P) m = false
theorem IsLeast.uniq {C : List Int} {new trench : Int} {ages : List Int} {years : Nat} {m m' : Tld} (h : IsLeast C new trench ages years m) (h' : IsLeast C new trench ages years m') : m = m' := by
  obtain ⟨⟨P, p1, p2⟩, p3⟩ := h
  obtain ⟨⟨Q, q1, q2⟩, q3⟩ := h'
  have a := p3 Q q1
  have b := q3 P p1
  rw [← q2] at a
  rw [← p2] at b
  exact TotL.tri _ _ b a
structure POk (C : List Int) (new trench : Int) (ages : List Int) : Prop where
  c : C ≠ []
  m : Small new trench
  a : Nn ages
  n0 : 1 ≤ ages.length
  n1 : ages.length ≤ 3
theorem law_least_t {C : List Int} {new trench : Int} {ages : List Int} (p : POk C new trench ages) {years : Nat} (hy : (2 ^ ages.length) ^ years ≤ 4096) (hy' : years ≤ 100) : ∃ m, t__law_least ages C new trench (years : Int) = some m ∧ IsLeast C new trench ages years m := by
  have N := n_ok p.n0 p.n1
  obtain ⟨PL, h1, h2, h3⟩ := plans_t N hy hy'
  unfold t__law_least
  rw [h1]
  simp only [bindS]
  rw [mapO_some (fun P => (pc C new trench ages P, P)) fun P hP => by
    rw [(costs_t p.c p.m P p.a (by have := p.n1; omega)).2.1]; rfl]
  simp only [bindS]
  have hne : PL ≠ [] := by
    have : Valid ages.length years (List.replicate years (nI ages.length)) := ⟨by simp, fun S hS => by
      rw [List.eq_of_mem_replicate hS]
      have : ([1, 2, 3].all fun n : Nat => decide (nI n ∈ A n)) = true := by decide +kernel
      exact of_decide_eq_true (List.all_eq_true.mp this _ (by have := p.n0; have := p.n1; simp; omega))⟩
    exact List.ne_nil_of_mem ((h3 _).mpr this)
  obtain ⟨m, e, im⟩ := minT_ex (lt := lt3) (xs := PL.map fun P => (pc C new trench ages P, P)) (by simpa using hne)
  refine ⟨m, e, ?_, fun P hP => im.2 _ (List.mem_map.mpr ⟨P, (h3 P).mpr hP, rfl⟩)⟩
  obtain ⟨P, hP, e2⟩ := List.mem_map.mp im.1
  exact ⟨P, (h3 P).mp hP, e2.symm⟩
/-! the program's table -/
def nxV (C : List Int) (new trench : Int) (n : Nat) (k : List Int) (v : Tld) : List (List Int × Tld) := (A n).map fun S => (keyS S k, (v.1 + moreS C new trench S k, v.2 ++ [S]))
theorem up_1 {C : List Int} {new trench : Int} (hC : C ≠ []) (hm : Small new trench) {old : List Int} (ho : Nn old) {v : Tld} (hv : v.2.length ≤ 1000) {T : List (List Int × Tld)} (hT : T.length ≤ 1000000) (S : List Int) :
    t_renew_least_1 C new trench old v T S = some (updM lt3 T (keyS S old, (v.1 + moreS C new trench S old, v.2 ++ [S]))) := by
  have hy : (enumI old).map (fun (p_1 : (Int × Int)) => if (decide (p_1.1 ∈ S)) = true then (0 : Int) else p_1.2) = (nI old.length).map (yv S old) := by
    rw [nI_enum, List.map_map]
    apply List.map_congr_left
    intro q hq
    show _ = yv S old q.1
    unfold yv
    rw [(enum_rv hq).1]
    simp only [decide_eq_true_eq]
  obtain ⟨a, b, c, d⟩ := hm
  unfold t_renew_least_1
  rw [bnd_eq, hy, mulT_l (by omega)]
  simp only [bindS]
  rw [mapO_some (cst C) fun y hy' => by
    obtain ⟨k, hk, e⟩ := List.mem_map.mp hy'
    have := nI_mem.mp hk
    unfold t_cost_at
    exact cst_t hC (by rw [← e]; exact yv_ge ho this.1 this.2)]
  simp only [bindS, bnd_eq]
  rw [catT_some (by simp; omega)]
  simp only [bindS]
  rw [List.map_map, List.map_map]
  have e1 : ((nI old.length).map ((fun age => age + 1) ∘ yv S old)) = keyS S old := rfl
  have e2 : v.1 + ((if (!S.isEmpty) = true then trench else 0) + new * (S.length : Int) + ((nI old.length).map (cst C ∘ yv S old)).sum) = v.1 + moreS C new trench S old := by
    unfold moreS
    congr 1
    cases S with
    | nil => rfl
    | cons x S => rfl
  rw [e1, e2]
  unfold dputA
  rw [if_pos (by omega)]; rfl
theorem up_len (T : List (List Int × Tld)) (u : List Int × Tld) : (updM lt3 T u).length ≤ T.length + 1 := putA_len _ _ _
theorem up_2 {C : List Int} {new trench : Int} (hC : C ≠ []) (hm : Small new trench) {n : Nat} (N : NOk n) {ages : List Int} (hn : ages.length = n) {St : List (List Int × Tld)} (nd : (St.map (·.1)).Nodup) {x : List Int × Tld} (hx : x ∈ St) (ho : Nn x.1) (hv : x.2.2.length ≤ 1000) {T : List (List Int × Tld)} (hT : T.length ≤ 900000) :
    t_renew_least_2 ages C new trench St T x.1 = some ((nxV C new trench n x.1 x.2).foldl (updM lt3) T) := by
  unfold t_renew_least_2
  rw [getA_of nd (show (x.1, x.2) ∈ St from hx), hn]
  simp only [bindS]
  rw [N.all]
  simp only [bindS]
  obtain ⟨t, ht, h1, _⟩ := foldO_pre (step := t_renew_least_1 C new trench x.1 x.2) (fun pre t => t = (pre.map fun S => (keyS S x.1, (x.2.1 + moreS C new trench S x.1, x.2.2 ++ [S]))).foldl (updM lt3) T ∧ t.length ≤ T.length + pre.length) (A n) T ⟨rfl, Nat.le_refl _⟩ (fun pre S post t e i => by
    have hl : pre.length < (A n).length := by rw [e]; simp
    have : 2 ^ n ≤ 2 ^ 3 := Nat.pow_le_pow_right (by decide) N.n1
    rw [N.len] at hl
    refine ⟨_, up_1 hC hm ho hv (by omega) S, ?_, ?_⟩
    · rw [i.1, List.map_append, List.foldl_append]; rfl
    · have := up_len t (keyS S x.1, (x.2.1 + moreS C new trench S x.1, x.2.2 ++ [S]))
      rw [List.length_append, List.length_singleton]; omega)
  rw [ht, h1]; rfl
theorem up_3 {C : List Int} {new trench : Int} (hC : C ≠ []) (hm : Small new trench) {n : Nat} (N : NOk n) {ages : List Int} (hn : ages.length = n) {St : List (List Int × Tld)} (nd : (St.map (·.1)).Nodup) (hS : ∀ x ∈ St, Nn x.1 ∧ x.2.2.length ≤ 1000) (hl : St.length ≤ 100000) (z : Int) :
    t_renew_least_3 ages C new trench St z = some ((stepV (nxV C new trench n) St).foldl (updM lt3) []) ∧ ((stepV (nxV C new trench n) St).foldl (updM lt3) []).length ≤ St.length * 8 := by
  unfold t_renew_least_3
  rw [bnd_eq, foldO_map (fun x : List Int × Tld => x.1)]
  obtain ⟨t, ht, h1, h2⟩ := foldO_pre (step := fun s (x : List Int × Tld) => t_renew_least_2 ages C new trench St s x.1) (fun pre t => t = (stepV (nxV C new trench n) pre).foldl (updM lt3) [] ∧ t.length ≤ pre.length * 8) St [] ⟨rfl, Nat.le_refl _⟩ (fun pre x post t e i => by
    have hx : x ∈ St := by rw [e]; simp
    have hl : pre.length < St.length := by rw [e]; simp
    refine ⟨_, up_2 hC hm N hn nd hx (hS x hx).1 (hS x hx).2 (by omega), ?_, ?_⟩
    · rw [i.1]
      unfold stepV
      rw [List.flatMap_append, List.foldl_append]; simp
    · have := fold_len (lt := lt3) (nxV C new trench n x.1 x.2) t
      have h8 : (nxV C new trench n x.1 x.2).length ≤ 8 := by
        unfold nxV
        rw [List.length_map, N.len]
        exact Nat.pow_le_pow_right (by decide) N.n1
      rw [List.length_append, List.length_singleton]; omega)
  rw [ht, ← h1]
  exact ⟨rfl, h2⟩
theorem ltL_snoc {α : Type} [DecidableEq α] {la : α → α → Bool} [TotL la] {a : α} : ∀ (x y : List α), x.length = y.length → ltL la x y = false → ltL la (x ++ [a]) (y ++ [a]) = false
  | [], [], _, _ => TotL.irr (lt := ltL la) _
  | [], _ :: _, h, _ => by simp at h
  | _ :: _, [], h, _ => by simp at h
  | x :: xs, y :: ys, hl, h => by
    rw [ltL] at h
    rw [List.cons_append, List.cons_append, ltL]
    by_cases e : x = y
    · rw [if_pos e] at h ⊢; exact ltL_snoc xs ys (by simpa using hl) h
    · rw [if_neg e] at h ⊢; exact h
theorem lt3_snoc {v b : Tld} {S : List Int} {c : Int} (hl : v.2.length = b.2.length) (h : lt3 v b = false) : lt3 (v.1 + c, v.2 ++ [S]) (b.1 + c, b.2 ++ [S]) = false := by
  unfold lt3 Pl.ltP at h ⊢
  by_cases e : v.1 = b.1
  · rw [if_pos e] at h
    rw [if_pos (by show v.1 + c = b.1 + c; rw [e])]
    exact ltL_snoc _ _ hl h
  · rw [if_neg e] at h
    rw [if_neg (by show ¬ v.1 + c = b.1 + c; omega)]
    unfold ltI at h ⊢
    rw [decide_eq_false_iff_not] at h ⊢
    show ¬ v.1 + c < b.1 + c
    omega
theorem pc_snoc (C : List Int) (new trench : Int) : ∀ (P : Plan) (now S : List Int), pc C new trench now (P ++ [S]) = pc C new trench now P + moreS C new trench S (endS now P) ∧ endS now (P ++ [S]) = keyS S (endS now P)
  | [], now, S => ⟨by simp [pc, endS], rfl⟩
  | Q :: P, now, S => by
    obtain ⟨a, b⟩ := pc_snoc C new trench P (keyS Q now) S
    refine ⟨?_, b⟩
    rw [List.cons_append, pc, pc, a, endS]; omega
theorem end_nn : ∀ (P : Plan) (now : List Int), Nn now → Nn (endS now P) ∧ (endS now P).length = now.length
  | [], now, h => ⟨h, rfl⟩
  | S :: P, now, h => by
    obtain ⟨a, b⟩ := end_nn P (keyS S now) (keyS_nn h)
    exact ⟨a, by rw [endS, b, keyS_len]⟩
theorem renew_least_t {C : List Int} {new trench : Int} {ages : List Int} (p : POk C new trench ages) {years : Nat} (hy : years ≤ 5) : ∃ m, t_renew_least ages C new trench (years : Int) = some m ∧ IsLeast C new trench ages years m := by
  have N := n_ok p.n0 p.n1
  unfold t_renew_least
  rw [bnd_eq, rng1T_nat (by omega)]
  simp only [bindS]
  obtain ⟨T, ht, V, h1, h2, h3, h4⟩ := foldO_pre (step := t_renew_least_3 ages C new trench) (fun pre T => ∃ V : List (List Int × Tld), Tab lt3 T V ∧ T.length ≤ 8 ^ pre.length ∧ (∀ x ∈ V, Valid ages.length pre.length x.2.2 ∧ x.2.1 = pc C new trench ages x.2.2 ∧ x.1 = endS ages x.2.2) ∧ ∀ P, Valid ages.length pre.length P → (endS ages P, (pc C new trench ages P, P)) ∈ V) (nI years) [(ages, ((0 : Int), ([] : Plan)))] ⟨[(ages, ((0 : Int), ([] : Plan)))], ⟨by simp, fun k => by
      rw [getA_cons, grp_cons]
      by_cases c : ages = k
      · rw [if_pos c, if_pos c]; rfl
      · rw [if_neg c, if_neg c]; rfl⟩, by simp, (fun x hx => by rw [List.mem_singleton.mp hx]; exact ⟨⟨rfl, fun _ h => (List.not_mem_nil h).elim⟩, rfl, rfl⟩), fun P hP => by rw [List.length_eq_zero_iff.mp hP.1]; exact List.mem_singleton_self _⟩ (fun pre z post T e i => by
    obtain ⟨V, i1, i2, i3, i4⟩ := i
    have hlen : pre.length < years := by
      have := congrArg List.length e
      rw [nI_len, List.length_append, List.length_cons] at this; omega
    have hp : 8 ^ pre.length ≤ 8 ^ 4 := Nat.pow_le_pow_right (by decide) (by omega)
    have hp' : 8 ^ (4 : Nat) = 4096 := by decide
    have inV : ∀ x ∈ T, x ∈ V := fun x hx => grp_mem.mp (minT_mem (i1.mem.mp (show (x.1, x.2) ∈ T from hx)))
    obtain ⟨u1, u2⟩ := up_3 p.c p.m N (ages := ages) rfl (St := T) i1.nd (fun x hx => by
      obtain ⟨a, b, c⟩ := i3 x (inV x hx)
      refine ⟨by rw [c]; exact (end_nn _ _ p.a).1, by have := a.1; omega⟩) (by omega) z
    refine ⟨_, u1, stepV (nxV C new trench ages.length) V, ?_, ?_, ?_, ?_⟩
    · refine i1.step _ fun k v b hv hb hlt k' w hw => ?_
      obtain ⟨S, hS, e'⟩ := List.mem_map.mp hw
      cases e'
      exact ⟨_, List.mem_map.mpr ⟨S, hS, rfl⟩, lt3_snoc (by have h1 := (i3 _ hv).1.1; have h2 := (i3 _ hb).1.1; dsimp only at h1 h2; omega) hlt⟩
    · rw [List.length_append, List.length_singleton, Nat.pow_succ]; omega
    · intro x hx
      obtain ⟨y, hy', hx⟩ := List.mem_flatMap.mp hx
      obtain ⟨S, hS, e'⟩ := List.mem_map.mp hx
      obtain ⟨a, b, c⟩ := i3 y hy'
      obtain ⟨s1, s2⟩ := pc_snoc C new trench y.2.2 ages S
      subst e'
      rw [List.length_append, List.length_singleton]
      refine ⟨a.snoc hS, ?_, ?_⟩
      · show y.2.1 + moreS C new trench S y.1 = _
        rw [s1, b, c]
      · show keyS S y.1 = _
        rw [s2, c]
    · intro P hP
      rw [List.length_append, List.length_singleton] at hP
      obtain ⟨Q, S, e', h1, h2⟩ := hP.init
      subst e'
      obtain ⟨s1, s2⟩ := pc_snoc C new trench Q ages S
      rw [s1, s2]
      exact List.mem_flatMap.mpr ⟨_, i4 Q h1, List.mem_map.mpr ⟨S, h2, rfl⟩⟩)
  rw [ht]
  rw [nI_len] at h2 h3 h4
  simp only [bindS]
  have hp : 8 ^ years ≤ 8 ^ 5 := Nat.pow_le_pow_right (by decide) hy
  have hp' : 8 ^ (5 : Nat) = 32768 := by decide
  unfold keysA
  rw [if_pos (by omega)]
  simp only [bindS]
  have hm : mapO (fun (old_1 : (List Int)) => getA T old_1) (T.map (·.1)) = some (T.map (·.2)) := by
    have : ∀ ps : List (List Int × Tld), (∀ x ∈ ps, x ∈ T) → mapO (fun (old_1 : (List Int)) => getA T old_1) (ps.map (·.1)) = some (ps.map (·.2)) := fun ps => by
      induction ps with
      | nil => intro _; rfl
      | cons x ps ih =>
        intro h
        rw [List.map_cons, mapO, getA_of h1.nd (show (x.1, x.2) ∈ T from h x List.mem_cons_self), ih fun y hy => h y (List.mem_cons_of_mem _ hy)]; rfl
    exact this T fun _ h => h
  rw [hm]
  simp only [bindS]
  show ∃ m, minT lt3 (T.map (·.2)) = some m ∧ _
  rw [h1.least]
  have hne : V ≠ [] := by
    have : Valid ages.length years (List.replicate years (nI ages.length)) := ⟨by simp, fun S hS => by
      rw [List.eq_of_mem_replicate hS]
      have : ([1, 2, 3].all fun n : Nat => decide (nI n ∈ A n)) = true := by decide +kernel
      exact of_decide_eq_true (List.all_eq_true.mp this _ (by have := p.n0; have := p.n1; simp; omega))⟩
    exact List.ne_nil_of_mem (h4 _ this)
  obtain ⟨m, e, im⟩ := minT_ex (lt := lt3) (xs := V.map (·.2)) (by simpa using hne)
  refine ⟨m, e, ?_, fun P hP => im.2 _ (List.mem_map.mpr ⟨_, h4 P hP, rfl⟩)⟩
  obtain ⟨x, hx, e2⟩ := List.mem_map.mp im.1
  obtain ⟨a, b, c⟩ := h3 x hx
  exact ⟨x.2.2, a, by rw [← e2, ← b]⟩
/-- both find the same -/
theorem same_least {C : List Int} {new trench : Int} {ages : List Int} (p : POk C new trench ages) {years : Nat} (hy : years ≤ 5) (hl : (2 ^ ages.length) ^ years ≤ 4096) : ∃ m, t_renew_least ages C new trench (years : Int) = some m ∧ t__law_least ages C new trench (years : Int) = some m ∧ IsLeast C new trench ages years m := by
  obtain ⟨m, h1, h2⟩ := renew_least_t p hy
  obtain ⟨m', h3, h4⟩ := law_least_t p hl (by omega)
  have := h2.uniq h4
  subst this
  exact ⟨m, h1, h3, h2⟩
end Lk45

set_option Elab.async false
set_option linter.all false
set_option maxRecDepth 100000
set_option maxHeartbeats 4000000
/-! C45c: each pipe alone -/
namespace Lk45
open PySem PySem.Spec L2 Pl
/-- one pipe alone, without a trench -/
def qP (C : List Int) (new : Int) : Int → List Bool → Int
  | _, [] => 0
  | a, b :: bs => (if b = true then new else 0) + cst C (if b = true then 0 else a) + qP C new ((if b = true then 0 else a) + 1) bs
theorem sum_map_add (f g : Int → Int) : ∀ xs : List Int, (xs.map f).sum + (xs.map g).sum = (xs.map fun x => f x + g x).sum
  | [] => rfl
  | x :: xs => by
    have := sum_map_add f g xs
    simp only [List.map_cons, List.sum_cons]; omega
theorem sum_congr {f g : Int → Int} {xs : List Int} (h : ∀ x ∈ xs, f x = g x) : (xs.map f).sum = (xs.map g).sum := by rw [List.map_congr_left h]
theorem sum_if (new : Int) (p : Int → Bool) : ∀ xs : List Int, new * ((xs.filter p).length : Int) = (xs.map fun x => if p x = true then new else 0).sum
  | [] => by simp
  | x :: xs => by
    have ih := sum_if new p xs
    rw [List.filter_cons, List.map_cons, List.sum_cons, ← ih]
    by_cases c : p x = true
    · rw [if_pos c, if_pos c, List.length_cons, Int.natCast_add, Int.mul_add]; simp; omega
    · rw [if_neg c, if_neg c]; omega
theorem sep {C : List Int} {new : Int} {n : Nat} (N : NOk n) : ∀ (P : Plan) (now : List Int), now.length = n → (∀ S ∈ P, S ∈ A n) → pc C new 0 now P = ((nI n).map fun i => qP C new (rv now i) (P.map fun S => decide (i ∈ S))).sum
  | [], now, _, _ => by
    unfold pc
    have : ∀ xs : List Int, (0 : Int) = (xs.map fun i => qP C new (rv now i) []).sum := fun xs => by
      induction xs with
      | nil => rfl
      | cons x xs ih => rw [List.map_cons, List.sum_cons, ← ih]; rfl
    exact this _
  | S :: P, now, hl, h => by
    have hS := h S List.mem_cons_self
    rw [pc, sep N P (keyS S now) (by rw [keyS_len]; exact hl) fun T hT => h T (List.mem_cons_of_mem _ hT)]
    unfold moreS
    have e0 : (if S = [] then 0 else (0 : Int)) = 0 := by split <;> rfl
    have e1 : new * (S.length : Int) = ((nI n).map fun i => if decide (i ∈ S) = true then new else 0).sum := by
      have := sum_if new (fun i => decide (i ∈ S)) (nI n)
      rw [← N.flt S hS] at this
      exact this
    rw [e0, e1, hl, Int.zero_add, sum_map_add, sum_map_add]
    refine sum_congr fun i hi => ?_
    have hi := nI_mem.mp hi
    rw [List.map_cons, qP]
    have e2 : rv (keyS S now) i = yv S now i + 1 := by
      unfold keyS
      rw [rv_map hi.1 (by omega)]
    have e3 : yv S now i = if decide (i ∈ S) = true then 0 else rv now i := by
      unfold yv
      simp only [decide_eq_true_eq]
    rw [e2, e3]
theorem filt_A {n : Nat} (h0 : 1 ≤ n) (h1 : n ≤ 3) (p : Int → Bool) : (nI n).filter p ∈ A n := by
  have hc : n = 1 ∨ n = 2 ∨ n = 3 := by omega
  rcases hc with rfl | rfl | rfl
  · rw [show nI 1 = [0] from rfl, show A 1 = [[], [0]] by decide +kernel]
    cases h : p 0 <;> simp [List.filter_cons, h]
  · rw [show nI 2 = [0, 1] from rfl, show A 2 = [[], [0], [0, 1], [1]] by decide +kernel]
    cases h : p 0 <;> cases h' : p 1 <;> simp [List.filter_cons, h, h']
  · rw [show nI 3 = [0, 1, 2] from rfl, show A 3 = [[], [0], [0, 1], [0, 1, 2], [0, 2], [1], [1, 2], [2]] by decide +kernel]
    cases h : p 0 <;> cases h' : p 1 <;> cases h2 : p 2 <;> simp [List.filter_cons, h, h', h2]
theorem lt3_le {x m : Tld} (h : lt3 x m = false) : m.1 ≤ x.1 := by
  unfold lt3 Pl.ltP at h
  by_cases e : x.1 = m.1
  · omega
  · rw [if_neg e] at h
    have := of_decide_eq_false h
    omega
theorem single_least {C : List Int} {new a : Int} {years : Nat} {m : Tld} (h : IsLeast C new 0 [a] years m) : (∃ bs : List Bool, bs.length = years ∧ qP C new a bs = m.1) ∧ ∀ bs : List Bool, bs.length = years → m.1 ≤ qP C new a bs := by
  have N := n_ok (n := 1) (by decide) (by decide)
  have one : ∀ P : Plan, Valid 1 years P → pc C new 0 [a] P = qP C new a (P.map fun S => decide ((0 : Int) ∈ S)) := fun P hP => by
    rw [sep N P [a] rfl hP.2, show nI 1 = [0] from rfl]
    simp [rv]
  obtain ⟨⟨P, p1, p2⟩, p3⟩ := h
  have p1 : Valid 1 years P := p1
  refine ⟨⟨P.map fun S => decide ((0 : Int) ∈ S), by rw [List.length_map, p1.1], by rw [← one P p1, p2]⟩, fun bs hb => ?_⟩
  have hv : Valid 1 years (bs.map fun b => (nI 1).filter fun _ => b) := ⟨by rw [List.length_map, hb], fun S hS => by
    obtain ⟨b, _, e⟩ := List.mem_map.mp hS
    rw [← e]; exact filt_A (by decide) (by decide) _⟩
  have := lt3_le (p3 _ hv)
  dsimp only at this
  rw [one _ hv, List.map_map] at this
  rw [show (bs.map ((fun S => decide ((0 : Int) ∈ S)) ∘ fun b => (nI 1).filter fun _ => b)) = bs from ?_] at this
  · exact this
  · conv => rhs; rw [← List.map_id bs]
    apply List.map_congr_left
    intro b _
    show decide ((0 : Int) ∈ (nI 1).filter fun _ => b) = b
    rw [show nI 1 = [0] from rfl]
    cases b <;> simp
theorem map_rv (W : List Int) : (nI W.length).map (rv W) = W := by
  refine list_rv (by rw [List.length_map, nI_len]) fun p a b => ?_
  rw [List.length_map, nI_len] at b
  rw [rv_map a b]
theorem whole_least {C : List Int} {new : Int} {ages : List Int} {years : Nat} (p : POk C new 0 ages) {m : Tld} (h : IsLeast C new 0 ages years m) {g : Int → Tld} (hg : ∀ a ∈ ages, IsLeast C new 0 [a] years (g a)) : m.1 = (ages.map fun a => (g a).1).sum := by
  have N := n_ok p.n0 p.n1
  have hs : ((nI ages.length).map fun i => (g (rv ages i)).1).sum = (ages.map fun a => (g a).1).sum := by
    conv => rhs; rw [← map_rv ages]
    rw [List.map_map]; rfl
  rw [← hs]
  obtain ⟨⟨P, p1, p2⟩, p3⟩ := h
  have sum_le : ∀ (f g : Int → Int) (xs : List Int), (∀ x ∈ xs, f x ≤ g x) → (xs.map f).sum ≤ (xs.map g).sum := fun f g xs => by
    induction xs with
    | nil => intro _; exact Int.le_refl _
    | cons x xs ih =>
      intro h
      have := ih fun y hy => h y (List.mem_cons_of_mem _ hy)
      have := h x List.mem_cons_self
      simp only [List.map_cons, List.sum_cons]; omega
  have hin : ∀ i ∈ nI ages.length, rv ages i ∈ ages := fun i hi => by
    have := nI_mem.mp hi
    exact rv_mem this.1 this.2
  apply Int.le_antisymm
  · have ex : ∀ i : Int, ∃ bs : List Bool, i ∈ nI ages.length → bs.length = years ∧ qP C new (rv ages i) bs = (g (rv ages i)).1 := fun i => by
      by_cases hi : i ∈ nI ages.length
      · obtain ⟨bs, h⟩ := (single_least (hg _ (hin i hi))).1
        exact ⟨bs, fun _ => h⟩
      · exact ⟨[], fun z => absurd z hi⟩
    let f : Int → List Bool := fun i => Classical.choose (ex i)
    have hf : ∀ i ∈ nI ages.length, (f i).length = years ∧ qP C new (rv ages i) (f i) = (g (rv ages i)).1 := fun i hi => Classical.choose_spec (ex i) hi
    have hv : Valid ages.length years ((List.range years).map fun t => (nI ages.length).filter fun i => (f i).getD t false) := ⟨by simp, fun S hS => by
      obtain ⟨t, _, e⟩ := List.mem_map.mp hS
      rw [← e]; exact filt_A p.n0 p.n1 _⟩
    have := lt3_le (p3 _ hv)
    dsimp only at this
    rw [sep N _ ages rfl hv.2] at this
    refine Int.le_trans this (Int.le_of_eq (sum_congr fun i hi => ?_))
    obtain ⟨a, b⟩ := hf i hi
    rw [← b]
    congr 1
    apply List.ext_getElem
    · simp [a]
    · intro t h1 h2
      simp only [List.getElem_map, List.getElem_range]
      rw [Bool.eq_iff_iff, decide_eq_true_iff, List.mem_filter, List.getD_eq_getElem?_getD, List.getElem?_eq_getElem h2]
      exact ⟨fun z => z.2, fun z => ⟨hi, z⟩⟩
  · rw [p2]
    dsimp only
    rw [sep N P ages rfl p1.2]
    exact sum_le _ _ _ fun i hi => (single_least (hg _ (hin i hi))).2 _ (by rw [List.length_map, p1.1])
theorem pok_one {C : List Int} {new trench : Int} {ages : List Int} (p : POk C new trench ages) {a : Int} (ha : a ∈ ages) : POk C new trench [a] :=
  ⟨p.c, p.m, fun x hx => by rw [List.mem_singleton.mp hx]; exact p.a a ha, by simp, by simp⟩
theorem alone_t {C : List Int} {new trench : Int} {ages : List Int} (p : POk C new trench ages) {years : Nat} (hy : years ≤ 5) : ∃ v, t__law_alone ages C new trench (years : Int) = some v ∧ t_renew_alone ages C new trench (years : Int) = some v ∧ (trench = 0 → ∀ m, IsLeast C new trench ages years m → m.1 = v) := by
  have h32 : ∀ a : Int, (2 ^ [a].length) ^ years ≤ 4096 := fun a => by
    show (2 ^ 1) ^ years ≤ 4096
    have : (2 ^ 1) ^ years ≤ (2 ^ 1) ^ 5 := Nat.pow_le_pow_right (by decide) hy
    have : (2 ^ 1) ^ 5 = 32 := by decide
    omega
  have ex : ∀ a : Int, ∃ m : Tld, a ∈ ages → t_renew_least [a] C new trench (years : Int) = some m ∧ t__law_least [a] C new trench (years : Int) = some m ∧ IsLeast C new trench [a] years m := fun a => by
    by_cases ha : a ∈ ages
    · obtain ⟨m, h⟩ := same_least (pok_one p ha) hy (h32 a)
      exact ⟨m, fun _ => h⟩
    · exact ⟨(0, []), fun z => absurd z ha⟩
  let g : Int → Tld := fun a => Classical.choose (ex a)
  have hg : ∀ a ∈ ages, t_renew_least [a] C new trench (years : Int) = some (g a) ∧ t__law_least [a] C new trench (years : Int) = some (g a) ∧ IsLeast C new trench [a] years (g a) := fun a ha => Classical.choose_spec (ex a) ha
  refine ⟨(ages.map fun a => (g a).1).sum, ?_, ?_, fun hz m hm => ?_⟩
  · unfold t__law_alone
    rw [mapO_some (fun a => (g a).1) fun a ha => by rw [(hg a ha).2.1]; rfl]; rfl
  · unfold t_renew_alone
    rw [mapO_some (fun a => (g a).1) fun a ha => by rw [(hg a ha).1]; rfl]; rfl
  · subst hz
    exact whole_least p hm fun a ha => (hg a ha).2.2
/-! renewal at an age -/
theorem at_t {C : List Int} {new trench : Int} {ages : List Int} (p : POk C new trench ages) {years : Nat} (hy : years ≤ 5) (a : Int) : ∃ v, t__law_at ages C new trench (years : Int) a = some v ∧ t_renew_at ages C new trench (years : Int) a = some v := by
  have n1 := p.n1
  unfold t__law_at t_renew_at
  rw [bnd_eq, bnd_eq, rng1T_nat (by omega)]
  simp only [bindS]
  obtain ⟨s, t, h1, h2, h3, _⟩ := foldO_pre2 (step1 := t__law_at_1 a) (step2 := t_renew_at_1 a) (fun pre s t => s = t ∧ s.1.length = ages.length ∧ s.2.length = pre.length) (nI years) (fun pre x post s t e i => by
    obtain ⟨i1, i2, i3⟩ := i
    subst i1
    have hlen : pre.length < years := by
      have := congrArg List.length e
      rw [nI_len, List.length_append, List.length_cons] at this; omega
    have e1 : ((enumI s.1).filter fun (p_ : (Int × Int)) => decide (a ≤ p_.2)).map (fun (p_ : (Int × Int)) => p_.1) = (nI s.1.length).filter fun k => decide (a ≤ rv s.1 k) := by
      rw [nI_enum, List.filter_map]
      congr 1
      apply List.filter_congr
      intro q hq
      show _ = decide (a ≤ rv s.1 q.1)
      rw [(enum_rv hq).1]
    have e2 : ∀ ch : List Int, (enumI s.1).map (fun (p_1 : (Int × Int)) => if (decide (p_1.1 ∈ ch)) = true then (1 : Int) else p_1.2 + (1 : Int)) = (nI s.1.length).map fun k => if k ∈ ch then 1 else rv s.1 k + 1 := fun ch => by
      rw [nI_enum, List.map_map]
      apply List.map_congr_left
      intro q hq
      show _ = if q.1 ∈ ch then 1 else rv s.1 q.1 + 1
      rw [(enum_rv hq).1]
      simp only [decide_eq_true_eq]
    refine ⟨((nI s.1.length).map fun k => if k ∈ (nI s.1.length).filter (fun k => decide (a ≤ rv s.1 k)) then 1 else rv s.1 k + 1, s.2 ++ [(nI s.1.length).filter fun k => decide (a ≤ rv s.1 k)]), _, ?_, ?_, rfl, by rw [List.length_map, nI_len, i2], by rw [List.length_append, List.length_append, i3]; rfl⟩
    · unfold t__law_at_1
      rw [rng1T_nat (by omega)]
      simp only [bindS]
      rw [fmO_filter (fun k => decide (a ≤ rv s.1 k)) fun k hk => by
        have := nI_mem.mp hk
        rw [row_at rfl this.1 this.2]
        simp only [bindS]
        split <;> rfl]
      simp only [bindS]
      rw [pshT_some (by omega)]
      simp only [bindS]
      rw [mapO_some (fun k => if k ∈ (nI s.1.length).filter (fun k => decide (a ≤ rv s.1 k)) then 1 else rv s.1 k + 1) fun k hk => by
        have := nI_mem.mp hk
        rw [row_at rfl this.1 this.2]
        simp only [bindS]
        rw [mulT_r (by split <;> omega)]
        simp only [bindS]
        by_cases c : k ∈ (nI s.1.length).filter fun k => decide (a ≤ rv s.1 k)
        · rw [if_pos c, if_neg (by rw [decide_eq_true c]; decide)]; simp
        · rw [if_neg c, if_pos (by rw [decide_eq_false c]; rfl)]; simp]
      rfl
    · unfold t_renew_at_1
      rw [bnd_eq, e1, pshT_some (by omega)]
      simp only [bindS, bnd_eq]
      rw [e2]) (nI years) [] (ages, []) (ages, []) rfl ⟨rfl, rfl, rfl⟩
  subst h3
  rw [h1, h2]
  simp only [bindS]
  obtain ⟨c1, _, c3⟩ := costs_t p.c p.m s.2 p.a (by omega)
  exact ⟨_, c1, c3⟩
end Lk45

set_option Elab.async false
set_option linter.all false
set_option maxRecDepth 100000
set_option maxHeartbeats 4000000
/-! C45d: the best age; late renewals -/
namespace Lk45
open PySem PySem.Spec L2 Pl
theorem best_idx (g : Int → Int) {cnt : Nat} (h : 1 ≤ cnt) : ∃ (m : Int) (j : Int), minT ltI ((rngI 1 cnt).map g) = some m ∧ idxD ((rngI 1 cnt).map g) m = some j ∧ minT (Pl.ltP ltI ltI) ((rngI 1 cnt).map fun a => (g a, a)) = some (m, 1 + j) := by
  have hl : (rngI 1 cnt).length = cnt := rngI_len
  have hne : (rngI 1 cnt).map g ≠ [] := fun z => by
    have := congrArg List.length z
    rw [List.length_map, hl] at this
    simp at this; omega
  obtain ⟨m, e, im, ile⟩ := minT_ex (lt := ltI) hne
  have hat : ∀ i : Nat, (hi : i < cnt) → (rngI 1 cnt)[i]'(by rw [hl]; exact hi) = 1 + (i : Int) := fun i hi => by simp [rngI]
  cases hf : ((rngI 1 cnt).map g).findIdx? fun z => decide (z = m) with
  | none =>
    have := List.findIdx?_eq_none_iff.mp hf m im
    simp at this
  | some j =>
    obtain ⟨hj, k1, k2⟩ := List.findIdx?_eq_some_iff_getElem.mp hf
    have hj' : j < cnt := by rw [List.length_map, hl] at hj; exact hj
    have k1 := of_decide_eq_true k1
    rw [List.getElem_map, hat j hj'] at k1
    refine ⟨m, (j : Int), e, by unfold idxD; rw [hf]; rfl, minT_of ⟨?_, fun y hy => ?_⟩⟩
    · exact List.mem_map.mpr ⟨1 + (j : Int), rngI_mem.mpr ⟨by omega, by omega⟩, by rw [k1]⟩
    · obtain ⟨a, ha, ea⟩ := List.mem_map.mp hy
      have ha' := rngI_mem.mp ha
      subst ea
      unfold Pl.ltP
      by_cases c : g a = m
      · rw [if_pos c]
        show decide (a < 1 + (j : Int)) = false
        refine decide_eq_false fun z => ?_
        have := k2 (a - 1).toNat (by omega)
        rw [List.getElem_map, hat _ (by omega), show (1 : Int) + ((a - 1).toNat : Int) = a by omega, c] at this
        simp at this
      · rw [if_neg c]
        exact ile _ (List.mem_map_of_mem ha)
/-! late -/
def plansN : Nat → List Plan
  | 0 => [[]]
  | n + 1 => (plansN n).flatMap fun P => [[] :: P, [0] :: P]
theorem A1 : A 1 = [[], [0]] := by decide +kernel
theorem mem_plans : ∀ (n : Nat) (P : Plan), P ∈ plansN n ↔ Valid 1 n P
  | 0, P => by
    rw [plansN, List.mem_singleton]
    exact ⟨fun h => by subst h; exact ⟨rfl, fun _ h => (List.not_mem_nil h).elim⟩, fun h => List.length_eq_zero_iff.mp h.1⟩
  | n + 1, P => by
    rw [plansN, List.mem_flatMap]
    unfold Valid
    rw [A1]
    constructor
    · rintro ⟨Q, h1, h2⟩
      have h1 := (mem_plans n Q).mp h1
      unfold Valid at h1
      rw [A1] at h1
      simp only [List.mem_cons, List.not_mem_nil, or_false] at h2
      rcases h2 with rfl | rfl
      · exact ⟨by rw [List.length_cons, h1.1], fun S hS => (List.mem_cons.mp hS).elim (fun z => by rw [z]; simp) (h1.2 S)⟩
      · exact ⟨by rw [List.length_cons, h1.1], fun S hS => (List.mem_cons.mp hS).elim (fun z => by rw [z]; simp) (h1.2 S)⟩
    · rintro ⟨h1, h2⟩
      cases P with
      | nil => simp at h1
      | cons S Q =>
        have hS := h2 S List.mem_cons_self
        refine ⟨Q, (mem_plans n Q).mpr ⟨by simpa using h1, fun T hT => by rw [A1]; exact h2 T (List.mem_cons_of_mem _ hT)⟩, ?_⟩
        simp only [List.mem_cons, List.not_mem_nil, or_false] at hS
        rcases hS with rfl | rfl <;> simp
/-- renewals, and years above the age -/
def ro (age : Int) : Int → Plan → Int × Int
  | _, [] => (0, 0)
  | y, S :: P => (fun y' : Int => (fun q : Int × Int => ((if S = [] then 0 else 1) + q.1, (if age ≤ y' then 1 else 0) + q.2)) (ro age (y' + 1) P)) (if (0 : Int) ∈ S then 0 else y)
def lateChk (years age : Int) : Bool := match foldO (t__law_late_1 years age) (([] : List Int), age - 1) (nI years.toNat) with
  | none => false
  | some s => decide (t_least_looks years (age - 1) = some s.1) && decide (s.1.length ≤ 100) && match (repT [([] : List Int)] years).bind fun plan => foldO (t__law_late_2 years) plan s.1 with
    | none => false
    | some P => decide (P ∈ plansN years.toNat) && decide ((ro age 0 P).2 = 0) && decide ((((P.filter fun (some_ : (List Int)) => decide ((0 : Int) < (some_.length : Int))).map fun (some_ : (List Int)) => (1 : Int)).length : Int) = (ro age 0 P).1) && decide (0 ≤ (ro age 0 P).1 ∧ (ro age 0 P).1 ≤ 5) &&
      (plansN years.toNat).all fun Q => decide (0 ≤ (ro age 0 Q).1) && (decide (1 ≤ (ro age 0 Q).2) || (decide ((ro age 0 Q).2 = 0) && (decide ((ro age 0 P).1 < (ro age 0 Q).1) || (decide ((ro age 0 P).1 = (ro age 0 Q).1) && !ltL (ltL ltI) Q P))))
theorem late_all : ([1, 2, 3, 4, 5].all fun y : Int => [1, 2, 3, 4].all fun a : Int => lateChk y a) = true := by decide +kernel
def cA (age : Int) : List Int := List.replicate age.toNat 0 ++ [100]
theorem cst_A {age y : Int} (ha : 0 ≤ age) (hy : 0 ≤ y) : cst (cA age) y = if age ≤ y then 100 else 0 := by
  unfold cst
  have e : ((cA age).length : Int) - 1 = age := by unfold cA; simp; omega
  rw [e]
  unfold minI rv cA
  by_cases c : age < y
  · rw [if_pos c, if_pos (by omega), List.getD_eq_getElem?_getD, List.getElem?_append_right (by simp)]; simp
  · rw [if_neg c]
    by_cases d : age ≤ y
    · rw [if_pos d, show y = age by omega, List.getD_eq_getElem?_getD, List.getElem?_append_right (by simp)]; simp
    · rw [if_neg d, List.getD_eq_getElem?_getD, List.getElem?_append_left (by simp; omega), List.getElem?_replicate, if_pos (by omega)]; rfl
theorem pc_late {age new trench : Int} (ha : 0 ≤ age) : ∀ (P : Plan) (y : Int), 0 ≤ y → (∀ S ∈ P, S = [] ∨ S = [0]) → pc (cA age) new trench [y] P = (new + trench) * (ro age y P).1 + 100 * (ro age y P).2
  | [], y, _, _ => by simp [pc, ro]
  | S :: P, y, hy, h => by
    have hS := h S List.mem_cons_self
    have hP : ∀ T ∈ P, T = [] ∨ T = [0] := fun T hT => h T (List.mem_cons_of_mem _ hT)
    rw [pc, ro]
    unfold moreS
    rcases hS with rfl | rfl
    · have k : keyS [] [y] = [y + 1] := by simp [keyS, nI, yv, rv]
      have e : ((nI [y].length).map fun k => cst (cA age) (yv [] [y] k)).sum = cst (cA age) y := by simp [nI, yv, rv]
      rw [k, e, pc_late ha P (y + 1) (by omega) hP, cst_A ha hy, if_pos rfl, if_neg List.not_mem_nil, if_pos rfl]
      dsimp only
      rw [Int.mul_add, Int.mul_add, List.length_nil]
      by_cases c : age ≤ y
      · rw [if_pos c, if_pos c]; simp; omega
      · rw [if_neg c, if_neg c]; simp
    · have k : keyS [0] [y] = [0 + 1] := by simp [keyS, nI, yv]
      have e : ((nI [y].length).map fun k => cst (cA age) (yv [0] [y] k)).sum = cst (cA age) 0 := by simp [nI, yv]
      rw [k, e, pc_late ha P (0 + 1) (by omega) hP, cst_A ha (Int.le_refl 0), if_neg (show ¬ ([0] : List Int) = [] by simp), if_pos List.mem_cons_self]
      rw [if_neg (show ¬ ([0] : List Int) = [] by simp)]
      dsimp only
      rw [Int.mul_add, Int.mul_add, List.length_singleton]
      by_cases c : age ≤ 0
      · rw [if_pos c, if_pos c]; simp; omega
      · rw [if_neg c, if_neg c]; simp; omega
theorem like_t {d : D} (p : plD 5 d = true) : t__law_like d d = some true := likeT_same p
theorem not_f {o : Option Bool} (h : o = some true) : o.map (!·) = some false := by rw [h]; rfl
theorem pl_list {xs : List Int} (h : xs.length ≤ 1000) : plD 5 (cT cI xs) = true := pl_T (n := 4) (fun x _ => PlC.pl x) h
theorem pl_told {m : Tld} (h : m.2.length ≤ 1000) (h' : ∀ S ∈ m.2, S.length ≤ 1000) : plD 5 (cP2 cI (cT (cT cI)) m) = true := pl_P2 (n := 4) (PlC.pl m.1) (pl_T (n := 3) (fun S hS => pl_T (n := 2) (fun x _ => PlC.pl x) (h' S hS)) h)
theorem late_t {row : List Int} (hr : row.length = 30) {new trench : Int} (hm : 0 ≤ new ∧ new ≤ 12 ∧ 0 ≤ trench ∧ trench ≤ 6) {years : Int} (hy : 1 ≤ years ∧ years ≤ 5) : t__law_late row new trench years = some true := by
  unfold t__law_late
  rw [row_at hr (z := 20) (by decide) (by decide)]
  simp only [bindS]
  have f := fm (a := rv row 20) (j := 4) (by decide)
  generalize ha : (1 + (rv row 20).fmod 4 : Int) = age
  have a0 : 1 ≤ age ∧ age ≤ 4 := by omega
  have chk := List.all_eq_true.mp (List.all_eq_true.mp late_all years (by simp; omega)) age (by simp; omega)
  rw [bnd_eq, rng1T_some (by omega) (by omega)]
  simp only [bindS]
  unfold lateChk at chk
  cases h1 : foldO (t__law_late_1 years age) (([] : List Int), age - 1) (nI years.toNat) with
  | none => rw [h1] at chk; cases chk
  | some s =>
    rw [h1] at chk
    dsimp only at chk
    rw [Bool.and_eq_true, Bool.and_eq_true] at chk
    obtain ⟨⟨c1, c2⟩, c3⟩ := chk
    have c1 := of_decide_eq_true c1
    have c2 := of_decide_eq_true c2
    simp only [bindS]
    rw [c1]
    simp only [Option.map_some, bindS]
    rw [not_f (like_t (pl_list (by omega)))]
    simp only [bindS, Bool.false_eq_true, if_false]
    unfold t__law_late_e1
    cases h2 : repT [([] : List Int)] years with
    | none => rw [h2] at c3; cases c3
    | some plan =>
      rw [h2] at c3
      have c3 : (match foldO (t__law_late_2 years) plan s.1 with
        | none => false
        | some P => decide (P ∈ plansN years.toNat) && decide ((ro age 0 P).2 = 0) && decide ((((P.filter fun (some_ : (List Int)) => decide ((0 : Int) < (some_.length : Int))).map fun (some_ : (List Int)) => (1 : Int)).length : Int) = (ro age 0 P).1) && decide (0 ≤ (ro age 0 P).1 ∧ (ro age 0 P).1 ≤ 5) &&
          (plansN years.toNat).all fun Q => decide (0 ≤ (ro age 0 Q).1) && (decide (1 ≤ (ro age 0 Q).2) || (decide ((ro age 0 Q).2 = 0) && (decide ((ro age 0 P).1 < (ro age 0 Q).1) || (decide ((ro age 0 P).1 = (ro age 0 Q).1) && !ltL (ltL ltI) Q P))))) = true := c3
      simp only [bindS]
      cases h3 : foldO (t__law_late_2 years) plan s.1 with
      | none => rw [h3] at c3; cases c3
      | some P =>
        rw [h3] at c3
        dsimp only at c3
        rw [Bool.and_eq_true, Bool.and_eq_true, Bool.and_eq_true, Bool.and_eq_true] at c3
        obtain ⟨⟨⟨⟨d1, d2⟩, d3⟩, d4⟩, d5⟩ := c3
        have d1 := (mem_plans _ _).mp (of_decide_eq_true d1)
        have d2 := of_decide_eq_true d2
        have d3 := of_decide_eq_true d3
        have d4 := of_decide_eq_true d4
        simp only [bindS]
        have e1 : (repA [(0 : Int)] age).bind (fun (v_5 : (List Int)) => catT v_5 [(100 : Int)]) = some (cA age) := by
          unfold repA
          rw [if_pos ⟨by omega, by omega, .inr (.inr ⟨by simp, by omega⟩)⟩, List.flatten_replicate_singleton]
          simp only [bindS]
          rw [catT_some (by simp; omega)]; rfl
        rw [e1]
        simp only [bindS]
        rw [bnd_eq, d3]
        have A1' : ∀ Q, Valid 1 years.toNat Q → ∀ S ∈ Q, S = [] ∨ S = [0] := fun Q hQ S hS => by
          have := hQ.2 S hS
          rw [A1] at this
          simpa using this
        have p : POk (cA age) (1 + new) trench [0] := ⟨by unfold cA; simp, ⟨by omega, by omega, by omega, by omega⟩, (fun x hx => by rw [List.mem_singleton.mp hx]; exact Int.le_refl 0), by simp, by simp⟩
        obtain ⟨m, m1, m2⟩ := renew_least_t p (years := years.toNat) (by omega)
        rw [Int.toNat_of_nonneg (by omega)] at m1
        have pcP : ∀ Q, Valid 1 years.toNat Q → pc (cA age) (1 + new) trench [0] Q = (1 + new + trench) * (ro age 0 Q).1 + 100 * (ro age 0 Q).2 := fun Q hQ => pc_late (by omega) Q 0 (Int.le_refl 0) (A1' Q hQ)
        have least : IsLeast (cA age) (1 + new) trench [0] years.toNat ((1 + new + trench) * (ro age 0 P).1, P) := ⟨⟨P, d1, by rw [pcP P d1, d2]; simp⟩, fun Q hQ => by
          have q := List.all_eq_true.mp d5 Q ((mem_plans _ _).mpr hQ)
          rw [Bool.and_eq_true, Bool.or_eq_true, Bool.and_eq_true, Bool.or_eq_true, Bool.and_eq_true] at q
          obtain ⟨q0, q⟩ := q
          have q0 := of_decide_eq_true q0
          rw [pcP Q hQ]
          have c0 : 1 ≤ 1 + new + trench ∧ 1 + new + trench ≤ 19 := by omega
          generalize 1 + new + trench = c at c0
          have t1 : c * (ro age 0 P).1 ≤ 19 * 5 := Int.mul_le_mul c0.2 d4.2 d4.1 (by omega)
          have t2 : 0 ≤ c * (ro age 0 Q).1 := Int.mul_nonneg (by omega) q0
          unfold lt3 Pl.ltP
          rcases q with q | ⟨q1, q | ⟨q2, q3⟩⟩
          · have q := of_decide_eq_true q
            rw [if_neg (by dsimp only; omega)]
            exact decide_eq_false (by dsimp only; omega)
          · have q1 := of_decide_eq_true q1
            have q := of_decide_eq_true q
            have t3 : c * (ro age 0 P).1 < c * (ro age 0 Q).1 := Int.mul_lt_mul_of_pos_left q (by omega)
            rw [q1, if_neg (by dsimp only; omega)]
            exact decide_eq_false (by dsimp only; omega)
          · have q1 := of_decide_eq_true q1
            have q2 := of_decide_eq_true q2
            rw [q1, q2, if_pos (by dsimp only; omega)]
            simpa using q3⟩
        rw [m1, m2.uniq least]
        simp only [Option.map_some, bindS]
        rw [mulT_l (by omega)]
        simp only [Option.map_some, bindS]
        refine like_t (pl_told (by have := d1.1; dsimp only; omega) fun S hS => ?_)
        rcases A1' P d1 S hS with z | z <;> rw [z] <;> simp
end Lk45

set_option Elab.async false
set_option linter.all false
set_option maxRecDepth 100000
set_option maxHeartbeats 4000000
/-! C45e: the law -/
namespace Lk45
open PySem PySem.Spec L2 Pl
theorem row_t (ns : List Int) : ∃ row : List Int, row.length = 30 ∧ t__law_row ns (30 : Int) = some row := by
  obtain ⟨row, h1, h2, _⟩ := rowT_ok ns (m := 30) (by decide)
  exact ⟨row, h1, h2⟩
theorem valid_pl {n years : Nat} (N : NOk n) (hy : years ≤ 5) {m : Tld} (h : Valid n years m.2) : plD 5 (cP2 cI (cT (cT cI)) m) = true :=
  pl_told (by rw [h.1]; omega) fun S hS => by have := A_len N (h.2 S hS); omega
theorem pok0 {C : List Int} {new trench : Int} {ages : List Int} (p : POk C new trench ages) : POk C new 0 ages := ⟨p.c, ⟨p.m.1, p.m.2.1, Int.le_refl 0, by decide⟩, p.a, p.n0, p.n1⟩
theorem large_t {C : List Int} {new trench : Int} {ages : List Int} (p : POk C new trench ages) (h3 : ages.length = 3) {years : Nat} (hy : years ≤ 5) : t__law_large ages C new (years : Int) = some true := by
  have p0 := pok0 p
  have N := n_ok p.n0 p.n1
  obtain ⟨v, v1, v2, v3⟩ := alone_t p0 hy
  obtain ⟨m, m1, m2⟩ := renew_least_t p0 hy
  obtain ⟨P, q1, q2⟩ := m2.1
  have hv := v3 rfl m m2
  have hP : m.2 = P := by rw [q2]
  have q1' : Valid ages.length years m.2 := by rw [hP]; exact q1
  unfold t__law_large
  rw [v1]
  simp only [bindS]
  rw [m1]
  simp only [bindS]
  rw [hv, not_f (like_t (PlC.pl v))]
  simp only [decide_true, Bool.not_true]
  have e0 : orO (some false) (orO (some false) (some false)) = some false := rfl
  rw [e0]
  simp only [bindS, Bool.false_eq_true, if_false]
  have e1 : (false || (!decide ((m.2.length : Int) = (years : Int)))) = false := by rw [q1'.1]; simp
  rw [e1]
  simp only [Bool.false_eq_true, if_false]
  unfold t__law_large_e1
  rw [mapO_some (fun _ => true) fun S hS => by
    rw [show rng1T (3 : Int) = some (nI 3) by decide +kernel]
    simp only [bindS]
    have hS' := q1'.2 S hS
    have hf := N.flt S hS'
    rw [h3] at hf
    rw [← hf]
    simp only [Option.map_some, bindS]
    exact like_t (pl_list (by have := A_len N hS'; omega))]
  simp only [bindS]
  have e2 : (m.2.map fun _ => true).all id = true := by simp
  rw [e2]
  simp only [Option.map_some, bindS, Bool.not_true, Bool.false_eq_true, if_false]
  rw [(costs_t p0.c p0.m m.2 p0.a (by omega)).2.1]
  simp only [bindS]
  have e3 : pc C new 0 ages m.2 = v := by rw [← hv, q2]
  rw [e3]
  simp only [decide_true, Bool.not_true, Bool.false_eq_true, if_false]
  rw [v2]
  simp only [Option.map_some, bindS]
  exact like_t (PlC.pl v)
theorem e1_t {row : List Int} (hr : row.length = 30) {C : List Int} {new trench : Int} {ages : List Int} (p : POk C new trench ages) (ha : ∀ a ∈ ages, a ≤ 5) (hm : 0 ≤ new ∧ new ≤ 12 ∧ 0 ≤ trench ∧ trench ≤ 6) {years : Nat} (y0 : 1 ≤ years) (hy : years ≤ 5) {cnt : Int} : t_law_e1 row (cnt, (years : Int)) ages C new trench = some true := by
  have hne : ages ≠ [] := fun z => by have := p.n0; rw [z] at this; simp at this
  obtain ⟨mx, x1, x2⟩ : ∃ mx, maxT ltI ages = some mx ∧ 0 ≤ mx ∧ mx ≤ 5 := by
    cases ages with
    | nil => exact absurd rfl hne
    | cons a as =>
      obtain ⟨h1, _⟩ := maxF_is as a
      exact ⟨_, rfl, p.a _ h1, ha _ h1⟩
  have ex : ∀ a : Int, ∃ v, t__law_at ages C new trench (years : Int) a = some v ∧ t_renew_at ages C new trench (years : Int) a = some v := at_t p hy
  let g : Int → Int := fun a => Classical.choose (ex a)
  have hg : ∀ a, t__law_at ages C new trench (years : Int) a = some (g a) ∧ t_renew_at ages C new trench (years : Int) a = some (g a) := fun a => Classical.choose_spec (ex a)
  obtain ⟨c, hc⟩ : ∃ c : Nat, c = (mx + years + 1).toNat := ⟨_, rfl⟩
  have c1 : 1 ≤ c ∧ c ≤ 20 := by omega
  have hrng : rng2T (1 : Int) (mx + years + 2) = some (rngI 1 c) := by
    rw [rng2T_some (by omega) (by omega) (by omega) (by omega) (by omega)]
    congr 2
    omega
  obtain ⟨m, j, b1, b2, b3⟩ := best_idx g c1.1
  unfold t_law_e1
  dsimp only
  rw [x1]
  simp only [bindS]
  rw [hrng]
  simp only [bindS]
  rw [mapO_some g fun a _ => (hg a).1]
  simp only [bindS]
  rw [row_at hr (z := 14) (by decide) (by decide)]
  simp only [bindS]
  have hl : (((rngI 1 c).map g).length : Int) = c := by rw [List.length_map, rngI_len]
  rw [hl, modT_n (by omega)]
  simp only [bindS]
  have fk := fm (a := rv row 14) (j := (c : Int)) (by omega)
  have step : ∀ k : Int, 0 ≤ k → k < c → t_law_1 (cnt, (years : Int)) ages C new trench ((rngI 1 c).map g) () k = some (Ctl.nx ()) := fun k k0 k1 => by
    unfold t_law_1
    dsimp only
    rw [(hg (1 + k)).2]
    have e : atI ((rngI 1 c).map g) k = some (g (1 + k)) := by
      rw [show k = ((k.toNat : Nat) : Int) by omega, atI_nt, List.getElem?_map]
      unfold rngI
      rw [List.getElem?_map, List.getElem?_range (by omega)]; rfl
    rw [e]
    simp only [Option.map_some, bindS]
    rw [not_f (like_t (PlC.pl (g (1 + k))))]; rfl
  rw [loopO_nx (step 0 (by omega) (by omega)), loopO_nx (step _ fk.1 fk.2), loopO_nx (step _ (by omega) (by omega)), loopO_nil]
  simp only [bindS, lp_go]
  unfold t_best_age
  rw [x1]
  simp only [bindS]
  rw [show mx + (years : Int) + 1 + 1 = mx + years + 2 by omega, hrng]
  simp only [bindS]
  rw [mapO_some (fun a => (g a, a)) fun a _ => by rw [(hg a).2]; rfl]
  simp only [bindS]
  rw [b3]
  simp only [Option.map_some, bindS]
  rw [b1]
  simp only [bindS]
  rw [b2]
  simp only [Option.map_some, bindS]
  rw [not_f (like_t (PlC.pl (1 + j)))]
  simp only [bindS, Bool.false_eq_true, if_false]
  rw [row_at hr (z := 21) (by decide) (by decide)]
  simp only [bindS]
  have f5 := fm (a := rv row 21) (j := 5) (by decide)
  exact late_t hr hm (by omega)
theorem e3_t {row : List Int} (hr : row.length = 30) {C : List Int} {new trench : Int} {ages : List Int} (p : POk C new trench ages) (ha : ∀ a ∈ ages, a ≤ 5) (hm : 0 ≤ new ∧ new ≤ 12 ∧ 0 ≤ trench ∧ trench ≤ 6) {years : Nat} (y0 : 1 ≤ years) (hy : years ≤ 5) (hl : (2 ^ ages.length) ^ years ≤ 4096) {cnt : Int} : t_law_e3 row (cnt, (years : Int)) ages C new trench = some true := by
  have p0 := pok0 p
  have N := n_ok p.n0 p.n1
  obtain ⟨m, m1, m2, m3⟩ := same_least p hy hl
  obtain ⟨P, q1, q2⟩ := m3.1
  obtain ⟨v, v1, v2, _⟩ := alone_t p hy
  obtain ⟨v0, u1, u2, u3⟩ := alone_t p0 hy
  obtain ⟨m0, k1, k2⟩ := renew_least_t p0 hy
  have hv := u3 rfl m0 k2
  unfold t_law_e3
  dsimp only
  rw [m1, m2]
  simp only [Option.map_some, bindS]
  rw [not_f (like_t (valid_pl N hy (by rw [q2]; exact q1)))]
  simp only [bindS, Bool.false_eq_true, if_false]
  rw [v1]
  simp only [bindS]
  rw [v2]
  simp only [Option.map_some, bindS]
  rw [not_f (like_t (PlC.pl v))]
  simp only [bindS, Bool.false_eq_true, if_false]
  unfold t_law_e2
  dsimp only
  rw [u1]
  simp only [bindS]
  rw [k1]
  simp only [Option.map_some, bindS]
  rw [hv, not_f (like_t (PlC.pl v0))]
  simp only [bindS, Bool.false_eq_true, if_false]
  rw [u2]
  simp only [Option.map_some, bindS]
  rw [not_f (like_t (PlC.pl v0))]
  simp only [bindS, Bool.false_eq_true, if_false]
  exact e1_t hr p ha hm y0 hy
theorem draw {row : List Int} (hr : row.length = 30) {b q : Int} {n : Nat} (h0 : 0 ≤ b) (h : b + n ≤ 30) : mapO (fun (k_ : Int) => ((atI row (b + k_)).bind fun (v_13 : Int) => some v_13).bind fun (v_14 : Int) => some (Int.fmod v_14 q)) (nI n) = some ((nI n).map fun k => (rv row (b + k)).fmod q) :=
  mapO_some _ fun k hk => by
    have := nI_mem.mp hk
    rw [row_at hr (z := b + k) (by omega) (by omega)]; rfl
theorem t_true (ns : List Int) : t_law ns = some true := by
  obtain ⟨row, hr, e⟩ := row_t ns
  unfold t_law
  rw [e]
  simp only [bindS]
  rw [row_at hr (z := 0) (by decide) (by decide)]
  simp only [bindS]
  rw [row_at hr (z := 1) (by decide) (by decide)]
  simp only [bindS]
  have f0 := fm (a := rv row 0) (j := 3) (by decide)
  obtain ⟨v, v0, v1, v2⟩ : ∃ v : Int, atI [(5 : Int), 4, 2] (1 + (rv row 0).fmod 3 - 1) = some v ∧ (1 ≤ v ∧ v ≤ 5) ∧ ((rv row 0).fmod 3 = 0 ∧ v = 5 ∨ (rv row 0).fmod 3 = 1 ∧ v = 4 ∨ (rv row 0).fmod 3 = 2 ∧ v = 2) := by
    have hc : (rv row 0).fmod 3 = 0 ∨ (rv row 0).fmod 3 = 1 ∨ (rv row 0).fmod 3 = 2 := by omega
    rcases hc with h | h | h
    · rw [h]; exact ⟨5, by decide, by decide, .inl ⟨rfl, rfl⟩⟩
    · rw [h]; exact ⟨4, by decide, by decide, .inr (.inl ⟨rfl, rfl⟩)⟩
    · rw [h]; exact ⟨2, by decide, by decide, .inr (.inr ⟨rfl, rfl⟩)⟩
  rw [v0]
  simp only [bindS]
  rw [modT_n (by omega)]
  simp only [bindS]
  rw [row_at hr (z := 2) (by decide) (by decide)]
  simp only [bindS]
  have fv := fm (a := rv row 1) (j := v) (by omega)
  have f2 := fm (a := rv row 1) (j := 2) (by decide)
  generalize hlg : decide ((rv row 2).fmod 16 = 5) = lg
  obtain ⟨cn, yr, hs, n0, n1, y0, y5, hb, hlarge⟩ : ∃ cn yr : Nat, (if lg = true then some ((3 : Int), 4 + (rv row 1).fmod 2) else some (1 + (rv row 0).fmod 3, 1 + (rv row 1).fmod v)) = some ((cn : Int), (yr : Int)) ∧ 1 ≤ cn ∧ cn ≤ 3 ∧ 1 ≤ yr ∧ yr ≤ 5 ∧ (lg = false → (2 ^ cn) ^ yr ≤ 4096) ∧ (lg = true → cn = 3) := by
    cases lg with
    | true =>
      refine ⟨3, (4 + (rv row 1).fmod 2).toNat, ?_, by decide, by decide, by omega, by omega, (fun z => by cases z), fun _ => rfl⟩
      rw [if_pos rfl]
      congr 2
      omega
    | false =>
      refine ⟨(1 + (rv row 0).fmod 3).toNat, (1 + (rv row 1).fmod v).toNat, ?_, by omega, by omega, by omega, by omega, (fun _ => ?_), fun z => by cases z⟩
      · rw [if_neg Bool.false_ne_true]
        congr 2 <;> omega
      · have pw : ∀ a b k : Nat, a ≤ b → (2 ^ k) ^ a ≤ (2 ^ k) ^ b := fun a b k h => Nat.pow_le_pow_right (Nat.two_pow_pos k) h
        rcases v2 with ⟨h1, h2⟩ | ⟨h1, h2⟩ | ⟨h1, h2⟩
        · rw [show (1 + (rv row 0).fmod 3).toNat = 1 by omega]
          exact Nat.le_trans (pw _ 5 1 (by omega)) (by decide)
        · rw [show (1 + (rv row 0).fmod 3).toNat = 2 by omega]
          exact Nat.le_trans (pw _ 4 2 (by omega)) (by decide)
        · rw [show (1 + (rv row 0).fmod 3).toNat = 3 by omega]
          exact Nat.le_trans (pw _ 2 3 (by omega)) (by decide)
  rw [hs]
  simp only [bindS]
  rw [rng1T_nat (by omega)]
  simp only [bindS]
  rw [draw hr (b := 3) (q := 6) (n := cn) (by decide) (by omega)]
  simp only [bindS]
  rw [row_at hr (z := 10) (by decide) (by decide)]
  simp only [bindS]
  have f10 := fm (a := rv row 10) (j := 4) (by decide)
  rw [rng1T_some (by omega) (by omega)]
  simp only [bindS]
  rw [draw hr (b := 6) (q := 10) (n := (1 + (rv row 10).fmod 4).toNat) (by decide) (by omega)]
  simp only [bindS]
  rw [row_at hr (z := 11) (by decide) (by decide)]
  simp only [bindS]
  have hCl : ((nI (1 + (rv row 10).fmod 4).toNat).map fun k => (rv row (6 + k)).fmod 10).length = (1 + (rv row 10).fmod 4).toNat := by rw [List.length_map, nI_len]
  generalize ((nI (1 + (rv row 10).fmod 4).toNat).map fun k => (rv row (6 + k)).fmod 10) = C0 at hCl
  obtain ⟨C, hC, hCn⟩ : ∃ C : List Int, (if decide (0 < (rv row 11).fmod 3) = true then (sortT ltI C0).bind fun (costs_1 : (List Int)) => some costs_1 else some C0) = some C ∧ C ≠ [] := by
    have c0 : C0 ≠ [] := fun z => by rw [z] at hCl; simp at hCl; omega
    split
    · rw [sortT_some (by omega)]
      refine ⟨_, rfl, fun z => c0 ?_⟩
      have pm := sort_perm (lt := ltI) (xs := C0)
      rw [z] at pm
      exact List.nil_perm.mp pm
    · exact ⟨_, rfl, c0⟩
  rw [hC]
  simp only [bindS]
  rw [row_at hr (z := 12) (by decide) (by decide)]
  simp only [bindS]
  rw [row_at hr (z := 13) (by decide) (by decide)]
  simp only [bindS]
  have f12 := fm (a := rv row 12) (j := 13) (by decide)
  have f13 := fm (a := rv row 13) (j := 7) (by decide)
  have hA : ∀ a ∈ (nI cn).map (fun k => (rv row (3 + k)).fmod 6), 0 ≤ a ∧ a ≤ 5 := fun a ha => by
    obtain ⟨k, _, ek⟩ := List.mem_map.mp ha
    have := fm (a := rv row (3 + k)) (j := 6) (by decide)
    omega
  have hAl : ((nI cn).map fun k => (rv row (3 + k)).fmod 6).length = cn := by rw [List.length_map, nI_len]
  generalize ((nI cn).map fun k => (rv row (3 + k)).fmod 6) = ages at hA hAl
  have p : POk C ((rv row 12).fmod 13) ((rv row 13).fmod 7) ages := ⟨hCn, ⟨by omega, by omega, by omega, by omega⟩, fun a ha => (hA a ha).1, by omega, by omega⟩
  cases lg with
  | true =>
    rw [if_pos rfl]
    exact large_t p (by rw [hAl]; exact hlarge rfl) y5
  | false =>
    rw [if_neg Bool.false_ne_true]
    exact e3_t hr p (fun a ha => (hA a ha).2) (by omega) y0 y5 (by rw [hAl]; exact hb rfl)
theorem law_true (ns : List Int) (h : ns.length ≤ 63) : f_law [(.list (ns.map .int), .sc)] = some (.bool true, .fz) := by
  have b := b_law ns
  rw [t_true ns] at b
  exact b
end Lk45

namespace Lk45
open PySem PySem.Spec PyProof.Rows L2 Pl
theorem fin (l : PySem.W.OpenLaw) {w : World} {K : PySem.W.Frag} {h : Heap} {mg : Str → Option Value} {fa f : Addr} {oc : Value} {od an : Option Addr} {osl : Array (Option Value)} {kV doc pm cdv ct : Value} (KX : K.In h) (G : h.Ns mainGlobals mg) (hmg : mg "law" = some (.ref fa)) (B : ∀ x ∈ bl, mg x = none) (t__law_mixed : Tp K mg "_law_mixed" s__law_mixed) (t__law_row : Tp K mg "_law_row" s__law_row) (t_all_sets : Tp K mg "all_sets" s_all_sets) (t_cost_at : Tp K mg "cost_at" s_cost_at) (t_renew_least : Tp K mg "renew_least" s_renew_least) (t__law_cost : Tp K mg "_law_cost" s__law_cost) (t__law_sets : Tp K mg "_law_sets" s__law_sets) (t__law_plans : Tp K mg "_law_plans" s__law_plans) (t__law_least : Tp K mg "_law_least" s__law_least) (t__law_alone : Tp K mg "_law_alone" s__law_alone) (t__law_is_int : Tp K mg "_law_is_int" s__law_is_int) (t__law_like : Tp K mg "_law_like" s__law_like) (t_renew_alone : Tp K mg "renew_alone" s_renew_alone) (t__law_large : Tp K mg "_law_large" s__law_large) (t__law_at : Tp K mg "_law_at" s__law_at) (t_plan_sum : Tp K mg "plan_sum" s_plan_sum) (t_renew_at : Tp K mg "renew_at" s_renew_at) (t_best_age : Tp K mg "best_age" s_best_age) (t_least_looks : Tp K mg "least_looks" s_least_looks) (t__law_late : Tp K mg "_law_late" s__law_late)
    (a : PySem.W.nsIn K mainGlobals "law" = some (some (.ref f))) (lk : K.lookup f = some ⟨oc, od, .func (PySem.W.fnOf "law" "law" (defArgs s_law) (defBody s_law) (defScope s_law) .none kV doc pm an cdv ct), osl⟩) (c : PySem.W.codeIn K cdv "law" = true) (k : PySem.W.keepIn K (.ref f) = true) :
    ∃ fd : FuncData, (∀ (s : Shared) (u : Value), BindsTo s fd ⟨[u], []⟩ [("script", u)]) ∧ ∀ base : Heap, K.In base → base.Ns mainGlobals mg → FnOk l.prog w K mg base CX0 9 fa fd ["script"] (spG K f_law) := by
  have e := hmg.symm.trans (PySem.W.mg_of KX G a)
  cases e
  exact ⟨_, fun s u => .of_eq rfl, fun base _ _ => all_ok (fun_mk lk c k) B t__law_mixed t__law_row t_all_sets t_cost_at t_renew_least t__law_cost t__law_sets t__law_plans t__law_least t__law_alone t__law_is_int t__law_like t_renew_alone t__law_large t__law_at t_plan_sum t_renew_at t_best_age t_least_looks t__law_late⟩
end Lk45
open PySem PySem.W PyProof.Rows
set_option maxHeartbeats 0 in
theorem PySem.Challenge.cw_gasheld_k45_whole_renewed_years_holds : PySem.Challenge.rw_gasheld_k45_whole_renewed_years.Holds := by
  w_on; o_law; k_head; (case hw => w_witness2)
  k_fill
  refine L2.walk_of (l := PySem.Challenge.rw_gasheld_k45_whole_renewed_years) (n := 63) (k := 9) (x := "script") (CX := fun _ => L2.CX0) (sp := fun w => Pl.spG _ Lk45.f_law) rfl (by decide) rfl ⟨rfl, by decide, by decide⟩ (fun w h Y => PySem.W.kIn_of Y) ?F (fun _ _ a ns hl hO hS => Pl.law_sp (Lk45.law_true ns hl) hO hS) (fun _ _ _ _ _ h => h)
  case F =>
    intro w mg fa h KX G hmg
    have t__law_mixed : Pl.TpAt KX mg "_law_mixed" Lk45.s__law_mixed := by
      refine' Pl.tp_mk KX G ?a ?l ?c ?k; (case a => k_is); (case l => k_is); (case c => k_is); (case k => k_is)
    have t__law_row : Pl.TpAt KX mg "_law_row" Lk45.s__law_row := by
      refine' Pl.tp_mk KX G ?a ?l ?c ?k; (case a => k_is); (case l => k_is); (case c => k_is); (case k => k_is)
    have t_all_sets : Pl.TpAt KX mg "all_sets" Lk45.s_all_sets := by
      refine' Pl.tp_mk KX G ?a ?l ?c ?k; (case a => k_is); (case l => k_is); (case c => k_is); (case k => k_is)
    have t_cost_at : Pl.TpAt KX mg "cost_at" Lk45.s_cost_at := by
      refine' Pl.tp_mk KX G ?a ?l ?c ?k; (case a => k_is); (case l => k_is); (case c => k_is); (case k => k_is)
    have t_renew_least : Pl.TpAt KX mg "renew_least" Lk45.s_renew_least := by
      refine' Pl.tp_mk KX G ?a ?l ?c ?k; (case a => k_is); (case l => k_is); (case c => k_is); (case k => k_is)
    have t__law_cost : Pl.TpAt KX mg "_law_cost" Lk45.s__law_cost := by
      refine' Pl.tp_mk KX G ?a ?l ?c ?k; (case a => k_is); (case l => k_is); (case c => k_is); (case k => k_is)
    have t__law_sets : Pl.TpAt KX mg "_law_sets" Lk45.s__law_sets := by
      refine' Pl.tp_mk KX G ?a ?l ?c ?k; (case a => k_is); (case l => k_is); (case c => k_is); (case k => k_is)
    have t__law_plans : Pl.TpAt KX mg "_law_plans" Lk45.s__law_plans := by
      refine' Pl.tp_mk KX G ?a ?l ?c ?k; (case a => k_is); (case l => k_is); (case c => k_is); (case k => k_is)
    have t__law_least : Pl.TpAt KX mg "_law_least" Lk45.s__law_least := by
      refine' Pl.tp_mk KX G ?a ?l ?c ?k; (case a => k_is); (case l => k_is); (case c => k_is); (case k => k_is)
    have t__law_alone : Pl.TpAt KX mg "_law_alone" Lk45.s__law_alone := by
      refine' Pl.tp_mk KX G ?a ?l ?c ?k; (case a => k_is); (case l => k_is); (case c => k_is); (case k => k_is)
    have t__law_is_int : Pl.TpAt KX mg "_law_is_int" Lk45.s__law_is_int := by
      refine' Pl.tp_mk KX G ?a ?l ?c ?k; (case a => k_is); (case l => k_is); (case c => k_is); (case k => k_is)
    have t__law_like : Pl.TpAt KX mg "_law_like" Lk45.s__law_like := by
      refine' Pl.tp_mk KX G ?a ?l ?c ?k; (case a => k_is); (case l => k_is); (case c => k_is); (case k => k_is)
    have t_renew_alone : Pl.TpAt KX mg "renew_alone" Lk45.s_renew_alone := by
      refine' Pl.tp_mk KX G ?a ?l ?c ?k; (case a => k_is); (case l => k_is); (case c => k_is); (case k => k_is)
    have t__law_large : Pl.TpAt KX mg "_law_large" Lk45.s__law_large := by
      refine' Pl.tp_mk KX G ?a ?l ?c ?k; (case a => k_is); (case l => k_is); (case c => k_is); (case k => k_is)
    have t__law_at : Pl.TpAt KX mg "_law_at" Lk45.s__law_at := by
      refine' Pl.tp_mk KX G ?a ?l ?c ?k; (case a => k_is); (case l => k_is); (case c => k_is); (case k => k_is)
    have t_plan_sum : Pl.TpAt KX mg "plan_sum" Lk45.s_plan_sum := by
      refine' Pl.tp_mk KX G ?a ?l ?c ?k; (case a => k_is); (case l => k_is); (case c => k_is); (case k => k_is)
    have t_renew_at : Pl.TpAt KX mg "renew_at" Lk45.s_renew_at := by
      refine' Pl.tp_mk KX G ?a ?l ?c ?k; (case a => k_is); (case l => k_is); (case c => k_is); (case k => k_is)
    have t_best_age : Pl.TpAt KX mg "best_age" Lk45.s_best_age := by
      refine' Pl.tp_mk KX G ?a ?l ?c ?k; (case a => k_is); (case l => k_is); (case c => k_is); (case k => k_is)
    have t_least_looks : Pl.TpAt KX mg "least_looks" Lk45.s_least_looks := by
      refine' Pl.tp_mk KX G ?a ?l ?c ?k; (case a => k_is); (case l => k_is); (case c => k_is); (case k => k_is)
    have t__law_late : Pl.TpAt KX mg "_law_late" Lk45.s__law_late := by
      refine' Pl.tp_mk KX G ?a ?l ?c ?k; (case a => k_is); (case l => k_is); (case c => k_is); (case k => k_is)
    have B : ∀ x ∈ Pl.bl, mg x = none := by
      refine' Pl.bl_mk KX G ?_
      intro x hx
      simp only [Pl.bl, List.mem_cons, List.not_mem_nil, or_false] at hx
      rcases hx with rfl | rfl | rfl | rfl | rfl | rfl | rfl | rfl | rfl | rfl | rfl | rfl | rfl | rfl | rfl | rfl | rfl | rfl | rfl <;> k_is
    refine' Lk45.fin (PySem.Challenge.rw_gasheld_k45_whole_renewed_years) KX G hmg B t__law_mixed t__law_row t_all_sets t_cost_at t_renew_least t__law_cost t__law_sets t__law_plans t__law_least t__law_alone t__law_is_int t__law_like t_renew_alone t__law_large t__law_at t_plan_sum t_renew_at t_best_age t_least_looks t__law_late ?a ?l ?c ?k; (case a => k_is); (case l => k_is); (case c => k_is); (case k => k_is)

