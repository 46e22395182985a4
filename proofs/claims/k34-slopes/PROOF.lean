import PyProof.Rows.All
import Wide.All
import OpenK.AllK
import Wide.FinOn
import HandS.ForMost
import HandS.ForExc
import HandS.DictTup
import HandS.Keys
import HandS.DictComp
import HandS.IsInst
import HandS.ExcIs
import HandS.Wide
import HandS.More
import HandS.Style
import KE.KDictKeyed
import KE.KDictDisplayH
import KE.KDictPairs
import KE.SortData
import HandS.TupLen
import PySem.Challenge.RW_everyworth_k34_slopes
set_option Elab.async false
set_option linter.all false
set_option maxRecDepth 100000
set_option maxHeartbeats 4000000
/-! Plain mathematics: dual numbers, monomials and polynomials as lists, what the slope is. -/
namespace Ev

/-! ### dual numbers -/
abbrev Du := Int × Int
def dadd (a b : Du) : Du := (a.1 + b.1, a.2 + b.2)
def dmul (a b : Du) : Du := (a.1 * b.1, a.1 * b.2 + a.2 * b.1)
def dz : Du := (0, 0)
def done : Du := (1, 0)
def dpow (a : Du) : Nat → Du
  | 0 => done
  | n + 1 => dmul (dpow a n) a
theorem du_ext {a b : Du} (h1 : a.1 = b.1) (h2 : a.2 = b.2) : a = b := Prod.ext h1 h2
theorem dadd_comm (a b : Du) : dadd a b = dadd b a := du_ext (Int.add_comm _ _) (Int.add_comm _ _)
theorem dadd_assoc (a b c : Du) : dadd (dadd a b) c = dadd a (dadd b c) := du_ext (Int.add_assoc _ _ _) (Int.add_assoc _ _ _)
theorem dadd_zero (a : Du) : dadd a dz = a := du_ext (Int.add_zero _) (Int.add_zero _)
theorem zero_dadd (a : Du) : dadd dz a = a := du_ext (Int.zero_add _) (Int.zero_add _)
theorem dmul_comm (a b : Du) : dmul a b = dmul b a := by
  unfold dmul; refine du_ext ?_ ?_ <;> (dsimp only; grind)
theorem dmul_assoc (a b c : Du) : dmul (dmul a b) c = dmul a (dmul b c) := by
  unfold dmul; refine du_ext ?_ ?_ <;> (dsimp only; grind)
theorem dmul_one (a : Du) : dmul a done = a := by
  unfold dmul done; refine du_ext ?_ ?_ <;> (dsimp only; grind)
theorem one_dmul (a : Du) : dmul done a = a := by rw [dmul_comm, dmul_one]
theorem dmul_zero (a : Du) : dmul a dz = dz := by
  unfold dmul dz; refine du_ext ?_ ?_ <;> (dsimp only; grind)
theorem zero_dmul (a : Du) : dmul dz a = dz := by rw [dmul_comm, dmul_zero]
theorem dmul_add (a b c : Du) : dmul a (dadd b c) = dadd (dmul a b) (dmul a c) := by
  unfold dmul dadd; refine du_ext ?_ ?_ <;> (dsimp only; grind)
theorem add_dmul (a b c : Du) : dmul (dadd a b) c = dadd (dmul a c) (dmul b c) := by
  rw [dmul_comm, dmul_add, dmul_comm c a, dmul_comm c b]
theorem dmul_left_comm (a b c : Du) : dmul a (dmul b c) = dmul b (dmul a c) := by
  rw [← dmul_assoc, dmul_comm a b, dmul_assoc]
theorem dadd_left_comm (a b c : Du) : dadd a (dadd b c) = dadd b (dadd a c) := by
  rw [← dadd_assoc, dadd_comm a b, dadd_assoc]
theorem dpow_add (a : Du) (m : Nat) : ∀ n : Nat, dpow a (m + n) = dmul (dpow a m) (dpow a n)
  | 0 => (dmul_one _).symm
  | n + 1 => by
    show dmul (dpow a (m + n)) a = dmul (dpow a m) (dmul (dpow a n) a)
    rw [dpow_add a m n, dmul_assoc]

/-! ### tables: a count for each key -/
section
variable {κ : Type} [DecidableEq κ]
/-- c more at k -/
def acc : List (κ × Int) → κ → Int → List (κ × Int)
  | [], k, c => [(k, c)]
  | (j, d) :: t, k, c => if j = k then (j, d + c) :: t else (j, d) :: acc t k c
def aget : List (κ × Int) → κ → Option Int
  | [], _ => none
  | (j, d) :: t, k => if j = k then some d else aget t k
theorem acc_keys_sub : ∀ (t : List (κ × Int)) (k : κ) (c : Int) (j : κ), j ∈ (acc t k c).map (·.1) → j = k ∨ j ∈ t.map (·.1)
  | [], k, c, j, h => by
    simp only [acc, List.map_cons, List.map_nil, List.mem_singleton] at h
    exact .inl h
  | (i, d) :: t, k, c, j, h => by
    unfold acc at h
    split at h
    · exact .inr h
    · simp only [List.map_cons, List.mem_cons] at h ⊢
      rcases h with h | h
      · exact .inr (.inl h)
      · rcases acc_keys_sub t k c j h with q | q
        · exact .inl q
        · exact .inr (.inr q)
theorem acc_nodup : ∀ (t : List (κ × Int)) (k : κ) (c : Int), (t.map (·.1)).Nodup → ((acc t k c).map (·.1)).Nodup
  | [], k, c, _ => by simp [acc]
  | (i, d) :: t, k, c, h => by
    have h' : i ∉ t.map (·.1) ∧ (t.map (·.1)).Nodup := List.nodup_cons.mp h
    unfold acc
    split
    · exact h
    · rename_i hne
      refine List.nodup_cons.mpr ⟨fun m => ?_, acc_nodup t k c h'.2⟩
      rcases acc_keys_sub t k c i m with q | q
      · exact hne q
      · exact h'.1 q
theorem acc_length : ∀ (t : List (κ × Int)) (k : κ) (c : Int), (acc t k c).length ≤ t.length + 1
  | [], k, c => Nat.le_refl _
  | (i, d) :: t, k, c => by
    unfold acc
    split
    · simp
    · simp only [List.length_cons]
      have := acc_length t k c
      omega
theorem acc_mem : ∀ (t : List (κ × Int)) (k : κ) (c : Int) (q : κ × Int), q ∈ acc t k c → q ∈ t ∨ q.1 = k ∧ (q.2 = c ∨ ∃ d, (k, d) ∈ t ∧ q.2 = d + c)
  | [], k, c, q, h => by
    simp only [acc, List.mem_singleton] at h
    subst h
    exact .inr ⟨rfl, .inl rfl⟩
  | (i, d) :: t, k, c, q, h => by
    unfold acc at h
    split at h
    · rename_i e
      subst e
      rcases List.mem_cons.mp h with h | h
      · subst h
        exact .inr ⟨rfl, .inr ⟨d, List.mem_cons_self, rfl⟩⟩
      · exact .inl (List.mem_cons_of_mem _ h)
    · rcases List.mem_cons.mp h with h | h
      · exact .inl (h ▸ List.mem_cons_self)
      · rcases acc_mem t k c q h with z | ⟨z, y⟩
        · exact .inl (List.mem_cons_of_mem _ z)
        · refine .inr ⟨z, ?_⟩
          rcases y with y | ⟨d', y1, y2⟩
          · exact .inl y
          · exact .inr ⟨d', List.mem_cons_of_mem _ y1, y2⟩
/-- a sum over a table that is additive in the counts -/
def tsum (g : κ → Int → Du) : List (κ × Int) → Du
  | [] => dz
  | (j, d) :: t => dadd (g j d) (tsum g t)
theorem tsum_acc (g : κ → Int → Du) (hg : ∀ k c d, g k (c + d) = dadd (g k c) (g k d)) : ∀ (t : List (κ × Int)) (k : κ) (c : Int), tsum g (acc t k c) = dadd (tsum g t) (g k c)
  | [], k, c => by
    show dadd (g k c) dz = dadd dz (g k c)
    rw [dadd_zero, zero_dadd]
  | (i, d) :: t, k, c => by
    unfold acc
    split
    · rename_i e
      subst e
      show dadd (g i (d + c)) (tsum g t) = dadd (dadd (g i d) (tsum g t)) (g i c)
      rw [hg, dadd_assoc, dadd_assoc, dadd_comm (g i c)]
    · show dadd (g i d) (tsum g (acc t k c)) = dadd (dadd (g i d) (tsum g t)) (g k c)
      rw [tsum_acc g hg t k c, dadd_assoc]
theorem tsum_append (g : κ → Int → Du) : ∀ (s t : List (κ × Int)), tsum g (s ++ t) = dadd (tsum g s) (tsum g t)
  | [], t => (zero_dadd _).symm
  | (i, d) :: s, t => by
    show dadd (g i d) (tsum g (s ++ t)) = dadd (dadd (g i d) (tsum g s)) (tsum g t)
    rw [tsum_append g s t, dadd_assoc]
theorem tsum_perm (g : κ → Int → Du) {s t : List (κ × Int)} (h : s.Perm t) : tsum g s = tsum g t := by
  induction h with
  | nil => rfl
  | cons x _ ih =>
    show dadd (g x.1 x.2) _ = dadd (g x.1 x.2) _
    rw [ih]
  | swap x y l =>
    show dadd (g y.1 y.2) (dadd (g x.1 x.2) _) = dadd (g x.1 x.2) (dadd (g y.1 y.2) _)
    rw [dadd_left_comm]
  | trans _ _ ih1 ih2 => exact ih1.trans ih2
/-- a product over a table -/
def tprod (g : κ → Int → Du) : List (κ × Int) → Du
  | [] => done
  | (j, d) :: t => dmul (g j d) (tprod g t)
theorem tprod_acc (g : κ → Int → Du) (hg : ∀ k c d, 0 ≤ c → 0 ≤ d → g k (c + d) = dmul (g k c) (g k d)) : ∀ (t : List (κ × Int)) (k : κ) (c : Int), (∀ q ∈ t, 0 ≤ q.2) → 0 ≤ c → tprod g (acc t k c) = dmul (tprod g t) (g k c)
  | [], k, c, _, _ => by
    show dmul (g k c) done = dmul done (g k c)
    rw [dmul_one, one_dmul]
  | (i, d) :: t, k, c, h0, hc => by
    unfold acc
    split
    · rename_i e
      subst e
      show dmul (g i (d + c)) (tprod g t) = dmul (dmul (g i d) (tprod g t)) (g i c)
      rw [hg _ _ _ (h0 _ List.mem_cons_self) hc, dmul_assoc, dmul_assoc, dmul_comm (g i c)]
    · show dmul (g i d) (tprod g (acc t k c)) = dmul (dmul (g i d) (tprod g t)) (g k c)
      rw [tprod_acc g hg t k c (fun q hq => h0 q (List.mem_cons_of_mem _ hq)) hc, dmul_assoc]
theorem tprod_perm (g : κ → Int → Du) {s t : List (κ × Int)} (h : s.Perm t) : tprod g s = tprod g t := by
  induction h with
  | nil => rfl
  | cons x _ ih =>
    show dmul (g x.1 x.2) _ = dmul (g x.1 x.2) _
    rw [ih]
  | swap x y l =>
    show dmul (g y.1 y.2) (dmul (g x.1 x.2) _) = dmul (g x.1 x.2) (dmul (g y.1 y.2) _)
    rw [dmul_left_comm]
  | trans _ _ ih1 ih2 => exact ih1.trans ih2
/-- the sum of the counts' sizes -/
def nrm (t : List (κ × Int)) : Nat := (t.map fun q => q.2.natAbs).sum
theorem nrm_nil : nrm ([] : List (κ × Int)) = 0 := rfl
theorem nrm_cons (q : κ × Int) (t : List (κ × Int)) : nrm (q :: t) = q.2.natAbs + nrm t := by
  unfold nrm; rw [List.map_cons, List.sum_cons]
theorem nrm_append (s t : List (κ × Int)) : nrm (s ++ t) = nrm s + nrm t := by
  unfold nrm; rw [List.map_append, List.sum_append]
theorem nrm_acc : ∀ (t : List (κ × Int)) (k : κ) (c : Int), nrm (acc t k c) ≤ nrm t + c.natAbs
  | [], k, c => by
    show nrm [(k, c)] ≤ nrm ([] : List (κ × Int)) + c.natAbs
    rw [nrm_cons, nrm_nil]
    simp only
    omega
  | (i, d) :: t, k, c => by
    unfold acc
    split
    · rw [nrm_cons, nrm_cons]
      simp only
      have := Int.natAbs_add_le d c
      omega
    · rw [nrm_cons, nrm_cons]
      have := nrm_acc t k c
      omega
theorem nrm_perm {s t : List (κ × Int)} (h : s.Perm t) : nrm s = nrm t := by
  unfold nrm
  exact (h.map _).sum_nat
theorem nrm_mem {t : List (κ × Int)} {q : κ × Int} (h : q ∈ t) : q.2.natAbs ≤ nrm t := by
  induction t with
  | nil => cases h
  | cons x t ih =>
    rw [nrm_cons]
    rcases List.mem_cons.mp h with h | h
    · subst h; omega
    · have := ih h; omega
theorem nrm_take_le (t : List (κ × Int)) (i : Nat) : nrm (t.take i) ≤ nrm t := by
  have h : nrm (t.take i) + nrm (t.drop i) = nrm t := by rw [← nrm_append, List.take_append_drop]
  omega
end

/-! ### monomials -/
abbrev Mono := List (Int × Int)
abbrev Poly := List (Mono × Int)
section
variable (x : Int → Int) (f : Int)
def dvar (k : Int) : Du := (x k, if k = f then 1 else 0)
def gM (k e : Int) : Du := dpow (dvar x f k) e.toNat
def dmono (m : Mono) : Du := tprod (gM x f) m
def gP (m : Mono) (c : Int) : Du := dmul (c, 0) (dmono x f m)
def dpoly (p : Poly) : Du := tsum (gP x f) p
variable {x f}
theorem gM_add (k c d : Int) (hc : 0 ≤ c) (hd : 0 ≤ d) : gM x f k (c + d) = dmul (gM x f k c) (gM x f k d) := by
  unfold gM
  rw [Int.toNat_add hc hd, dpow_add]
theorem gP_add (m : Mono) (c d : Int) : gP x f m (c + d) = dadd (gP x f m c) (gP x f m d) := by
  unfold gP
  rw [← add_dmul]
  rfl
theorem gP_mul (m n : Mono) (c d : Int) {u : Mono} (h : dmono x f u = dmul (dmono x f m) (dmono x f n)) : gP x f u (c * d) = dmul (gP x f m c) (gP x f n d) := by
  unfold gP
  rw [h]
  unfold dmul
  refine du_ext ?_ ?_ <;> (dsimp only; grind)
end
/-- a monomial of level n -/
structure MonoOk (n : Nat) (m : Mono) : Prop where
  nd : (m.map (·.1)).Nodup
  ok : ∀ q ∈ m, 0 ≤ q.1 ∧ q.1 < 4 ∧ 1 ≤ q.2
  deg : nrm m ≤ 2 ^ n
structure PolyOk (n : Nat) (p : Poly) : Prop where
  nd : (p.map (·.1)).Nodup
  len : p.length ≤ 400
  nrm : nrm p ≤ 2 ^ 2 ^ n
  ok : ∀ q ∈ p, MonoOk n q.1
theorem MonoOk.mono {n k : Nat} {m : Mono} (h : MonoOk n m) (hk : n ≤ k) : MonoOk k m :=
  ⟨h.nd, h.ok, Nat.le_trans h.deg (Nat.pow_le_pow_right (by decide) hk)⟩
theorem PolyOk.mono {n k : Nat} {p : Poly} (h : PolyOk n p) (hk : n ≤ k) : PolyOk k p :=
  ⟨h.nd, h.len, Nat.le_trans h.nrm (Nat.pow_le_pow_right (by decide) (Nat.pow_le_pow_right (by decide) hk)), fun q hq => (h.ok q hq).mono hk⟩
/-- all counts at least 1: the length is bounded by the degree -/
theorem len_le_nrm : ∀ {m : Mono}, (∀ q ∈ m, 0 ≤ q.1 ∧ q.1 < 4 ∧ 1 ≤ q.2) → m.length ≤ nrm m
  | [], _ => Nat.zero_le _
  | q :: m, h => by
    rw [nrm_cons, List.length_cons]
    have h1 := (h q List.mem_cons_self).2.2
    have h2 := len_le_nrm (m := m) fun r hr => h r (List.mem_cons_of_mem _ hr)
    omega
end Ev

/-! Own rules over the hand layer: dicts whose keys are nested tuples, dict() of a tuple of pairs, sorted(d.items()). -/
namespace Ev
open PySem PySem.Spec PyProof.Rows L2
/-! ### nested data: tuples made by the rules below, each with its object known -/
mutual
/-- v stands for the nested tuple (or int, text) k -/
inductive Dn (H : Hp) : V → NestedKey → Prop
  | non : Dn H .non .none
  | int (i : Int) : Dn H (.int i) (.num i)
  | str (x : Str) : Dn H (.str x) (.text x)
  | tup {a : Addr} {o : Obj} {vs : List V} {ks : List NestedKey} : H a = some (.frz o (.tup vs)) → o.dict = none → DnAll H vs ks → Dn H (.ref a) (.tup ks)
inductive DnAll (H : Hp) : List V → List NestedKey → Prop
  | nil : DnAll H [] []
  | cons {v : V} {vs : List V} {k : NestedKey} {ks : List NestedKey} : Dn H v k → DnAll H vs ks → DnAll H (v :: vs) (k :: ks)
end
/-- all known tuples are kept -/
def Fk (H H' : Hp) : Prop := ∀ b o u, H b = some (.frz o u) → H' b = some (.frz o u)
theorem Fk.refl (H : Hp) : Fk H H := fun _ _ _ h => h
theorem Fk.trans {H H1 H2 : Hp} (a : Fk H H1) (b : Fk H1 H2) : Fk H H2 := fun c o u h => b c o u (a c o u h)
theorem Fk.of_same {H H' : Hp} (s : Same H H') : Fk H H' := fun b o u h => s _ _ h
/-- all but the object at p, which is no known tuple, is kept -/
theorem Fk.of_but {H H' : Hp} {p : Addr} (n : ∀ o u, ¬ H p = some (.frz o u)) (s : ∀ b o, H b = some o → b ≠ p → H' b = some o) : Fk H H' := fun b o u h => s _ _ h fun e => n o u (e ▸ h)
theorem nf_of {H : Hp} {p : Addr} {ho : HO} (h : H p = some ho) (d : ∀ o u, ho ≠ .frz o u) : ∀ o u, ¬ H p = some (.frz o u) := fun o u r => d o u (Option.some.inj (h.symm.trans r))
theorem nf_lst {H : Hp} {p : Addr} {ys : List V} (h : H p = some (.lst ys)) : ∀ o u, ¬ H p = some (.frz o u) := nf_of h fun _ _ z => nomatch z
theorem nf_dK {H : Hp} {p : Addr} {ys : List (L2.Key × V)} (h : H p = some (.dK ys)) : ∀ o u, ¬ H p = some (.frz o u) := nf_of h fun _ _ z => nomatch z
theorem nf_ext {H : Hp} {p : Addr} {φ : Heap → Prop} (h : H p = some (.ext φ)) : ∀ o u, ¬ H p = some (.frz o u) := nf_of h fun _ _ z => nomatch z
theorem nf_ins {H : Hp} {p C dx : Addr} {fs : List (Str × V)} (h : H p = some (.ins C dx fs)) : ∀ o u, ¬ H p = some (.frz o u) := nf_of h fun _ _ z => nomatch z
theorem nf_none {H : Hp} {p : Addr} (h : H p = none) : ∀ o u, ¬ H p = some (.frz o u) := fun o u r => by rw [h] at r; cases r
theorem Fk.upd {H : Hp} {p : Addr} {o : HO} (n : ∀ o u, ¬ H p = some (.frz o u)) : Fk H (upd H p o) := Fk.of_but n fun b u h hb => by rw [upd_ne hb]; exact h
theorem Fk.new {H : Hp} {p : Addr} {o : HO} (n : H p = none) : Fk H (L2.upd H p o) := Fk.upd (nf_none n)
mutual
theorem Dn.fk {H H' : Hp} (t : Fk H H') : ∀ (k : NestedKey) (v : V), Dn H v k → Dn H' v k
  | .none, _, h => by
    cases h
    exact .non
  | .num i, _, h => by
    cases h
    exact .int i
  | .text x, _, h => by
    cases h
    exact .str x
  | .tup ks, _, h => by
    cases h with
    | tup hs hd ha => exact .tup (t _ _ _ hs) hd (DnAll.fk t ks _ ha)
theorem DnAll.fk {H H' : Hp} (t : Fk H H') : ∀ (ks : List NestedKey) (vs : List V), DnAll H vs ks → DnAll H' vs ks
  | [], _, h => by
    cases h
    exact .nil
  | k :: ks, _, h => by
    cases h with
    | cons h1 h2 => exact .cons (Dn.fk t k _ h1) (DnAll.fk t ks _ h2)
end
theorem Dn.same {H H' : Hp} {k : NestedKey} {v : V} (h : Dn H v k) (s : Same H H') : Dn H' v k := Dn.fk (.of_same s) k v h
theorem Dn.num_inv {H : Hp} {v : V} {i : Int} (h : Dn H v (.num i)) : v = .int i := by
  cases h
  rfl
theorem Dn.tup_inv {H : Hp} {v : V} {ks : List NestedKey} (h : Dn H v (.tup ks)) : ∃ a o vs, v = .ref a ∧ H a = some (.frz o (.tup vs)) ∧ o.dict = none ∧ DnAll H vs ks := by
  cases h with
  | tup hs hd ha => exact ⟨_, _, _, rfl, hs, hd, ha⟩
/-- .. as a tuple to be read -/
theorem Dn.sq {K : PySem.W.Frag} {H : Hp} {v : V} {ks : List NestedKey} (h : Dn H v (.tup ks)) : ∃ a vs, v = .ref a ∧ SqT K H a vs ∧ DnAll H vs ks := by
  cases h with
  | tup hs hd ha => exact ⟨_, _, rfl, .inl (.inr ⟨_, hs⟩), ha⟩
theorem DnAll.length {H : Hp} : ∀ {vs : List V} {ks : List NestedKey}, DnAll H vs ks → vs.length = ks.length
  | _, [], h => by
    cases h
    rfl
  | _, k :: ks, h => by
    cases h with
    | cons h1 h2 => rw [List.length_cons, List.length_cons, DnAll.length h2]
theorem DnAll.get {H : Hp} : ∀ {vs : List V} {ks : List NestedKey} {i : Nat} {k : NestedKey}, DnAll H vs ks → ks[i]? = some k → ∃ v, vs[i]? = some v ∧ Dn H v k
  | _, [], i, k, h, e => by simp at e
  | _, j :: ks, 0, k, h, e => by
    cases h with
    | cons h1 h2 =>
      have e' : j = k := by simpa using e
      subst e'
      exact ⟨_, rfl, h1⟩
  | _, j :: ks, i + 1, k, h, e => by
    cases h with
    | cons h1 h2 =>
      obtain ⟨v, e1, e2⟩ := DnAll.get (i := i) (k := k) h2 (by simpa using e)
      exact ⟨v, by simpa using e1, e2⟩
theorem DnAll.get' {H : Hp} : ∀ {vs : List V} {ks : List NestedKey} {i : Nat} {v : V}, DnAll H vs ks → vs[i]? = some v → ∃ k, ks[i]? = some k ∧ Dn H v k
  | _, [], i, k, h, e => by
    cases h
    simp at e
  | _, j :: ks, 0, k, h, e => by
    cases h with
    | cons h1 h2 =>
      rw [List.getElem?_cons_zero] at e
      cases e
      exact ⟨j, rfl, h1⟩
  | _, j :: ks, i + 1, k, h, e => by
    cases h with
    | cons h1 h2 =>
      obtain ⟨v, e1, e2⟩ := DnAll.get' (i := i) (v := k) h2 (by simpa using e)
      exact ⟨v, by simpa using e1, e2⟩
theorem DnAll.of_get {H : Hp} : ∀ {vs : List V} {ks : List NestedKey}, vs.length = ks.length → (∀ (i : Nat) v k, vs[i]? = some v → ks[i]? = some k → Dn H v k) → DnAll H vs ks
  | [], [], _, _ => .nil
  | [], _ :: _, h, _ => by simp at h
  | _ :: _, [], h, _ => by simp at h
  | v :: vs, k :: ks, h, g => .cons (g 0 v k rfl rfl) (DnAll.of_get (by simpa using h) fun i v' k' e1 e2 => g (i + 1) v' k' (by simpa using e1) (by simpa using e2))
mutual
theorem Dn.dp {K : PySem.W.Frag} {H : Hp} : ∀ (k : NestedKey) (v : V), Dn H v k → Dp K H v k.data
  | .none, _, h => by
    cases h
    exact .non
  | .num i, _, h => by
    cases h
    exact .int i
  | .text x, _, h => by
    cases h
    exact .str x
  | .tup ks, _, h => by
    cases h with
    | tup hs hd ha => exact .tup (.inl (.inr ⟨_, hs⟩)) (DnAll.dp ks _ ha)
theorem DnAll.dp {K : PySem.W.Frag} {H : Hp} : ∀ (ks : List NestedKey) (vs : List V), DnAll H vs ks → DpAll K H vs (NestedKey.datas ks)
  | [], _, h => by
    cases h
    exact .nil
  | k :: ks, _, h => by
    cases h with
    | cons h1 h2 => exact .cons (Dn.dp k _ h1) (DnAll.dp ks _ h2)
end
section
variable {X : Cx} {pins : List (Addr × Obj)} {σ : L2.St} {H : Hp} {s : Shared}
theorem frz_tup (I : Inv X pins σ H s) {a : Addr} {o : Obj} {vs : List V} (h : H a = some (.frz o (.tup vs))) : ∃ its n, Vals vs its ∧ s.heap.get? a = some o ∧ o.cls = .type "tuple" ∧ o.data = .seq its.toArray n ∧ vs.length ≤ sizeLine := by
  obtain ⟨ho, hz, its, rv, o', ho', hc, n, hd⟩ := (show ObjOk X.prog X.w H s.heap a (.frz o (.tup vs)) from I.hok a _ h)
  rw [ho] at ho'
  cases ho'
  exact ⟨its, n, rv, ho, hc, hd, hz⟩
mutual
theorem Dn.is (I : Inv X pins σ H s) : ∀ (k : NestedKey) (v : V) (u : Value), Dn H v k → RelV v u → NestedIs s.heap k u
  | .none, _, _, h, r => by
    cases h
    cases r
    exact .none
  | .num i, _, _, h, r => by
    cases h
    obtain ⟨t, rfl⟩ := r
    exact .int i t
  | .text x, _, _, h, r => by
    cases h
    obtain ⟨t, rfl⟩ := r
    exact .text x t
  | .tup ks, _, _, h, r => by
    cases h with
    | tup hs hd ha =>
      cases r
      obtain ⟨its, n, rv, ho, hc, hd, _⟩ := frz_tup I hs
      exact .tup ho hc hd (by simpa using DnAll.is I ks _ its ha rv)
theorem DnAll.is (I : Inv X pins σ H s) : ∀ (ks : List NestedKey) (vs : List V) (us : List Value), DnAll H vs ks → Vals vs us → NestedAll s.heap ks us
  | [], _, _, h, r => by
    cases h
    cases r
    exact .nil
  | k :: ks, _, _, h, r => by
    cases h with
    | cons h1 h2 =>
      cases r with
      | cons r1 r2 => exact .cons (Dn.is I k _ _ h1 r1) (DnAll.is I ks _ _ h2 r2)
end
mutual
theorem Dn.reads (I : Inv X pins σ H s) : ∀ (k : NestedKey) (v : V) (u : Value), Dn H v k → RelV v u → Reads s.heap u k.data []
  | .none, _, _, h, r => by
    cases h
    cases r
    exact .none
  | .num i, _, _, h, r => by
    cases h
    obtain ⟨t, rfl⟩ := r
    exact .int i t
  | .text x, _, _, h, r => by
    cases h
    obtain ⟨t, rfl⟩ := r
    exact .str x t
  | .tup ks, _, _, h, r => by
    cases h with
    | tup hs hd ha =>
      cases r
      obtain ⟨its, n, rv, ho, hc, hd, _⟩ := frz_tup I hs
      exact .tuple ho hc hd (by simpa using DnAll.reads I ks _ its ha rv)
theorem DnAll.reads (I : Inv X pins σ H s) : ∀ (ks : List NestedKey) (vs : List V) (us : List Value), DnAll H vs ks → Vals vs us → ReadsAll s.heap us (NestedKey.datas ks) []
  | [], _, _, h, r => by
    cases h
    cases r
    exact .nil
  | k :: ks, _, _, h, r => by
    cases h with
    | cons h1 h2 =>
      cases r with
      | cons r1 r2 => exact ReadsAll.cons (as := []) (bs := []) (Dn.reads I k _ _ h1 r1) (DnAll.reads I ks _ _ h2 r2)
end
end
/-! ### tuples made with their object known -/
def tTupF (t : TA) : TE := fun σ H Q => t σ H fun xs H1 => xs.length ≤ sizeLine ∧ ∀ p o, H1 p = none → o.dict = none → Q (.ref p) (upd H1 p (.frz o (.tup xs)))
section
variable {X : Cx} {es : List Expr} {pos : Pos} {t : TA}
theorem tupF_laid {pins : List (Addr × Obj)} {σ : L2.St} {H : Hp} {s : Shared} {xs : List V} {us : List Value} (I : Inv X pins σ H s) (r : Vals xs us) (z : xs.length ≤ sizeLine) :
    Inv X pins σ (upd H s.heap.objs.size (.frz { cls := .type "tuple", data := .seq us.toArray } (.tup xs))) { s with heap := s.heap.push { cls := .type "tuple", data := .seq us.toArray } } :=
  I.laid (t' := s.toks) (fun b u e => Heap.get?_push_of_some _ e) (Nat.le_refl _) ⟨Heap.get?_push_size _ rfl, z, us, r, ⟨_, Heap.get?_push_size _ rfl, rfl, _, rfl⟩⟩
theorem pe_tupF {x1} (h : PA X es t) : PE X (.Tuple es x1 pos) (tTupF t) := by
  refine ⟨fun pins s σ H Q I hq => ?_⟩
  refine wpAny_Tuple_spliced (thn (h.run pos pins s σ H _ I hq) fun us s1 ⟨xs, H1, I1, r, z, q⟩ => ⟨by rw [← r.length]; exact z, ?_⟩)
  have hf : H1 s1.heap.objs.size = none := I1.hok.fresh (Nat.le_refl _)
  exact ⟨.ref s1.heap.objs.size, _, tupF_laid I1 r z, rfl, q _ _ hf rfl⟩
/-- tuple(xs) of a list -/
theorem cr_tupF : CallR X (.type "tuple") (fun xs H Q => ∃ p ys, xs = [.ref p] ∧ SqL X.K H p ys ∧ ∀ l o, H l = none → o.dict = none → Q (.ref l) (upd H l (.frz o (.tup ys)))) := by
  intro pins s σ H xs us Q I r h
  obtain ⟨p, ys, rfl, hq, q⟩ := h
  obtain ⟨u, rfl, rx⟩ := vals1 r
  cases rx
  obtain ⟨its, r', pl, hz⟩ := I.list hq
  have hlen := r'.length
  refine call_tuple_list pl.isList (fun h' kp => ?_) (by simp only [List.size_toArray] <;> omega)
  have I1 : Inv X pins σ H { s with heap := h' } := I.kept (t' := s.toks) kp
  exact ⟨.ref h'.objs.size, _, tupF_laid I1 r' hz, rfl, q _ _ (I1.hok.fresh (Nat.le_refl _)) rfl⟩
end
/-! ### dicts whose keys are nested tuples -/
/-- what is true of the dict's own object -/
def NdRaw (P : Program) (w : World) (d : Addr) (xs : List (NestedKey × Addr × Value)) (h : Heap) : Prop :=
  ∃ o es ep, h.get? d = some o ∧ o.ExactDict ∧ o.data = .dict es ep ∧ es.toList = xs.map (entryOfKey (nestedKind P w)) ∧ (xs.map (·.1)).Nodup
def ndO (P : Program) (w : World) (d : Addr) (xs : List (NestedKey × Addr × Value)) : HO := .ext (NdRaw P w d xs)
def NRel (H : Hp) (p : NestedKey × V) (q : NestedKey × Addr × Value) : Prop := p.1 = q.1 ∧ (Dn H (.ref q.2.1) q.1 ∧ q.1.depth ≤ 8) ∧ RelV p.2 q.2.2
/-- at d stands a dict with the pairs kvs -/
structure NDict (P : Program) (w : World) (H : Hp) (d : Addr) (kvs : List (NestedKey × V)) : Prop where
  small : kvs.length ≤ sizeLine
  notSys : (d == sysModules) = false
  ex : ∃ xs : List (NestedKey × Addr × Value), H d = some (ndO P w d xs) ∧ Paired (NRel H) kvs xs
section
variable {P : Program} {w : World} {H H' : Hp} {d : Addr} {kvs : List (NestedKey × V)}
theorem NDict.ext (h : NDict P w H d kvs) : ∃ φ, H d = some (.ext φ) := let ⟨xs, e, _⟩ := h.ex; ⟨_, e⟩
theorem NDict.nf (h : NDict P w H d kvs) : ∀ o u, ¬ H d = some (.frz o u) := let ⟨_, e⟩ := h.ext; nf_ext e
theorem NRel.fk {p : NestedKey × V} {q : NestedKey × Addr × Value} (t : Fk H H') (r : NRel H p q) : NRel H' p q := ⟨r.1, ⟨Dn.fk t _ _ r.2.1.1, r.2.1.2⟩, r.2.2⟩
theorem NDict.keep (h : NDict P w H d kvs) (t : Fk H H') (hd : ∀ o, H d = some o → H' d = some o) : NDict P w H' d kvs := by
  obtain ⟨a, b, xs, e, r⟩ := h
  exact ⟨a, b, xs, hd _ e, Paired.mapP r fun _ _ z => z.fk t⟩
theorem NDict.same (h : NDict P w H d kvs) (s : Same H H') : NDict P w H' d kvs := h.keep (.of_same s) fun o e => s _ _ e
theorem NDict.upd (h : NDict P w H d kvs) {p : Addr} {o : HO} (hp : d ≠ p) (n : ∀ o u, ¬ H p = some (.frz o u)) : NDict P w (L2.upd H p o) d kvs := h.keep (.upd n) fun u e => by rw [upd_ne hp]; exact e
theorem nd_keys {xs : List (NestedKey × Addr × Value)} : ∀ {kvs : List (NestedKey × V)}, Paired (NRel H) kvs xs → kvs.map (·.1) = xs.map (·.1) := by
  intro kvs r
  induction r with
  | nil => rfl
  | cons z t ih => rw [List.map_cons, List.map_cons, ih, z.1]
theorem nd_val {xs : List (NestedKey × Addr × Value)} {kvs : List (NestedKey × V)} (r : Paired (NRel H) kvs xs) (k : NestedKey) : RelO (valV kvs k) ((atKey xs k).map (·.2)) := by
  induction r with
  | nil => exact True.intro
  | @cons p q l1 l2 z t ih =>
    by_cases e : p.1 = k
    · have e2 : q.1 = k := z.1.symm.trans e
      rw [valV_pos e]
      have : (atKey (q :: l2) k) = some q.2 := by simp [atKey, List.find?_cons, e2]
      rw [this]
      exact z.2.2
    · have e2 : ¬ q.1 = k := fun y => e (z.1.trans y)
      rw [valV_neg e]
      have : (atKey (q :: l2) k) = atKey l2 k := by simp [atKey, List.find?_cons, e2]
      rw [this]
      exact ih
theorem nd_repl {xs : List (NestedKey × Addr × Value)} {kvs : List (NestedKey × V)} (r : Paired (NRel H) kvs xs) (k : NestedKey) {y : V} {u : Value} (ry : RelV y u) :
    Paired (NRel H) (kvs.map fun kv => if kv.1 = k then (kv.1, y) else kv) (xs.map (putAt k u)) := by
  induction r with
  | nil => exact .nil
  | @cons p q l1 l2 z t ih =>
    rw [List.map_cons, List.map_cons]
    refine .cons ?_ ih
    by_cases e : p.1 = k
    · have e2 : q.1 = k := z.1.symm.trans e
      rw [if_pos e]
      unfold putAt
      rw [if_pos e2]
      exact ⟨z.1, z.2.1, ry⟩
    · have e2 : ¬ q.1 = k := fun y => e (z.1.trans y)
      rw [if_neg e]
      unfold putAt
      rw [if_neg e2]
      exact z
theorem paired_snoc {α β : Type} {F : α → β → Prop} {a : α} {b : β} : ∀ {l1 : List α} {l2 : List β}, Paired F l1 l2 → F a b → Paired F (l1 ++ [a]) (l2 ++ [b])
  | _, _, .nil, h => .cons h .nil
  | _, _, .cons z t, h => .cons z (paired_snoc t h)
theorem nd_put {xs : List (NestedKey × Addr × Value)} {kvs : List (NestedKey × V)} (r : Paired (NRel H) kvs xs) {k : NestedKey} {b : Addr} {y : V} {u : Value} (hb : Dn H (.ref b) k) (h8 : k.depth ≤ 8) (ry : RelV y u) :
    Paired (NRel H) (putK kvs k y) (storedH xs k b u) := by
  have v := nd_val r k
  unfold putK storedH
  rw [valV_any]
  have e : (valV kvs k).isSome = (atKey xs k).isSome := by
    have := RelO.isSome_eq v
    rw [Option.isSome_map] at this
    exact this
  rw [e]
  split
  · exact nd_repl r k ry
  · exact paired_snoc r ⟨rfl, ⟨hb, h8⟩, ry⟩
end
section
variable {X : Cx} {pins : List (Addr × Obj)} {σ : L2.St} {H : Hp} {s : Shared} {d : Addr} {kvs : List (NestedKey × V)}
theorem ndO_ok {P : Program} {w : World} {H : Hp} {h : Heap} {xs : List (NestedKey × Addr × Value)} (r : NdRaw P w d xs h) : ObjOk P w H h d (ndO P w d xs) := by
  have ⟨o, _, _, ho, _⟩ := r
  exact ⟨r, ⟨o, ho⟩, fun h1 h2 x k => let ⟨o, es, ep, ho, y⟩ := x; ⟨o, es, ep, k o ho, y⟩⟩
theorem nk_key (I : Inv X pins σ H s) {a : Addr} {k : NestedKey} (h : Dn H (.ref a) k) (h8 : k.depth ≤ 8) : (nestedKind X.prog X.w).is s.heap k a := ⟨Dn.is I k _ _ h rfl, h8⟩
theorem nd_of (I : Inv X pins σ H s) (h : NDict X.prog X.w H d kvs) : ∃ xs, Paired (NRel H) kvs xs ∧ s.heap.DictOfH (nestedKind X.prog X.w) d xs := by
  obtain ⟨_, _, xs, e, r⟩ := h
  obtain ⟨o, es, ep, ho, hx, hd, he, hn⟩ := (I.hok d _ e).1
  refine ⟨xs, r, o, es, ep, ho, hx, hd, he, ?_, hn⟩
  have all : ∀ {kvs : List (NestedKey × V)} {xs : List (NestedKey × Addr × Value)}, Paired (NRel H) kvs xs → ∀ x ∈ xs, (nestedKind X.prog X.w).is s.heap x.1 x.2.1 := by
    intro kvs xs r
    induction r with
    | nil => intro x hx; cases hx
    | cons z t ih =>
      intro x hx
      rcases List.mem_cons.mp hx with e | hx
      · subst e
        exact nk_key I z.2.1.1 z.2.1.2
      · exact ih x hx
  exact all r
theorem nd_raw {P : Program} {w : World} {h : Heap} {xs : List (NestedKey × Addr × Value)} (x : h.DictOfH (nestedKind P w) d xs) : NdRaw P w d xs h := let ⟨o, es, ep, a, b, c, e, _, n⟩ := x; ⟨o, es, ep, a, b, c, e, n⟩
/-- a dict is written: the state behind -/
theorem nd_write {h' : Heap} {t' : Nat} {kvs' : List (NestedKey × V)} {xs' : List (NestedKey × Addr × Value)} (I : Inv X pins σ H s) (h : NDict X.prog X.w H d kvs) (hz : kvs'.length ≤ sizeLine)
    (x : h'.DictOfH (nestedKind X.prog X.w) d xs') (hs : Heap.SameBut d s.heap h') (r : Paired (NRel H) kvs' xs') :
    Inv X pins σ (L2.upd H d (ndO X.prog X.w d xs')) { s with heap := h', toks := t' } ∧ NDict X.prog X.w (L2.upd H d (ndO X.prog X.w d xs')) d kvs' := by
  have raw := nd_raw x
  obtain ⟨φ, e⟩ := h.ext
  have he : ∃ q, h'.get? d = some q := let ⟨o, _, _, ho, _⟩ := raw; ⟨o, ho⟩
  exact ⟨d_write I (by rw [e]; exact True.intro) hs he (ndO_ok raw), hz, h.notSys, xs', upd_same, Paired.mapP r fun _ _ z => z.fk (.upd h.nf)⟩
end
/-! ### the operations -/
/-- k in d, k not in d -/
def rNIn (P : Program) (w : World) (neg : Bool) : R2 := fun x y H Q => ∃ (k : NestedKey) (a d : Addr) (kvs : List (NestedKey × V)), x = .ref a ∧ y = .ref d ∧ Dn H (.ref a) k ∧ k.depth ≤ 8 ∧ NDict P w H d kvs ∧
  Q (.bl (if neg then !(valV kvs k).isSome else (valV kvs k).isSome)) H
def rNGet (P : Program) (w : World) : R2 := fun x y H Q => ∃ (k : NestedKey) (a d : Addr) (kvs : List (NestedKey × V)) (v : V), x = .ref d ∧ y = .ref a ∧ Dn H (.ref a) k ∧ k.depth ≤ 8 ∧ NDict P w H d kvs ∧ valV kvs k = some v ∧ Q v H
/-- d[k] = v: the heap behind is told by what it holds -/
def rNPut (P : Program) (w : World) : TSet := fun o i v H Q => ∃ (k : NestedKey) (a d : Addr) (kvs : List (NestedKey × V)), o = .ref d ∧ i = .ref a ∧ Dn H (.ref a) k ∧ k.depth ≤ 8 ∧ NDict P w H d kvs ∧ kvs.length < sizeLine ∧
  ∀ φ, NDict P w (upd H d (.ext φ)) d (putK kvs k v) → Q (upd H d (.ext φ))
section
variable {X : Cx}
theorem in1_units (A : Around) : A.in1.units = A.units + 1 := rfl
theorem op_nnotin (hu : X.A.units + 64 < cLine) : OpR X (compareOp .NotIn) (rNIn X.prog X.w true) := by
  intro pins s σ H x y v u Q I rx ry h
  obtain ⟨k, a, d, kvs, rfl, rfl, hk, h8, hd, q⟩ := h
  cases rx
  cases ry
  obtain ⟨xs, r, dd⟩ := nd_of I hd
  have e := RelO.isSome_eq (nd_val r k)
  have e2 : (valueAt (pairsH xs) k).isSome = (valV kvs k).isSome := by rw [e, valueAt_pairsH]
  refine notIn_keyed (knd := nestedKind X.prog X.w) (by show X.A.units + 1 + 8 < cLine; omega) (nk_key I hk h8) hd.notSys ⟨xs, dd, rfl⟩ ⟨_, H, I.tok _, ?_, q⟩
  show Value.bool _ = Value.bool _
  rw [e2]
  rfl
theorem ix_nd (hu : X.A.units + 64 < cLine) : IxR X (rNGet X.prog X.w) := by
  intro value slice pins s σ H x y v u Q I rx ry h hs
  obtain ⟨k, a, d, kvs, z, rfl, rfl, hk, h8, hd, hv, q⟩ := h
  cases rx
  cases ry
  obtain ⟨xs, r, dd⟩ := nd_of I hd
  have rel := nd_val r k
  rw [hv] at rel
  cases ea : atKey xs k with
  | none =>
    rw [ea] at rel
    exact rel.elim
  | some p =>
    rw [ea] at rel
    refine tail_any dd.typeIs PySem.F.slot_dict_getitem.lookup ?_ hs
    exact wpAny_getItem_heap (knd := nestedKind X.prog X.w) (by show X.A.units + 1 + 8 < cLine; omega) (nk_key I hk h8) dd ea ⟨z, H, I.tok _, rel, q⟩
theorem set_nd (hu : X.A.units + 64 < cLine) : PSet X (rNPut X.prog X.w) := by
  intro pins s σ H o i v ov iv u Q I ro ri rv h
  obtain ⟨k, a, d, kvs, rfl, rfl, hk, h8, hd, hl, q⟩ := h
  cases ro
  cases ri
  obtain ⟨xs, r, dd⟩ := nd_of I hd
  have hlen : xs.length ≤ sizeLine := by rw [← Paired.length r]; exact hd.small
  refine wpAny_setItem_heap (knd := nestedKind X.prog X.w) (hsz := hlen) (by show X.A.units + 1 + 8 < cLine; omega) (nk_key I hk h8) dd fun h' dd' hs => ?_
  have hz : (putK kvs k v).length ≤ sizeLine := by
    have := length_putK kvs k v
    omega
  obtain ⟨I2, n2⟩ := nd_write (t' := s.toks + (nestedKind X.prog X.w).draws k) I hd hz dd' hs (nd_put r hk h8 rv)
  exact ⟨_, I2, q _ n2⟩
end
end Ev

namespace Ev
open PySem PySem.Spec PyProof.Rows L2
/-! ### {}, a display, get, len of dicts with nested keys -/
def tNNew (P : Program) (w : World) : TE := fun _ H Q => ∀ p φ, H p = none → NDict P w (upd H p (.ext φ)) p [] → Q (.ref p) (upd H p (.ext φ))
section
variable {X : Cx} {pos : Pos}
theorem nd_empty {pins : List (Addr × Obj)} {σ : L2.St} {H : Hp} {s : Shared} (I : Inv X pins σ H s) :
    Inv X pins σ (upd H s.heap.objs.size (ndO X.prog X.w s.heap.objs.size [])) { s with heap := s.heap.push { cls := .type "dict", data := .dict #[] } } ∧ NDict X.prog X.w (upd H s.heap.objs.size (ndO X.prog X.w s.heap.objs.size [])) s.heap.objs.size [] :=
  ⟨I.laid (t' := s.toks) (fun _ _ q => Heap.get?_push_of_some _ q) (Nat.le_refl _) (ndO_ok ⟨_, #[], 0, Heap.get?_push_size _ rfl, ⟨rfl, rfl, rfl⟩, rfl, rfl, List.nodup_nil⟩),
    Nat.zero_le _, beq_eq_false_iff_ne.mpr (Ne.symm (Nat.ne_of_lt I.big)), [], upd_same, .nil⟩
theorem pe_nnew : PE X (.Dict [] [] pos) (tNNew X.prog X.w) := ⟨fun pins s σ H Q I h => by
  obtain ⟨I2, n2⟩ := nd_empty I
  exact wpAny_Dict_empty ⟨.ref s.heap.objs.size, _, I2, rfl, h _ _ (I.hok.fresh (Nat.le_refl _)) n2⟩⟩
def mergeN (kvs more : List (NestedKey × V)) : List (NestedKey × V) := more.foldl (fun acc kv => putK acc kv.1 kv.2) kvs
theorem length_mergeN : ∀ (more kvs : List (NestedKey × V)), (mergeN kvs more).length ≤ kvs.length + more.length
  | [], kvs => Nat.le_refl _
  | p :: more, kvs => by
    have h1 := length_mergeN more (putK kvs p.1 p.2)
    have h2 := length_putK kvs p.1 p.2
    show (mergeN (putK kvs p.1 p.2) more).length ≤ _
    rw [List.length_cons]
    omega
theorem nd_merge {H : Hp} : ∀ {more : List (NestedKey × V)} {ps : List (NestedKey × Addr × Value)} {kvs : List (NestedKey × V)} {xs : List (NestedKey × Addr × Value)}, Paired (NRel H) more ps → Paired (NRel H) kvs xs → Paired (NRel H) (mergeN kvs more) (storedAllH xs ps) := by
  intro more ps kvs xs r
  induction r generalizing kvs xs with
  | nil => exact fun q => q
  | @cons p q l1 l2 z t ih =>
    intro r2
    show Paired (NRel H) (mergeN (putK kvs p.1 p.2) l1) (storedAllH (storedH xs q.1 q.2.1 q.2.2) l2)
    refine ih ?_
    rw [z.1]
    exact nd_put r2 z.2.1.1 z.2.1.2 z.2.2
/-- the pairs of a display as keys and values -/
def NPairs (H : Hp) (ps : List (V × V)) (kvs : List (NestedKey × V)) : Prop := Paired (fun (p : V × V) (kv : NestedKey × V) => (∃ a, p.1 = .ref a) ∧ Dn H p.1 kv.1 ∧ kv.1.depth ≤ 8 ∧ p.2 = kv.2) ps kvs
def tNDisp (P : Program) (w : World) (trs : List (TE × TE)) : TE := fun σ H Q => ∀ p φ, H p = none → NDict P w (upd H p (.ext φ)) p [] → tPairs trs σ (upd H p (.ext φ)) fun ps H2 => NDict P w H2 p [] ∧
  ∃ kvs : List (NestedKey × V), NPairs H2 ps kvs ∧ kvs.length ≤ 15 ∧ ∀ φ', NDict P w (upd H2 p (.ext φ')) p (mergeN [] kvs) → Q (.ref p) (upd H2 p (.ext φ'))
theorem npairs_of {pins : List (Addr × Obj)} {σ : L2.St} {H : Hp} {s : Shared} (I : Inv X pins σ H s) : ∀ {ps : List (V × V)} {kvs : List (NestedKey × V)} {ws : List (Value × Value)}, NPairs H ps kvs → VV ps ws →
    ∃ xs : List (NestedKey × Addr × Value), CarriesH (nestedKind X.prog X.w) s.heap ws xs ∧ Paired (NRel H) kvs xs
  | _, _, _, .nil, .nil => ⟨[], trivial, .nil⟩
  | _, _, _, .cons (a := p) (b := kv) h t, .cons (b := u) r rt => by
    obtain ⟨xs, c, q⟩ := npairs_of I t rt
    obtain ⟨⟨a, ea⟩, hd, h8, ev⟩ := h
    obtain ⟨r1, r2⟩ := r
    rw [ea] at r1 hd
    rw [ev] at r2
    refine ⟨(kv.1, a, u.2) :: xs, ?_, .cons ⟨rfl, ⟨hd, h8⟩, r2⟩ q⟩
    have e1 : u.1 = Value.ref a := r1
    obtain ⟨u1, u2⟩ := u
    exact ⟨e1, rfl, nk_key I hd h8, c⟩
theorem pe_ndisp {keys : List (Option Expr)} {values : List Expr} {trs : List (TE × TE)} (hu : X.A.units + 64 < cLine) (h : PPs X pos keys values trs) (hall : keys.all (·.isSome) = true) (hl : keys.length = values.length) (h0 : keys ≠ [])
    (h15 : keys.length ≤ 15) : PE X (.Dict keys values pos) (tNDisp X.prog X.w trs) := by
  refine ⟨fun pins s σ H Q I q => ?_⟩
  have hn := I.hok.fresh (Nat.le_refl s.heap.objs.size)
  obtain ⟨I1, n1⟩ := nd_empty I
  have hlen := pairTrees_length keys values X.env pos hall hl
  have hne : pairTrees keys values X.env pos ≠ [] := fun he => by
    rw [he] at hlen
    exact h0 (List.length_eq_zero_iff.mp hlen.symm)
  have h15' : (pairTrees keys values X.env pos).length ≤ 15 := by rw [hlen]; exact h15
  rw [arm_eval_Dict, zip_pairTrees keys values X.env pos hall hl, dictDisplay_pairs _ hne (by omega)]
  refine wpAny_bind (wpAny_standAt (wpAny_bind (wpAny_subDictH (knd := nestedKind X.prog X.w) (Q := fun d s' => wpAny (model X.prog X.w) X.A (pure (Value.ref d)) (EP X pins σ Q) X.xe s') (by show X.A.units + 8 < cLine; omega) h15' ?_)))
  refine thn (h.run pins _ σ _ _ I1 (q _ _ hn n1)) fun ws s2 ⟨ps, H2, I2, rel, n2, kvs, np, lk, q2⟩ => ?_
  obtain ⟨xs, c, r⟩ := npairs_of I2 np rel
  obtain ⟨xs0, r0, dd⟩ := nd_of I2 n2
  cases r0
  refine ⟨xs, c, dd, fun h' tk dd' hs => wpAny_pure ?_⟩
  have hz : (mergeN [] kvs).length ≤ sizeLine := by
    have h1 := length_mergeN kvs []
    rw [List.length_nil] at h1
    rw [sizeLine_eq]; omega
  obtain ⟨I3, n3⟩ := nd_write (t' := tk) I2 n2 hz dd' hs (nd_merge r .nil)
  exact ⟨.ref s.heap.objs.size, _, I3, rfl, q2 _ n3⟩
/-- d.get(y, x) -/
def tNGet2 (P : Program) (w : World) (td ty tx : TE) : TE := fun σ H Q => td σ H fun x H1 => ∃ (d : Addr) (kvs : List (NestedKey × V)), x = .ref d ∧ NDict P w H1 d kvs ∧ ty σ H1 fun y H2 => tx σ H2 fun z H3 =>
  ∃ (k : NestedKey) (a : Addr) (kvs' : List (NestedKey × V)), y = .ref a ∧ Dn H3 (.ref a) k ∧ k.depth ≤ 8 ∧ NDict P w H3 d kvs' ∧ Q ((valV kvs' k).getD z) H3
theorem nd_typed {pins : List (Addr × Obj)} {σ : L2.St} {H : Hp} {s : Shared} {d : Addr} {kvs : List (NestedKey × V)} (I : Inv X pins σ H s) (h : NDict X.prog X.w H d kvs) :
    s.TypeIs (.ref d) "dict" ∧ ∀ b, Value.ref d = .ref b → ∃ ob, s.heap.get? b = some ob ∧ ob.dict = none := by
  obtain ⟨xs, _, dd⟩ := nd_of I h
  refine ⟨dd.typeIs, fun b q => ?_⟩
  cases q
  obtain ⟨o, _, _, ho, hx, _⟩ := dd
  exact ⟨o, ho, hx.2.1⟩
theorem pe_nget2 {o e f : Expr} {apos cpos : Pos} {td ty tx : TE} (hu : X.A.units + 64 < cLine) (ho : PE X o td) (he : PE X e ty) (hf : PE X f tx) (m : M2 X o "get" apos e f cpos) : PE X (.Call (.Attribute o "get" apos) [e, f] [] cpos) (tNGet2 X.prog X.w td ty tx) := by
  refine ⟨fun pins s σ H Q I h => ?_⟩
  refine wpAny_Call_method m.base m.few m.line PySem.F.plainAttrs_dict PySem.F.slot_dict_get PySem.F.type_dict_get (thn (ho.run pins s σ H _ I h) fun u s1 ⟨x, H1, I1, rx, d, kvs, ex, hd, q1⟩ => ?_)
  subst ex
  obtain rfl : u = Value.ref d := rx
  obtain ⟨t1, t2⟩ := nd_typed I1 hd
  refine ⟨t1, t2, ?_⟩
  rw [m.trees]
  refine Calls.callWith_builtin rfl (Calls.evalArgs_plain (Calls.spliced_cons (thn (he.run pins s1 σ H1 _ I1 q1) fun iv s2 ⟨y, H2, I2, ry, q2⟩ =>
    Calls.spliced_cons (thn (hf.run pins s2 σ H2 _ I2 q2) fun fv s3 ⟨z, H3, I3, rz, k, a, kvs', ey, hk, h8, hd3, q3⟩ => Calls.spliced_nil ?_))))
  subst ey
  obtain rfl : iv = Value.ref a := ry
  obtain ⟨xs, r, dd⟩ := nd_of I3 hd3
  refine getOr_keyed (knd := nestedKind X.prog X.w) (by show X.A.units + 1 + 8 < cLine; omega) (nk_key I3 hk h8) hd3.notSys ⟨xs, dd, rfl⟩ ?_
  rw [valueAt_pairsH]
  exact ⟨_, H3, I3.tok _, RelO.getD (nd_val r k) rz, q3⟩
/-- len(d) -/
def rNLen (P : Program) (w : World) : List V → Hp → VK → Prop := fun xs H Q => ∃ (p : Addr) (kvs : List (NestedKey × V)), xs = [.ref p] ∧ NDict P w H p kvs ∧ Q (.int ((kvs.length : Nat) : Int)) H
theorem call_len_nd : CallR X (.builtin "len") (rNLen X.prog X.w) := by
  intro pins s σ H xs us Q I r h
  obtain ⟨p, kvs, rfl, hp, q⟩ := h
  obtain ⟨u, rfl, rx⟩ := vals1 r
  obtain rfl : u = .ref p := rx
  obtain ⟨ys, rel, dd⟩ := nd_of I hp
  have hl : kvs.length = ys.length := Paired.length rel
  have z := hp.small
  refine call_len_dictH hp.notSys dd (by rw [← hl]; rw [sizeLine_eq] at z; omega) ?_
  rw [← hl]
  exact ⟨.int ((kvs.length : Nat) : Int), H, I.tok _, ⟨_, rfl⟩, q⟩
end
/-! ### dict(t) of a tuple of pairs -/
def pairK (q : NestedKey × Int) : NestedKey := .tup [q.1, .num q.2]
section
variable {X : Cx} {pins : List (Addr × Obj)} {σ : L2.St} {H : Hp} {s : Shared}
/-- the pairs of a known tuple, in the heap -/
theorem pairs_dn (I : Inv X pins σ H s) : ∀ {prs : List (NestedKey × Int)} {vs : List V} {its : List Value}, DnAll H vs (prs.map pairK) → Vals vs its →
    ∃ L : List (Addr × V × Value × Value), its = L.map (fun z => Value.ref z.1) ∧ Paired (fun (z : Addr × V × Value × Value) (q : NestedKey × Int) => IsTup s.heap z.1 #[z.2.2.1, z.2.2.2] ∧ Dn H z.2.1 q.1 ∧ RelV z.2.1 z.2.2.1 ∧ RelV (.int q.2) z.2.2.2) L prs
  | [], _, _, h, r => by
    cases h
    cases r
    exact ⟨[], rfl, .nil⟩
  | q :: prs, _, _, h, r => by
    cases h with
    | cons h1 h2 =>
      cases r with
      | cons r1 r2 =>
        obtain ⟨L, e, P⟩ := pairs_dn I h2 r2
        obtain ⟨a, o, vs, rfl, hs, hd, ha⟩ := h1.tup_inv
        obtain ⟨its, n, rv, ho, hc, hdat, _⟩ := frz_tup I hs
        cases ha with
        | cons a1 a2 =>
          cases a2 with
          | cons a2 a3 =>
            cases a3
            have e2 := a2.num_inv
            subst e2
            obtain ⟨u1, u2, rfl, ru1, ru2⟩ := vals2 rv
            cases r1
            exact ⟨(a, _, u1, u2) :: L, by rw [e]; rfl, .cons ⟨⟨o, ho, hc, n, hdat⟩, a1, ru1, ru2⟩ P⟩
theorem paired_at {α β : Type} {F : α → β → Prop} : ∀ {xs : List α} {ys : List β}, Paired F xs ys → ∀ {i : Nat} {x : α}, xs[i]? = some x → ∃ y, ys[i]? = some y ∧ F x y
  | _, _, .nil, i, x, h => by simp at h
  | _, _, .cons r t, 0, x, h => by
    have e := Option.some.inj h
    subst e
    exact ⟨_, rfl, r⟩
  | _, _, .cons r t, i + 1, x, h => paired_at t (i := i) (by simpa using h)
theorem arg_of (I : Inv X pins σ H s) {a : Addr} {prs : List (NestedKey × Int)} (h : Dn H (.ref a) (.tup (prs.map pairK))) :
    ∃ (L : List (Addr × V × Value × Value)) (Ts : Nat → Addr) (items : Array Value), Paired (fun (z : Addr × V × Value × Value) (q : NestedKey × Int) => IsTup s.heap z.1 #[z.2.2.1, z.2.2.2] ∧ Dn H z.2.1 q.1 ∧ RelV z.2.1 z.2.2.1 ∧ RelV (.int q.2) z.2.2.2) L prs ∧
      PlainSeq "tuple" s.heap a items ∧ PairItems s.heap items Ts (L.map fun z => (z.2.2.1, z.2.2.2)) ∧ L.length ≤ sizeLine := by
  cases h with
  | tup hs hd ha =>
    obtain ⟨its, n, rv, ho, hc, hdat, hz⟩ := frz_tup I hs
    obtain ⟨L, e, P⟩ := pairs_dn I ha rv
    subst e
    refine ⟨L, fun j => (L[j]?.map (·.1)).getD 0, _, P, ⟨_, n, ho, hc, hd, hdat⟩, ⟨by simp, fun j k v hj => ?_⟩, by rw [← rv.length.trans (List.length_map _)]; exact hz⟩
    rw [List.getElem?_map] at hj
    cases eL : L[j]? with
    | none =>
      rw [eL] at hj
      cases hj
    | some z =>
      rw [eL] at hj
      have ez : (z.2.2.1, z.2.2.2) = (k, v) := Option.some.inj hj
      cases ez
      obtain ⟨q, _, hT, _⟩ := paired_at P eL
      refine ⟨by simp [eL], ?_⟩
      show PairAt s.heap ((Option.map (·.1) L[j]?).getD 0) z.2.2.1 z.2.2.2
      rw [eL]
      exact .inl hT
end
/-- dict(t), the keys nested tuples -/
def rDictN (P : Program) (w : World) : List V → Hp → VK → Prop := fun xs H Q => ∃ (a : Addr) (prs : List (NestedKey × Int)), xs = [.ref a] ∧ Dn H (.ref a) (.tup (prs.map pairK)) ∧ (∀ q ∈ prs, (∃ ks, q.1 = .tup ks) ∧ q.1.depth ≤ 8) ∧
  ∀ p φ, H p = none → NDict P w (upd H p (.ext φ)) p (mergeN [] (prs.map fun q => (q.1, V.int q.2))) → Q (.ref p) (upd H p (.ext φ))
/-- dict(t), the keys ints -/
def rDictI : List V → Hp → VK → Prop := fun xs H Q => ∃ (a : Addr) (prs : List (Int × Int)), xs = [.ref a] ∧ Dn H (.ref a) (.tup (prs.map fun q => pairK (.num q.1, q.2))) ∧
  ∀ p, H p = none → Q (.ref p) (upd H p (.dK (mergeK [] (prs.map fun q => (Sum.inl q.1, V.int q.2)))))
section
variable {X : Cx}
theorem cr_dictN (hcalm : X.calm = true) (hu : X.A.units + 64 < cLine) : CallR X (.type "dict") (rDictN X.prog X.w) := by
  intro pins s σ H xs us Q I r q
  obtain ⟨a, prs, rfl, hD, hks, q⟩ := q
  obtain ⟨u, rfl, rx⟩ := vals1 r
  cases rx
  obtain ⟨L, Ts, items, P, hpl, hpi, hlen⟩ := arg_of I hD
  have ex : ∀ {L : List (Addr × V × Value × Value)} {prs : List (NestedKey × Int)}, Paired (fun (z : Addr × V × Value × Value) (q : NestedKey × Int) => IsTup s.heap z.1 #[z.2.2.1, z.2.2.2] ∧ Dn H z.2.1 q.1 ∧ RelV z.2.1 z.2.2.1 ∧ RelV (.int q.2) z.2.2.2) L prs →
      (∀ q ∈ prs, (∃ ks, q.1 = .tup ks) ∧ q.1.depth ≤ 8) → ∃ ps : List (NestedKey × Addr × Value), Paired (NRel H) (prs.map fun q => (q.1, V.int q.2)) ps ∧ ps.length = L.length ∧
        ∀ (i : Nat) (key v : Value), (L.map fun z => (z.2.2.1, z.2.2.2))[i]? = some (key, v) → ∃ (k : NestedKey) (b : Addr), ps[i]? = some (k, b, v) ∧ key = Value.ref b := by
    intro L prs P
    induction P with
    | nil => exact fun _ => ⟨[], .nil, rfl, fun i key v h => by simp at h⟩
    | @cons z q l1 l2 h t ih =>
      intro hk
      obtain ⟨ps, r1, r2, r3⟩ := ih fun q' hq' => hk q' (List.mem_cons_of_mem _ hq')
      obtain ⟨⟨ks, ek⟩, h8⟩ := hk q List.mem_cons_self
      obtain ⟨hT, hD, rk, rv⟩ := h
      obtain ⟨b, o, vs, eb, _⟩ := (show Dn H z.2.1 (.tup ks) from ek ▸ hD).tup_inv
      rw [eb] at rk hD
      have ekey : z.2.2.1 = Value.ref b := rk
      refine ⟨(q.1, b, z.2.2.2) :: ps, .cons ⟨rfl, ⟨hD, h8⟩, rv⟩ r1, by rw [List.length_cons, List.length_cons, r2], fun i key v hi => ?_⟩
      cases i with
      | zero =>
        have e : (z.2.2.1, z.2.2.2) = (key, v) := Option.some.inj hi
        cases e
        exact ⟨q.1, b, rfl, ekey⟩
      | succ i =>
        obtain ⟨k, b', e1, e2⟩ := r3 i key v (by simpa using hi)
        exact ⟨k, b', by simpa using e1, e2⟩
  obtain ⟨ps, r1, r2, r3⟩ := ex P hks
  have r1len : prs.length = ps.length := by
    have := Paired.length r1
    rw [List.length_map] at this
    exact this
  have keyOf : ∀ x ∈ ps, Dn H (.ref x.2.1) x.1 ∧ x.1.depth ≤ 8 := by
    have all : ∀ {kvs : List (NestedKey × V)} {ps : List (NestedKey × Addr × Value)}, Paired (NRel H) kvs ps → ∀ x ∈ ps, Dn H (.ref x.2.1) x.1 ∧ x.1.depth ≤ 8 := by
      intro kvs ps r
      induction r with
      | nil => intro x hx; cases hx
      | cons z t ih =>
        intro x hx
        rcases List.mem_cons.mp hx with e | hx
        · subst e
          exact z.2.1
        · exact ih x hx
    exact all r1
  refine PySem.call_dict_pairsH (knd := nestedKind X.prog X.w) (ps := ps) (PairArg.tuple a items Ts (L.map fun z => (z.2.2.1, z.2.2.2))) (I.ok.hd hcalm) (by show X.A.units + 1 + 1 + 8 < cLine; omega) ⟨hpl, hpi⟩ ⟨by rw [r2, List.length_map], r3⟩ (fun h' hk x hx => ?_) (by rw [List.length_map]; exact hlen) fun h' tk dd hk => ?_
  · obtain ⟨k1, k2⟩ := keyOf x hx
    have := nk_key I k1 k2
    exact ⟨NestedIs.at (fun b ob vs n e _ => hk b ob (Nat.ne_of_lt (Heap.lt_size e)) (by simp) e) _ _ this.1, this.2⟩
  · have kp : ∀ b o, s.heap.get? b = some o → h'.get? b = some o := fun b o e => hk b o (by simp) e
    have hn := I.hok.fresh (Nat.le_refl s.heap.objs.size)
    have hz : (mergeN [] (prs.map fun q => (q.1, V.int q.2))).length ≤ sizeLine := by
      have h1 := length_mergeN (prs.map fun q => (q.1, V.int q.2)) []
      rw [List.length_nil, List.length_map] at h1
      omega
    have I2 : Inv X pins σ (upd H s.heap.objs.size (ndO X.prog X.w s.heap.objs.size (storedAllH [] ps))) { s with heap := h', toks := tk } := I.laid kp (Nat.le_refl _) (ndO_ok (nd_raw dd))
    refine ⟨.ref s.heap.objs.size, _, I2, rfl, q _ _ hn ⟨hz, beq_eq_false_iff_ne.mpr (Ne.symm (Nat.ne_of_lt I.big)), _, upd_same, Paired.mapP (nd_merge r1 .nil) fun _ _ z => z.fk (.new hn)⟩⟩
theorem cr_dictI (hcalm : X.calm = true) : CallR X (.type "dict") rDictI := by
  intro pins s σ H xs us Q I r q
  obtain ⟨a, prs, rfl, hD, q⟩ := q
  obtain ⟨u, rfl, rx⟩ := vals1 r
  cases rx
  have hD' : Dn H (.ref a) (.tup ((prs.map fun q => (NestedKey.num q.1, q.2)).map pairK)) := by
    rw [List.map_map]
    exact hD
  obtain ⟨L, Ts, items, P, hpl, hpi, hlen⟩ := arg_of I hD'
  have ex : ∀ {L : List (Addr × V × Value × Value)} {prs : List (Int × Int)}, Paired (fun (z : Addr × V × Value × Value) (q : NestedKey × Int) => IsTup s.heap z.1 #[z.2.2.1, z.2.2.2] ∧ Dn H z.2.1 q.1 ∧ RelV z.2.1 z.2.2.1 ∧ RelV (.int q.2) z.2.2.2) L (prs.map fun q => (NestedKey.num q.1, q.2)) →
      ∃ ps : List (L2.Key × Value), KV (prs.map fun q => (Sum.inl q.1, V.int q.2)) ps ∧ ps.length = L.length ∧
        ∀ (i : Nat) (key v : Value), (L.map fun z => (z.2.2.1, z.2.2.2))[i]? = some (key, v) → ∃ (k : L2.Key), ps[i]? = some (k, v) ∧ keyIs k key = true := by
    intro L prs
    induction prs generalizing L with
    | nil =>
      intro P
      cases P
      exact ⟨[], .nil, rfl, fun i key v h => by simp at h⟩
    | cons q prs ih =>
      intro P
      cases P with
      | @cons z _ l1 _ h t =>
        obtain ⟨ps, r1, r2, r3⟩ := ih t
        obtain ⟨hT, hD, rk, rv⟩ := h
        have ez := hD.num_inv
        rw [ez] at rk
        refine ⟨(Sum.inl q.1, z.2.2.2) :: ps, .cons ⟨rfl, rv⟩ r1, by rw [List.length_cons, List.length_cons, r2], fun i key v hi => ?_⟩
        cases i with
        | zero =>
          have e : (z.2.2.1, z.2.2.2) = (key, v) := Option.some.inj hi
          cases e
          exact ⟨Sum.inl q.1, rfl, kV_is (P := X.prog) (w := X.w) (k := Sum.inl q.1) rk⟩
        | succ i =>
          obtain ⟨k, e1, e2⟩ := r3 i key v (by simpa using hi)
          exact ⟨k, by simpa using e1, e2⟩
  obtain ⟨ps, r1, r2, r3⟩ := ex P
  have r1len : prs.length = ps.length := by
    have := Paired.length r1
    rw [List.length_map] at this
    exact this
  refine PySem.call_dict_pairs (knd := mixKind X.prog X.w) (kvs := ps) (PairArg.tuple a items Ts (L.map fun z => (z.2.2.1, z.2.2.2))) (I.ok.hd hcalm) ⟨hpl, hpi⟩ ⟨by rw [r2, List.length_map], r3⟩ (by rw [List.length_map]; exact hlen) fun h' tk dd hk => ?_
  have kp : ∀ b o, s.heap.get? b = some o → h'.get? b = some o := fun b o e => hk b o (by simp) e
  have hn := I.hok.fresh (Nat.le_refl s.heap.objs.size)
  have hz : (mergeK [] (prs.map fun q => ((Sum.inl q.1 : L2.Key), V.int q.2))).length ≤ sizeLine := by
    have h1 := length_mergeK (prs.map fun q => ((Sum.inl q.1 : L2.Key), V.int q.2)) []
    rw [List.length_nil, List.length_map] at h1
    omega
  exact ⟨.ref s.heap.objs.size, _, I.laid (t' := tk) kp (Nat.le_refl _) (show ObjOk X.prog X.w _ _ _ (.dK (mergeK [] (prs.map fun q => ((Sum.inl q.1 : L2.Key), V.int q.2)))) from ⟨hz, beq_eq_false_iff_ne.mpr (Ne.symm (Nat.ne_of_lt I.big)), merged [] ps, KV.merge r1 .nil, dd⟩), rfl, q _ hn⟩
end
end Ev

namespace Ev
open PySem PySem.Spec PyProof.Rows L2
/-! ### d.items(), sorted of it -/
/-- the dict at a has these entries, whatever their order -/
def EntIs (P : Program) (w : World) (H : Hp) (a : Addr) (items : List (NestedKey × Int)) : Prop :=
  NDict P w H a (items.map fun it => (it.1, V.int it.2)) ∨ ∃ its : List (Int × Int), items = its.map (fun q => (NestedKey.num q.1, q.2)) ∧ H a = some (.dK (its.map fun q => (Sum.inl q.1, V.int q.2)))
def EntAt (H : Hp) (e : DictEntry) (it : NestedKey × Int) : Prop := ∃ kv : V, RelV kv e.key ∧ Dn H kv it.1 ∧ RelV (.int it.2) e.val
section
variable {X : Cx} {pins : List (Addr × Obj)} {σ : L2.St} {H : Hp} {s : Shared} {a : Addr} {items : List (NestedKey × Int)}
theorem ent_of (I : Inv X pins σ H s) (h : EntIs X.prog X.w H a items) : (a == sysModules) = false ∧ ∃ es ep, DT.Raw s.heap a es ep ∧ es.size = items.length ∧ items.length ≤ sizeLine ∧
    ∀ (j : Nat) (e : DictEntry), es[j]? = some e → ∃ it, items[j]? = some it ∧ EntAt H e it := by
  rcases h with h | ⟨its, rfl, h⟩
  · refine ⟨h.notSys, ?_⟩
    obtain ⟨xs, r, dd⟩ := nd_of I h
    obtain ⟨es, ep, hr, hs, he⟩ := dd.raw
    have hl := Paired.length r
    have hz := h.small
    rw [List.length_map] at hl hz
    refine ⟨es, ep, hr, by rw [hs, hl], hz, fun j e hj => ?_⟩
    obtain ⟨hji, ee⟩ := Array.getElem?_eq_some_iff.mp hj
    obtain ⟨y, hy, e1, e2, _⟩ := he j hji
    obtain ⟨p, hp, z⟩ := DX.pget r hy
    rw [List.getElem?_map] at hp
    cases hi : items[j]? with
    | none =>
      rw [hi] at hp
      cases hp
    | some it =>
      rw [hi] at hp
      have ep : (it.1, V.int it.2) = p := Option.some.inj hp
      subst ep
      refine ⟨it, rfl, .ref y.2.1, ?_, ?_, ?_⟩
      · show e.key = Value.ref y.2.1
        rw [← ee]
        exact e1
      · have z1 : it.1 = y.1 := z.1
        rw [z1]
        exact z.2.1.1
      · rw [← ee, e2]
        exact z.2.2
  · obtain ⟨hz, hs, vs, r, dd⟩ := dk_of I.hok h
    refine ⟨hs, ?_⟩
    obtain ⟨es, ep, hr, hsz, he⟩ := Heap.DictOf.raw dd
    have hl := Paired.length r
    rw [List.length_map] at hl hz
    refine ⟨es, ep, hr, by rw [hsz, List.length_map, hl], by rw [List.length_map]; exact hz, fun j e hj => ?_⟩
    obtain ⟨hji, ee⟩ := Array.getElem?_eq_some_iff.mp hj
    have hjv : j < vs.length := by rw [← hsz]; exact hji
    obtain ⟨p, hp, z⟩ := DX.pget r (List.getElem?_eq_getElem hjv)
    rw [List.getElem?_map] at hp
    cases hi : its[j]? with
    | none =>
      rw [hi] at hp
      cases hp
    | some q =>
      rw [hi] at hp
      have ep : ((Sum.inl q.1 : L2.Key), V.int q.2) = p := Option.some.inj hp
      subst ep
      obtain ⟨k1, k2⟩ := he j hji vs[j].1 vs[j].2 (by rw [List.getElem?_eq_getElem hjv])
      have z1 : (Sum.inl q.1 : L2.Key) = vs[j].1 := z.1
      have z2 : RelV (.int q.2) vs[j].2 := z.2
      rw [← z1] at k1
      refine ⟨(.num q.1, q.2), by rw [List.getElem?_map, hi]; rfl, .int q.1, ?_, .int q.1, ?_⟩
      · rw [← ee]
        exact relV_key (k := Sum.inl q.1) k1
      · rw [← ee, k2]
        exact z2
/-- objects already laid are tracked -/
theorem takeO {h' : Heap} {tk : Nat} {H0 : Hp} {P : Addr → HO → Prop} (I0 : Inv X pins σ H0 s) : ∀ (L : List Addr) (H1 : Hp), Inv X pins σ H1 { s with heap := h', toks := tk } → L.Nodup →
    (∀ a ∈ L, s.heap.objs.size ≤ a ∧ H1 a = none ∧ ∃ ho, P a ho ∧ ∀ H2, ObjOk X.prog X.w H2 h' a ho) →
    ∃ H2, Inv X pins σ H2 { s with heap := h', toks := tk } ∧ (∀ b o, H1 b = some o → H2 b = some o) ∧ ∀ a ∈ L, ∃ ho, P a ho ∧ H2 a = some ho
  | [], H1, I1, _, _ => ⟨H1, I1, fun _ _ e => e, fun _ h => nomatch h⟩
  | a :: L, H1, I1, hn, h => by
    obtain ⟨hb, hnone, ho, hP, ok⟩ := h a (List.mem_cons_self ..)
    have I2 : Inv X pins σ (upd H1 a ho) { s with heap := h', toks := tk } := I1.take (h' := h') (t' := tk) (fun b ob _ e => e) (I0.fpOk hb hnone) (ok _)
    rw [List.nodup_cons] at hn
    obtain ⟨H2, I3, g, q⟩ := takeO I0 L (upd H1 a ho) I2 hn.2 fun c hc => by
      obtain ⟨c1, c2, c3⟩ := h c (List.mem_cons_of_mem _ hc)
      exact ⟨c1, by rw [upd_ne (fun z => hn.1 (by rw [← z]; exact hc))]; exact c2, c3⟩
    refine ⟨H2, I3, fun b o e => g b o (by rw [upd_ne (ne_of_none e hnone)]; exact e), fun c hc => ?_⟩
    rcases List.mem_cons.mp hc with rfl | hc
    · exact ⟨ho, hP, g _ _ upd_same⟩
    · exact q c hc
end
def tItemsA (P : Program) (w : World) (to : TE) : TE := fun σ H Q => to σ H fun x H1 => ∃ (a : Addr) (items : List (NestedKey × Int)), x = .ref a ∧ EntIs P w H1 a items ∧ ∀ p, H1 p = none → Q (.ref p) (upd H1 p (DX.itemsO p a))
section
variable {X : Cx}
theorem pe_itemsA {o : Expr} {apos cpos : Pos} {to : TE} (ho : PE X o to) (hbase : attributeBase o "items" X.env (eval o X.env) = eval o X.env := by rfl) (hline : (apos.endLine == cpos.line) = true := by rfl) :
    PE X (.Call (.Attribute o "items" apos) [] [] cpos) (tItemsA X.prog X.w to) := by
  refine ⟨fun pins s σ H Q I h => ?_⟩
  refine wpAny_Call_method0_late hbase hline (thn (ho.run pins s σ H _ I h) fun v s1 ⟨x, H1, I1, r1, a, items, ex, hE, q1⟩ => ?_)
  subst ex
  cases r1
  obtain ⟨hd, es, ep, raw, _⟩ := ent_of I1 hE
  obtain ⟨oo, hoo, hx, hdat⟩ := id raw
  refine ⟨"dict", "dict.items", F.plainAttrs_dict, F.slot_dict_items, F.type_dict_items, ⟨oo, hoo, hx.1⟩, fun b e => ?_, Calls.callWith_builtin rfl (PySem.evalArgs_none ?_)⟩
  · cases e
    exact ⟨oo, hoo, hx.2.1⟩
  · refine DT.callItems (es := es) (ep := ep) hd raw ?_
    have hf : H1 s1.heap.objs.size = none := I1.hok.fresh (Nat.le_refl _)
    exact ⟨.ref s1.heap.objs.size, upd H1 s1.heap.objs.size (DX.itemsO s1.heap.objs.size a), I1.laid (t' := s1.toks) (fun b u e => Heap.get?_push_of_some _ e) (Nat.le_refl _) (DX.itemsO_ok (Heap.get?_push_size _ rfl)), rfl, q1 _ hf⟩
/-- sorted(d.items()) -/
def rSortA (P : Program) (w : World) : List V → Hp → VK → Prop := fun vs H Q => ∃ (p a : Addr) (items : List (NestedKey × Int)), vs = [.ref p] ∧ H p = some (DX.itemsO p a) ∧ EntIs P w H a items ∧
  (∀ it ∈ items, ∀ jt ∈ items, PySem.W.alike (pairK it).data (pairK jt).data = true) ∧ (∀ it ∈ items, (pairK it).data.depth ≤ 8) ∧
  ∀ (H' : Hp) (l : Addr) (zs : List (Addr × NestedKey × Int)), Same H H' → H l = none → (zs.map (·.2)).Perm items → H' l = some (.lst (zs.map fun z => V.ref z.1)) → (∀ z ∈ zs, Dn H' (.ref z.1) (pairK z.2)) → Q (.ref l) H'
theorem each_zip {α β γ : Type} {R : γ → α × β → Prop} (f : α → γ) : ∀ (as : List α) (bs : List β), as.length = bs.length → (∀ (j : Nat) a b, as[j]? = some a → bs[j]? = some b → R (f a) (a, b)) → PySem.W.EachIs R (as.map f) (as.zip bs)
  | [], _, _, _ => .nil
  | a :: as, [], h, _ => by simp at h
  | a :: as, b :: bs, h, g => .cons (g 0 a b rfl rfl) (each_zip f as bs (by simpa using h) fun j a' b' e1 e2 => g (j + 1) a' b' (by simpa using e1) (by simpa using e2))
theorem each_refs {out : List Value} {zs : List (Addr × NestedKey × Int)} (e : PySem.W.EachIs (fun (v : Value) (z : Addr × NestedKey × Int) => v = .ref z.1) out zs) : out = zs.map fun z => Value.ref z.1 := by
  induction e with
  | nil => rfl
  | cons h t ih => rw [h, ih]; rfl
theorem cr_sortA (hc : X.calm = true) (hu : X.A.units + 64 < cLine) : CallR X (.builtin "sorted") (rSortA X.prog X.w) := by
  intro pins s σ H xs us Q I r h
  obtain ⟨p, a, items, rfl, hp, hE, hal, h8, q⟩ := h
  obtain rfl := Vals.ref1 r
  have view : s.heap.IsItemsView p a := (show ObjOk X.prog X.w H s.heap p (DX.itemsO p a) from I.hok p _ hp).1
  obtain ⟨hd, es, ep, raw, hsz, hz, hent⟩ := ent_of I hE
  have hh : X.A.handled = none := I.ok.hd hc
  refine DT.sortedI (es := es) (ep := ep) hh view raw (by rw [hsz]; exact hz) fun h' tk as hk hlt hl hG => ?_
  have lak : as.length = items.length := by omega
  have nd : as.Nodup := List.Pairwise.imp (fun h => Nat.ne_of_lt h) hG.rise
  -- the pairs that were made
  have pr : ∀ (j : Nat) (b : Addr) (it : NestedKey × Int), as[j]? = some b → items[j]? = some it → ∃ (kv : V) (kx vx : Value), RelV kv kx ∧ Dn H kv it.1 ∧ RelV (.int it.2) vx ∧ h'.get? b = some { cls := .type "tuple", data := .seq #[kx, vx] } := by
    intro j b it hj hi
    obtain ⟨en, he, hg⟩ := hG.pairs j b hj
    obtain ⟨it', hi', kv, r1, r2, r3⟩ := hent j en he
    rw [hi] at hi'
    cases hi'
    exact ⟨kv, _, _, r1, r2, r3, hg⟩
  have hob : (h'.push { cls := .type "list", data := .seq (as.map Value.ref).toArray }).get? h'.objs.size = some (seqObj "list" (as.map Value.ref).toArray 0) := Heap.get?_push_size _ rfl
  have kb : ∀ b o, s.heap.get? b = some o → (h'.push { cls := .type "list", data := .seq (as.map Value.ref).toArray }).get? b = some o := fun b o e => Heap.get?_push_of_some _ (hk b o e)
  have ne0 : ∀ b o, h'.get? b = some o → b ≠ h'.objs.size := fun b o e => Nat.ne_of_lt (Heap.lt_size e)
  generalize hh2 : h'.push { cls := .type "list", data := .seq (as.map Value.ref).toArray } = h2 at hob kb ⊢
  have ka : ∀ b o, h'.get? b = some o → h2.get? b = some o := fun b o e => by rw [← hh2]; exact Heap.get?_push_of_some _ e
  have memz : ∀ b ∈ as.zip items, b.2 ∈ items := fun b hb => (List.of_mem_zip hb).2
  refine PySem.W.list_sort_data (s := { s with heap := h2, toks := tk }) (β := Addr × NestedKey × Int) (R := fun v z => v = .ref z.1) (vs := as.map Value.ref) (bs := as.zip items) (enc := fun z => (pairK z.2).data) (n := 0) hob
    (each_zip Value.ref as items lak fun _ _ _ _ _ => rfl) (each_zip Value.ref as items lak fun j b it e1 e2 => ?_) (fun d hd' d2 hd2 => ?_) (PySem.W.Sortable.tuples fun z => ⟨z.2.1.data, [.int z.2.2], by simp only [pairK, NestedKey.data, NestedKey.datas]⟩) ?_ (fun b hb => ?_) fun out ho he => ?_
  · obtain ⟨kv, kx, vx, r1, r2, r3, hg⟩ := pr j b it e1 e2
    refine ⟨[], ?_, by simp⟩
    have rk : Reads h2 kx it.1.data [] := PyProof.Rows.Reads.keeps (fun b o e => kb b o e) (Dn.reads I _ _ _ r2 r1)
    obtain ⟨t, ev⟩ := r3
    subst ev
    show Reads h2 (.ref b) (pairK it).data []
    simp only [pairK, NestedKey.data, NestedKey.datas]
    exact Reads.tuple (ka _ _ hg) rfl rfl (ReadsAll.cons (as := []) (bs := []) rk (ReadsAll.cons (as := []) (bs := []) (.int _ _) .nil))
  · obtain ⟨z1, hz1, rfl⟩ := List.mem_map.mp hd'
    obtain ⟨z2, hz2, rfl⟩ := List.mem_map.mp hd2
    exact hal _ (memz _ hz1) _ (memz _ hz2)
  · rw [List.length_zip]
    omega
  · have := h8 _ (memz _ hb)
    show X.A.units + 1 + 1 + (pairK b.2).data.depth < cLine
    omega
  · -- behind the sort
    have perm := List.mergeSort_perm (as.zip items) (PySem.W.dataLe false fun z => (pairK z.2).data)
    generalize List.mergeSort (as.zip items) (PySem.W.dataLe false fun z => (pairK z.2).data) = zs at he perm
    have hout := each_refs he
    have hperm : (zs.map (·.2)).Perm items := by
      have e := perm.map (·.2)
      have m2 : (as.zip items).map (·.2) = items := List.map_snd_zip (by rw [lak]; exact Nat.le_refl _)
      rw [m2] at e
      exact e
    have idx : ∀ z ∈ zs, ∃ j : Nat, as[j]? = some z.1 ∧ items[j]? = some z.2 := by
      intro z' hz'
      obtain ⟨j, hj⟩ := List.mem_iff_getElem?.mp (perm.mem_iff.mp hz')
      exact ⟨j, List.getElem?_zip_eq_some.mp hj⟩
    show EP X pins σ Q (.ref h'.objs.size) { s with heap := sortedHeap h2 h'.objs.size (as.map Value.ref) out.toArray, toks := tk }
    have kF : ∀ b o, b ≠ h'.objs.size → h2.get? b = some o → (sortedHeap h2 h'.objs.size (as.map Value.ref) out.toArray).get? b = some o := fun b o hb e => (PyProof.Rows.sortedHeap_old hb (Heap.lt_size e)).trans e
    have kS : ∀ b o, s.heap.get? b = some o → (sortedHeap h2 h'.objs.size (as.map Value.ref) out.toArray).get? b = some o := fun b o e => kF b o (ne0 _ _ (hk b o e)) (kb b o e)
    obtain ⟨eF, heF⟩ := PyProof.Rows.sortedHeap_at (vs := as.map Value.ref) (out := out.toArray) hob
    have I1 : Inv X pins σ H { s with heap := sortedHeap h2 h'.objs.size (as.map Value.ref) out.toArray, toks := tk } := I.kept (t' := tk) kS
    have hn0 : H h'.objs.size = none := I.hok.fresh (Nat.le_of_lt hlt)
    have hlen : (zs.map fun z => V.ref z.1).length ≤ sizeLine := by
      have e := hperm.length_eq
      rw [List.length_map] at e
      rw [List.length_map, e]
      exact hz
    have rv : Vals (zs.map fun z => V.ref z.1) out := by
      rw [hout]
      exact vals_maps (fun z : Addr × NestedKey × Int => V.ref z.1) (fun z => Value.ref z.1) zs fun _ _ => rfl
    have I2 : Inv X pins σ (upd H h'.objs.size (.lst (zs.map fun z => V.ref z.1))) { s with heap := sortedHeap h2 h'.objs.size (as.map Value.ref) out.toArray, toks := tk } :=
      I1.take (h' := sortedHeap h2 h'.objs.size (as.map Value.ref) out.toArray) (t' := tk) (fun b ob _ e => e) (I.fpOk (Nat.le_of_lt hlt) hn0) ⟨hlen, out, eF, rv, heF⟩
    obtain ⟨H2, I3, g, qt⟩ := takeO (P := fun b ho => ∃ (j : Nat) (it : NestedKey × Int) (kv : V) (o : Obj), as[j]? = some b ∧ items[j]? = some it ∧ Dn H kv it.1 ∧ o.dict = none ∧ ho = .frz o (.tup [kv, .int it.2])) I as _ I2 nd fun b hb => by
      obtain ⟨j, hj⟩ := List.mem_iff_getElem?.mp hb
      have hji : j < items.length := by
        have := (List.getElem?_eq_some_iff.mp hj).1
        omega
      obtain ⟨kv, kx, vx, r1, r2, r3, hg⟩ := pr j b _ hj (List.getElem?_eq_getElem hji)
      have hbl : s.heap.objs.size ≤ b := Nat.le_of_lt (hG.above b hb)
      have hg2 := kF _ _ (ne0 _ _ hg) (ka _ _ hg)
      refine ⟨hbl, ?_, _, ⟨j, _, kv, _, hj, List.getElem?_eq_getElem hji, r2, rfl, rfl⟩, fun H3 => ⟨hg2, (by rw [sizeLine_eq]; show 2 ≤ 16777216; omega), [kx, vx], .cons r1 (.cons r3 .nil), ⟨_, hg2, rfl, 0, rfl⟩⟩⟩
      rw [upd_ne (ne0 _ _ hg)]
      exact I.hok.fresh hbl
    have gr : Same H H2 := fun b o e => g b o (by rw [upd_ne (ne_of_none e hn0)]; exact e)
    refine ⟨.ref h'.objs.size, H2, I3, rfl, q H2 h'.objs.size zs gr hn0 hperm (g _ _ upd_same) fun z' hz' => ?_⟩
    obtain ⟨i, i1, i2⟩ := idx z' hz'
    obtain ⟨ho, ⟨j, it, kv, o, j1, j2, hD, hod, eo⟩, hH⟩ := qt z'.1 (List.mem_of_getElem? i1)
    have eij : i = j := (List.getElem?_inj (List.getElem?_eq_some_iff.mp i1).1 nd).mp (i1.trans j1.symm)
    subst eij
    have ee : it = z'.2 := Option.some.inj (j2.symm.trans i2)
    subst eo
    rw [← ee]
    exact .tup hH hod (.cons (hD.same gr) (.cons (.int _) .nil))
end
end Ev

namespace Ev
open PySem PySem.Spec PyProof.Rows L2
/-! ### C() of a class without __init__ -/
structure MkO (K : PySem.W.Frag) (C : Addr) : Prop where
  makes : PySem.W.makesIn K C = true
  init : PySem.W.findIn K (.ref C) "__init__" = some (some (.builtin "object.__init__"))
  kp : PySem.W.keepIn K (.ref C) = true
def tMakeO (C : Addr) : TE := fun _ H Q => ∀ x dx, H x = none → H dx = none → dx ≠ x → Q (.ref x) (upd (upd H dx (.own x)) x (.ins C dx []))
section
variable {X : Cx} {C : Addr}
theorem run_makeO {pins : List (Addr × Obj)} {σ : L2.St} {H : Hp} {s : Shared} {Q : VK} (M : MkO X.K C) (I : Inv X pins σ H s)
    (h : ∀ x dx, H x = none → H dx = none → dx ≠ x → Q (.ref x) (upd (upd H dx (.own x)) x (.ins C dx []))) : wpAny (model X.prog X.w) X.A (call (.ref C) []) (EP X pins σ Q) X.xe s := by
  have hq := h (s.heap.objs.size + 1) s.heap.objs.size (I.hok.fresh (Nat.le_succ _)) (I.hok.fresh (Nat.le_refl _)) (Nat.ne_of_lt (Nat.lt_succ_self _))
  have I2 := Inv.made (C := C) I
  obtain ⟨hh, g, d, t, os⟩ := s
  have Y := PySem.W.makes_of (M := model X.prog X.w) I.kIn M.makes
  have e2 : ((hh.push PySem.W.emptyDict).push (PySem.W.instObj C hh.objs.size)).get? (hh.objs.size + 1) = some (PySem.W.instObj C hh.objs.size) := by
    have := Heap.get?_push_size (hh.push PySem.W.emptyDict) (o := PySem.W.instObj C hh.objs.size) rfl
    rwa [Heap.size_push] at this
  refine wpAny_call (PySem.W.make_core Y (PySem.W.looks_findIn I.kIn M.init) (fun self => PySem.W.Looks.of_pure (PySem.W.oi_bind self)) (.inr ⟨rfl, rfl⟩) ?_)
  have t1 : PySem.W.Looks (model X.prog X.w) ((hh.push PySem.W.emptyDict).push (PySem.W.instObj C hh.objs.size)) (typeOf (.ref (hh.objs.size + 1))) (.ref C) := (PySem.W.Looks.ld e2).andThen .now
  have t2 : PySem.W.Looks (model X.prog X.w) ((hh.push PySem.W.emptyDict).push (PySem.W.instObj C hh.objs.size)) (isInstance (.ref (hh.objs.size + 1)) (.type "object")) true := t1.andThen (Y.top.keeps fun b o e => Heap.get?_push_of_some _ (Heap.get?_push_of_some _ e))
  refine codeAny_call_builtin PySem.W.oi_plain PySem.W.entry_oi (@PySem.W.check_slot (model X.prog X.w) _ _ _ "object.__init__" "object" "__init__" (.ref (hh.objs.size + 1)) [] [] _ PySem.W.oi_kind PySem.W.oi_split t2 (PySem.W.oi_args (.ref (hh.objs.size + 1))) ?_)
  rw [PySem.W.oi_run]
  exact wpAny_pure (And.intro rfl ⟨V.ref (hh.objs.size + 1), _, I2, rfl, hq⟩)
theorem pe_makeO {x : Str} {p pos : Pos} (M : MkO X.K C) (hg : Gl X x) (hm : X.mg x = some (.ref C)) (hdb : (x == ("__debug__" : Str)) = false := by decide) : PE X (.Call (.Name x p) [] [] pos) (tMakeO C) := by
  refine ⟨fun pins s σ H Q I h => ?_⟩
  refine wpAny_Call_Name_kw (ld_glob I hg hm ?_ hdb)
  exact PySem.W.callWith_K0 I.kIn M.kp (run_makeO M I h)
end
end Ev

/-! The text by places, and what the top has written of it. -/
namespace Ev
open PySem PySem.Spec PyProof.Rows L2
def top (i : Nat) : Stmt := PySem.Challenge.pw_everyworth_k34_slopes.main.body.getD i (.Pass ⟨0, 0, 0, 0⟩)
abbrev sInit : Stmt := inClass (top 10) 0
abbrev sNumber : Stmt := inClass (top 10) 1
abbrev sWidth : Stmt := inClass (top 10) 2
abbrev sFact : Stmt := inClass (top 10) 3
abbrev sPlus : Stmt := inClass (top 10) 4
abbrev sTimes : Stmt := inClass (top 10) 5
abbrev sStar : Stmt := inClass (top 10) 6
abbrev sShown : Stmt := inClass (top 10) 7
abbrev sParts : Stmt := inClass (top 10) 9
abbrev sWithin : Stmt := inClass (top 10) 10
abbrev sFactsIn : Stmt := inClass (top 10) 11
abbrev sSumIn : Stmt := top 11
abbrev sProductIn : Stmt := top 12
abbrev sWorth : Stmt := top 13
abbrev sIsNumber : Stmt := top 15
abbrev sSZero : Stmt := inClass (top 17) 0
abbrev sSOne : Stmt := inClass (top 17) 1
abbrev sSPlus : Stmt := inClass (top 17) 2
abbrev sSTimes : Stmt := inClass (top 17) 3
abbrev sSStar : Stmt := inClass (top 17) 4
abbrev sSIs : Stmt := inClass (top 17) 5
abbrev sHasStar : Stmt := top 18
abbrev sSlope : Stmt := top 19
abbrev sVariable : Stmt := top 22
abbrev sPacked : Stmt := top 23
abbrev sUnited : Stmt := top 24
abbrev sPZero : Stmt := inClass (top 27) 0
abbrev sPOne : Stmt := inClass (top 27) 1
abbrev sPPlus : Stmt := inClass (top 27) 2
abbrev sPTimes : Stmt := inClass (top 27) 3
abbrev sNormal : Stmt := top 29
abbrev sPot : Stmt := top 31
abbrev sNext : Stmt := top 32
abbrev sIsInt : Stmt := top 33
abbrev sGrown : Stmt := top 34
abbrev sForm : Stmt := top 35
abbrev sPower : Stmt := top 36
abbrev sDue : Stmt := top 37
abbrev sRefused : Stmt := top 38
abbrev sLaw : Stmt := top 39
/-- a def of the text as the top has left it -/
structure DefAt (K : PySem.W.Frag) (x qual : Str) (st : Stmt) (ps : List Str) where
  f : Addr
  fd : FuncData
  F : Fun K x qual st f fd
  b : Binds K fd ps []
/-- .. a global one -/
structure GDef (K : PySem.W.Frag) (mg : Str → Option Value) (x : Str) (st : Stmt) (ps : List Str) extends DefAt K x x st ps where
  g : mg x = some (.ref f)
/-- .. a method -/
structure MDef (K : PySem.W.Frag) (C : Addr) (x qual : Str) (st : Stmt) (ps : List Str) extends DefAt K x qual st ps where
  m : Meth K C x f
/-- an own class of errors -/
structure ExcAt (K : PySem.W.Frag) (mg : Str → Option Value) (x : Str) (C : Addr) : Prop where
  g : mg x = some (.ref C)
  x : PySem.W.excIn K C [.type "ValueError", .type "Exception", .type "BaseException", .type "object"] "ValueError.__new__" = true
  k : PySem.W.keepIn K (.ref C) = true
  b : PySem.W.subIn K (.ref C) (.type "BaseException") = some true
  t : PySem.W.typeIn K (.ref C) = some (.type "type")
/-- the classes' addresses -/
structure Ads where
  C : Addr
  S : Addr
  P : Addr
  eW : Addr
  eN : Addr
  eT : Addr
structure TxtC (K : PySem.W.Frag) (mg : Str → Option Value) (A : Ads) where
  cl : Cls K A.C
  nN : NoAttr K A.C "nodes"
  nU : NoAttr K A.C "numbers"
  g : mg "Circuits" = some (.ref A.C)
  init : DefAt K "__init__" "Circuits.__init__" sInit ["self"]
  made : Mk K A.C init.f
  number : MDef K A.C "number" "Circuits.number" sNumber ["self", "node"]
  width : MDef K A.C "width" "Circuits.width" sWidth ["self", "node"]
  fact : MDef K A.C "fact" "Circuits.fact" sFact ["self", "k"]
  plus : MDef K A.C "plus" "Circuits.plus" sPlus ["self", "nodes"]
  times : MDef K A.C "times" "Circuits.times" sTimes ["self", "nodes"]
  star : MDef K A.C "star" "Circuits.star" sStar ["self", "node"]
  shown : MDef K A.C "shown" "Circuits.shown" sShown ["self", "node"]
  parts : MDef K A.C "parts" "Circuits.parts" sParts ["self", "node"]
  within : MDef K A.C "within" "Circuits.within" sWithin ["self", "node"]
  factsIn : MDef K A.C "facts_in" "Circuits.facts_in" sFactsIn ["self", "node"]
structure TxtB (mg : Str → Option Value) : Prop where
  zero : ∃ t, mg "ZERO" = some (.int 0 t)
  one : ∃ t, mg "ONE" = some (.int 1 t)
  mostN : ∃ t, mg "MOST_NODES" = some (.int 20000 t)
  mostP : ∃ t, mg "MOST_PARTS" = some (.int 2000 t)
  mostM : ∃ t, mg "MOST_MONOMIALS" = some (.int 400 t)
  len : mg "len" = none
  sorted : mg "sorted" = none
  tuple : mg "tuple" = none
  any : mg "any" = none
  isinstance : mg "isinstance" = none
  int : mg "int" = none
  bool : mg "bool" = none
  dict : mg "dict" = none
  range : mg "range" = none
  abs : mg "abs" = none
  min : mg "min" = none
  list : mg "list" = none
end Ev

/-! The store of circuits. -/
namespace Ev
open PySem PySem.Spec PyProof.Rows L2
/-! ### nodes -/
inductive Sh where
  | zero | one | fact (k : Nat) | plus (i j : Nat) | times (i j : Nat) | star (i : Nat)
  deriving DecidableEq
def Sh.key : Sh → NestedKey
  | .zero => .tup [.text "zero"]
  | .one => .tup [.text "one"]
  | .fact k => .tup [.text "fact", .num k]
  | .plus i j => .tup [.text "plus", .tup [.num i, .num j]]
  | .times i j => .tup [.text "times", .tup [.num i, .num j]]
  | .star i => .tup [.text "star", .num i]
def Sh.low : Sh → Nat → Prop
  | .zero, _ => True
  | .one, _ => True
  | .fact k, _ => k < 4
  | .plus i j, n => i < n ∧ j < n
  | .times i j, n => i < n ∧ j < n
  | .star i, n => i < n
def Sh.parts : Sh → List Nat
  | .plus i j => [i, j]
  | .times i j => [i, j]
  | .star i => [i]
  | _ => []
theorem Sh.key_depth (s : Sh) : s.key.depth ≤ 8 := by
  cases s <;> (simp only [Sh.key, NestedKey.depth, NestedKey.depthAll]; omega)
theorem tx_ne : ¬ (("zero" : Str) = "one") ∧ ¬ (("zero" : Str) = "fact") ∧ ¬ (("zero" : Str) = "plus") ∧ ¬ (("zero" : Str) = "times") ∧ ¬ (("zero" : Str) = "star") ∧
    ¬ (("one" : Str) = "fact") ∧ ¬ (("one" : Str) = "plus") ∧ ¬ (("one" : Str) = "times") ∧ ¬ (("one" : Str) = "star") ∧
    ¬ (("fact" : Str) = "plus") ∧ ¬ (("fact" : Str) = "times") ∧ ¬ (("fact" : Str) = "star") ∧ ¬ (("plus" : Str) = "times") ∧ ¬ (("plus" : Str) = "star") ∧ ¬ (("times" : Str) = "star") := by
  refine ⟨?_, ?_, ?_, ?_, ?_, ?_, ?_, ?_, ?_, ?_, ?_, ?_, ?_, ?_, ?_⟩ <;> decide +kernel
theorem Sh.key_inj {s t : Sh} (h : s.key = t.key) : s = t := by
  obtain ⟨h1, h2, h3, h4, h5, h6, h7, h8, h9, h10, h11, h12, h13, h14, h15⟩ := tx_ne
  cases s <;> cases t <;> simp only [Sh.key, NestedKey.tup.injEq, List.cons.injEq, NestedKey.text.injEq, NestedKey.num.injEq, Int.natCast_inj, and_true, true_and, reduceCtorEq, and_false] at h <;>
    first
      | rfl
      | (simp only [h]; done)
      | (obtain ⟨a, b⟩ := h; subst a b; rfl)
      | exact absurd h h1 | exact absurd h h2 | exact absurd h h3 | exact absurd h h4 | exact absurd h h5 | exact absurd h h6 | exact absurd h h7 | exact absurd h h8
      | exact absurd h h9 | exact absurd h h10 | exact absurd h h11 | exact absurd h h12 | exact absurd h h13 | exact absurd h h14 | exact absurd h h15
      | exact absurd h.symm h1 | exact absurd h.symm h2 | exact absurd h.symm h3 | exact absurd h.symm h4 | exact absurd h.symm h5 | exact absurd h.symm h6 | exact absurd h.symm h7 | exact absurd h.symm h8
      | exact absurd h.symm h9 | exact absurd h.symm h10 | exact absurd h.symm h11 | exact absurd h.symm h12 | exact absurd h.symm h13 | exact absurd h.symm h14 | exact absurd h.symm h15
      | exact absurd h.1 h1 | exact absurd h.1 h2 | exact absurd h.1 h3 | exact absurd h.1 h4 | exact absurd h.1 h5 | exact absurd h.1 h6 | exact absurd h.1 h7 | exact absurd h.1 h8
      | exact absurd h.1 h9 | exact absurd h.1 h10 | exact absurd h.1 h11 | exact absurd h.1 h12 | exact absurd h.1 h13 | exact absurd h.1 h14 | exact absurd h.1 h15
      | exact absurd h.1.symm h1 | exact absurd h.1.symm h2 | exact absurd h.1.symm h3 | exact absurd h.1.symm h4 | exact absurd h.1.symm h5 | exact absurd h.1.symm h6 | exact absurd h.1.symm h7 | exact absurd h.1.symm h8
      | exact absurd h.1.symm h9 | exact absurd h.1.symm h10 | exact absurd h.1.symm h11 | exact absurd h.1.symm h12 | exact absurd h.1.symm h13 | exact absurd h.1.symm h14 | exact absurd h.1.symm h15
/-- a store as it grows -/
structure WF (nodes : List Sh) : Prop where
  z : nodes[0]? = some .zero
  o : nodes[1]? = some .one
  low : ∀ (i : Nat) (s : Sh), nodes[i]? = some s → s.low i
  rz : ∀ i : Nat, nodes[i]? = some .zero → i = 0
  ro : ∀ i : Nat, nodes[i]? = some .one → i = 1
theorem WF.start : WF [.zero, .one] := by
  refine ⟨rfl, rfl, fun i s h => ?_, fun i h => ?_, fun i h => ?_⟩
  all_goals
    match i, h with
    | 0, h => first | rfl | (cases h; first | trivial | rfl) | cases h
    | 1, h => first | rfl | (cases h; first | trivial | rfl) | cases h
    | i + 2, h => simp at h
theorem WF.more {nodes : List Sh} {s : Sh} (h : WF nodes) (hl : s.low nodes.length) (nz : s ≠ .zero) (no : s ≠ .one) : WF (nodes ++ [s]) := by
  have get : ∀ (i : Nat) (t : Sh), (nodes ++ [s])[i]? = some t → nodes[i]? = some t ∨ i = nodes.length ∧ t = s := fun i t e => by
    by_cases hi : i < nodes.length
    · rw [List.getElem?_append_left hi] at e
      exact .inl e
    · rw [List.getElem?_append_right (by omega)] at e
      have h1 : i - nodes.length < 1 := by
        have := (List.getElem?_eq_some_iff.mp e).1
        simpa using this
      have h2 : i = nodes.length := by omega
      subst h2
      simp at e
      exact .inr ⟨rfl, e.symm⟩
  have keep : ∀ (i : Nat) (t : Sh), nodes[i]? = some t → (nodes ++ [s])[i]? = some t := fun i t e => by
    rw [List.getElem?_append_left (List.getElem?_eq_some_iff.mp e).1]
    exact e
  refine ⟨keep _ _ h.z, keep _ _ h.o, fun i t e => ?_, fun i e => ?_, fun i e => ?_⟩
  · rcases get i t e with e | ⟨rfl, rfl⟩
    · exact h.low i t e
    · exact hl
  · rcases get i _ e with e | ⟨_, e⟩
    · exact h.rz i e
    · exact absurd e.symm nz
  · rcases get i _ e with e | ⟨_, e⟩
    · exact h.ro i e
    · exact absurd e.symm no
theorem get_more {nodes : List Sh} {s : Sh} {i : Nat} {t : Sh} (e : nodes[i]? = some t) : (nodes ++ [s])[i]? = some t := by
  rw [List.getElem?_append_left (List.getElem?_eq_some_iff.mp e).1]
  exact e
theorem get_last {nodes : List Sh} {s : Sh} : (nodes ++ [s])[nodes.length]? = some s := by simp
theorem get_of_more {nodes : List Sh} {s : Sh} {i : Nat} {t : Sh} (e : (nodes ++ [s])[i]? = some t) : nodes[i]? = some t ∨ i = nodes.length ∧ t = s := by
  by_cases hi : i < nodes.length
  · rw [List.getElem?_append_left hi] at e
    exact .inl e
  · rw [List.getElem?_append_right (by omega)] at e
    have h1 : i - nodes.length < 1 := by
      have := (List.getElem?_eq_some_iff.mp e).1
      simpa using this
    have h2 : i = nodes.length := by omega
    subst h2
    simp at e
    exact .inr ⟨rfl, e.symm⟩
/-! ### the object -/
theorem kc_nn : ¬ (("nodes" : Str) = "numbers") := by decide +kernel
def cf (L D : Addr) : List (Str × V) := putF "numbers" (.ref D) (putF "nodes" (.ref L) [])
theorem cf_eq (L D : Addr) : cf L D = ([("nodes", V.ref L), ("numbers", V.ref D)] : List (Str × V)) := by
  show (if ("nodes" : Str) = "numbers" then [(("nodes" : Str), V.ref D)] else (("nodes" : Str), V.ref L) :: putF "numbers" (V.ref D) []) = ([("nodes", V.ref L), ("numbers", V.ref D)] : List (Str × V))
  rw [if_neg kc_nn]
  all_goals rfl
theorem cf_nodes (L D : Addr) : (cf L D).lookup ("nodes" : Str) = some (.ref L) := by
  unfold cf
  rw [lookup_putF, if_neg kc_nn, lookup_putF, if_pos rfl]
theorem cf_numbers (L D : Addr) : (cf L D).lookup ("numbers" : Str) = some (.ref D) := by
  unfold cf
  rw [lookup_putF, if_pos rfl]
theorem cf_no (L D : Addr) {m : Str} (h1 : ¬ m = "numbers") (h2 : ¬ m = "nodes") : (cf L D).lookup m = none := by
  unfold cf
  rw [lookup_putF, if_neg h1, lookup_putF, if_neg h2]
  all_goals rfl
/-- at p stands a store with these nodes, its list at L, its dict at D -/
structure CircAt (P : Program) (w : World) (C : Addr) (H : Hp) (p L D : Addr) (nodes : List Sh) : Prop where
  ob : ∃ dx, H p = some (.ins C dx (cf L D))
  li : ∃ vs, H L = some (.lst vs) ∧ DnAll H vs (nodes.map Sh.key)
  di : ∃ kvs, NDict P w H D kvs ∧ kvs.length ≤ nodes.length ∧ (∀ (i : Nat) (s : Sh), nodes[i]? = some s → valV kvs s.key = some (.int i)) ∧ ∀ (s : Sh) (v : V), valV kvs s.key = some v → ∃ i : Nat, v = .int i ∧ nodes[i]? = some s
  wf : WF nodes
theorem CircAt.same {P : Program} {w : World} {C : Addr} {H H' : Hp} {p L D : Addr} {nodes : List Sh} (h : CircAt P w C H p L D nodes) (s : Same H H') : CircAt P w C H' p L D nodes := by
  obtain ⟨⟨dx, h1⟩, ⟨vs, h2, h3⟩, ⟨kvs, h4, h5⟩, h6⟩ := h
  exact ⟨⟨dx, s _ _ h1⟩, ⟨vs, s _ _ h2, DnAll.fk (.of_same s) _ _ h3⟩, ⟨kvs, h4.same s, h5⟩, h6⟩
/-- .. where another object is written -/
theorem CircAt.but {P : Program} {w : World} {C : Addr} {H H' : Hp} {p L D q : Addr} {nodes : List Sh} (h : CircAt P w C H p L D nodes) (nf : ∀ o u, ¬ H q = some (.frz o u)) (hp : p ≠ q) (hL : L ≠ q) (hD : D ≠ q) (s : ∀ b o, H b = some o → b ≠ q → H' b = some o) :
    CircAt P w C H' p L D nodes := by
  obtain ⟨⟨dx, h1⟩, ⟨vs, h2, h3⟩, ⟨kvs, h4, h5⟩, h6⟩ := h
  have fk : Fk H H' := .of_but nf s
  exact ⟨⟨dx, s _ _ h1 hp⟩, ⟨vs, s _ _ h2 hL, DnAll.fk fk _ _ h3⟩, ⟨kvs, h4.keep fk fun o e => s _ _ e hD, h5⟩, h6⟩
theorem CircAt.LD {P : Program} {w : World} {C : Addr} {H : Hp} {p L D : Addr} {nodes : List Sh} (h : CircAt P w C H p L D nodes) : p ≠ L ∧ p ≠ D ∧ L ≠ D := by
  obtain ⟨⟨dx, h1⟩, ⟨vs, h2, h3⟩, ⟨kvs, h4, h5⟩, h6⟩ := h
  obtain ⟨φ, h7⟩ := h4.ext
  exact ⟨ne_of h1 h2 (fun z => nomatch z), ne_of h1 h7 (fun z => nomatch z), ne_of h2 h7 (fun z => nomatch z)⟩
/-- all but the store's own list and dict is kept -/
def Kept2 (L D : Addr) (H H' : Hp) : Prop := ∀ b o, H b = some o → b ≠ L → b ≠ D → H' b = some o
theorem Kept2.refl (L D : Addr) (H : Hp) : Kept2 L D H H := fun _ _ h _ _ => h
theorem Kept2.trans {L D : Addr} {H H1 H2 : Hp} (a : Kept2 L D H H1) (b : Kept2 L D H1 H2) : Kept2 L D H H2 := fun c o h h1 h2 => b c o (a c o h h1 h2) h1 h2
theorem Kept2.of_same {L D : Addr} {H H' : Hp} (s : Same H H') : Kept2 L D H H' := fun b o h _ _ => s b o h
/-! ### the promises -/
def spInit (P : Program) (w : World) (C : Addr) : Sp := fun vs H Q _ => ∃ (p dx : Addr), vs = [.ref p] ∧ H p = some (.ins C dx []) ∧
  ∀ (L D : Addr) (H' : Hp), H L = none → H D = none → CircAt P w C H' p L D [.zero, .one] → (∀ b o, H b = some o → b ≠ p → H' b = some o) → Q .non H'
def spWidth : Sp := fun vs H Q _ => ∃ (p a : Addr) (s : Sh), vs = [.ref p, .ref a] ∧ Dn H (.ref a) s.key ∧ ∀ (n : Nat) (H' : Hp), n ≤ 2 → Same H H' → Q (.int n) H'
/-- the answer is the number of s in the store behind -/
def OutN (P : Program) (w : World) (C p L D : Addr) (nodes : List Sh) (s : Sh) (Q : VK) (H : Hp) : Prop :=
  ∀ (i : Nat) (nodes' : List Sh) (H' : Hp), nodes'[i]? = some s → (nodes' = nodes ∨ nodes' = nodes ++ [s]) → CircAt P w C H' p L D nodes' → Kept2 L D H H' → Q (.int i) H'
def spNumber (P : Program) (w : World) (C : Addr) : Sp := fun vs H Q _ => ∃ (p a L D : Addr) (nodes : List Sh) (s : Sh), vs = [.ref p, .ref a] ∧ Dn H (.ref a) s.key ∧ CircAt P w C H p L D nodes ∧ nodes.length ≤ 1000 ∧
  s.low nodes.length ∧ s ≠ .zero ∧ s ≠ .one ∧ OutN P w C p L D nodes s Q H
end Ev

namespace Ev
open PySem PySem.Spec PyProof.Rows L2
section
variable {P : Program} {w : World} {K : PySem.W.Frag} {mg : Str → Option Value} {base : Heap} {A : Ads}
theorem scInit : FnScope ["self"] ["self"] (defScope sInit) := ⟨rfl, rfl, rfl, by decide +kernel, rfl, by decide +kernel, by decide +kernel⟩
theorem line_ge {n : Nat} (h : n ≤ 100000) : n ≤ sizeLine := Nat.le_trans h (by rw [sizeLine_eq]; omega)
theorem ln0 : ([] : List V).length ≤ sizeLine := Nat.zero_le _
theorem ln1 {a : V} : [a].length ≤ sizeLine := line_ge (by show 1 ≤ 100000; decide)
theorem ln2 {a b : V} : [a, b].length ≤ sizeLine := line_ge (by show 2 ≤ 100000; decide)
theorem ln3 {a b c : V} : [a, b, c].length ≤ sizeLine := line_ge (by show 3 ≤ 100000; decide)
theorem ln4 {a b c d : V} : [a, b, c, d].length ≤ sizeLine := line_ge (by show 4 ≤ 100000; decide)
theorem ok_init (T : TxtC K mg A) (B : TxtB mg) : FnOk P w K mg base CX0 1 T.init.f T.init.fd ["self"] (spInit P w A.C) := by
  refine T.init.F.ok scInit (fun vs H Q E h => ?_) (fun cdv A' outer s H vs Q E hr h => ?_)
  · obtain ⟨p, dx, rfl, _⟩ := h
    rfl
  · obtain ⟨p, dx, rfl, hp, k⟩ := h
    obtain ⟨t0, g0⟩ := B.zero
    obtain ⟨t1, g1⟩ := B.one
    refine ⟨_, pss_cons (ps_fld (pv 0) (pe_lst (pa_cons (pe_tupF (pa_cons pe_str pa_nil)) (pa_cons (pe_tupF (pa_cons pe_str pa_nil)) pa_nil))) rfl)
      (pss_one (ps_fld (pv 0) (pe_ndisp (by show _ + 64 < cLine; exact hr.units) (pps_cons (pe_tupF (pa_cons pe_str pa_nil)) (pe_glob (v := .int 0) rfl g0 ⟨_, rfl⟩) (pps_cons (pe_tupF (pa_cons pe_str pa_nil)) (pe_glob (v := .int 1) rfl g1 ⟨_, rfl⟩) pps_nil)) rfl rfl (fun z => nomatch z) (by decide)) rfl)), ?_⟩
    -- self.nodes = [("zero",), ("one",)]
    refine ⟨ln1, fun a0 o0 n0 d0 => ⟨ln1, fun a1 o1 n1 d1 => ⟨ln2, fun L nL => ?_⟩⟩⟩
    have p0 : p ≠ a0 := ne_of_none hp n0
    have q0 : (upd H a0 (.frz o0 (.tup [.str "zero"]))) p = some (.ins A.C dx []) := by rw [upd_ne p0]; exact hp
    have p1 : p ≠ a1 := ne_of_none q0 n1
    have q1 : (upd (upd H a0 (.frz o0 (.tup [.str "zero"]))) a1 (.frz o1 (.tup [.str "one"]))) p = some (.ins A.C dx []) := by rw [upd_ne p1]; exact q0
    have pL : p ≠ L := ne_of_none q1 nL
    have hz0 : Dn (upd H a0 (.frz o0 (.tup [.str "zero"]))) (.ref a0) Sh.zero.key := .tup upd_same d0 (.cons (.str _) .nil)
    have hz1 : Dn (upd (upd H a0 (.frz o0 (.tup [.str "zero"]))) a1 (.frz o1 (.tup [.str "one"]))) (.ref a0) Sh.zero.key := Dn.fk (.new n1) _ _ hz0
    have ho1 : Dn (upd (upd H a0 (.frz o0 (.tup [.str "zero"]))) a1 (.frz o1 (.tup [.str "one"]))) (.ref a1) Sh.one.key := .tup upd_same d1 (.cons (.str _) .nil)
    have sm1 : Same H (upd (upd H a0 (.frz o0 (.tup [.str "zero"]))) a1 (.frz o1 (.tup [.str "one"]))) := fun b o e => by
      have z := (ne_of_none e n0)
      have e1 : (upd H a0 (.frz o0 (.tup [.str "zero"]))) b = some o := by rw [upd_ne z]; exact e
      rw [upd_ne (ne_of_none e1 n1)]
      exact e1
    generalize hH1 : upd (upd H a0 (.frz o0 (.tup [.str "zero"]))) a1 (.frz o1 (.tup [.str "one"])) = H1 at q1 hz1 ho1 sm1 nL ⊢
    have nLH : H L = none := sm1.free nL
    -- the list is stored
    refine ⟨_, rfl, p, A.C, dx, [], rfl, (by rw [upd_ne pL]; exact q1), T.cl, T.nN, (by show 0 < 1000; decide), ?_⟩
    -- self.numbers = {("zero",): ZERO, ("one",): ONE}
    generalize hH2 : upd (upd H1 L (.lst [.ref a0, .ref a1])) p (.ins A.C dx (putF "nodes" (.ref L) [])) = H2
    have f2 : Fk H1 H2 := by
      rw [← hH2]
      exact (Fk.new nL).trans (.upd (nf_ins (C := A.C) (dx := dx) (fs := []) (by rw [upd_ne pL]; exact q1)))
    have hL2 : H2 L = some (.lst [.ref a0, .ref a1]) := by rw [← hH2, upd_ne pL.symm, upd_same]
    have hp2 : H2 p = some (.ins A.C dx (putF "nodes" (.ref L) [])) := by rw [← hH2, upd_same]
    have k2 : ∀ b o, H b = some o → b ≠ p → H2 b = some o := fun b o e hb => by
      rw [← hH2, upd_ne hb, upd_ne (ne_of_none (sm1 _ _ e) nL)]
      exact sm1 _ _ e
    intro D φ nD hD
    have LD : L ≠ D := ne_of_none hL2 nD
    have pD : p ≠ D := ne_of_none hp2 nD
    have nDH : H D = none := by
      cases q : H D with
      | none => rfl
      | some o =>
        rw [k2 D o q pD.symm] at nD
        cases nD
    refine ⟨ln1, fun b0 u0 m0 e0 => ⟨ln1, fun b1 u1 m1 e1 => ?_⟩⟩
    have s3 : Same (upd H2 D (.ext φ)) (upd (upd (upd H2 D (.ext φ)) b0 (.frz u0 (.tup [.str "zero"]))) b1 (.frz u1 (.tup [.str "one"]))) := fun b o e => by
      have z : (upd (upd H2 D (.ext φ)) b0 (.frz u0 (.tup [.str "zero"]))) b = some o := by rw [upd_ne (ne_of_none e m0)]; exact e
      rw [upd_ne (ne_of_none z m1)]
      exact z
    have k0 : Dn (upd (upd (upd H2 D (.ext φ)) b0 (.frz u0 (.tup [.str "zero"]))) b1 (.frz u1 (.tup [.str "one"]))) (.ref b0) Sh.zero.key := Dn.fk (.new m1) _ _ (.tup upd_same e0 (.cons (.str _) .nil))
    have k1 : Dn (upd (upd (upd H2 D (.ext φ)) b0 (.frz u0 (.tup [.str "zero"]))) b1 (.frz u1 (.tup [.str "one"]))) (.ref b1) Sh.one.key := .tup upd_same e1 (.cons (.str _) .nil)
    generalize hH3 : upd (upd (upd H2 D (.ext φ)) b0 (.frz u0 (.tup [.str "zero"]))) b1 (.frz u1 (.tup [.str "one"])) = H3 at s3 k0 k1 ⊢
    have hD3 : NDict P w H3 D [] := hD.same s3
    refine ⟨hD3, [(Sh.zero.key, .int 0), (Sh.one.key, .int 1)], .cons ⟨⟨_, rfl⟩, k0, Sh.key_depth .zero, rfl⟩ (.cons ⟨⟨_, rfl⟩, k1, Sh.key_depth .one, rfl⟩ .nil), (by decide), fun φ' hD4 => ?_⟩
    have hp3 : (upd H3 D (.ext φ')) p = some (.ins A.C dx (putF "nodes" (.ref L) [])) := by
      rw [upd_ne pD]
      refine s3 _ _ ?_
      rw [upd_ne pD]
      exact hp2
    refine ⟨_, rfl, p, A.C, dx, _, rfl, hp3, T.cl, T.nU, (by show 1 < 1000; decide), ?_⟩
    have f3 : Fk H2 H3 := (Fk.new nD).trans (.of_same s3)
    have f4 : Fk H2 (upd H3 D (.ext φ')) := f3.trans (.upd hD3.nf)
    have f5 : Fk H2 (upd (upd H3 D (.ext φ')) p (.ins A.C dx (putF "numbers" (.ref D) (putF "nodes" (.ref L) [])))) := f4.trans (.upd (nf_ins hp3))
    have hL3 : (upd (upd H3 D (.ext φ')) p (.ins A.C dx (putF "numbers" (.ref D) (putF "nodes" (.ref L) [])))) L = some (.lst [.ref a0, .ref a1]) := by
      rw [upd_ne pL.symm, upd_ne LD]
      refine s3 _ _ ?_
      rw [upd_ne LD]
      exact hL2
    have ne01 : ¬ Sh.zero.key = Sh.one.key := fun z => by
      have := Sh.key_inj z
      cases this
    have em : mergeN [] [(Sh.zero.key, V.int 0), (Sh.one.key, V.int 1)] = [(Sh.zero.key, V.int 0), (Sh.one.key, V.int 1)] := by
      show putK (putK [] Sh.zero.key (V.int 0)) Sh.one.key (V.int 1) = _
      rw [putK_new (kvs := []) (V.int 0) rfl]
      rw [putK_new _ (by show valV [(Sh.zero.key, V.int 0)] _ = none; rw [valV_neg ne01]; rfl)]
      rfl
    rw [em] at hD4
    refine k L D _ nLH nDH ⟨⟨dx, upd_same⟩, ⟨_, hL3, .cons (Dn.fk (f2.trans f5) _ _ hz1) (.cons (Dn.fk (f2.trans f5) _ _ ho1) .nil)⟩, ⟨_, hD4.upd pD.symm (nf_ins hp3), Nat.le_refl _, fun i s hi => ?_, fun s v hv => ?_⟩, WF.start⟩ fun b o e hb => ?_
    · match i, hi with
      | 0, hi =>
        cases hi
        rw [valV_pos rfl]
        rfl
      | 1, hi =>
        cases hi
        rw [valV_neg ne01, valV_pos rfl]
        rfl
      | i + 2, hi => simp at hi
    · by_cases z : Sh.zero.key = s.key
      · rw [valV_pos z] at hv
        cases hv
        exact ⟨0, rfl, by rw [← Sh.key_inj z]; rfl⟩
      · rw [valV_neg z] at hv
        by_cases z1 : Sh.one.key = s.key
        · rw [valV_pos z1] at hv
          cases hv
          exact ⟨1, rfl, by rw [← Sh.key_inj z1]; rfl⟩
        · rw [valV_neg z1] at hv
          cases hv
    · have bD : b ≠ D := ne_of_none e nDH
      rw [upd_ne hb, upd_ne bD]
      refine s3 _ _ ?_
      rw [upd_ne bD]
      exact k2 _ _ e hb
end
end Ev

namespace Ev
open PySem PySem.Spec PyProof.Rows L2
def Sh.tag : Sh → Str
  | .zero => "zero"
  | .one => "one"
  | .fact _ => "fact"
  | .plus _ _ => "plus"
  | .times _ _ => "times"
  | .star _ => "star"
def Sh.isOp : Sh → Bool
  | .plus _ _ => true
  | .times _ _ => true
  | _ => false
theorem in_ops (s : Sh) : inV (.str s.tag) [.str "plus", .str "times"] = s.isOp := by
  cases s <;> (simp only [Sh.tag, Sh.isOp]; decide +kernel)
/-- the tuple of a node: its tag first -/
theorem sh_sq {K : PySem.W.Frag} {H : Hp} {a : Addr} {s : Sh} (h : Dn H (.ref a) s.key) : ∃ vs, SqT K H a vs ∧ vs[0]? = some (.str s.tag) := by
  cases s <;>
  · obtain ⟨b, vs, e, hs, ha⟩ := Dn.sq (K := K) h
    cases e
    cases ha with
    | cons h1 h2 =>
      cases h1
      exact ⟨_, hs, rfl⟩
theorem at0 {vs : List V} {v : V} (h : vs[0]? = some v) : atI vs 0 = some v := at_of rfl h
theorem at1 {vs : List V} {v : V} (h : vs[1]? = some v) : atI vs 1 = some v := at_of rfl h
/-- .. of two parts -/
theorem sh_op {K : PySem.W.Frag} {H : Hp} {a : Addr} {s : Sh} {i j : Nat} (hs : s = .plus i j ∨ s = .times i j) (h : Dn H (.ref a) s.key) : ∃ vs b, SqT K H a vs ∧ vs[1]? = some (.ref b) ∧ SqT K H b [.int i, .int j] := by
  rcases hs with rfl | rfl <;>
  · obtain ⟨a', vs, e, hs, ha⟩ := Dn.sq (K := K) h
    cases e
    cases ha with
    | cons h1 h2 =>
      cases h2 with
      | cons h2 h3 =>
        obtain ⟨b, ws, rfl, hs2, ha2⟩ := Dn.sq (K := K) h2
        cases ha2 with
        | cons p1 p2 =>
          cases p2 with
          | cons p2 p3 =>
            cases p3
            have e1 := p1.num_inv
            have e2 := p2.num_inv
            subst e1 e2
            exact ⟨_, b, hs, rfl, hs2⟩
/-- .. a fact's number, a star's node -/
theorem sh_one {K : PySem.W.Frag} {H : Hp} {a : Addr} {s : Sh} {i : Nat} (hs : s = .fact i ∨ s = .star i) (h : Dn H (.ref a) s.key) : ∃ vs, SqT K H a vs ∧ vs[1]? = some (.int i) := by
  rcases hs with rfl | rfl <;>
  · obtain ⟨a', vs, e, hs, ha⟩ := Dn.sq (K := K) h
    cases e
    cases ha with
    | cons h1 h2 =>
      cases h2 with
      | cons h2 h3 =>
        have e1 := h2.num_inv
        subst e1
        exact ⟨_, hs, rfl⟩
theorem same_new {H : Hp} {p : Addr} {o : HO} (n : H p = none) : Same H (upd H p o) := fun b u e => by rw [upd_ne (ne_of_none e n)]; exact e
theorem numbers_low {nodes : List Sh} (n : Nat) (h : n ≤ 1000) : ¬ (20000 : Int) ≤ (n : Int) := by omega
section
variable {P : Program} {w : World} {K : PySem.W.Frag} {mg : Str → Option Value} {base : Heap} {A : Ads}
theorem scWidth : FnScope ["self", "node"] ["self", "node"] (defScope sWidth) := ⟨rfl, rfl, rfl, by decide +kernel, rfl, by decide +kernel, by decide +kernel⟩
theorem ok_width (T : TxtC K mg A) (B : TxtB mg) : FnOk P w K mg base CX0 1 T.width.f T.width.fd ["self", "node"] spWidth := by
  refine T.width.F.ok scWidth (fun vs H Q E h => ?_) (fun cdv A' outer s H vs Q E hr h => ?_)
  · obtain ⟨p, a, s, rfl, _⟩ := h
    rfl
  · obtain ⟨p, a, s, rfl, hD, k⟩ := h
    refine ⟨_, pss_one (ps_ret (pe_ifExp (pt_cmpR op_in_seq (pe_ix ix_tup (pv 1) pe_int (fun _ _ => rfl)) (pe_tup (pa_cons pe_str (pa_cons pe_str pa_nil))) rfl)
      (pe_callB call_len_seq (by rfl) B.len PySem.boot_len (pa_cons (pe_ix ix_tup (pv 1) pe_int (fun _ _ => rfl)) pa_nil)) pe_int)), ?_⟩
    obtain ⟨ws, hs, h0⟩ := sh_sq (K := K) hD
    refine ⟨_, rfl, a, ws, 0, _, rfl, rfl, hs, at0 h0, ln2, fun t ht => ⟨t, _, rfl, .inr (SqT.of upd_same), rfl, rfl, _, rfl, ?_⟩⟩
    have e : (if false = true then !inV (V.str s.tag) [V.str "plus", V.str "times"] else inV (V.str s.tag) [V.str "plus", V.str "times"]) = s.isOp := by
      rw [if_neg Bool.false_ne_true]
      exact in_ops s
    rw [e]
    have sm := same_new (o := .tup [.str "plus", .str "times"]) ht
    have hD' := hD.same sm
    have op : ∀ i j, (s = .plus i j ∨ s = .times i j) → s.isOp = true := fun i j z => by rcases z with rfl | rfl <;> rfl
    cases hc : s.isOp with
    | false => exact k 1 _ (by omega) sm
    | true =>
      obtain ⟨i, j, hij⟩ : ∃ i j, s = .plus i j ∨ s = .times i j := by
        cases s with
        | plus i j => exact ⟨i, j, .inl rfl⟩
        | times i j => exact ⟨i, j, .inr rfl⟩
        | _ => cases hc
      obtain ⟨ws, b, hs, h1, hs2⟩ := sh_op (K := K) hij hD'
      exact ⟨_, rfl, a, ws, 1, _, rfl, rfl, hs, at1 h1, b, _, rfl, .inr hs2, k 2 _ (by omega) sm⟩
theorem scNumber : FnScope ["self", "node"] ["self", "node"] (defScope sNumber) := ⟨rfl, rfl, rfl, by decide +kernel, rfl, by decide +kernel, by decide +kernel⟩
theorem ok_number (T : TxtC K mg A) (B : TxtB mg) : FnOk P w K mg base CX0 2 T.number.f T.number.fd ["self", "node"] (spNumber P w A.C) := by
  have GW : FnOk P w K mg base CX0 1 T.width.f T.width.fd ["self", "node"] spWidth := ok_width T B
  refine T.number.F.ok scNumber (fun vs H Q E h => ?_) (fun cdv A' outer s H vs Q E hr h => ?_)
  · obtain ⟨p, a, L, D, nodes, s, rfl, _⟩ := h
    rfl
  · obtain ⟨p, a, L, D, nodes, s, rfl, hD, hC, hlen, hlow, nz, no, k⟩ := h
    obtain ⟨tN, gN⟩ := B.mostN
    obtain ⟨tP, gP⟩ := B.mostP
    have hu := hr.units
    refine ⟨_, pss_cons (ps_if (pt_cmpR (op_nnotin hu) (pv 1) (pe_fld (pv 0) rfl) rfl)
        (pss_cons (ps_if (PW.pt (pw_or (pt_cmpR op_ge (pe_callB call_len_seq (by rfl) B.len PySem.boot_len (pa_cons (pe_fld (pv 0) rfl) pa_nil)) (pe_glob (v := .int 20000) rfl gN ⟨_, rfl⟩) (nomark _))
            (pw_or1 (pt_cmpR op_gt (pe_meth (pv 0) T.cl T.width.m GW hr T.width.b .nil pass0 (pa_cons (pv 1) pa_nil)) (pe_glob (v := .int 2000) rfl gP ⟨_, rfl⟩) (nomark _))))) (pss_one ps_never) pss_nil)
        (pss_cons (ps_asg (pe_callB call_len_seq (by rfl) B.len PySem.boot_len (pa_cons (pe_fld (pv 0) rfl) pa_nil)) (pg_sub (pe_fld (pv 0) rfl) (pv 1) (set_nd hu)))
        (pss_one (ps_expr (pe_bm PySem.F.plainAttrs_list PySem.F.slot_list_append PySem.F.type_list_append mt_append (pe_fld (pv 0) rfl) (pa_cons (pv 1) pa_nil)))))) pss_nil)
      (pss_one (ps_ret (pe_ix (ix_nd hu) (pe_fld (pv 0) rfl) (pv 1) (fun _ _ => rfl)))), ?_⟩
    obtain ⟨hpL, hpD, hLD⟩ := hC.LD
    obtain ⟨⟨dx, h1⟩, ⟨ws, h2, h3⟩, ⟨kvs, h4, h5, h6, h7⟩, hw⟩ := id hC
    have hws : ws.length = nodes.length := by rw [h3.length, List.length_map]
    -- if node not in self.numbers
    refine ⟨_, rfl, _, rfl, p, A.C, dx, _, _, rfl, h1, T.cl, T.nU, cf_numbers _ _, s.key, a, D, kvs, rfl, rfl, hD, s.key_depth, h4, _, rfl, ?_⟩
    rw [if_pos rfl]
    cases ev : valV kvs s.key with
    | some v =>
      refine iteF ?_
      obtain ⟨i, rfl, hi⟩ := h7 s v ev
      refine ⟨_, rfl, p, A.C, dx, _, _, rfl, h1, T.cl, T.nU, cf_numbers _ _, _, rfl, s.key, a, D, kvs, _, rfl, rfl, hD, s.key_depth, h4, ev, ?_⟩
      exact k i nodes H hi (.inl rfl) hC (.refl _ _ _)
    | none =>
      refine iteT ?_
      -- if len(self.nodes) >= MOST_NODES or self.width(node) > MOST_PARTS
      refine ⟨_, rfl, p, A.C, dx, _, _, rfl, h1, T.cl, T.nN, cf_nodes _ _, L, ws, rfl, .inl (SqL.of h2), _, _, rfl, rfl, _, rfl, ?_⟩
      rw [decide_eq_false (by rw [hws]; omega)]
      refine iteF ?_
      refine ⟨_, rfl, p, dx, _, rfl, h1, cf_no _ _ (by decide +kernel) (by decide +kernel), _, rfl, p, a, s, rfl, hD, fun n H1 hn s1 => ⟨_, _, rfl, rfl, _, rfl, ?_⟩⟩
      rw [decide_eq_false (by omega)]
      refine iteF ?_
      have h1' := s1 _ _ h1
      have h2' := s1 _ _ h2
      have h4' := h4.same s1
      -- self.numbers[node] = len(self.nodes)
      refine ⟨_, rfl, p, A.C, dx, _, _, rfl, h1', T.cl, T.nN, cf_nodes _ _, L, ws, rfl, .inl (SqL.of h2'), ?_⟩
      refine ⟨_, rfl, p, A.C, dx, _, _, rfl, h1', T.cl, T.nU, cf_numbers _ _, _, rfl, s.key, a, D, kvs, rfl, rfl, hD.same s1, s.key_depth, h4', Nat.lt_of_le_of_lt (Nat.le_trans h5 hlen) (by rw [sizeLine_eq]; decide), fun φ hd => ?_⟩
      have h1d : (upd H1 D (.ext φ)) p = some (.ins A.C dx (cf L D)) := by rw [upd_ne hpD]; exact h1'
      have h2d : (upd H1 D (.ext φ)) L = some (.lst ws) := by rw [upd_ne hLD]; exact h2'
      -- self.nodes.append(node)
      refine ⟨_, rfl, p, A.C, dx, _, _, rfl, h1d, T.cl, T.nN, cf_nodes _ _, .inl ⟨rfl, _, SqL.of h2d⟩, _, rfl, L, ws, _, rfl, rfl, h2d, Nat.lt_of_le_of_lt (Nat.le_of_eq hws) (Nat.lt_of_le_of_lt hlen (by rw [sizeLine_eq]; decide)), ?_⟩
      have fk : Fk H (upd (upd H1 D (.ext φ)) L (.lst (ws ++ [.ref a]))) := ((Fk.of_same s1).trans (.upd h4'.nf)).trans (.upd (nf_lst h2d))
      have h4f : NDict P w (upd (upd H1 D (.ext φ)) L (.lst (ws ++ [.ref a]))) D (putK kvs s.key (.int (ws.length : Nat))) := hd.upd hLD.symm (nf_lst h2d)
      have hnew : valV (putK kvs s.key (V.int (ws.length : Nat))) s.key = some (.int (ws.length : Nat)) := by rw [valV_put, if_pos rfl]
      refine ⟨_, rfl, p, A.C, dx, _, _, rfl, (by rw [upd_ne hpL]; exact h1d), T.cl, T.nU, cf_numbers _ _, _, rfl, s.key, a, D, _, _, rfl, rfl, Dn.fk fk _ _ hD, s.key_depth, h4f, hnew, ?_⟩
      have hd3 : DnAll (upd (upd H1 D (.ext φ)) L (.lst (ws ++ [.ref a]))) (ws ++ [.ref a]) ((nodes ++ [s]).map Sh.key) := by
        refine DnAll.of_get (by simp [hws]) fun i v kk e1 e2 => ?_
        rw [List.getElem?_map] at e2
        cases en : (nodes ++ [s])[i]? with
        | none =>
          rw [en] at e2
          cases e2
        | some sh =>
          rw [en] at e2
          have ek : sh.key = kk := Option.some.inj e2
          subst ek
          rcases get_of_more en with q | ⟨q1, q2⟩
          · have hi : i < ws.length := by
              rw [hws]
              exact (List.getElem?_eq_some_iff.mp q).1
            rw [List.getElem?_append_left hi] at e1
            obtain ⟨v', q3, q4⟩ := h3.get (i := i) (k := sh.key) (by rw [List.getElem?_map, q]; rfl)
            rw [e1] at q3
            cases q3
            exact Dn.fk fk _ _ q4
          · subst q1 q2
            rw [← hws] at e1
            rw [List.getElem?_append_right (Nat.le_refl _)] at e1
            simp at e1
            subst e1
            exact Dn.fk fk _ _ hD
      refine k ws.length (nodes ++ [s]) _ (by rw [hws]; exact get_last) (.inr rfl) ⟨⟨dx, (by rw [upd_ne hpL]; exact h1d)⟩, ⟨_, upd_same, hd3⟩, ⟨_, h4f, ?_, fun i t hi => ?_, fun t v hv => ?_⟩, hw.more hlow nz no⟩ fun b o e hb1 hb2 => ?_
      · rw [putK_new _ ev]
        simp only [List.length_append, List.length_cons, List.length_nil]
        omega
      · rw [valV_put]
        rcases get_of_more hi with q | ⟨q1, q2⟩
        · have ne : ¬ t.key = s.key := fun z => by
            have := h6 i t q
            rw [z, ev] at this
            cases this
          rw [if_neg ne]
          exact h6 i t q
        · subst q1 q2
          rw [if_pos rfl, hws]
      · rw [valV_put] at hv
        by_cases z : t.key = s.key
        · rw [if_pos z] at hv
          cases hv
          refine ⟨ws.length, rfl, ?_⟩
          rw [Sh.key_inj z, hws]
          exact get_last
        · rw [if_neg z] at hv
          obtain ⟨i, q1, q2⟩ := h7 t v hv
          exact ⟨i, q1, get_more q2⟩
      · rw [upd_ne hb1, upd_ne hb2]
        exact s1 _ _ e
end
end Ev

namespace Ev
open PySem PySem.Spec PyProof.Rows L2
/-- the store behind a change: at most one node more, no star -/
def Grow (nodes nodes' : List Sh) : Prop := nodes' = nodes ∨ ∃ s : Sh, (∀ i, s ≠ .star i) ∧ nodes' = nodes ++ [s]
def OutG (P : Program) (w : World) (C p L D : Addr) (nodes : List Sh) (Q : VK) (H : Hp) : Prop :=
  ∀ (i : Nat) (nodes' : List Sh) (H' : Hp), i < nodes'.length → Grow nodes nodes' → CircAt P w C H' p L D nodes' → Kept2 L D H H' → Q (.int i) H'
abbrev nV (n : Nat) : V := V.int (n : Int)
def spFact (P : Program) (w : World) (C : Addr) : Sp := fun vs H Q _ => ∃ (p L D : Addr) (k : Nat) (nodes : List Sh), vs = [.ref p, nV k] ∧ k < 4 ∧ CircAt P w C H p L D nodes ∧ nodes.length ≤ 1000 ∧ OutN P w C p L D nodes (.fact k) Q H
def spOp (P : Program) (w : World) (K : PySem.W.Frag) (C : Addr) : Sp := fun vs H Q _ => ∃ (p l L D : Addr) (ns : List Nat) (nodes : List Sh), vs = [.ref p, .ref l] ∧ SqL K H l (ns.map nV) ∧ ns.length ≤ 2 ∧ (∀ n ∈ ns, n < nodes.length) ∧
  CircAt P w C H p L D nodes ∧ nodes.length ≤ 1000 ∧ OutG P w C p L D nodes Q H
def spStar (P : Program) (w : World) (C : Addr) : Sp := fun vs H Q _ => ∃ (p L D : Addr) (n : Nat) (nodes : List Sh), vs = [.ref p, nV n] ∧ n ≠ 0 ∧ n < nodes.length ∧ CircAt P w C H p L D nodes ∧ nodes.length ≤ 1000 ∧ OutN P w C p L D nodes (.star n) Q H
def spShown (P : Program) (w : World) (C : Addr) : Sp := fun vs H Q _ => ∃ (p L D : Addr) (n : Nat) (nodes : List Sh) (s : Sh), vs = [.ref p, nV n] ∧ CircAt P w C H p L D nodes ∧ nodes[n]? = some s ∧ ∀ a, Dn H (.ref a) s.key → Q (.ref a) H
theorem filt_take {α : Type} (f : α → Bool) {xs : List α} {i : Nat} {x : α} (h : xs[i]? = some x) : (xs.take (i + 1)).filter f = if f x = true then (xs.take i).filter f ++ [x] else (xs.take i).filter f := by
  have e : xs.take (i + 1) = xs.take i ++ [x] := by
    rw [List.take_add_one, h]
    rfl
  rw [e, List.filter_append, List.filter_cons]
  split <;> simp
theorem of_filt {ns : List Nat} {f : Nat → Bool} {zs : List Int} (h : zs.Perm ((ns.filter f).map fun n : Nat => (n : Int))) : ∃ ms : List Nat, zs = ms.map (fun n : Nat => (n : Int)) ∧ (∀ m ∈ ms, m ∈ ns) ∧ ms.length ≤ ns.length := by
  obtain ⟨ms, h1, h2⟩ := perm_lift (fun n : Nat => (n : Int)) h (ns.filter f) rfl
  refine ⟨ms, h2.symm, fun m hm => (List.mem_filter.mp (h1.mem_iff.mp hm)).1, ?_⟩
  rw [h1.length_eq]
  exact List.length_filter_le _ _
theorem map_nV (ms : List Nat) : (ms.map (fun n : Nat => (n : Int))).map V.int = ms.map nV := by rw [List.map_map]; rfl
theorem decV (a b : Int) : decide (V.int a = V.int b) = decide (a = b) := by rw [dec_int, Bool.beq_eq_decide_eq]
section
variable {P : Program} {w : World} {K : PySem.W.Frag} {mg : Str → Option Value} {base : Heap} {A : Ads}
theorem scFact : FnScope ["self", "k"] ["self", "k"] (defScope sFact) := ⟨rfl, rfl, rfl, by decide +kernel, rfl, by decide +kernel, by decide +kernel⟩
theorem ok_fact (T : TxtC K mg A) (B : TxtB mg) : FnOk P w K mg base CX0 3 T.fact.f T.fact.fd ["self", "k"] (spFact P w A.C) := by
  have GN : FnOk P w K mg base CX0 2 T.number.f T.number.fd ["self", "node"] (spNumber P w A.C) := ok_number T B
  refine T.fact.F.ok scFact (fun vs H Q E h => ?_) (fun cdv A' outer s H vs Q E hr h => ?_)
  · obtain ⟨p, L, D, k, nodes, rfl, _⟩ := h
    rfl
  · obtain ⟨p, L, D, n, nodes, rfl, h4, hC, hlen, k⟩ := h
    refine ⟨_, pss_one (ps_ret (pe_meth (pv 0) T.cl T.number.m GN hr T.number.b .nil pass0 (pa_cons (pe_tupF (pa_cons pe_str (pa_cons (pv 1) pa_nil))) pa_nil))), ?_⟩
    obtain ⟨dx, h1⟩ := hC.ob
    refine ⟨_, rfl, p, dx, _, rfl, h1, cf_no _ _ (by decide +kernel) (by decide +kernel), _, rfl, ln2, fun a o n0 d0 => ?_⟩
    have sm := same_new (o := .frz o (.tup [.str "fact", nV n])) n0
    refine ⟨p, a, L, D, nodes, .fact n, rfl, .tup upd_same d0 (.cons (.str _) (.cons (.int _) .nil)), hC.same sm, hlen, h4, (fun z => nomatch z), (fun z => nomatch z), fun i nodes' H' e1 e2 e3 e4 => ?_⟩
    exact k i nodes' H' e1 e2 e3 ((Kept2.of_same sm).trans e4)
theorem scStar : FnScope ["self", "node"] ["self", "node"] (defScope sStar) := ⟨rfl, rfl, rfl, by decide +kernel, rfl, by decide +kernel, by decide +kernel⟩
theorem ok_star (T : TxtC K mg A) (B : TxtB mg) : FnOk P w K mg base CX0 3 T.star.f T.star.fd ["self", "node"] (spStar P w A.C) := by
  have GN : FnOk P w K mg base CX0 2 T.number.f T.number.fd ["self", "node"] (spNumber P w A.C) := ok_number T B
  refine T.star.F.ok scStar (fun vs H Q E h => ?_) (fun cdv A' outer s H vs Q E hr h => ?_)
  · obtain ⟨p, L, D, n, nodes, rfl, _⟩ := h
    rfl
  · obtain ⟨p, L, D, n, nodes, rfl, hn, hlt, hC, hlen, k⟩ := h
    obtain ⟨t0, g0⟩ := B.zero
    obtain ⟨t1, g1⟩ := B.one
    refine ⟨_, pss_cons (ps_if (pt_cmpR op_eq (pv 1) (pe_glob (v := .int 0) rfl g0 ⟨_, rfl⟩) (nomark _)) (pss_one (ps_ret (pe_glob (v := .int 1) rfl g1 ⟨_, rfl⟩))) pss_nil)
      (pss_one (ps_ret (pe_meth (pv 0) T.cl T.number.m GN hr T.number.b .nil pass0 (pa_cons (pe_tupF (pa_cons pe_str (pa_cons (pv 1) pa_nil))) pa_nil)))), ?_⟩
    refine ⟨_, rfl, rfl, _, rfl, ?_⟩
    rw [decV, decide_eq_false (by omega)]
    refine iteF ?_
    obtain ⟨dx, h1⟩ := hC.ob
    refine ⟨_, rfl, p, dx, _, rfl, h1, cf_no _ _ (by decide +kernel) (by decide +kernel), _, rfl, ln2, fun a o n0 d0 => ?_⟩
    have sm := same_new (o := .frz o (.tup [.str "star", nV n])) n0
    refine ⟨p, a, L, D, nodes, .star n, rfl, .tup upd_same d0 (.cons (.str _) (.cons (.int _) .nil)), hC.same sm, hlen, hlt, (fun z => nomatch z), (fun z => nomatch z), fun i nodes' H' e1 e2 e3 e4 => ?_⟩
    exact k i nodes' H' e1 e2 e3 ((Kept2.of_same sm).trans e4)
theorem scShown : FnScope ["self", "node"] ["self", "node"] (defScope sShown) := ⟨rfl, rfl, rfl, by decide +kernel, rfl, by decide +kernel, by decide +kernel⟩
/-- the n-th node's tuple -/
theorem node_at {H : Hp} {p L D : Addr} {nodes : List Sh} {n : Nat} {s : Sh} (hC : CircAt P w A.C H p L D nodes) (hn : nodes[n]? = some s) : ∃ dx ws a, H p = some (.ins A.C dx (cf L D)) ∧ H L = some (.lst ws) ∧ atI ws (n : Int) = some (.ref a) ∧ Dn H (.ref a) s.key := by
  obtain ⟨⟨dx, h1⟩, ⟨ws, h2, h3⟩, _, _⟩ := hC
  obtain ⟨v, e1, e2⟩ := h3.get (i := n) (k := s.key) (by rw [List.getElem?_map, hn]; rfl)
  obtain ⟨a, rfl⟩ : ∃ a, v = .ref a := by
    cases s <;>
    · obtain ⟨a, _, _, e, _⟩ := e2.tup_inv
      exact ⟨a, e⟩
  exact ⟨dx, ws, a, h1, h2, at_of rfl e1, e2⟩
theorem ok_shown (T : TxtC K mg A) : FnOk P w K mg base CX0 1 T.shown.f T.shown.fd ["self", "node"] (spShown P w A.C) := by
  refine T.shown.F.ok scShown (fun vs H Q E h => ?_) (fun cdv A' outer s H vs Q E hr h => ?_)
  · obtain ⟨p, L, D, n, nodes, s, rfl, _⟩ := h
    rfl
  · obtain ⟨p, L, D, n, nodes, s, rfl, hC, hn, k⟩ := h
    refine ⟨_, pss_one (ps_ret (pe_ix ix_list (pe_fld (pv 0) rfl) (pv 1) (fun _ _ => rfl))), ?_⟩
    obtain ⟨dx, ws, a, h1, h2, ha, hD⟩ := node_at hC hn
    exact ⟨_, rfl, p, A.C, dx, _, _, rfl, h1, T.cl, T.nN, cf_nodes _ _, _, rfl, L, ws, _, _, rfl, rfl, SqL.of h2, ha, k a hD⟩
theorem scPlus : FnScope ["self", "nodes", "left", "node"] ["self", "nodes"] (defScope sPlus) := ⟨rfl, rfl, rfl, by decide +kernel, rfl, by decide +kernel, by decide +kernel⟩
theorem ok_plus (T : TxtC K mg A) (B : TxtB mg) : FnOk P w K mg base CX0 3 T.plus.f T.plus.fd ["self", "nodes"] (spOp P w K A.C) := by
  have GN : FnOk P w K mg base CX0 2 T.number.f T.number.fd ["self", "node"] (spNumber P w A.C) := ok_number T B
  refine T.plus.F.ok scPlus (fun vs H Q E h => ?_) (fun cdv A' outer s H vs Q E hr h => ?_)
  · obtain ⟨p, l, L, D, ns, nodes, rfl, _⟩ := h
    rfl
  · obtain ⟨p, l, L, D, ns, nodes, rfl, hS, hl2, hlow, hC, hlen, k⟩ := h
    obtain ⟨t0, g0⟩ := B.zero
    refine ⟨_, pss_cons (ps_set (i := 2) scPlus.nd rfl (.inl rfl) (pe_callB cr_sorted (by rfl) B.sorted (by decide +kernel) (pa_cons
        (pe_lc (own := [("node", 3)]) (g := gName 3) (by rfl) scPlus.nd (pi_list (pv 1)) (blkOk_by (N := ["self", "nodes", "left", "node"]) (sc := defScope sPlus) (by decide +kernel)) (fun _ _ _ _ _ => pg_name (i := 3) scPlus.nd rfl (.inl rfl))
          (fun _ _ _ _ _ => pts_one (pt_cmpR op_ne (pv 3) (pe_glob (v := .int 0) rfl g0 ⟨_, rfl⟩) (nomark _))) (fun _ _ _ _ _ => pv 3)) pa_nil)))
      (pss_cons (ps_if (pt_cmpR op_eq (pe_callB call_len_seq (by rfl) B.len PySem.boot_len (pa_cons (pv 2) pa_nil)) pe_int (nomark _)) (pss_one (ps_ret (pe_glob (v := .int 0) rfl g0 ⟨_, rfl⟩))) pss_nil)
      (pss_cons (ps_if (pt_cmpR op_eq (pe_callB call_len_seq (by rfl) B.len PySem.boot_len (pa_cons (pv 2) pa_nil)) pe_int (nomark _)) (pss_one (ps_ret (pe_ix ix_list (pv 2) pe_int (fun _ _ => rfl)))) pss_nil)
      (pss_one (ps_ret (pe_meth (pv 0) T.cl T.number.m GN hr T.number.b .nil pass0 (pa_cons (pe_tupF (pa_cons pe_str (pa_cons (pe_callTy cr_tupF (by rfl) B.tuple (by decide +kernel) (pa_cons (pv 2) pa_nil)) pa_nil))) pa_nil)))))), ?_⟩
    refine ⟨_, rfl, l, rfl, ⟨_, hS⟩, fun F hF => lc_list (K := K) (a := l) (xs := ns.map nV) (fun i H1 => Same H H1 ∧ H1 F = some (.lst (((ns.take i).filter fun n => !decide (n = 0)).map nV)))
      ⟨same_new hF, upd_same⟩ (fun i H1 _ ⟨s1, _⟩ => s1.seq hS) ?_ ?_⟩
    · rintro i x H1 hi ⟨s1, hF1⟩
      rw [List.getElem?_map] at hi
      cases hn : ns[i]? with
      | none =>
        rw [hn] at hi
        cases hi
      | some n =>
        rw [hn] at hi
        have ex : nV n = x := Option.some.inj hi
        subst ex
        have ft := filt_take (fun n => !decide (n = 0)) hn
        refine ⟨rfl, _, rfl, rfl, _, rfl, ?_⟩
        rw [decV]
        by_cases hz : n = 0
        · rw [if_neg (by simp [hz])] at ft ⊢
          rw [ft]
          exact ⟨s1, hF1⟩
        · rw [if_pos (by simp [hz])] at ft
          rw [if_pos (by simp; omega)]
          refine ⟨_, rfl, _, hF1, ?_, fun b o e => ?_, ?_⟩
          · rw [List.length_map]
            refine Nat.lt_of_le_of_lt (List.length_filter_le _ _) (Nat.lt_of_le_of_lt (List.length_take_le' _ _) (Nat.lt_of_le_of_lt hl2 (by rw [sizeLine_eq]; decide)))
          · rw [upd_ne (ne_of_none e hF)]
            exact s1 _ _ e
          · rw [upd_same, ft, List.map_append]
            rfl
    · rintro H1 ⟨s1, hF1⟩
      rw [List.length_map, List.take_length] at hF1
      refine ⟨F, (ns.filter fun n => !decide (n = 0)).map (fun n : Nat => (n : Int)), rfl, SqL.of (by rw [map_nV]; exact hF1), ?_, fun zs q hperm _ hq => ?_⟩
      · rw [List.length_map]
        exact Nat.lt_of_le_of_lt (List.length_filter_le _ _) (by omega)
      obtain ⟨ms, rfl, hms, hml⟩ := of_filt hperm
      rw [map_nV]
      have s2 : Same H (upd H1 q (.lst (ms.map nV))) := s1.trans (same_new hq)
      have hq2 : SqL K (upd H1 q (.lst (ms.map nV))) q (ms.map nV) := SqL.of upd_same
      generalize upd H1 q (.lst (ms.map nV)) = H2 at s2 hq2
      have hC2 := hC.same s2
      have hzl : (ms.map nV).length = ms.length := List.length_map _
      refine ⟨_, rfl, q, _, rfl, .inl hq2, rfl, _, rfl, ?_⟩
      rw [decV, hzl]
      match ms, hms, hml, hq2 with
      | [], _, _, _ =>
        refine iteT ?_
        exact k 0 nodes H2 (by have := (List.getElem?_eq_some_iff.mp hC.wf.z).1; exact this) (.inl rfl) hC2 (.of_same s2)
      | [m], hms, _, hq2 =>
        refine iteF ?_
        refine ⟨_, rfl, q, _, rfl, .inl hq2, rfl, _, rfl, iteT ?_⟩
        refine ⟨_, rfl, q, _, _, _, rfl, rfl, hq2, at0 rfl, ?_⟩
        exact k m nodes H2 (hlow m (hms m List.mem_cons_self)) (.inl rfl) hC2 (.of_same s2)
      | [m, m'], hms, _, hq2 =>
        refine iteF ?_
        refine ⟨_, rfl, q, _, rfl, .inl hq2, rfl, _, rfl, iteF ?_⟩
        obtain ⟨dx, h1⟩ := hC2.ob
        refine ⟨_, rfl, p, dx, _, rfl, h1, cf_no _ _ (by decide +kernel) (by decide +kernel), _, rfl, q, _, rfl, hq2, fun a o n0 d0 => ⟨ln2, fun a2 o2 n2 d2 => ?_⟩⟩
        have s3 := s2.trans ((same_new (o := .frz o (.tup [nV m, nV m'])) n0).trans (same_new (o := .frz o2 (.tup [.str "plus", .ref a])) n2))
        have hin : Dn (upd H2 a (.frz o (.tup [nV m, nV m']))) (.ref a) (.tup [.num m, .num m']) := .tup upd_same d0 (.cons (.int _) (.cons (.int _) .nil))
        have hD : Dn (upd (upd H2 a (.frz o (.tup [nV m, nV m']))) a2 (.frz o2 (.tup [.str "plus", .ref a]))) (.ref a2) (Sh.plus m m').key := .tup upd_same d2 (.cons (.str _) (.cons (Dn.fk (.new n2) _ _ hin) .nil))
        refine ⟨p, a2, L, D, nodes, .plus m m', rfl, hD, hC.same s3, hlen, ⟨hlow m (hms m List.mem_cons_self), hlow m' (hms m' (List.mem_cons_of_mem _ List.mem_cons_self))⟩, (fun z => nomatch z), (fun z => nomatch z), fun i nodes' H' e1 e2 e3 e4 => ?_⟩
        exact k i nodes' H' (List.getElem?_eq_some_iff.mp e1).1 (e2.imp id fun z => ⟨.plus m m', (fun _ y => nomatch y), z⟩) e3 ((Kept2.of_same s3).trans e4)
      | _ :: _ :: _ :: _, _, hml, _ =>
        simp only [List.length_cons] at hml
        omega
end
end Ev

namespace Ev
open PySem PySem.Spec PyProof.Rows L2
section
variable {P : Program} {w : World} {K : PySem.W.Frag} {mg : Str → Option Value} {base : Heap} {A : Ads}
theorem scTimes : FnScope ["self", "nodes", "left", "node"] ["self", "nodes"] (defScope sTimes) := ⟨rfl, rfl, rfl, by decide +kernel, rfl, by decide +kernel, by decide +kernel⟩
theorem ok_times (T : TxtC K mg A) (B : TxtB mg) : FnOk P w K mg base CX0 3 T.times.f T.times.fd ["self", "nodes"] (spOp P w K A.C) := by
  have GN : FnOk P w K mg base CX0 2 T.number.f T.number.fd ["self", "node"] (spNumber P w A.C) := ok_number T B
  refine T.times.F.ok scTimes (fun vs H Q E h => ?_) (fun cdv A' outer s H vs Q E hr h => ?_)
  · obtain ⟨p, l, L, D, ns, nodes, rfl, _⟩ := h
    rfl
  · obtain ⟨p, l, L, D, ns, nodes, rfl, hS, hl2, hlow, hC, hlen, k⟩ := h
    obtain ⟨t0, g0⟩ := B.zero
    obtain ⟨t1, g1⟩ := B.one
    refine ⟨_, pss_cons (ps_if (pt_cmpR op_in_seq (pe_glob (v := .int 0) rfl g0 ⟨_, rfl⟩) (pv 1) rfl) (pss_one (ps_ret (pe_glob (v := .int 0) rfl g0 ⟨_, rfl⟩))) pss_nil) (pss_cons (ps_set (i := 2) scTimes.nd rfl (.inl rfl) (pe_callB cr_sorted (by rfl) B.sorted (by decide +kernel) (pa_cons
        (pe_lc (own := [("node", 3)]) (g := gName 3) (by rfl) scTimes.nd (pi_list (pv 1)) (blkOk_by (N := ["self", "nodes", "left", "node"]) (sc := defScope sTimes) (by decide +kernel)) (fun _ _ _ _ _ => pg_name (i := 3) scTimes.nd rfl (.inl rfl))
          (fun _ _ _ _ _ => pts_one (pt_cmpR op_ne (pv 3) (pe_glob (v := .int 1) rfl g1 ⟨_, rfl⟩) (nomark _))) (fun _ _ _ _ _ => pv 3)) pa_nil)))
      (pss_cons (ps_if (pt_cmpR op_eq (pe_callB call_len_seq (by rfl) B.len PySem.boot_len (pa_cons (pv 2) pa_nil)) pe_int (nomark _)) (pss_one (ps_ret (pe_glob (v := .int 1) rfl g1 ⟨_, rfl⟩))) pss_nil)
      (pss_cons (ps_if (pt_cmpR op_eq (pe_callB call_len_seq (by rfl) B.len PySem.boot_len (pa_cons (pv 2) pa_nil)) pe_int (nomark _)) (pss_one (ps_ret (pe_ix ix_list (pv 2) pe_int (fun _ _ => rfl)))) pss_nil)
      (pss_one (ps_ret (pe_meth (pv 0) T.cl T.number.m GN hr T.number.b .nil pass0 (pa_cons (pe_tupF (pa_cons pe_str (pa_cons (pe_callTy cr_tupF (by rfl) B.tuple (by decide +kernel) (pa_cons (pv 2) pa_nil)) pa_nil))) pa_nil))))))), ?_⟩
    have flat : (ns.map nV).all flatV = true := by
      rw [List.all_eq_true]
      intro v hv
      obtain ⟨n, _, rfl⟩ := List.mem_map.mp hv
      rfl
    refine ⟨_, rfl, l, _, rfl, .inl hS, rfl, flat, _, rfl, ?_⟩
    rw [if_neg Bool.false_ne_true]
    cases inV (V.int 0) (ns.map nV) with
    | true => exact k 0 nodes H (List.getElem?_eq_some_iff.mp hC.wf.z).1 (.inl rfl) hC (.refl _ _ _)
    | false =>
    refine iteF ?_
    refine ⟨_, rfl, l, rfl, ⟨_, hS⟩, fun F hF => lc_list (K := K) (a := l) (xs := ns.map nV) (fun i H1 => Same H H1 ∧ H1 F = some (.lst (((ns.take i).filter fun n => !decide (n = 1)).map nV)))
      ⟨same_new hF, upd_same⟩ (fun i H1 _ ⟨s1, _⟩ => s1.seq hS) ?_ ?_⟩
    · rintro i x H1 hi ⟨s1, hF1⟩
      rw [List.getElem?_map] at hi
      cases hn : ns[i]? with
      | none =>
        rw [hn] at hi
        cases hi
      | some n =>
        rw [hn] at hi
        have ex : nV n = x := Option.some.inj hi
        subst ex
        have ft := filt_take (fun n => !decide (n = 1)) hn
        refine ⟨rfl, _, rfl, rfl, _, rfl, ?_⟩
        rw [decV]
        by_cases hz : n = 1
        · rw [if_neg (by simp [hz])] at ft ⊢
          rw [ft]
          exact ⟨s1, hF1⟩
        · rw [if_pos (by simp [hz])] at ft
          rw [if_pos (by simp; omega)]
          refine ⟨_, rfl, _, hF1, ?_, fun b o e => ?_, ?_⟩
          · rw [List.length_map]
            refine Nat.lt_of_le_of_lt (List.length_filter_le _ _) (Nat.lt_of_le_of_lt (List.length_take_le' _ _) (Nat.lt_of_le_of_lt hl2 (by rw [sizeLine_eq]; decide)))
          · rw [upd_ne (ne_of_none e hF)]
            exact s1 _ _ e
          · rw [upd_same, ft, List.map_append]
            rfl
    · rintro H1 ⟨s1, hF1⟩
      rw [List.length_map, List.take_length] at hF1
      refine ⟨F, (ns.filter fun n => !decide (n = 1)).map (fun n : Nat => (n : Int)), rfl, SqL.of (by rw [map_nV]; exact hF1), ?_, fun zs q hperm _ hq => ?_⟩
      · rw [List.length_map]
        exact Nat.lt_of_le_of_lt (List.length_filter_le _ _) (by omega)
      obtain ⟨ms, rfl, hms, hml⟩ := of_filt hperm
      rw [map_nV]
      have s2 : Same H (upd H1 q (.lst (ms.map nV))) := s1.trans (same_new hq)
      have hq2 : SqL K (upd H1 q (.lst (ms.map nV))) q (ms.map nV) := SqL.of upd_same
      generalize upd H1 q (.lst (ms.map nV)) = H2 at s2 hq2
      have hC2 := hC.same s2
      have hzl : (ms.map nV).length = ms.length := List.length_map _
      refine ⟨_, rfl, q, _, rfl, .inl hq2, rfl, _, rfl, ?_⟩
      rw [decV, hzl]
      match ms, hms, hml, hq2 with
      | [], _, _, _ =>
        refine iteT ?_
        exact k 1 nodes H2 (List.getElem?_eq_some_iff.mp hC.wf.o).1 (.inl rfl) hC2 (.of_same s2)
      | [m], hms, _, hq2 =>
        refine iteF ?_
        refine ⟨_, rfl, q, _, rfl, .inl hq2, rfl, _, rfl, iteT ?_⟩
        refine ⟨_, rfl, q, _, _, _, rfl, rfl, hq2, at0 rfl, ?_⟩
        exact k m nodes H2 (hlow m (hms m List.mem_cons_self)) (.inl rfl) hC2 (.of_same s2)
      | [m, m'], hms, _, hq2 =>
        refine iteF ?_
        refine ⟨_, rfl, q, _, rfl, .inl hq2, rfl, _, rfl, iteF ?_⟩
        obtain ⟨dx, h1⟩ := hC2.ob
        refine ⟨_, rfl, p, dx, _, rfl, h1, cf_no _ _ (by decide +kernel) (by decide +kernel), _, rfl, q, _, rfl, hq2, fun a o n0 d0 => ⟨ln2, fun a2 o2 n2 d2 => ?_⟩⟩
        have s3 := s2.trans ((same_new (o := .frz o (.tup [nV m, nV m'])) n0).trans (same_new (o := .frz o2 (.tup [.str "times", .ref a])) n2))
        have hin : Dn (upd H2 a (.frz o (.tup [nV m, nV m']))) (.ref a) (.tup [.num m, .num m']) := .tup upd_same d0 (.cons (.int _) (.cons (.int _) .nil))
        have hD : Dn (upd (upd H2 a (.frz o (.tup [nV m, nV m']))) a2 (.frz o2 (.tup [.str "times", .ref a]))) (.ref a2) (Sh.times m m').key := .tup upd_same d2 (.cons (.str _) (.cons (Dn.fk (.new n2) _ _ hin) .nil))
        refine ⟨p, a2, L, D, nodes, .times m m', rfl, hD, hC.same s3, hlen, ⟨hlow m (hms m List.mem_cons_self), hlow m' (hms m' (List.mem_cons_of_mem _ List.mem_cons_self))⟩, (fun z => nomatch z), (fun z => nomatch z), fun i nodes' H' e1 e2 e3 e4 => ?_⟩
        exact k i nodes' H' (List.getElem?_eq_some_iff.mp e1).1 (e2.imp id fun z => ⟨.times m m', (fun _ y => nomatch y), z⟩) e3 ((Kept2.of_same s3).trans e4)
      | _ :: _ :: _ :: _, _, hml, _ =>
        simp only [List.length_cons] at hml
        omega
end
end Ev

namespace Ev
open PySem PySem.Spec PyProof.Rows L2
/-- m stands within n -/
inductive Reach (nodes : List Sh) (n : Nat) : Nat → Prop
  | refl : Reach nodes n n
  | step {m k : Nat} {s : Sh} : Reach nodes n m → nodes[m]? = some s → k ∈ s.parts → Reach nodes n k
theorem Sh.low_parts {s : Sh} {n k : Nat} (h : s.low n) (hk : k ∈ s.parts) : k < n := by
  cases s with
  | plus i j =>
    simp only [Sh.parts, List.mem_cons, List.not_mem_nil, or_false] at hk
    simp only [Sh.low] at h
    rcases hk with rfl | rfl
    · exact h.1
    · exact h.2
  | times i j =>
    simp only [Sh.parts, List.mem_cons, List.not_mem_nil, or_false] at hk
    simp only [Sh.low] at h
    rcases hk with rfl | rfl
    · exact h.1
    · exact h.2
  | star i =>
    simp only [Sh.parts, List.mem_cons, List.not_mem_nil, or_false] at hk
    simp only [Sh.low] at h
    subst hk
    exact h
  | zero => cases hk
  | one => cases hk
  | fact k => cases hk
theorem Reach.le {nodes : List Sh} (wf : WF nodes) {n m : Nat} (r : Reach nodes n m) : m ≤ n := by
  induction r with
  | refl => exact Nat.le_refl _
  | step _ h2 h3 ih => exact Nat.le_trans (Nat.le_of_lt (Sh.low_parts (wf.low _ _ h2) h3)) ih
theorem nodup_filter_ne {l : List Nat} {a : Nat} (h : l.Nodup) : l.length ≤ (l.filter fun x => !decide (x = a)).length + 1 := by
  induction l with
  | nil => simp
  | cons x l ih =>
    have h' := List.nodup_cons.mp h
    by_cases e : x = a
    · subst e
      have : l.filter (fun y => !decide (y = x)) = l := List.filter_eq_self.mpr fun y hy => by
        have : y ≠ x := fun z => h'.1 (z ▸ hy)
        simp [this]
      rw [List.filter_cons, if_neg (by simp), this]
      simp
    · rw [List.filter_cons, if_pos (by simp [e])]
      have := ih h'.2
      simp only [List.length_cons]
      omega
theorem nodup_lt : ∀ {N : Nat} {l : List Nat}, l.Nodup → (∀ x ∈ l, x < N) → l.length ≤ N
  | 0, l, _, h => by
    cases l with
    | nil => exact Nat.le_refl _
    | cons x l => exact absurd (h x List.mem_cons_self) (Nat.not_lt_zero _)
  | N + 1, l, hn, h => by
    have h1 := nodup_filter_ne (a := N) hn
    have h2 := nodup_lt (N := N) (l := l.filter fun x => !decide (x = N)) (hn.sublist List.filter_sublist) fun x hx => by
      obtain ⟨q1, q2⟩ := List.mem_filter.mp hx
      have := h x q1
      have : x ≠ N := by simpa using q2
      omega
    omega
def fKV (fs : List Nat) : List (L2.Key × V) := fs.map fun m : Nat => ((Sum.inl (m : Int) : L2.Key), V.bl true)
theorem fKV_val (k : Nat) : ∀ fs : List Nat, valV (fKV fs) (Sum.inl (k : Int) : L2.Key) = if k ∈ fs then some (.bl true) else none
  | [] => rfl
  | m :: fs => by
    have ih := fKV_val k fs
    by_cases e : m = k
    · subst e
      have : valV (fKV (m :: fs)) (Sum.inl (m : Int) : L2.Key) = some (.bl true) := valV_pos (p := ((Sum.inl (m : Int) : L2.Key), V.bl true)) rfl
      rw [this, if_pos List.mem_cons_self]
    · have : valV (fKV (m :: fs)) (Sum.inl (k : Int) : L2.Key) = valV (fKV fs) (Sum.inl (k : Int) : L2.Key) :=
        valV_neg (p := ((Sum.inl (m : Int) : L2.Key), V.bl true)) fun z => e (by have := Sum.inl.inj z; omega)
      rw [this, ih]
      by_cases h : k ∈ fs
      · rw [if_pos h, if_pos (List.mem_cons_of_mem _ h)]
      · rw [if_neg h, if_neg fun z => (List.mem_cons.mp z).elim (fun y => e y.symm) h]
theorem fKV_put {k : Nat} {fs : List Nat} (h : k ∉ fs) : putK (fKV fs) (Sum.inl (k : Int) : L2.Key) (.bl true) = fKV (fs ++ [k]) := by
  rw [putK_new _ (by rw [fKV_val, if_neg h])]
  unfold fKV
  rw [List.map_append]
  rfl
def spParts (P : Program) (w : World) (K : PySem.W.Frag) (C : Addr) : Sp := fun vs H Q _ => ∃ (p L D : Addr) (n : Nat) (nodes : List Sh) (s : Sh), vs = [.ref p, nV n] ∧ CircAt P w C H p L D nodes ∧ nodes[n]? = some s ∧
  ∀ (a : Addr) (H' : Hp), Same H H' → SqT K H' a (s.parts.map nV) → Q (.ref a) H'
def spWithin (P : Program) (w : World) (C : Addr) : Sp := fun vs H Q _ => ∃ (p L D : Addr) (n : Nat) (nodes : List Sh), vs = [.ref p, nV n] ∧ CircAt P w C H p L D nodes ∧ n < nodes.length ∧ nodes.length ≤ 50 ∧
  ∀ (ms : List Nat) (q : Addr) (H' : Hp), Same H H' → H' q = some (.lst (ms.map nV)) → ms.Pairwise (· ≤ ·) → (∀ m, m ∈ ms ↔ Reach nodes n m) → ms.length ≤ 50 → Q (.ref q) H'
theorem iteB {c : Bool} {A B : Prop} (hc : c = true) (h : A) : if c = true then A else B := by
  rw [if_pos hc]
  exact h
theorem iteBF {c : Bool} {A B : Prop} (hc : c = false) (h : B) : if c = true then A else B := by
  rw [hc]
  exact iteF h
theorem sqT_but {K : PySem.W.Frag} {H : Hp} {a F S : Addr} {xs ys zs : List V} {d e : List (L2.Key × V)} (h : SqT K H a xs) (hF : H F = some (.dK d)) (hS : H S = some (.lst ys)) (FS : F ≠ S) : SqT K (upd (upd H F (.dK e)) S (.lst zs)) a xs := by
  rcases h with (h | ⟨o, h⟩) | h
  · refine .inl (.inl ?_)
    rw [upd_ne (ne_of h hS (fun z => nomatch z)), upd_ne (ne_of h hF (fun z => nomatch z))]
    exact h
  · refine .inl (.inr ⟨o, ?_⟩)
    rw [upd_ne (ne_of h hS (fun z => nomatch z)), upd_ne (ne_of h hF (fun z => nomatch z))]
    exact h
  · exact .inr h
theorem tag_star (s : Sh) : decide (V.str s.tag = V.str "star") = (match s with | .star _ => true | _ => false) := by
  rw [dec_str]
  cases s <;> (simp only [Sh.tag]; decide +kernel)
section
variable {P : Program} {w : World} {K : PySem.W.Frag} {mg : Str → Option Value} {base : Heap} {A : Ads}
theorem scParts : FnScope ["self", "node", "told"] ["self", "node"] (defScope sParts) := ⟨rfl, rfl, rfl, by decide +kernel, rfl, by decide +kernel, by decide +kernel⟩
theorem ok_parts (T : TxtC K mg A) : FnOk P w K mg base CX0 1 T.parts.f T.parts.fd ["self", "node"] (spParts P w K A.C) := by
  refine T.parts.F.ok scParts (fun vs H Q E h => ?_) (fun cdv A' outer s H vs Q E hr h => ?_)
  · obtain ⟨p, L, D, n, nodes, s, rfl, _⟩ := h
    rfl
  · obtain ⟨p, L, D, n, nodes, s, rfl, hC, hn, k⟩ := h
    refine ⟨_, pss_cons (ps_set (i := 2) scParts.nd rfl (.inl rfl) (pe_ix ix_list (pe_fld (pv 0) rfl) (pv 1) (fun _ _ => rfl)))
      (pss_cons (ps_if (pt_cmpR op_in_seq (pe_ix ix_tup (pv 2) pe_int (fun _ _ => rfl)) (pe_tup (pa_cons pe_str (pa_cons pe_str pa_nil))) rfl) (pss_one (ps_ret (pe_ix ix_tup (pv 2) pe_int (fun _ _ => rfl)))) pss_nil)
      (pss_one (ps_ret (pe_ifExp (pt_cmpR op_eq (pe_ix ix_tup (pv 2) pe_int (fun _ _ => rfl)) pe_str (nomark _)) (pe_tup (pa_cons (pe_ix ix_tup (pv 2) pe_int (fun _ _ => rfl)) pa_nil)) (pe_tup pa_nil))))), ?_⟩
    obtain ⟨dx, ws, a, h1, h2, ha, hD⟩ := node_at hC hn
    refine ⟨_, rfl, p, A.C, dx, _, _, rfl, h1, T.cl, T.nN, cf_nodes _ _, _, rfl, L, ws, _, _, rfl, rfl, SqL.of h2, ha, ?_⟩
    obtain ⟨vs, hs, h0⟩ := sh_sq (K := K) hD
    refine ⟨_, rfl, a, vs, 0, _, rfl, rfl, hs, at0 h0, ln2, fun t ht => ⟨t, _, rfl, .inr (SqT.of upd_same), rfl, rfl, _, rfl, ?_⟩⟩
    have e : (if false = true then !inV (V.str s.tag) [V.str "plus", V.str "times"] else inV (V.str s.tag) [V.str "plus", V.str "times"]) = s.isOp := by
      rw [if_neg Bool.false_ne_true]
      exact in_ops s
    rw [e]
    have sm := same_new (o := .tup [.str "plus", .str "times"]) ht
    have hD' := hD.same sm
    cases hc : s.isOp with
    | true =>
      obtain ⟨i, j, hij⟩ : ∃ i j, s = .plus i j ∨ s = .times i j := by
        cases s with
        | plus i j => exact ⟨i, j, .inl rfl⟩
        | times i j => exact ⟨i, j, .inr rfl⟩
        | _ => cases hc
      obtain ⟨ws, b, hs, h1, hs2⟩ := sh_op (K := K) hij hD'
      refine ⟨_, rfl, a, ws, 1, _, rfl, rfl, hs, at1 h1, k b _ sm ?_⟩
      rcases hij with rfl | rfl <;> exact hs2
    | false =>
      obtain ⟨vs, hs, h0⟩ := sh_sq (K := K) hD'
      refine ⟨_, rfl, a, vs, 0, _, rfl, rfl, hs, at0 h0, rfl, _, rfl, ?_⟩
      rw [tag_star]
      cases s with
      | star i =>
        refine iteT ?_
        obtain ⟨ws, hs, h1⟩ := sh_one (K := K) (.inr rfl) hD'
        exact ⟨_, rfl, a, ws, 1, _, rfl, rfl, hs, at1 h1, ln1, fun u hu => k u _ (sm.trans (same_new hu)) (SqT.of upd_same)⟩
      | zero => exact ⟨ln0, fun u hu => k u _ (sm.trans (same_new hu)) (SqT.of upd_same)⟩
      | one => exact ⟨ln0, fun u hu => k u _ (sm.trans (same_new hu)) (SqT.of upd_same)⟩
      | fact _ => exact ⟨ln0, fun u hu => k u _ (sm.trans (same_new hu)) (SqT.of upd_same)⟩
      | plus _ _ => cases hc
      | times _ _ => cases hc
/-- what the walk keeps: fs are found, st are still to be looked at -/
structure WInv (nodes : List Sh) (n : Nat) (fs st : List Nat) : Prop where
  nd : fs.Nodup
  hn : n ∈ fs
  r : ∀ m ∈ fs, Reach nodes n m
  sub : ∀ m ∈ st, m ∈ fs
  le : st.length ≤ fs.length
theorem scWithin : FnScope ["self", "node", "found", "stack", "part"] ["self", "node"] (defScope sWithin) := ⟨rfl, rfl, rfl, by decide +kernel, rfl, by decide +kernel, by decide +kernel⟩
theorem ok_within (T : TxtC K mg A) (B : TxtB mg) : FnOk P w K mg base CX0 2 T.within.f T.within.fd ["self", "node"] (spWithin P w A.C) := by
  have GP : FnOk P w K mg base CX0 1 T.parts.f T.parts.fd ["self", "node"] (spParts P w K A.C) := ok_parts T
  refine T.within.F.ok scWithin (fun vs H Q E h => ?_) (fun cdv A' outer s H vs Q E hr h => ?_)
  · obtain ⟨p, L, D, n, nodes, rfl, _⟩ := h
    rfl
  · obtain ⟨p, L, D, n, nodes, rfl, hC, hn, hlen, k⟩ := h
    have hu := hu_of hr
    refine ⟨_, pss_cons (ps_set (i := 2) scWithin.nd rfl (.inl rfl) (pe_disp (pps_cons (pv 1) pe_bl pps_nil) rfl rfl (fun z => nomatch z) (by decide)))
      (pss_cons (ps_set (i := 3) scWithin.nd rfl (.inl rfl) (pe_lst (pa_cons (pv 1) pa_nil)))
      (pss_cons (ps_while PassesOwn.never (pt_truth (pv 3) (by intro _; rfl))
        (pss_one (ps_for PassesOwn.never rfl (pi_tup (pe_meth (pv 0) T.cl T.parts.m GP hr T.parts.b .nil pass0 (pa_cons (pe_bm0 PySem.F.plainAttrs_list PySem.F.slot_list_pop PySem.F.type_list_pop mt_pop (pv 3)) pa_nil)))
            (pg_name (i := 4) scWithin.nd rfl (.inl rfl))
          (pss_one (ps_if (pt_cmp (pc_dnotin hu (pv 4) (pv 2)))
            (pss_cons (ps_dput hu (pv 2) (pv 4) pe_bl rfl)
            (pss_one (ps_expr (pe_bm PySem.F.plainAttrs_list PySem.F.slot_list_append PySem.F.type_list_append mt_append (pv 3) (pa_cons (pv 4) pa_nil))))) pss_nil)))))
      (pss_one (ps_ret (pe_callB (call_sortedDI rfl) (by rfl) B.sorted (by decide +kernel) (pa_cons (pv 2) pa_nil)))))), ?_⟩
    -- found = {node: True}; stack = [node]
    intro F nF
    refine ⟨_, rfl, upd_same, [(Sum.inl (n : Int), .bl true)], rfl, (by show 1 ≤ 15; decide), ?_⟩
    rw [upd_upd]
    refine ⟨_, rfl, ln1, fun S nS => ?_⟩
    have FS : F ≠ S := ne_of_none upd_same nS
    have s0 : Same H (upd (upd H F (.dK (mergeK [] [(Sum.inl (n : Int), .bl true)]))) S (.lst [nV n])) := (same_new nF).trans (same_new nS)
    have hF0 : (upd (upd H F (.dK (mergeK [] [(Sum.inl (n : Int), .bl true)]))) S (.lst [nV n])) F = some (.dK (fKV [n])) := by rw [upd_ne FS, upd_same]; rfl
    have hS0 : (upd (upd H F (.dK (mergeK [] [(Sum.inl (n : Int), .bl true)]))) S (.lst [nV n])) S = some (.lst ([n].map nV)) := upd_same
    have nSH : H S = none := (same_new nF).free nS
    generalize upd (upd H F (.dK (mergeK [] [(Sum.inl (n : Int), .bl true)]))) S (.lst [nV n]) = H0 at s0 hF0 hS0
    -- while stack
    refine ⟨fun m σ H1 => ∃ (fs st : List Nat) (v : Option V), m = 2 * (nodes.length - fs.length) + st.length ∧ σ = [some (.ref p), some (nV n), some (.ref F), some (.ref S), v] ∧ Same H H1 ∧ H1 F = some (.dK (fKV fs)) ∧ H1 S = some (.lst (st.map nV)) ∧ WInv nodes n fs st ∧
        ∀ x ∈ fs, x ∈ st ∨ ∀ sh, nodes[x]? = some sh → ∀ y ∈ sh.parts, y ∈ fs,
      ⟨_, [n], [n], none, rfl, rfl, s0, hF0, hS0, ⟨by simp, by simp, fun m hm => by simp at hm; subst hm; exact .refl, fun m hm => hm, Nat.le_refl _⟩, fun x hx => .inl hx⟩, ?_⟩
    rintro _ _ H1 ⟨fs, st, v, rfl, rfl, s1, hF1, hS1, wi, cl⟩
    refine ⟨_, rfl, _, .inl ⟨_, SqL.of hS1, rfl⟩, ?_⟩
    have bound : ∀ {fs : List Nat}, fs.Nodup → (∀ m ∈ fs, Reach nodes n m) → fs.length ≤ nodes.length := fun {fs} h1 h2 => nodup_lt h1 fun x hx => Nat.lt_of_le_of_lt ((h2 x hx).le hC.wf) hn
    rcases List.eq_nil_or_concat st with rfl | ⟨st', m, rfl⟩
    · -- the end: sorted(found)
      refine iteF ?_
      refine ⟨_, rfl, F, fKV fs, fs.map (fun n : Nat => (n : Int)), rfl, .inl hF1, ?_, ?_, fun ys q perm rising nq => ?_⟩
      · unfold fKV
        rw [List.map_map, List.map_map]
        rfl
      · rw [List.length_map]
        have := bound wi.nd wi.r
        omega
      · obtain ⟨ms, h1, h2⟩ := perm_lift (fun n : Nat => (n : Int)) perm fs rfl
        subst h2
        rw [map_nV]
        refine k ms q _ (s1.trans (same_new nq)) upd_same ?_ (fun x => ⟨fun hx => wi.r x (h1.mem_iff.mp hx), fun hx => h1.mem_iff.mpr ?_⟩) ?_
        · rw [List.pairwise_map] at rising
          exact rising.imp fun h => by omega
        · induction hx with
          | refl => exact wi.hn
          | @step x y sh _ e1 e2 ih =>
            rcases cl x ih with z | z
            · cases z
            · exact z sh e1 y e2
        · rw [h1.length_eq]
          have := bound wi.nd wi.r
          omega
    · -- a turn
      rw [List.concat_eq_append] at hS1 wi cl ⊢
      refine iteB (by simp) ?_
      have hm : m ∈ fs := wi.sub m (by simp)
      have hmr := wi.r m hm
      have hml : m < nodes.length := Nat.lt_of_le_of_lt (hmr.le hC.wf) hn
      have hsh : nodes[m]? = some nodes[m] := List.getElem?_eq_getElem hml
      refine ⟨fun σ' H' => ∃ m', m' < 2 * (nodes.length - fs.length) + (st' ++ [m]).length ∧ ∃ (fs st : List Nat) (v : Option V), m' = 2 * (nodes.length - fs.length) + st.length ∧ σ' = [some (.ref p), some (nV n), some (.ref F), some (.ref S), v] ∧ Same H H' ∧ H' F = some (.dK (fKV fs)) ∧ H' S = some (.lst (st.map nV)) ∧ WInv nodes n fs st ∧
        ∀ x ∈ fs, x ∈ st ∨ ∀ sh, nodes[x]? = some sh → ∀ y ∈ sh.parts, y ∈ fs, fun _ _ z => z, ?_⟩
      obtain ⟨dx, h1⟩ := hC.ob
      have hp1 := s1 _ _ h1
      have neS : ∀ b o, H b = some o → b ≠ S := fun b o e => ne_of_none e nSH
      have hlast : ((st' ++ [m]).map nV)[((st' ++ [m]).map nV).length - 1]? = some (nV m) := by simp
      refine ⟨_, rfl, p, dx, _, rfl, hp1, cf_no _ _ (by decide +kernel) (by decide +kernel), _, rfl, .inl ⟨rfl, _, SqL.of hS1⟩, S, _, _, rfl, rfl, hS1, hlast, ?_⟩
      have hdl : ((st' ++ [m]).map nV).dropLast = st'.map nV := by rw [List.map_append]; simp
      rw [hdl]
      have s2 : Same H (upd H1 S (.lst (st'.map nV))) := fun b o e => by rw [upd_ne (neS b o e)]; exact s1 _ _ e
      have hF2 : (upd H1 S (.lst (st'.map nV))) F = some (.dK (fKV fs)) := by rw [upd_ne FS]; exact hF1
      have hS2 : (upd H1 S (.lst (st'.map nV))) S = some (.lst (st'.map nV)) := upd_same
      generalize upd H1 S (.lst (st'.map nV)) = H2 at s2 hF2 hS2
      refine ⟨p, L, D, m, nodes, _, rfl, hC.same s2, hsh, fun a H3 s3 hq => ⟨a, rfl, ⟨_, hq⟩, for_tup (K := K) (a := a) (xs := nodes[m].parts.map nV) (fun i σ H4 => ∃ (gs tt : List Nat) (v : Option V), σ = [some (.ref p), some (nV n), some (.ref F), some (.ref S), v] ∧ Same H H4 ∧ SqT K H4 a (nodes[m].parts.map nV) ∧ H4 F = some (.dK (fKV gs)) ∧ H4 S = some (.lst (tt.map nV)) ∧
          WInv nodes n gs tt ∧ (∀ x ∈ gs, x ∈ tt ∨ x = m ∨ ∀ sh, nodes[x]? = some sh → ∀ y ∈ sh.parts, y ∈ gs) ∧ (∀ y ∈ nodes[m].parts.take i, y ∈ gs) ∧ fs.length ≤ gs.length ∧ tt.length + fs.length = st'.length + gs.length)
        ⟨fs, st', v, rfl, s2.trans s3, hq, s3 _ _ hF2, s3 _ _ hS2, ⟨wi.nd, wi.hn, wi.r, fun x hx => wi.sub x (by simp [hx]), (by have := wi.le; simp only [List.length_append, List.length_cons, List.length_nil] at this; omega)⟩, fun x hx => ?_, fun y hy => by simp at hy, Nat.le_refl _, rfl⟩
        (fun i σ H4 _ ⟨_, _, _, _, _, h, _⟩ => h) ?_ ?_⟩⟩
      · rcases cl x hx with z | z
        · rcases List.mem_append.mp z with z | z
          · exact .inl z
          · exact .inr (.inl (by simpa using z))
        · exact .inr (.inr z)
      · rintro i x σ H4 hi ⟨gs, tt, v', rfl, s4, hq4, hF4, hS4, wi4, cl4, tk, hl1, hl2⟩
        rw [List.getElem?_map] at hi
        cases hy : nodes[m].parts[i]? with
        | none =>
          rw [hy] at hi
          cases hi
        | some y =>
          rw [hy] at hi
          have ex : nV y = x := Option.some.inj hi
          subst ex
          have hym : y ∈ nodes[m].parts := List.mem_of_getElem? hy
          have hyr : Reach nodes n y := hmr.step hsh hym
          have tk' : nodes[m].parts.take (i + 1) = nodes[m].parts.take i ++ [y] := by
            rw [List.take_add_one, hy]
            rfl
          refine ⟨_, rfl, _, rfl, F, _, rfl, DGet.k (k := Sum.inl (y : Int)) hF4, _, rfl, ?_⟩
          rw [fKV_val]
          by_cases hin : y ∈ gs
          · rw [if_pos hin]
            refine iteF ?_
            refine ⟨gs, tt, _, rfl, s4, hq4, hF4, hS4, wi4, cl4, fun z hz => ?_, hl1, hl2⟩
            rw [tk'] at hz
            rcases List.mem_append.mp hz with hz | hz
            · exact tk z hz
            · have : z = y := by simpa using hz
              rw [this]
              exact hin
          · rw [if_neg hin]
            refine iteT ?_
            have hgl := bound wi4.nd wi4.r
            refine ⟨_, rfl, _, rfl, F, _, rfl, DPut.k (k := Sum.inl (y : Int)) hF4 (by unfold fKV; rw [List.length_map]; exact Nat.lt_of_le_of_lt (Nat.le_trans hgl hlen) (by rw [sizeLine_eq]; decide)), ?_⟩
            rw [fKV_put hin]
            have hS5 : (upd H4 F (.dK (fKV (gs ++ [y])))) S = some (.lst (tt.map nV)) := by rw [upd_ne FS.symm]; exact hS4
            have htl : tt.length ≤ 200 := by have := wi4.le; omega
            refine ⟨_, rfl, .inl ⟨rfl, _, SqL.of hS5⟩, _, rfl, S, _, _, rfl, rfl, hS5, (by rw [List.length_map]; exact Nat.lt_of_le_of_lt htl (by rw [sizeLine_eq]; decide)), ?_⟩
            have neF : ∀ b o, H b = some o → b ≠ F := fun b o e => ne_of_none e nF
            have tk5 : SqT K (upd (upd H4 F (.dK (fKV (gs ++ [y])))) S (.lst (tt.map nV ++ [nV y]))) a (nodes[m].parts.map nV) := sqT_but hq4 hF4 hS4 FS
            refine ⟨gs ++ [y], tt ++ [y], _, rfl, fun b o e => ?_, tk5, ?_, ?_, ⟨nd_snoc wi4.nd hin, List.mem_append_left _ wi4.hn, fun z hz => ?_, fun z hz => ?_, ?_⟩, fun z hz => ?_, fun z hz => ?_, ?_, ?_⟩
            · rw [upd_ne (neS b o e), upd_ne (neF b o e)]
              exact s4 _ _ e
            · rw [upd_ne FS, upd_same]
            · rw [upd_same, List.map_append]
              rfl
            · rcases List.mem_append.mp hz with hz | hz
              · exact wi4.r z hz
              · have : z = y := by simpa using hz
                rw [this]
                exact hyr
            · rcases List.mem_append.mp hz with hz | hz
              · exact List.mem_append_left _ (wi4.sub z hz)
              · exact List.mem_append_right _ hz
            · have := wi4.le
              simp only [List.length_append, List.length_cons, List.length_nil]
              omega
            · rcases List.mem_append.mp hz with hz | hz
              · rcases cl4 z hz with q | q | q
                · exact .inl (List.mem_append_left _ q)
                · exact .inr (.inl q)
                · exact .inr (.inr fun sh e y' hy' => List.mem_append_left _ (q sh e y' hy'))
              · exact .inl (List.mem_append_right _ hz)
            · rw [tk'] at hz
              rcases List.mem_append.mp hz with hz | hz
              · exact List.mem_append_left _ (tk z hz)
              · exact List.mem_append_right _ hz
            · simp only [List.length_append, List.length_cons, List.length_nil]
              omega
            · simp only [List.length_append, List.length_cons, List.length_nil]
              omega
      · rintro σ H4 ⟨gs, tt, v', rfl, s4, _, hF4, hS4, wi4, cl4, tk, hl1, hl2⟩
        have hgl := bound wi4.nd wi4.r
        refine ⟨2 * (nodes.length - gs.length) + tt.length, ?_, gs, tt, v', rfl, rfl, s4, hF4, hS4, wi4, fun x hx => ?_⟩
        · simp only [List.length_append, List.length_cons, List.length_nil]
          omega
        · rcases cl4 x hx with z | z | z
          · exact .inl z
          · refine .inr fun sh e y hy => ?_
            rw [z, hsh] at e
            cases e
            refine tk y ?_
            rw [List.length_map, List.take_length]
            exact hy
          · exact .inr z
end
end Ev

namespace Ev
open PySem PySem.Spec PyProof.Rows L2
def spFactsIn (P : Program) (w : World) (C : Addr) : Sp := fun vs H Q _ => ∃ (p L D : Addr) (n : Nat) (nodes : List Sh), vs = [.ref p, nV n] ∧ CircAt P w C H p L D nodes ∧ n < nodes.length ∧ nodes.length ≤ 50 ∧
  ∀ (fs : List Nat) (q : Addr) (H' : Hp), Same H H' → H' q = some (.lst (fs.map nV)) → fs.length ≤ 50 → (∀ k ∈ fs, k < 4) → (∀ m k, Reach nodes n m → nodes[m]? = some (.fact k) → k ∈ fs) → Q (.ref q) H'
theorem tag_fact (s : Sh) : decide (V.str s.tag = V.str "fact") = (match s with | .fact _ => true | _ => false) := by
  rw [dec_str]
  cases s <;> (simp only [Sh.tag]; decide +kernel)
section
variable {P : Program} {w : World} {K : PySem.W.Frag} {mg : Str → Option Value} {base : Heap} {A : Ads}
theorem scFactsIn : FnScope ["self", "node", "told", "part"] ["self", "node"] (defScope sFactsIn) := ⟨rfl, rfl, rfl, by decide +kernel, rfl, by decide +kernel, by decide +kernel⟩
theorem ok_factsIn (T : TxtC K mg A) (B : TxtB mg) : FnOk P w K mg base CX0 3 T.factsIn.f T.factsIn.fd ["self", "node"] (spFactsIn P w A.C) := by
  have GW : FnOk P w K mg base CX0 2 T.within.f T.within.fd ["self", "node"] (spWithin P w A.C) := ok_within T B
  refine T.factsIn.F.ok scFactsIn (fun vs H Q E h => ?_) (fun cdv A' outer s H vs Q E hr h => ?_)
  · obtain ⟨p, L, D, n, nodes, rfl, _⟩ := h
    rfl
  · obtain ⟨p, L, D, n, nodes, rfl, hC, hn, hlen, k⟩ := h
    refine ⟨_, pss_cons (ps_setLc (i := 2) (own := [("part", 3)]) (g := gName 3) (tt := tYes) (te := tOp (rIxL K) (tFld K (tVar 0) "nodes") (tVar 3)) rfl scFactsIn.nd rfl rfl (sw_true rfl rfl rfl (by decide +kernel))
        (pi_list (pe_meth (pv 0) T.cl T.within.m GW hr T.within.b .nil pass0 (pa_cons (pv 1) pa_nil))) (blkOk_by (N := ["self", "node", "told", "part"]) (sc := defScope sFactsIn) (by decide +kernel))
        (fun _ _ _ _ _ => pg_name (i := 3) scFactsIn.nd rfl (.inl rfl)) (fun _ _ _ _ _ => pts_nil) (fun _ _ _ _ _ => by exact (pe_ix ix_list (pe_fld (pv 0) rfl) (pv 3) (fun _ _ => rfl))))
      (pss_one (ps_ret (pe_callB cr_sorted (by rfl) B.sorted (by decide +kernel) (pa_cons
        (pe_lc (own := [("part", 3)]) (g := gName 3) (tt := tTest (tOp rEq (tOp (rIxT K) (tVar 3) (tC (.int 0))) (tC (.str "fact")))) (te := tOp (rIxT K) (tVar 3) (tC (.int 1))) (by rfl) scFactsIn.nd (pi_list (pv 2)) (blkOk_by (N := ["self", "node", "told", "part"]) (sc := defScope sFactsIn) (by decide +kernel)) (fun _ _ _ _ _ => pg_name (i := 3) scFactsIn.nd rfl (.inl rfl))
          (fun _ _ _ _ _ => by exact (pts_one (pt_cmpR op_eq (pe_ix ix_tup (pv 3) pe_int (fun _ _ => rfl)) pe_str (nomark _)))) (fun _ _ _ _ _ => by exact (pe_ix ix_tup (pv 3) pe_int (fun _ _ => rfl)))) pa_nil)))), ?_⟩
    obtain ⟨dx, h1⟩ := hC.ob
    refine ⟨_, rfl, p, dx, _, rfl, h1, cf_no _ _ (by decide +kernel) (by decide +kernel), _, rfl, p, L, D, n, nodes, rfl, hC, hn, hlen, fun ms q H1 s1 hq rising reach hml => ⟨q, rfl, ⟨_, SqL.of hq⟩, fun F nF => ?_⟩⟩
    have hC1 := hC.same s1
    refine lc_list (K := K) (a := q) (xs := ms.map nV) (fun i H2 => Same H1 H2 ∧ ∃ acc : List V, H2 F = some (.lst acc) ∧ acc.length = i ∧ ∀ j m, j < i → ms[j]? = some m → ∃ a s, acc[j]? = some (.ref a) ∧ nodes[m]? = some s ∧ Dn H2 (.ref a) s.key)
      ⟨same_new nF, [], upd_same, rfl, fun j m hj => absurd hj (Nat.not_lt_zero _)⟩ (fun i H2 _ ⟨s2, _⟩ => SqL.of (s2 _ _ hq)) ?_ ?_
    · rintro i x H2 hi ⟨s2, acc, hF2, hal, hacc⟩
      rw [List.getElem?_map] at hi
      cases hm : ms[i]? with
      | none =>
        rw [hm] at hi
        cases hi
      | some m =>
        rw [hm] at hi
        have ex : nV m = x := Option.some.inj hi
        subst ex
        have hml' : m < nodes.length := Nat.lt_of_le_of_lt (((reach m).mp (List.mem_of_getElem? hm)).le hC.wf) hn
        have hsh : nodes[m]? = some nodes[m] := List.getElem?_eq_getElem hml'
        obtain ⟨dx2, ws, a, g1, g2, ga, gD⟩ := node_at (hC1.same s2) hsh
        have neF : ∀ b o, H1 b = some o → b ≠ F := fun b o e => ne_of_none e nF
        have hi50 : i < ms.length := (List.getElem?_eq_some_iff.mp hm).1
        refine ⟨rfl, _, rfl, p, A.C, dx2, _, _, rfl, g1, T.cl, T.nN, cf_nodes _ _, _, rfl, L, ws, _, _, rfl, rfl, SqL.of g2, ga, acc, hF2, (by rw [hal]; exact Nat.lt_of_lt_of_le hi50 (Nat.le_trans hml (by rw [sizeLine_eq]; decide))), fun b o e => ?_, acc ++ [.ref a], upd_same, by simp [hal], fun j m' hj hm' => ?_⟩
        · rw [upd_ne (neF b o e)]
          exact s2 _ _ e
        · have fk : Fk H2 (upd H2 F (.lst (acc ++ [.ref a]))) := .upd (nf_lst hF2)
          by_cases hji : j < i
          · obtain ⟨a', s', e1, e2, e3⟩ := hacc j m' hji hm'
            exact ⟨a', s', by rw [List.getElem?_append_left (by omega)]; exact e1, e2, Dn.fk fk _ _ e3⟩
          · have : j = i := by omega
            subst this
            rw [hm] at hm'
            cases hm'
            exact ⟨a, _, by rw [List.getElem?_append_right (by omega), hal]; simp, hsh, Dn.fk fk _ _ gD⟩
    · rintro H2 ⟨s2, acc, hF2, hal, hacc⟩
      rw [List.length_map] at hal hacc
      have s02 := s1.trans s2
      refine ⟨_, rfl, F, rfl, ⟨_, SqL.of hF2⟩, fun G nG => lc_list (K := K) (a := F) (xs := acc) (fun i H3 => Same H2 H3 ∧ ∃ fs : List Nat, H3 G = some (.lst (fs.map nV)) ∧ fs.length ≤ i ∧ (∀ k ∈ fs, k < 4) ∧ ∀ j m k, j < i → ms[j]? = some m → nodes[m]? = some (.fact k) → k ∈ fs)
        ⟨same_new nG, [], upd_same, Nat.le_refl _, (fun k hk => nomatch hk), fun j m k hj => absurd hj (Nat.not_lt_zero _)⟩ (fun i H3 _ ⟨s3, _⟩ => SqL.of (s3 _ _ hF2)) ?_ ?_⟩
      · rintro i x H3 hi ⟨s3, fs, hG3, hfl, hf4, hff⟩
        have hi2 : i < ms.length := by
          have := (List.getElem?_eq_some_iff.mp hi).1
          omega
        obtain ⟨a, sh, e1, e2, e3⟩ := hacc i ms[i] hi2 (List.getElem?_eq_getElem hi2)
        rw [hi] at e1
        cases e1
        have e4 := e3.same s3
        obtain ⟨vs, hs, h0⟩ := sh_sq (K := K) e4
        have neG : ∀ b o, H2 b = some o → b ≠ G := fun b o e => ne_of_none e nG
        refine ⟨rfl, _, rfl, a, vs, 0, _, rfl, rfl, hs, at0 h0, rfl, _, rfl, ?_⟩
        rw [tag_fact]
        have step : ∀ (fs' : List Nat), (∀ k ∈ fs, k ∈ fs') → (∀ k, sh = .fact k → k ∈ fs') → ∀ j m k, j < i + 1 → ms[j]? = some m → nodes[m]? = some (.fact k) → k ∈ fs' := fun fs' q1 q2 j m k hj hm hk => by
          by_cases hji : j < i
          · exact q1 k (hff j m k hji hm hk)
          · have : j = i := by omega
            subst this
            rw [List.getElem?_eq_getElem hi2] at hm
            cases hm
            rw [e2] at hk
            exact q2 k (Option.some.inj hk)
        cases sh with
        | fact kk =>
          refine iteB rfl ?_
          obtain ⟨ws, hs, g1⟩ := sh_one (K := K) (.inl rfl) e4
          refine ⟨_, rfl, a, ws, 1, _, rfl, rfl, hs, at1 g1, _, hG3, (by rw [List.length_map]; exact Nat.lt_of_le_of_lt hfl (Nat.lt_of_lt_of_le hi2 (Nat.le_trans hml (by rw [sizeLine_eq]; decide)))), fun b o e => ?_, fs ++ [kk], ?_, ?_, fun k hk => ?_, step _ (fun k hk => List.mem_append_left _ hk) fun k hk => ?_⟩
          · rw [upd_ne (neG b o e)]
            exact s3 _ _ e
          · rw [upd_same, List.map_append]
            rfl
          · simp only [List.length_append, List.length_cons, List.length_nil]
            omega
          · rcases List.mem_append.mp hk with hk | hk
            · exact hf4 k hk
            · have : k = kk := by simpa using hk
              rw [this]
              exact hC.wf.low _ _ e2
          · cases hk
            simp
        | _ =>
          refine iteBF rfl ?_
          exact ⟨s3, fs, hG3, Nat.le_succ_of_le hfl, hf4, step _ (fun k hk => hk) fun k hk => nomatch hk⟩
      · rintro H3 ⟨s3, fs, hG3, hfl, hf4, hff⟩
        refine ⟨G, fs.map (fun n : Nat => (n : Int)), rfl, SqL.of (by rw [map_nV]; exact hG3), (by rw [List.length_map]; omega), fun zs r hperm _ hr' => ?_⟩
        obtain ⟨gs, g1, g2⟩ := perm_lift (fun n : Nat => (n : Int)) hperm fs rfl
        subst g2
        rw [map_nV]
        refine k gs r _ ((s02.trans s3).trans (same_new hr')) upd_same (by rw [g1.length_eq]; omega) (fun k hk => hf4 k (g1.mem_iff.mp hk)) fun m k hm hk => g1.mem_iff.mpr ?_
        obtain ⟨j, hj⟩ := List.mem_iff_getElem?.mp ((reach m).mpr hm)
        have hjl : j < ms.length := (List.getElem?_eq_some_iff.mp hj).1
        exact hff j m k (by omega) hj hk
end
end Ev

/-! The worth of a node, in any semiring object. -/
namespace Ev
open PySem PySem.Spec PyProof.Rows L2
/-- what a semiring object's elements stand for; rep n: of size at most as a node's with the number n -/
structure Ring where
  A : Type
  zero : A
  one : A
  plus : A → A → A
  times : A → A → A
  rep : Nat → Hp → V → A → Prop
  big : Prop
  mono : ∀ {n m : Nat} {H : Hp} {v : V} {a : A}, rep n H v a → n ≤ m → rep m H v a
  fk : ∀ {n : Nat} {H H' : Hp} {v : V} {a : A}, rep n H v a → Fk H H' → rep n H' v a
def spConst (R : Ring) (z : R.A) : Sp := fun vs H Q _ => ∃ p : Addr, vs = [.ref p] ∧ ∀ (v : V) (H' : Hp), Same H H' → R.rep 0 H' v z → Q v H'
def spBin (R : Ring) (op : R.A → R.A → R.A) (eT : Addr) : Sp := fun vs H Q E => ∃ (p : Addr) (va vb : V) (a b : R.A) (n : Nat), vs = [.ref p, va, vb] ∧ R.rep n H va a ∧ R.rep n H vb b ∧ n ≤ 14 ∧
  (∀ (v : V) (H' : Hp), Same H H' → R.rep (n + 1) H' v (op a b) → Q v H') ∧ (R.big → ∀ H', Same H H' → E (.ref eT) none H')
/-- a method with its promise -/
structure MOk (P : Program) (w : World) (K : PySem.W.Frag) (mg : Str → Option Value) (base : Heap) (C : Addr) (m : Str) (k : Nat) (ps : List Str) (sp : Sp) where
  f : Addr
  fd : FuncData
  m : Meth K C m f
  b : Binds K fd ps []
  ok : FnOk P w K mg base (L2.CX P w) k f fd ps sp
/-- the class at C is that of such objects -/
structure RingAt (P : Program) (w : World) (K : PySem.W.Frag) (mg : Str → Option Value) (base : Heap) (R : Ring) (C eT : Addr) where
  cl : Cls K C
  zero : MOk P w K mg base C "zero" 3 ["self"] (spConst R R.zero)
  one : MOk P w K mg base C "one" 3 ["self"] (spConst R R.one)
  plus : MOk P w K mg base C "plus" 3 ["self", "a", "b"] (spBin R R.plus eT)
  times : MOk P w K mg base C "times" 3 ["self", "a", "b"] (spBin R R.times eT)
def spSum (K : PySem.W.Frag) (R : Ring) (op : R.A → R.A → R.A) (C eT : Addr) : Sp := fun vs H Q E => ∃ (p dx l : Addr) (va vb : V) (a b : R.A) (n : Nat), vs = [.ref p, .ref l] ∧ H p = some (.ins C dx []) ∧ SqL K H l [va, vb] ∧ R.rep n H va a ∧ R.rep n H vb b ∧ n ≤ 14 ∧
  (∀ (v : V) (H' : Hp), Same H H' → R.rep (n + 1) H' v (op a b) → Q v H') ∧ (R.big → ∀ H', Same H H' → E (.ref eT) none H')
structure TxtW (K : PySem.W.Frag) (mg : Str → Option Value) where
  sumIn : GDef K mg "sum_in" sSumIn ["semiring", "worths"]
  productIn : GDef K mg "product_in" sProductIn ["semiring", "worths"]
  worth : GDef K mg "worth" sWorth ["circuits", "node", "semiring", "worths"]
section
variable {P : Program} {w : World} {K : PySem.W.Frag} {mg : Str → Option Value} {base : Heap} {A : Ads} {R : Ring} {C eT : Addr}
theorem scSumIn : FnScope ["semiring", "worths", "total", "worth"] ["semiring", "worths"] (defScope sSumIn) := ⟨rfl, rfl, rfl, by decide +kernel, rfl, by decide +kernel, by decide +kernel⟩
theorem scProductIn : FnScope ["semiring", "worths", "total", "worth"] ["semiring", "worths"] (defScope sProductIn) := ⟨rfl, rfl, rfl, by decide +kernel, rfl, by decide +kernel, by decide +kernel⟩
theorem ok_sumIn (T : TxtW K mg) (G : RingAt P w K mg base R C eT) : FnOk P w K mg base (L2.CX P w) 4 T.sumIn.f T.sumIn.fd ["semiring", "worths"] (spSum K R R.plus C eT) := by
  refine T.sumIn.F.okX scSumIn (fun vs H Q E h => ?_) (fun cdv A' outer s H vs Q E hr h => ?_)
  · obtain ⟨p, dx, l, va, vb, a, b, n, rfl, _⟩ := h
    rfl
  · obtain ⟨p, dx, l, va, vb, a, b, n, rfl, hp, hS, ra, rb, hn, k, ke⟩ := h
    refine ⟨_, pss_cons (ps_set (i := 2) scSumIn.nd rfl (.inl rfl) (pe_ix ix_list (pv 1) pe_int (fun _ _ => rfl)))
      (pss_cons (ps_for (passes_of rfl) rfl (pi_list (pe_slice sl_list (pv 1) (po_some pe_int) po_none)) (pg_name (i := 3) scSumIn.nd rfl (.inl rfl))
        (pss_one (ps_set (i := 2) scSumIn.nd rfl (.inl rfl) (pe_meth (E := E) (pv 0) G.cl G.plus.m G.plus.ok hr G.plus.b .nil (passes_call (takes_of rfl rfl rfl rfl) (fun _ _ _ _ h => h)) (pa_cons (pv 2) (pa_cons (pv 3) pa_nil))))))
      (pss_one (ps_ret (pv 2)))), ?_⟩
    refine ⟨_, rfl, l, _, 0, _, rfl, rfl, hS, at0 rfl, ?_⟩
    refine ⟨_, rfl, _, rfl, l, _, rfl, hS, fun m nm => ?_⟩
    have s1 := same_new (o := .lst [vb]) nm
    have hm : (upd H m (.lst [vb])) m = some (.lst [vb]) := upd_same
    have ecut : cutV [va, vb] (some 1) none = [vb] := by rfl
    rw [ecut]
    generalize upd H m (.lst [vb]) = H1 at s1 hm
    have fk1 := Fk.of_same s1
    refine ⟨m, rfl, ⟨_, SqL.of hm⟩, for_list (K := K) (a := m) (xs := [vb]) (fun i σ H2 => Same H1 H2 ∧ ((i = 0 ∧ σ = [some (.ref p), some (.ref l), some va, none]) ∨ (i = 1 ∧ ∃ v x, σ = [some (.ref p), some (.ref l), some v, x] ∧ R.rep (n + 1) H2 v (R.plus a b))))
      ⟨Same.refl _, .inl ⟨rfl, rfl⟩⟩ (fun i σ H2 _ ⟨s2, _⟩ => SqL.of (s2 _ _ hm)) ?_ ?_⟩
    · rintro i x σ H2 hi ⟨s2, ⟨rfl, rfl⟩ | ⟨rfl, _⟩⟩
      · have ex : vb = x := by simpa using hi
        subst ex
        have fk2 := fk1.trans (.of_same s2)
        refine ⟨_, rfl, p, dx, [], rfl, s2 _ _ (s1 _ _ hp), rfl, _, rfl, _, rfl, p, va, vb, a, b, n, rfl, R.fk ra fk2, R.fk rb fk2, hn, fun v H3 s3 r3 => ?_, fun hb H3 s3 => ke hb H3 ((s1.trans s2).trans s3)⟩
        exact ⟨s2.trans s3, .inr ⟨rfl, v, _, rfl, r3⟩⟩
      · simp at hi
    · rintro σ H2 ⟨s2, ⟨h0, _⟩ | ⟨_, v, x, rfl, r⟩⟩
      · exact absurd h0 (by simp)
      · exact ⟨_, rfl, k v H2 (s1.trans s2) r⟩
theorem ok_productIn (T : TxtW K mg) (G : RingAt P w K mg base R C eT) : FnOk P w K mg base (L2.CX P w) 4 T.productIn.f T.productIn.fd ["semiring", "worths"] (spSum K R R.times C eT) := by
  refine T.productIn.F.okX scProductIn (fun vs H Q E h => ?_) (fun cdv A' outer s H vs Q E hr h => ?_)
  · obtain ⟨p, dx, l, va, vb, a, b, n, rfl, _⟩ := h
    rfl
  · obtain ⟨p, dx, l, va, vb, a, b, n, rfl, hp, hS, ra, rb, hn, k, ke⟩ := h
    refine ⟨_, pss_cons (ps_set (i := 2) scProductIn.nd rfl (.inl rfl) (pe_ix ix_list (pv 1) pe_int (fun _ _ => rfl)))
      (pss_cons (ps_for (passes_of rfl) rfl (pi_list (pe_slice sl_list (pv 1) (po_some pe_int) po_none)) (pg_name (i := 3) scProductIn.nd rfl (.inl rfl))
        (pss_one (ps_set (i := 2) scProductIn.nd rfl (.inl rfl) (pe_meth (E := E) (pv 0) G.cl G.times.m G.times.ok hr G.times.b .nil (passes_call (takes_of rfl rfl rfl rfl) (fun _ _ _ _ h => h)) (pa_cons (pv 2) (pa_cons (pv 3) pa_nil))))))
      (pss_one (ps_ret (pv 2)))), ?_⟩
    refine ⟨_, rfl, l, _, 0, _, rfl, rfl, hS, at0 rfl, ?_⟩
    refine ⟨_, rfl, _, rfl, l, _, rfl, hS, fun m nm => ?_⟩
    have s1 := same_new (o := .lst [vb]) nm
    have hm : (upd H m (.lst [vb])) m = some (.lst [vb]) := upd_same
    have ecut : cutV [va, vb] (some 1) none = [vb] := by rfl
    rw [ecut]
    generalize upd H m (.lst [vb]) = H1 at s1 hm
    have fk1 := Fk.of_same s1
    refine ⟨m, rfl, ⟨_, SqL.of hm⟩, for_list (K := K) (a := m) (xs := [vb]) (fun i σ H2 => Same H1 H2 ∧ ((i = 0 ∧ σ = [some (.ref p), some (.ref l), some va, none]) ∨ (i = 1 ∧ ∃ v x, σ = [some (.ref p), some (.ref l), some v, x] ∧ R.rep (n + 1) H2 v (R.times a b))))
      ⟨Same.refl _, .inl ⟨rfl, rfl⟩⟩ (fun i σ H2 _ ⟨s2, _⟩ => SqL.of (s2 _ _ hm)) ?_ ?_⟩
    · rintro i x σ H2 hi ⟨s2, ⟨rfl, rfl⟩ | ⟨rfl, _⟩⟩
      · have ex : vb = x := by simpa using hi
        subst ex
        have fk2 := fk1.trans (.of_same s2)
        refine ⟨_, rfl, p, dx, [], rfl, s2 _ _ (s1 _ _ hp), rfl, _, rfl, _, rfl, p, va, vb, a, b, n, rfl, R.fk ra fk2, R.fk rb fk2, hn, fun v H3 s3 r3 => ?_, fun hb H3 s3 => ke hb H3 ((s1.trans s2).trans s3)⟩
        exact ⟨s2.trans s3, .inr ⟨rfl, v, _, rfl, r3⟩⟩
      · simp at hi
    · rintro σ H2 ⟨s2, ⟨h0, _⟩ | ⟨_, v, x, rfl, r⟩⟩
      · exact absurd h0 (by simp)
      · exact ⟨_, rfl, k v H2 (s1.trans s2) r⟩
end
end Ev

namespace Ev
open PySem PySem.Spec PyProof.Rows L2
/-- val is the nodes' worth, fv the facts' -/
def ValOk (R : Ring) (nodes : List Sh) (fv val : Nat → R.A) : Prop := ∀ (m : Nat) (s : Sh), nodes[m]? = some s → val m = match s with
  | .zero => R.zero
  | .one => R.one
  | .fact k => fv k
  | .plus i j => R.plus (val i) (val j)
  | .times i j => R.times (val i) (val j)
  | .star _ => val m
def NoStars (nodes : List Sh) : Prop := ∀ (m i : Nat), nodes[m]? ≠ some (Sh.star i)
def spWorth (P : Program) (w : World) (R : Ring) (cC C eT : Addr) : Sp := fun vs H Q E => ∃ (pc L D ps dx d : Addr) (n : Nat) (nodes : List Sh) (ws : List (L2.Key × V)) (fv val : Nat → R.A), vs = [.ref pc, nV n, .ref ps, .ref d] ∧ CircAt P w cC H pc L D nodes ∧
  n < nodes.length ∧ nodes.length ≤ 16 ∧ NoStars nodes ∧ H ps = some (.ins C dx []) ∧ H d = some (.dK ws) ∧
  (∀ m k, Reach nodes n m → nodes[m]? = some (.fact k) → ∃ v, valV ws (Sum.inl (k : Int) : L2.Key) = some v ∧ R.rep 0 H v (fv k)) ∧ ValOk R nodes fv val ∧
  (∀ (v : V) (H' : Hp), Same H H' → R.rep n H' v (val n) → Q v H') ∧ (R.big → ∀ H', Same H H' → E (.ref eT) none H')
theorem sqT_same {K : PySem.W.Frag} {H H' : Hp} {a : Addr} {xs : List V} (h : SqT K H a xs) (s : Same H H') : SqT K H' a xs := by
  rcases h with (h | ⟨o, h⟩) | h
  · exact .inl (.inl (s _ _ h))
  · exact .inl (.inr ⟨o, s _ _ h⟩)
  · exact .inr h
theorem tag_is (s : Sh) : decide (V.str s.tag = V.str "fact") = (match s with | .fact _ => true | _ => false) ∧ decide (V.str s.tag = V.str "plus") = (match s with | .plus _ _ => true | _ => false) ∧
    decide (V.str s.tag = V.str "times") = (match s with | .times _ _ => true | _ => false) ∧ decide (V.str s.tag = V.str "star") = (match s with | .star _ => true | _ => false) := by
  rw [dec_str, dec_str, dec_str, dec_str]
  cases s <;> (simp only [Sh.tag]; decide +kernel)
section
variable {P : Program} {w : World} {K : PySem.W.Frag} {mg : Str → Option Value} {base : Heap} {A : Ads} {R : Ring} {C eT : Addr}
/-- what is known of the nodes that were looked at -/
structure Known (R : Ring) (ms : List Nat) (val : Nat → R.A) (i : Nat) (H : Hp) (F : Addr) (kvs : List (L2.Key × V)) : Prop where
  at_ : H F = some (.dK kvs)
  len : kvs.length ≤ i + 2
  val : ∀ m, (m = 0 ∨ m = 1 ∨ ∃ j, j < i ∧ ms[j]? = some m) → ∃ v, valV kvs (Sum.inl (m : Int) : L2.Key) = some v ∧ R.rep m H v (val m)
theorem scWorth : FnScope ["circuits", "node", "semiring", "worths", "known", "at", "told", "part"] ["circuits", "node", "semiring", "worths"] (defScope sWorth) := ⟨rfl, rfl, rfl, by decide +kernel, rfl, by decide +kernel, by decide +kernel⟩
theorem ok_worth (TC : TxtC K mg A) (B : TxtB mg) (T : TxtW K mg) (G : RingAt P w K mg base R C eT) : FnOk P w K mg base (L2.CX P w) 5 T.worth.f T.worth.fd ["circuits", "node", "semiring", "worths"] (spWorth P w R A.C C eT) := by
  have GW : FnOk P w K mg base CX0 2 TC.within.f TC.within.fd ["self", "node"] (spWithin P w A.C) := ok_within TC B
  have GH : FnOk P w K mg base CX0 1 TC.shown.f TC.shown.fd ["self", "node"] (spShown P w A.C) := ok_shown TC
  have GS := ok_sumIn (P := P) (w := w) (base := base) (R := R) (C := C) (eT := eT) T G
  have GP := ok_productIn (P := P) (w := w) (base := base) (R := R) (C := C) (eT := eT) T G
  refine T.worth.F.okX scWorth (fun vs H Q E h => ?_) (fun cdv A' outer s H vs Q E hr h => ?_)
  · obtain ⟨pc, L, D, ps, dx, d, n, nodes, ws, fv, val, rfl, _⟩ := h
    rfl
  · obtain ⟨pc, L, D, ps, dx, d, n, nodes, ws, fv, val, rfl, hC, hn, hlen, nst, hps, hd, hws, hval, k, ke⟩ := h
    obtain ⟨t0, g0⟩ := B.zero
    obtain ⟨t1, g1⟩ := B.one
    have hu := hu_of hr
    have hr1 : Room 1 _ := hr.mono (by decide)
    have hr2 : Room 2 _ := hr.mono (by decide)
    have hr3 : Room 3 _ := hr.mono (by decide)
    refine ⟨_, pss_cons (ps_set (i := 4) scWorth.nd rfl (.inr rfl) (pe_disp (pps_cons (pe_glob (v := .int 0) rfl g0 ⟨_, rfl⟩) (pe_meth0 (E := E) (pv 2) G.cl G.zero.m G.zero.ok hr3 G.zero.b .nil (passes_call (takes_of rfl rfl rfl rfl) (fun _ _ _ _ h => h)))
          (pps_cons (pe_glob (v := .int 1) rfl g1 ⟨_, rfl⟩) (pe_meth0 (E := E) (pv 2) G.cl G.one.m G.one.ok hr3 G.one.b .nil (passes_call (takes_of rfl rfl rfl rfl) (fun _ _ _ _ h => h))) pps_nil)) rfl rfl (fun z => nomatch z) (by decide)))
      (pss_cons (ps_for (passes_of rfl) rfl (pi_list (pe_meth (pv 0) TC.cl TC.within.m GW hr2 TC.within.b .nil pass0 (pa_cons (pv 1) pa_nil))) (pg_name (i := 5) scWorth.nd rfl (.inl rfl))
        (pss_cons (ps_set (i := 6) scWorth.nd rfl (.inl rfl) (pe_meth (pv 0) TC.cl TC.shown.m GH hr1 TC.shown.b .nil pass0 (pa_cons (pv 5) pa_nil)))
        (pss_one (ps_if (pt_cmpR op_eq (pe_ix ix_tup (pv 6) pe_int (fun _ _ => rfl)) pe_str (nomark _))
          (pss_one (ps_dput hu (pv 4) (pv 5) (pe_dget hu (pv 3) (pe_ix ix_tup (pv 6) pe_int (fun _ _ => rfl)) (fun _ _ => rfl)) rfl))
          (pss_one (ps_if (pt_cmpR op_eq (pe_ix ix_tup (pv 6) pe_int (fun _ _ => rfl)) pe_str (nomark _))
            (pss_one (ps_dput hu (pv 4) (pv 5) (pe_call (E := E) GS hr rfl T.sumIn.g T.sumIn.F.kp T.sumIn.b .nil (passes_call (takes_of rfl rfl rfl rfl) (fun _ _ _ _ h => h)) (pa_cons (pv 2) (pa_cons
              (pe_lc (own := [("part", 7)]) (g := gName 7) (tt := tYes) (te := tDGet (tVar 4) (tVar 7)) (by rfl) scWorth.nd (pi_tup (pe_ix ix_tup (pv 6) pe_int (fun _ _ => rfl))) (blkOk_by (N := ["circuits", "node", "semiring", "worths", "known", "at", "told", "part"]) (sc := defScope sWorth) (by decide +kernel))
                (fun _ _ _ _ _ => pg_name (i := 7) scWorth.nd rfl (.inl rfl)) (fun _ _ _ _ _ => pts_nil) (fun _ _ _ _ _ => by exact (pe_dget hu (pv 4) (pv 7) (fun _ _ => rfl)))) pa_nil))) rfl))
            (pss_one (ps_if (pt_cmpR op_eq (pe_ix ix_tup (pv 6) pe_int (fun _ _ => rfl)) pe_str (nomark _))
              (pss_one (ps_dput hu (pv 4) (pv 5) (pe_call (E := E) GP hr rfl T.productIn.g T.productIn.F.kp T.productIn.b .nil (passes_call (takes_of rfl rfl rfl rfl) (fun _ _ _ _ h => h)) (pa_cons (pv 2) (pa_cons
                (pe_lc (own := [("part", 7)]) (g := gName 7) (tt := tYes) (te := tDGet (tVar 4) (tVar 7)) (by rfl) scWorth.nd (pi_tup (pe_ix ix_tup (pv 6) pe_int (fun _ _ => rfl))) (blkOk_by (N := ["circuits", "node", "semiring", "worths", "known", "at", "told", "part"]) (sc := defScope sWorth) (by decide +kernel))
                  (fun _ _ _ _ _ => pg_name (i := 7) scWorth.nd rfl (.inl rfl)) (fun _ _ _ _ _ => pts_nil) (fun _ _ _ _ _ => by exact (pe_dget hu (pv 4) (pv 7) (fun _ _ => rfl)))) pa_nil))) rfl))
              (pss_one (ps_if (pt_cmpR op_eq (pe_ix ix_tup (pv 6) pe_int (fun _ _ => rfl)) pe_str (nomark _)) (pss_one ps_never) pss_nil))))))))))
      (pss_one (ps_ret (pe_dget hu (pv 4) (pv 1) (fun _ _ => rfl))))), ?_⟩
    -- known = {ZERO: semiring.zero(), ONE: semiring.one()}
    intro F nF
    have sF := same_new (o := .dK []) nF
    refine ⟨_, rfl, ps, dx, [], rfl, sF _ _ hps, rfl, ps, rfl, fun v0 H1 s1 r0 => ⟨_, rfl, ps, dx, [], rfl, s1 _ _ (sF _ _ hps), rfl, ps, rfl, fun v1 H2 s2 r1 => ?_⟩⟩
    have hF2 : H2 F = some (.dK []) := s2 _ _ (s1 _ _ upd_same)
    refine ⟨hF2, [(Sum.inl 0, v0), (Sum.inl 1, v1)], rfl, (by show 2 ≤ 15; decide), ?_⟩
    have em : mergeK [] [((Sum.inl 0 : L2.Key), v0), (Sum.inl 1, v1)] = [(Sum.inl 0, v0), (Sum.inl 1, v1)] := by rfl
    rw [em]
    have fk2 : Fk H2 (upd H2 F (.dK [(Sum.inl 0, v0), (Sum.inl 1, v1)])) := .upd (nf_dK hF2)
    have s0 : Same H (upd H2 F (.dK [(Sum.inl 0, v0), (Sum.inl 1, v1)])) := fun b o e => by
      rw [upd_ne (ne_of_none e nF)]
      exact s2 _ _ (s1 _ _ (sF _ _ e))
    have kn0 : ∀ ms, Known R ms val 0 (upd H2 F (.dK [(Sum.inl 0, v0), (Sum.inl 1, v1)])) F [(Sum.inl 0, v0), (Sum.inl 1, v1)] := fun ms => ⟨upd_same, Nat.le_refl _, fun m hm => by
      rcases hm with rfl | rfl | ⟨j, hj, _⟩
      · refine ⟨v0, rfl, ?_⟩
        rw [hval 0 .zero hC.wf.z]
        exact R.fk r0 ((Fk.of_same s2).trans fk2)
      · refine ⟨v1, rfl, ?_⟩
        rw [hval 1 .one hC.wf.o]
        exact R.mono (R.fk r1 fk2) (by decide)
      · exact absurd hj (Nat.not_lt_zero _)⟩
    generalize upd H2 F (.dK [(Sum.inl 0, v0), (Sum.inl 1, v1)]) = H3 at s0 kn0
    -- for at in circuits.within(node)
    obtain ⟨dxc, hc1⟩ := hC.ob
    refine ⟨_, rfl, pc, dxc, _, rfl, s0 _ _ hc1, cf_no _ _ (by decide +kernel) (by decide +kernel), _, rfl, pc, L, D, n, nodes, rfl, hC.same s0, hn, Nat.le_trans hlen (by decide), fun ms q H4 s4 hq rising reach hml => ?_⟩
    have s04 := s0.trans s4
    have nqF : q ≠ F := fun e => by
      rw [e, s4 _ _ (kn0 ms).at_] at hq
      cases hq
    refine ⟨q, rfl, ⟨_, SqL.of hq⟩, for_list (K := K) (a := q) (xs := ms.map nV) (fun i σ H5 => ∃ (kvs : List (L2.Key × V)) (va vt : Option V), σ = [some (.ref pc), some (nV n), some (.ref ps), some (.ref d), some (.ref F), va, vt, none] ∧ Same H H5 ∧ H5 q = some (.lst (ms.map nV)) ∧ Known R ms val i H5 F kvs)
      ⟨_, none, none, rfl, s04, hq, ⟨s4 _ _ (kn0 ms).at_, (kn0 ms).len, fun m hm => let ⟨v, e1, e2⟩ := (kn0 ms).val m hm; ⟨v, e1, R.fk e2 (.of_same s4)⟩⟩⟩ (fun i σ H5 _ ⟨_, _, _, _, _, h, _⟩ => SqL.of h) ?_ ?_⟩
    · rintro i x σ H5 hi ⟨kvs, va, vt, rfl, s5, hq5, kn⟩
      rw [List.getElem?_map] at hi
      cases hm : ms[i]? with
      | none =>
        rw [hm] at hi
        cases hi
      | some m =>
        rw [hm] at hi
        have ex : nV m = x := Option.some.inj hi
        subst ex
        have hmr : Reach nodes n m := (reach m).mp (List.mem_of_getElem? hm)
        have hml' : m < nodes.length := Nat.lt_of_le_of_lt (hmr.le hC.wf) hn
        obtain ⟨sh, hsh⟩ : ∃ sh, nodes[m]? = some sh := ⟨_, List.getElem?_eq_getElem hml'⟩
        have hC5 := hC.same s5
        have hi50 : i < ms.length := (List.getElem?_eq_some_iff.mp hm).1
        have neF : ∀ b o, H b = some o → b ≠ F := fun b o e => ne_of_none e nF
        refine ⟨_, rfl, pc, dxc, _, rfl, s5 _ _ hc1, cf_no _ _ (by decide +kernel) (by decide +kernel), _, rfl, pc, L, D, m, nodes, _, rfl, hC5, hsh, fun a hD => ?_⟩
        obtain ⟨tf, tp, tt, ts⟩ := tag_is sh
        have hv := hval m _ hsh
        -- a part of m was looked at before
        have part : ∀ y, y ∈ sh.parts → y < m ∧ ∃ j, j < i ∧ ms[j]? = some y := fun y hy => by
          have hlt := Sh.low_parts (hC.wf.low _ _ hsh) hy
          refine ⟨hlt, ?_⟩
          obtain ⟨j, hj⟩ := List.mem_iff_getElem?.mp ((reach y).mpr (hmr.step hsh hy))
          refine ⟨j, ?_, hj⟩
          refine Nat.lt_of_not_le fun hle => ?_
          have hjl : j < ms.length := (List.getElem?_eq_some_iff.mp hj).1
          rcases Nat.lt_or_eq_of_le hle with h | h
          · have := List.pairwise_iff_getElem.mp rising i j hi50 hjl h
            have e1 : ms[i] = m := Option.some.inj ((List.getElem?_eq_getElem hi50).symm.trans hm)
            have e2 : ms[j] = y := Option.some.inj ((List.getElem?_eq_getElem hjl).symm.trans hj)
            omega
          · subst h
            rw [hm] at hj
            cases hj
            exact Nat.lt_irrefl _ hlt
        -- behind a store
        have put : ∀ (H6 : Hp) (v : V), Same H5 H6 → R.rep m H6 v (val m) → ∃ (kvs' : List (L2.Key × V)) (va vt : Option V), [some (.ref pc), some (nV n), some (.ref ps), some (.ref d), some (.ref F), some (nV m), some (.ref a), none] = ([some (.ref pc), some (nV n), some (.ref ps), some (.ref d), some (.ref F), va, vt, none] : L2.St) ∧
            Same H (upd H6 F (.dK (putK kvs (Sum.inl (m : Int)) v))) ∧ (upd H6 F (.dK (putK kvs (Sum.inl (m : Int)) v))) q = some (.lst (ms.map nV)) ∧ Known R ms val (i + 1) (upd H6 F (.dK (putK kvs (Sum.inl (m : Int)) v))) F kvs' := fun H6 v s6 r6 => by
          have fk6 : Fk H6 (upd H6 F (.dK (putK kvs (Sum.inl (m : Int)) v))) := .upd (nf_dK (s6 _ _ kn.at_))
          refine ⟨_, _, _, rfl, fun b o e => ?_, ?_, upd_same, ?_, fun m' hm' => ?_⟩
          · rw [upd_ne (neF b o e)]
            exact s6 _ _ (s5 _ _ e)
          · rw [upd_ne nqF]
            exact s6 _ _ hq5
          · have := length_putK kvs (Sum.inl (m : Int) : L2.Key) v
            have := kn.len
            omega
          · rw [valV_put]
            by_cases e : m' = m
            · subst e
              rw [if_pos rfl]
              exact ⟨v, rfl, R.fk r6 fk6⟩
            · have : ¬ (Sum.inl (m' : Int) : L2.Key) = Sum.inl (m : Int) := fun z => e (by have := Sum.inl.inj z; omega)
              rw [if_neg this]
              have hm'' : m' = 0 ∨ m' = 1 ∨ ∃ j, j < i ∧ ms[j]? = some m' := by
                rcases hm' with h | h | ⟨j, hj, hj2⟩
                · exact .inl h
                · exact .inr (.inl h)
                · refine .inr (.inr ⟨j, ?_, hj2⟩)
                  rcases Nat.lt_or_eq_of_le (Nat.le_of_lt_succ hj) with h | h
                  · exact h
                  · subst h
                    rw [hm] at hj2
                    cases hj2
                    exact absurd rfl e
              obtain ⟨v', e1, e2⟩ := kn.val m' hm''
              exact ⟨v', e1, R.fk e2 ((Fk.of_same s6).trans fk6)⟩
        have kvl : kvs.length < sizeLine := Nat.lt_of_le_of_lt kn.len (by rw [sizeLine_eq]; omega)
        -- two parts' worths
        have two : ∀ (y z : Nat) (b c : Addr), sh.parts = [y, z] → SqT K H5 b [nV y, nV z] → ∃ vy vz ny, ny < m ∧ R.rep ny H5 vy (val y) ∧ R.rep ny H5 vz (val z) ∧ valV kvs (Sum.inl (y : Int) : L2.Key) = some vy ∧ valV kvs (Sum.inl (z : Int) : L2.Key) = some vz := fun y z b c hp _ => by
          obtain ⟨hy1, hy2⟩ := part y (by rw [hp]; simp)
          obtain ⟨hz1, hz2⟩ := part z (by rw [hp]; simp)
          obtain ⟨vy, e1, e2⟩ := kn.val y (.inr (.inr hy2))
          obtain ⟨vz, e3, e4⟩ := kn.val z (.inr (.inr hz2))
          exact ⟨vy, vz, m - 1, by omega, R.mono e2 (by omega), R.mono e4 (by omega), e1, e3⟩
        obtain ⟨vs, hs, h0⟩ := sh_sq (K := K) hD
        refine ⟨_, rfl, a, vs, 0, _, rfl, rfl, hs, at0 h0, rfl, _, rfl, ?_⟩
        rw [tf]
        have skip : m = 0 ∨ m = 1 → ∃ (kvs' : List (L2.Key × V)) (va vt : Option V), [some (.ref pc), some (nV n), some (.ref ps), some (.ref d), some (.ref F), some (nV m), some (.ref a), none] = ([some (.ref pc), some (nV n), some (.ref ps), some (.ref d), some (.ref F), va, vt, none] : L2.St) ∧
            Same H H5 ∧ H5 q = some (.lst (ms.map nV)) ∧ Known R ms val (i + 1) H5 F kvs' := fun h01 => by
          refine ⟨kvs, _, _, rfl, s5, hq5, kn.at_, Nat.le_succ_of_le kn.len, fun m' hm' => kn.val m' ?_⟩
          rcases hm' with h | h | ⟨j, hj, hj2⟩
          · exact .inl h
          · exact .inr (.inl h)
          · rcases Nat.lt_or_eq_of_le (Nat.le_of_lt_succ hj) with h | h
            · exact .inr (.inr ⟨j, h, hj2⟩)
            · subst h
              rw [hm] at hj2
              cases hj2
              exact h01.imp id .inl
        cases sh with
        | fact kk =>
          refine iteB rfl ?_
          obtain ⟨ws2, hs2, h1⟩ := sh_one (K := K) (.inl rfl) hD
          obtain ⟨v, ev, rv⟩ := hws m kk hmr hsh
          refine ⟨_, rfl, _, rfl, a, ws2, 1, _, rfl, rfl, hs2, at1 h1, d, v, rfl, (by rw [← ev]; exact DGet.k (k := Sum.inl (kk : Int)) (s5 _ _ hd)), _, rfl, _, rfl, F, _, rfl, DPut.k (k := Sum.inl (m : Int)) kn.at_ kvl, ?_⟩
          exact put H5 v (.refl _) (by rw [hv]; exact R.mono (R.fk rv (.of_same s5)) (Nat.zero_le _))
        | plus y z =>
          refine iteBF rfl ?_
          refine ⟨_, rfl, a, vs, 0, _, rfl, rfl, hs, at0 h0, rfl, _, rfl, ?_⟩
          rw [tp]
          refine iteB rfl ?_
          obtain ⟨ws2, b, hs, h1, hs2⟩ := sh_op (K := K) (.inl rfl) hD
          obtain ⟨vy, vz, ny, hny, ry, rz, ey, ez⟩ := two y z b 0 rfl hs2
          refine ⟨_, rfl, _, rfl, a, ws2, 1, _, rfl, rfl, hs, at1 h1, b, rfl, ⟨_, hs2⟩, fun G nG => lc_tup (K := K) (a := b) (xs := [nV y, nV z]) (fun t H6 => Same H5 H6 ∧ H6 G = some (.lst ([vy, vz].take t))) ⟨same_new nG, upd_same⟩ (fun t H6 _ ⟨s6, _⟩ => sqT_same hs2 s6) ?_ ?_⟩
          · rintro t x H6 hi ⟨s6, hG6⟩
            have neG : ∀ b o, H5 b = some o → b ≠ G := fun b o e => ne_of_none e nG
            match t, hi, hG6 with
            | 0, hi, hG6 =>
              have ex : nV y = x := by simpa using hi
              subst ex
              refine ⟨rfl, _, rfl, _, rfl, F, vy, rfl, (by rw [← ey]; exact DGet.k (k := Sum.inl (y : Int)) (s6 _ _ kn.at_)), _, hG6, (by show 0 < sizeLine; rw [sizeLine_eq]; decide), fun b o e => ?_, upd_same⟩
              rw [upd_ne (neG b o e)]
              exact s6 _ _ e
            | 1, hi, hG6 =>
              have ex : nV z = x := by simpa using hi
              subst ex
              refine ⟨rfl, _, rfl, _, rfl, F, vz, rfl, (by rw [← ez]; exact DGet.k (k := Sum.inl (z : Int)) (s6 _ _ kn.at_)), _, hG6, (by show 1 < sizeLine; rw [sizeLine_eq]; decide), fun b o e => ?_, upd_same⟩
              rw [upd_ne (neG b o e)]
              exact s6 _ _ e
            | t + 2, hi, _ => simp at hi
          · rintro H6 ⟨s6, hG6⟩
            have fk6 := Fk.of_same s6
            refine ⟨ps, dx, G, vy, vz, val y, val z, ny, rfl, s6 _ _ (s5 _ _ hps), SqL.of hG6, R.fk ry fk6, R.fk rz fk6, by omega, fun v H7 s7 r7 => ?_, fun hb H7 s7 => ke hb H7 ((s5.trans s6).trans s7)⟩
            refine ⟨_, rfl, _, rfl, F, _, rfl, DPut.k (k := Sum.inl (m : Int)) (s7 _ _ (s6 _ _ kn.at_)) kvl, ?_⟩
            exact put H7 v (s6.trans s7) (by rw [hv]; exact R.mono r7 (by omega))
        | times y z =>
          refine iteBF rfl ?_
          refine ⟨_, rfl, a, vs, 0, _, rfl, rfl, hs, at0 h0, rfl, _, rfl, ?_⟩
          rw [tp]
          refine iteBF rfl ?_
          refine ⟨_, rfl, a, vs, 0, _, rfl, rfl, hs, at0 h0, rfl, _, rfl, ?_⟩
          rw [tt]
          refine iteB rfl ?_
          obtain ⟨ws2, b, hs, h1, hs2⟩ := sh_op (K := K) (.inr rfl) hD
          obtain ⟨vy, vz, ny, hny, ry, rz, ey, ez⟩ := two y z b 0 rfl hs2
          refine ⟨_, rfl, _, rfl, a, ws2, 1, _, rfl, rfl, hs, at1 h1, b, rfl, ⟨_, hs2⟩, fun G nG => lc_tup (K := K) (a := b) (xs := [nV y, nV z]) (fun t H6 => Same H5 H6 ∧ H6 G = some (.lst ([vy, vz].take t))) ⟨same_new nG, upd_same⟩ (fun t H6 _ ⟨s6, _⟩ => sqT_same hs2 s6) ?_ ?_⟩
          · rintro t x H6 hi ⟨s6, hG6⟩
            have neG : ∀ b o, H5 b = some o → b ≠ G := fun b o e => ne_of_none e nG
            match t, hi, hG6 with
            | 0, hi, hG6 =>
              have ex : nV y = x := by simpa using hi
              subst ex
              refine ⟨rfl, _, rfl, _, rfl, F, vy, rfl, (by rw [← ey]; exact DGet.k (k := Sum.inl (y : Int)) (s6 _ _ kn.at_)), _, hG6, (by show 0 < sizeLine; rw [sizeLine_eq]; decide), fun b o e => ?_, upd_same⟩
              rw [upd_ne (neG b o e)]
              exact s6 _ _ e
            | 1, hi, hG6 =>
              have ex : nV z = x := by simpa using hi
              subst ex
              refine ⟨rfl, _, rfl, _, rfl, F, vz, rfl, (by rw [← ez]; exact DGet.k (k := Sum.inl (z : Int)) (s6 _ _ kn.at_)), _, hG6, (by show 1 < sizeLine; rw [sizeLine_eq]; decide), fun b o e => ?_, upd_same⟩
              rw [upd_ne (neG b o e)]
              exact s6 _ _ e
            | t + 2, hi, _ => simp at hi
          · rintro H6 ⟨s6, hG6⟩
            have fk6 := Fk.of_same s6
            refine ⟨ps, dx, G, vy, vz, val y, val z, ny, rfl, s6 _ _ (s5 _ _ hps), SqL.of hG6, R.fk ry fk6, R.fk rz fk6, by omega, fun v H7 s7 r7 => ?_, fun hb H7 s7 => ke hb H7 ((s5.trans s6).trans s7)⟩
            refine ⟨_, rfl, _, rfl, F, _, rfl, DPut.k (k := Sum.inl (m : Int)) (s7 _ _ (s6 _ _ kn.at_)) kvl, ?_⟩
            exact put H7 v (s6.trans s7) (by rw [hv]; exact R.mono r7 (by omega))
        | star y => exact absurd hsh (nst m y)
        | zero =>
          refine iteBF rfl ?_
          refine ⟨_, rfl, a, vs, 0, _, rfl, rfl, hs, at0 h0, rfl, _, rfl, ?_⟩
          rw [tp]
          refine iteBF rfl ?_
          refine ⟨_, rfl, a, vs, 0, _, rfl, rfl, hs, at0 h0, rfl, _, rfl, ?_⟩
          rw [tt]
          refine iteBF rfl ?_
          refine ⟨_, rfl, a, vs, 0, _, rfl, rfl, hs, at0 h0, rfl, _, rfl, ?_⟩
          rw [ts]
          refine iteBF rfl ?_
          exact skip (.inl (hC.wf.rz m hsh))
        | one =>
          refine iteBF rfl ?_
          refine ⟨_, rfl, a, vs, 0, _, rfl, rfl, hs, at0 h0, rfl, _, rfl, ?_⟩
          rw [tp]
          refine iteBF rfl ?_
          refine ⟨_, rfl, a, vs, 0, _, rfl, rfl, hs, at0 h0, rfl, _, rfl, ?_⟩
          rw [tt]
          refine iteBF rfl ?_
          refine ⟨_, rfl, a, vs, 0, _, rfl, rfl, hs, at0 h0, rfl, _, rfl, ?_⟩
          rw [ts]
          refine iteBF rfl ?_
          exact skip (.inr (hC.wf.ro m hsh))
    · rintro σ H5 ⟨kvs, va, vt, rfl, s5, hq5, kn⟩
      obtain ⟨j, hj⟩ := List.mem_iff_getElem?.mp ((reach n).mpr .refl)
      rw [List.length_map] at kn
      obtain ⟨v, ev, rv⟩ := kn.val n (.inr (.inr ⟨j, (List.getElem?_eq_some_iff.mp hj).1, hj⟩))
      exact ⟨_, rfl, _, rfl, F, v, rfl, (by rw [← ev]; exact DGet.k (k := Sum.inl (n : Int)) kn.at_), k v H5 s5 rv⟩
end
end Ev

/-! The semiring of values with slopes. -/
namespace Ev
open PySem PySem.Spec PyProof.Rows L2
/-! ### sizes -/
def sz (n : Nat) : Nat := 2 ^ (n + 2)
theorem sz_succ (n : Nat) : sz (n + 1) = sz n + sz n := by
  unfold sz
  rw [show n + 1 + 2 = (n + 2) + 1 from rfl, Nat.pow_succ]
  omega
theorem sz_mono {n m : Nat} (h : n ≤ m) : sz n ≤ sz m := Nat.pow_le_pow_right (by decide) (by omega)
theorem sz_ge (n : Nat) : 4 ≤ sz n := by
  have h : sz 0 ≤ sz n := sz_mono (Nat.zero_le _)
  have h0 : sz 0 = 4 := rfl
  omega
theorem sz_le {n : Nat} (h : n ≤ 15) : sz n ≤ 131072 := by
  have h1 : sz n ≤ sz 15 := sz_mono h
  have h2 : sz 15 = 131072 := by decide
  omega
theorem mul_le_pow {a b c d : Nat} (h1 : a ≤ 2 ^ c) (h2 : b ≤ 2 ^ d) : a * b ≤ 2 ^ (c + d) := by
  rw [Nat.pow_add]
  exact Nat.mul_le_mul h1 h2
theorem cmul_of {i j : Int} {c d : Nat} (hi : i.natAbs ≤ 2 ^ c) (hj : j.natAbs ≤ 2 ^ d) (hc : c ≤ 400000) (hd : d ≤ 400000) : CMulW i j :=
  wide_mul (a := c + 1) (b := d + 1) (Nat.lt_of_le_of_lt hi (Nat.pow_lt_pow_right (by decide) (Nat.lt_succ_self _))) (Nat.lt_of_le_of_lt hj (Nat.pow_lt_pow_right (by decide) (Nat.lt_succ_self _))) (Nat.succ_pos _) (Nat.succ_pos _) (by omega)
/-- both parts of size n -/
def DuOk (n : Nat) (a : Du) : Prop := 2 * a.1.natAbs ≤ 2 ^ sz n ∧ 2 * a.2.natAbs ≤ 2 ^ sz n
theorem DuOk.mono {n m : Nat} {a : Du} (h : DuOk n a) (hm : n ≤ m) : DuOk m a :=
  ⟨Nat.le_trans h.1 (Nat.pow_le_pow_right (by decide) (sz_mono hm)), Nat.le_trans h.2 (Nat.pow_le_pow_right (by decide) (sz_mono hm))⟩
theorem two_le_pow (n : Nat) : 2 ≤ 2 ^ sz n := by
  have h : 2 ^ 1 ≤ 2 ^ sz n := Nat.pow_le_pow_right (by decide) (Nat.le_trans (by decide) (sz_ge n))
  have h1 : 2 ^ 1 = 2 := rfl
  omega
theorem DuOk.add {n : Nat} {a b : Du} (ha : DuOk n a) (hb : DuOk n b) : DuOk (n + 1) (dadd a b) := by
  have h2 := two_le_pow n
  have e : 2 ^ sz (n + 1) = 2 ^ sz n * 2 ^ sz n := by rw [sz_succ, Nat.pow_add]
  have key : ∀ x y : Int, 2 * x.natAbs ≤ 2 ^ sz n → 2 * y.natAbs ≤ 2 ^ sz n → 2 * (x + y).natAbs ≤ 2 ^ sz (n + 1) := fun x y hx hy => by
    rw [e]
    generalize 2 ^ sz n = W at *
    have h3 := Int.natAbs_add_le x y
    have h4 : 2 * W ≤ W * W := Nat.mul_le_mul_right W h2
    omega
  exact ⟨key _ _ ha.1 hb.1, key _ _ ha.2 hb.2⟩
theorem DuOk.mul {n : Nat} {a b : Du} (ha : DuOk n a) (hb : DuOk n b) : DuOk (n + 1) (dmul a b) := by
  have e : 2 ^ sz (n + 1) = 2 ^ sz n * 2 ^ sz n := by rw [sz_succ, Nat.pow_add]
  have key : ∀ x y : Int, 2 * x.natAbs ≤ 2 ^ sz n → 2 * y.natAbs ≤ 2 ^ sz n → 4 * (x * y).natAbs ≤ 2 ^ sz (n + 1) := fun x y hx hy => by
    rw [e, Int.natAbs_mul]
    have := Nat.mul_le_mul hx hy
    rw [show 2 * x.natAbs * (2 * y.natAbs) = 4 * (x.natAbs * y.natAbs) by rw [Nat.mul_mul_mul_comm]] at this
    exact this
  refine ⟨?_, ?_⟩
  · have := key _ _ ha.1 hb.1
    show 2 * (a.1 * b.1).natAbs ≤ _
    omega
  · have h1 := key _ _ ha.1 hb.2
    have h2 := key _ _ ha.2 hb.1
    have h3 := Int.natAbs_add_le (a.1 * b.2) (a.2 * b.1)
    show 2 * (a.1 * b.2 + a.2 * b.1).natAbs ≤ _
    generalize 2 ^ sz (n + 1) = W at *
    omega
theorem DuOk.cmul {n : Nat} {a b : Du} (ha : DuOk n a) (hb : DuOk n b) (hn : n ≤ 15) : CMulW a.1 b.1 ∧ CMulW a.1 b.2 ∧ CMulW a.2 b.1 := by
  have h := sz_le hn
  have k : ∀ x : Int, 2 * x.natAbs ≤ 2 ^ sz n → x.natAbs ≤ 2 ^ sz n := fun x hx => by omega
  exact ⟨cmul_of (k _ ha.1) (k _ hb.1) (by omega) (by omega), cmul_of (k _ ha.1) (k _ hb.2) (by omega) (by omega), cmul_of (k _ ha.2) (k _ hb.1) (by omega) (by omega)⟩
theorem DuOk.small {n : Nat} {a : Du} (h1 : a.1.natAbs ≤ 8) (h2 : a.2.natAbs ≤ 8) : DuOk n a := by
  have h : 2 ^ 4 ≤ 2 ^ sz n := Nat.pow_le_pow_right (by decide) (sz_ge n)
  have e : 2 ^ 4 = 16 := rfl
  unfold DuOk
  generalize 2 ^ sz n = W at *
  omega
def duK (a : Du) : NestedKey := .tup [.num a.1, .num a.2]
/-- the semiring of slopes -/
def slopesR : Ring where
  A := Du
  zero := dz
  one := done
  plus := dadd
  times := dmul
  rep := fun n H v a => Dn H v (duK a) ∧ DuOk n a
  big := False
  mono := fun h hm => ⟨h.1, h.2.mono hm⟩
  fk := fun h t => ⟨Dn.fk t _ _ h.1, h.2⟩
theorem du_sq {K : PySem.W.Frag} {H : Hp} {v : V} {a : Du} (h : Dn H v (duK a)) : ∃ p, v = .ref p ∧ SqT K H p [.int a.1, .int a.2] := by
  obtain ⟨p, vs, rfl, hs, ha⟩ := Dn.sq (K := K) h
  cases ha with
  | cons h1 h2 =>
    cases h2 with
    | cons h2 h3 =>
      cases h3
      have e1 := h1.num_inv
      have e2 := h2.num_inv
      subst e1 e2
      exact ⟨p, rfl, hs⟩
theorem du_new {H : Hp} {p : Addr} {o : Obj} {a : Du} (d : o.dict = none) : Dn (upd H p (.frz o (.tup [.int a.1, .int a.2]))) (.ref p) (duK a) := .tup upd_same d (.cons (.int _) (.cons (.int _) .nil))
def numB : V → Bool
  | .int _ => true
  | _ => false
def spIsNumber : Sp := fun vs H Q _ => ∃ x : V, vs = [x] ∧ ((∃ i, x = .int i) ∨ (∃ b, x = .bl b) ∨ ∃ s, x = .str s) ∧ Q (.bl (numB x)) H
def spSStar : Sp := fun vs H Q _ => ∃ (p : Addr) (v : V), vs = [.ref p, v] ∧ Dn H v (duK dz) ∧ ∀ (v' : V) (H' : Hp), Same H H' → Dn H' v' (duK done) → Q v' H'
/-- is the thing an element -/
inductive ElemIs (K : PySem.W.Frag) (H : Hp) : V → Bool → Prop
  | pair {a : Addr} {x y : V} : Rd H a (.tup [x, y]) → ((∃ i, x = .int i) ∨ (∃ b, x = .bl b) ∨ ∃ s, x = .str s) → ((∃ i, y = .int i) ∨ (∃ b, y = .bl b) ∨ ∃ s, y = .str s) → ElemIs K H (.ref a) (numB x && numB y)
  | other {a : Addr} {xs : List V} : Rd H a (.tup xs) → xs.length ≠ 2 → ElemIs K H (.ref a) false
  | lst {a : Addr} {xs : List V} : H a = some (.lst xs) → ElemIs K H (.ref a) false
  | int (i : Int) : ElemIs K H (.int i) false
def spSIs (K : PySem.W.Frag) : Sp := fun vs H Q _ => ∃ (p : Addr) (v : V) (b : Bool), vs = [.ref p, v] ∧ ElemIs K H v b ∧ Q (.bl b) H
structure TxtS (K : PySem.W.Frag) (mg : Str → Option Value) (A : Ads) where
  cl : Cls K A.S
  g : mg "Slopes" = some (.ref A.S)
  made : MkO K A.S
  zero : MDef K A.S "zero" "Slopes.zero" sSZero ["self"]
  one : MDef K A.S "one" "Slopes.one" sSOne ["self"]
  plus : MDef K A.S "plus" "Slopes.plus" sSPlus ["self", "a", "b"]
  times : MDef K A.S "times" "Slopes.times" sSTimes ["self", "a", "b"]
  star : MDef K A.S "star" "Slopes.star" sSStar ["self", "a"]
  is_ : MDef K A.S "is_element" "Slopes.is_element" sSIs ["self", "a"]
  isNumber : GDef K mg "is_number" sIsNumber ["thing"]
section
variable {P : Program} {w : World} {K : PySem.W.Frag} {mg : Str → Option Value} {base : Heap} {A : Ads}
theorem scSZero : FnScope ["self"] ["self"] (defScope sSZero) := ⟨rfl, rfl, rfl, by decide +kernel, rfl, by decide +kernel, by decide +kernel⟩
theorem scSOne : FnScope ["self"] ["self"] (defScope sSOne) := ⟨rfl, rfl, rfl, by decide +kernel, rfl, by decide +kernel, by decide +kernel⟩
theorem scSPlus : FnScope ["self", "a", "b"] ["self", "a", "b"] (defScope sSPlus) := ⟨rfl, rfl, rfl, by decide +kernel, rfl, by decide +kernel, by decide +kernel⟩
theorem scSTimes : FnScope ["self", "a", "b"] ["self", "a", "b"] (defScope sSTimes) := ⟨rfl, rfl, rfl, by decide +kernel, rfl, by decide +kernel, by decide +kernel⟩
theorem scSStar : FnScope ["self", "a"] ["self", "a"] (defScope sSStar) := ⟨rfl, rfl, rfl, by decide +kernel, rfl, by decide +kernel, by decide +kernel⟩
theorem scSIs : FnScope ["self", "a"] ["self", "a"] (defScope sSIs) := ⟨rfl, rfl, rfl, by decide +kernel, rfl, by decide +kernel, by decide +kernel⟩
theorem scIsNumber : FnScope ["thing"] ["thing"] (defScope sIsNumber) := ⟨rfl, rfl, rfl, by decide +kernel, rfl, by decide +kernel, by decide +kernel⟩
theorem ok_sZero (T : TxtS K mg A) : FnOk P w K mg base (L2.CX P w) 1 T.zero.f T.zero.fd ["self"] (spConst slopesR dz) := by
  refine T.zero.F.okX scSZero (fun vs H Q E h => ?_) (fun cdv A' outer s H vs Q E hr h => ?_)
  · obtain ⟨p, rfl, _⟩ := h
    rfl
  · obtain ⟨p, rfl, k⟩ := h
    exact ⟨_, pss_one (ps_ret (pe_tupF (pa_cons pe_int (pa_cons pe_int pa_nil)))), ln2, fun q o nq d => k _ _ (same_new nq) ⟨du_new (a := dz) d, .small (by decide) (by decide)⟩⟩
theorem ok_sOne (T : TxtS K mg A) : FnOk P w K mg base (L2.CX P w) 1 T.one.f T.one.fd ["self"] (spConst slopesR done) := by
  refine T.one.F.okX scSOne (fun vs H Q E h => ?_) (fun cdv A' outer s H vs Q E hr h => ?_)
  · obtain ⟨p, rfl, _⟩ := h
    rfl
  · obtain ⟨p, rfl, k⟩ := h
    exact ⟨_, pss_one (ps_ret (pe_tupF (pa_cons pe_int (pa_cons pe_int pa_nil)))), ln2, fun q o nq d => k _ _ (same_new nq) ⟨du_new (a := done) d, .small (by decide) (by decide)⟩⟩
theorem ok_sPlus (T : TxtS K mg A) (eT : Addr) : FnOk P w K mg base (L2.CX P w) 1 T.plus.f T.plus.fd ["self", "a", "b"] (spBin slopesR dadd eT) := by
  refine T.plus.F.okX scSPlus (fun vs H Q E h => ?_) (fun cdv A' outer s H vs Q E hr h => ?_)
  · obtain ⟨p, va, vb, a, b, n, rfl, _⟩ := h
    rfl
  · obtain ⟨p, va, vb, a, b, n, rfl, ra, rb, hn, k, _⟩ := h
    refine ⟨_, pss_one (ps_ret (pe_tupF (pa_cons (pe_op op_add (pe_ix ix_tup (pv 1) pe_int (fun _ _ => rfl)) (pe_ix ix_tup (pv 2) pe_int (fun _ _ => rfl))) (pa_cons (pe_op op_add (pe_ix ix_tup (pv 1) pe_int (fun _ _ => rfl)) (pe_ix ix_tup (pv 2) pe_int (fun _ _ => rfl))) pa_nil)))), ?_⟩
    obtain ⟨pa, rfl, ha⟩ := du_sq (K := K) ra.1
    obtain ⟨pb, rfl, hb⟩ := du_sq (K := K) rb.1
    refine ⟨_, rfl, pa, _, 0, _, rfl, rfl, ha, at0 rfl, _, rfl, pb, _, 0, _, rfl, rfl, hb, at0 rfl, _, _, rfl, rfl, ?_⟩
    refine ⟨_, rfl, pa, _, 1, _, rfl, rfl, ha, at1 rfl, _, rfl, pb, _, 1, _, rfl, rfl, hb, at1 rfl, _, _, rfl, rfl, ?_⟩
    exact ⟨ln2, fun q o nq d => k _ _ (same_new nq) ⟨du_new (a := dadd a b) d, ra.2.add rb.2⟩⟩
theorem ok_sTimes (T : TxtS K mg A) (eT : Addr) : FnOk P w K mg base (L2.CX P w) 1 T.times.f T.times.fd ["self", "a", "b"] (spBin slopesR dmul eT) := by
  refine T.times.F.okX scSTimes (fun vs H Q E h => ?_) (fun cdv A' outer s H vs Q E hr h => ?_)
  · obtain ⟨p, va, vb, a, b, n, rfl, _⟩ := h
    rfl
  · obtain ⟨p, va, vb, a, b, n, rfl, ra, rb, hn, k, _⟩ := h
    refine ⟨_, pss_one (ps_ret (pe_tupF (pa_cons (pe_op op_mulW (pe_ix ix_tup (pv 1) pe_int (fun _ _ => rfl)) (pe_ix ix_tup (pv 2) pe_int (fun _ _ => rfl)))
      (pa_cons (pe_op op_add (pe_op op_mulW (pe_ix ix_tup (pv 1) pe_int (fun _ _ => rfl)) (pe_ix ix_tup (pv 2) pe_int (fun _ _ => rfl))) (pe_op op_mulW (pe_ix ix_tup (pv 1) pe_int (fun _ _ => rfl)) (pe_ix ix_tup (pv 2) pe_int (fun _ _ => rfl)))) pa_nil)))), ?_⟩
    obtain ⟨pa, rfl, ha⟩ := du_sq (K := K) ra.1
    obtain ⟨pb, rfl, hb⟩ := du_sq (K := K) rb.1
    obtain ⟨c1, c2, c3⟩ := ra.2.cmul rb.2 (by omega)
    refine ⟨_, rfl, pa, _, 0, _, rfl, rfl, ha, at0 rfl, _, rfl, pb, _, 0, _, rfl, rfl, hb, at0 rfl, _, _, rfl, rfl, c1, ?_⟩
    refine ⟨_, rfl, pa, _, 0, _, rfl, rfl, ha, at0 rfl, _, rfl, pb, _, 1, _, rfl, rfl, hb, at1 rfl, _, _, rfl, rfl, c2, ?_⟩
    refine ⟨_, rfl, pa, _, 1, _, rfl, rfl, ha, at1 rfl, _, rfl, pb, _, 0, _, rfl, rfl, hb, at0 rfl, _, _, rfl, rfl, c3, _, _, rfl, rfl, ?_⟩
    exact ⟨ln2, fun q o nq d => k _ _ (same_new nq) ⟨du_new (a := dmul a b) d, ra.2.mul rb.2⟩⟩
theorem ok_sStar (T : TxtS K mg A) : FnOk P w K mg base CX0 1 T.star.f T.star.fd ["self", "a"] spSStar := by
  refine T.star.F.ok scSStar (fun vs H Q E h => ?_) (fun cdv A' outer s H vs Q E hr h => ?_)
  · obtain ⟨p, v, rfl, _⟩ := h
    rfl
  · obtain ⟨p, v, rfl, hD, k⟩ := h
    refine ⟨_, pss_cons (ps_if (pt_cmpR (op_neD hr.units) (pv 1) (pe_tupF (pa_cons pe_int (pa_cons pe_int pa_nil))) (nomark _)) (pss_one ps_never) pss_nil)
      (pss_one (ps_ret (pe_tupF (pa_cons pe_int (pa_cons pe_int pa_nil))))), ?_⟩
    refine ⟨_, rfl, ln2, fun q o nq d => ?_⟩
    have s1 := same_new (o := .frz o (.tup [.int 0, .int 0])) nq
    refine ⟨(duK dz).data, (duK dz).data, Dn.dp _ _ (hD.same s1), Dn.dp _ _ (du_new (a := dz) d), by rfl, by rfl, _, rfl, ?_⟩
    refine iteBF (by rfl) ?_
    exact ⟨ln2, fun q2 o2 nq2 d2 => k _ _ (s1.trans (same_new nq2)) (du_new (a := done) d2)⟩
theorem ok_isNumber (T : TxtS K mg A) (B : TxtB mg) : FnOk P w K mg base CX0 1 T.isNumber.f T.isNumber.fd ["thing"] spIsNumber := by
  refine T.isNumber.F.ok scIsNumber (fun vs H Q E h => ?_) (fun cdv A' outer s H vs Q E hr h => ?_)
  · obtain ⟨x, rfl, _⟩ := h
    rfl
  · obtain ⟨x, rfl, hx, k⟩ := h
    refine ⟨_, pss_one (ps_ret (pe_and (pe_callB call_isi (by rfl) B.isinstance (by decide +kernel) (pa_cons (pv 0) (pa_cons (pe_bltn (v := .ty "int") (u := .type "int") (by rfl) B.int (by decide +kernel) rfl) pa_nil)))
      (pe_one (pe_not (pe_callB call_isi (by rfl) B.isinstance (by decide +kernel) (pa_cons (pv 0) (pa_cons (pe_bltn (v := .ty "bool") (u := .type "bool") (by rfl) B.bool (by decide +kernel) rfl) pa_nil))))))), ?_⟩
    rcases hx with ⟨i, rfl⟩ | ⟨b, rfl⟩ | ⟨y, rfl⟩
    · exact ⟨_, rfl, _, _, _, _, true, rfl, .ty _, .base (.int i), kit_ty (by decide +kernel), true, rfl, iteT ⟨_, rfl, _, _, _, _, false, rfl, .ty _, .base (.int i), kit_ty (by decide +kernel), false, rfl, k⟩⟩
    · exact ⟨_, rfl, _, _, _, _, true, rfl, .ty _, .base (.bl b), kit_ty (by decide +kernel), true, rfl, iteT ⟨_, rfl, _, _, _, _, true, rfl, .ty _, .base (.bl b), kit_ty (by decide +kernel), true, rfl, k⟩⟩
    · exact ⟨_, rfl, _, _, _, _, false, rfl, .ty _, .base (.str y), kit_ty (by decide +kernel), false, rfl, iteF k⟩
theorem ok_sIs (T : TxtS K mg A) (B : TxtB mg) : FnOk P w K mg base CX0 2 T.is_.f T.is_.fd ["self", "a"] (spSIs K) := by
  have GN : FnOk P w K mg base CX0 1 T.isNumber.f T.isNumber.fd ["thing"] spIsNumber := ok_isNumber T B
  refine T.is_.F.ok scSIs (fun vs H Q E h => ?_) (fun cdv A' outer s H vs Q E hr h => ?_)
  · obtain ⟨p, v, b, rfl, _⟩ := h
    rfl
  · obtain ⟨p, v, b, rfl, hx, k⟩ := h
    refine ⟨_, pss_one (ps_ret (pe_and (pe_callB call_isi (by rfl) B.isinstance (by decide +kernel) (pa_cons (pv 1) (pa_cons (pe_bltn (v := .ty "tuple") (u := .type "tuple") (by rfl) B.tuple (by decide +kernel) rfl) pa_nil)))
      (pe_and (pe_cmpR op_eq (pe_callB call_len_seq (by rfl) B.len PySem.boot_len (pa_cons (pv 1) pa_nil)) pe_int (nomark _))
      (pe_and (pe_call GN hr rfl T.isNumber.g T.isNumber.F.kp T.isNumber.b .nil pass0 (pa_cons (pe_ix ix_tup (pv 1) pe_int (fun _ _ => rfl)) pa_nil))
      (pe_one (pe_call GN hr rfl T.isNumber.g T.isNumber.F.kp T.isNumber.b .nil pass0 (pa_cons (pe_ix ix_tup (pv 1) pe_int (fun _ _ => rfl)) pa_nil))))))), ?_⟩
    have tyT : ∀ {a : Addr} {xs : List V}, Rd H a (.tup xs) → TyX K H (.ref a) (.type "tuple") := fun {a xs} r => by
      rcases r with r | ⟨o, r⟩
      · exact .base (.tup r)
      · exact .fTuple r
    cases hx with
    | @pair a x y r hx hy =>
      refine ⟨_, rfl, _, _, _, _, true, rfl, .ty _, tyT r, kit_ty (by decide +kernel), true, rfl, iteT ?_⟩
      refine ⟨_, rfl, a, _, rfl, .inr (.inl r), rfl, true, rfl, iteT ?_⟩
      refine ⟨_, rfl, a, _, 0, _, rfl, rfl, .inl r, at0 rfl, x, rfl, hx, _, rfl, ?_⟩
      cases hb : numB x with
      | true =>
        rw [hb, Bool.true_and] at k
        exact iteT ⟨_, rfl, a, _, 1, _, rfl, rfl, .inl r, at1 rfl, y, rfl, hy, k⟩
      | false =>
        rw [hb, Bool.false_and] at k
        exact iteF k
    | @other a xs r hl =>
      refine ⟨_, rfl, _, _, _, _, true, rfl, .ty _, tyT r, kit_ty (by decide +kernel), true, rfl, iteT ?_⟩
      refine ⟨_, rfl, a, _, rfl, .inr (.inl r), rfl, _, rfl, ?_⟩
      rw [decV, decide_eq_false (by omega)]
      exact iteF k
    | @lst a xs r => exact ⟨_, rfl, _, _, _, _, false, rfl, .ty _, .base (.lst r), kit_ty (by decide +kernel), false, rfl, iteF k⟩
    | int i => exact ⟨_, rfl, _, _, _, _, false, rfl, .ty _, .base (.int i), kit_ty (by decide +kernel), false, rfl, iteF k⟩
end
end Ev

namespace Ev
open PySem PySem.Spec PyProof.Rows L2
/-! ### x is False, x is not True, of an object or a bool -/
def isBl (x : V) (b : Bool) : Bool := decide (x = .bl b)
def rIsV : R2 := fun x y H Q => ∃ b : Bool, y = .bl b ∧ ((∃ a, x = .ref a) ∨ ∃ c, x = .bl c) ∧ Q (.bl (isBl x b)) H
def rNotV : R2 := fun x y H Q => ∃ b : Bool, y = .bl b ∧ ((∃ a, x = .ref a) ∨ ∃ c, x = .bl c) ∧ Q (.bl (!isBl x b)) H
section
variable {X : Cx}
theorem op_isV : OpR X (compareOp .Is) rIsV := by
  intro pins s σ H x y v u Q I rx ry h
  obtain ⟨b, rfl, ⟨a, rfl⟩ | ⟨c, rfl⟩, q⟩ := h
  · cases (show v = Value.ref a from rx)
    cases (show u = Value.bool b from ry)
    exact wpAny_is_other rfl (fun z => nomatch z) ⟨.bl false, H, I, rfl, q⟩
  · exact op_isBl pins s σ H (.bl c) (.bl b) v u Q I rx ry ⟨c, b, rfl, rfl, by
      have e : isBl (.bl c) b = decide (c = b) := by
        unfold isBl
        cases c <;> cases b <;> rfl
      rw [e] at q
      exact q⟩
theorem op_notV : OpR X (compareOp .IsNot) rNotV := by
  intro pins s σ H x y v u Q I rx ry h
  obtain ⟨b, rfl, ⟨a, rfl⟩ | ⟨c, rfl⟩, q⟩ := h
  · cases (show v = Value.ref a from rx)
    cases (show u = Value.bool b from ry)
    exact wpAny_isNot_other rfl (fun z => nomatch z) ⟨.bl true, H, I, rfl, q⟩
  · exact op_notBl pins s σ H (.bl c) (.bl b) v u Q I rx ry ⟨c, b, rfl, rfl, by
      have e : isBl (.bl c) b = decide (c = b) := by
        unfold isBl
        cases c <;> cases b <;> rfl
      rw [e] at q
      exact q⟩
/-! ### name = {k: v for ..} on one line -/
theorem sw_trueD {kx vx : Expr} {gs : List Comprehension} {scope : Scope} {pos py : Pos} {y : Str} {l : Nat} {env : Env} (hk : env.scope.kind = .function) (hy : env.scope.names.lookup y = some .local) (hl : (py.line == pos.line) = true)
    (ha : (scope.names.any fun (n, k) => n == y && (k == .local || k == .cell)) = false) : swapsWith (.DictComp kx vx gs scope pos) (some (.Name y py)) l env = pure true := by
  have ky : env.kindOf y = some .local := hy
  have hb : env.blockKind = .function := by unfold Env.blockKind; rw [hk]; rfl
  unfold swapsWith
  simp only [hb, ky, ha, Expr.pos, hl]
  rfl
theorem ps_setDc {i : Nat} {y : Str} {py : Pos} {kx vx tg iter : Expr} {ifs : List Expr} {scope : Scope} {own : List (Str × Nat)} {pos spos : Pos} {wi : TI} {g : TG} {tt : TT} {tk tv : TE} (hc : X.calm = true) (hN : X.N.Nodup) (hy : X.N[i]? = some y) (hyl : X.env.scope.names.lookup y = some .local)
    (hsw : swapsWith (.DictComp kx vx [⟨tg, iter, ifs, 0⟩] scope pos) (some (.Name y py)) spos.line X.env = pure true) (hi : PI X tg iter wi) (ok : BlkOk X.N X.env.scope scope own)
    (hg : ∀ (s : Shared) (H : Hp) (C : Addr) (cl : List (Str × Addr)) (fp : List Addr), PG (X.blk s H scope (compEnvC scope cl C X.env) fp) tg g) (ht : ∀ (s : Shared) (H : Hp) (C : Addr) (cl : List (Str × Addr)) (fp : List Addr), PTs (X.blk s H scope (compEnvC scope cl C X.env) fp) ifs tt)
    (hk : ∀ (s : Shared) (H : Hp) (C : Addr) (cl : List (Str × Addr)) (fp : List Addr), PE (X.blk s H scope (compEnvC scope cl C X.env) fp) kx tk)
    (he : ∀ (s : Shared) (H : Hp) (C : Addr) (cl : List (Str × Addr)) (fp : List Addr), PE (X.blk s H scope (compEnvC scope cl C X.env) fp) vx tv) (hs : ∀ x, foldedSetIterable iter X.env x = pure x := by intro _; rfl) :
    PS X (.Assign [.Name y py] (.DictComp kx vx [⟨tg, iter, ifs, 0⟩] scope pos) spos) (tAsg (tDc wi g tt tk tv (own.map (·.2))) (gName i)) := by
  refine ⟨fun pins s σ H D I h => ?_⟩
  rw [exec_Assign_Name_used _ _ _ _ hsw]
  refine wpAny_bind (wpAny_standAt (wpAny_bind ?_))
  show wpAny _ X.A (do let _ ← comprehension (.DictComp kx vx [⟨tg, iter, ifs, 0⟩] scope pos) scope X.env (firstIterPos [⟨tg, iter, ifs, 0⟩] pos) newDict false (eval iter X.env) (some (assign (.Name y py) X.env))) _ _ s
  have h : tDc wi g tt tk tv (own.map (·.2)) σ H (fun x H1 => gName i x σ H1 D.nx) := h
  refine wpAny_bind (thn (dc_core (Qf := fun _ s' => SP X pins D .next s') hc hN I hi ok hg ht hk he hs h fun L C s' m H' I' q hn f => ?_) fun _ s' hq => wpAny_pure (wpAny_pure hq))
  show wpAny _ _ (assign (.Name y py) X.env (.ref L)) _ _ _
  refine wpAny_assign_Name (store_ok2 (v := V.ref L) I' hN hy (.inl hyl) rfl (fun s2 I2 ⟨a, sb, ha⟩ => ?_) (.inr hyl))
  obtain ⟨f0, f1, f2, f3, f4, f5⟩ := f
  have haC : C ≠ a := by
    rcases ha with z | z
    · rw [z]; exact f1
    · exact fun e => f4 y a z e.symm
  refine ⟨m, hn.sameBut sb haC, fun h3 sb3 => ?_⟩
  exact ⟨_, H', I2.turned (t' := s2.toks) (fun b o hb e => (sb3.2 b hb).trans e) f0 f1 f3 f4 f5, q⟩
end
/-- over a list that stays -/
theorem dc_list {K : PySem.W.Frag} {a : Addr} {xs : List V} {g : TG} {tt : TT} {tk tv : TE} {vs : List Nat} {σ : L2.St} {H1 : Hp} {D : Addr} {Qd : Hp → Prop} (Pv : Nat → Hp → Prop) (h0 : Pv 0 (upd H1 D (.dK []))) (hl : ∀ i H, i ≤ xs.length → Pv i H → SqL K H a xs)
    (hs : ∀ i x H, xs[i]? = some x → Pv i H → g x (wipe σ vs) H fun σ2 H2 => wipe σ2 vs = wipe σ vs ∧ tt σ2 H2 fun b H3 =>
      if b = true then tk σ2 H3 fun y H4 => tv σ2 H4 fun z H5 => ∃ kvs k, y = kV k ∧ H5 D = some (.dK kvs) ∧ kvs.length < sizeLine ∧ Pv (i + 1) (upd H5 D (.dK (putK kvs k z))) else Pv (i + 1) H3) (hd : ∀ H, Pv xs.length H → Qd H) :
    ∃ W : Nat → Nat → Hp → Prop, (∃ m, W 0 m (upd H1 D (.dK []))) ∧ ∀ i m H, W i m H →
      ((Itl K a).stop i H ∧ Qd H) ∨ ((Itl K a).go i H ∧ ∃ Nx : Hp → Prop, (∀ H', Nx H' → ∃ m', m' < m ∧ W (i + 1) m' H') ∧ ∀ x H', (Itl K a).yld i H x H' → g x (wipe σ vs) H' fun σ2 H2 => wipe σ2 vs = wipe σ vs ∧ tt σ2 H2 fun b H3 =>
        if b = true then tk σ2 H3 fun y H4 => tv σ2 H4 fun z H5 => ∃ kvs k, y = kV k ∧ H5 D = some (.dK kvs) ∧ kvs.length < sizeLine ∧ Nx (upd H5 D (.dK (putK kvs k z))) else Nx H3) := by
  refine ⟨fun i m H => m = xs.length - i ∧ i ≤ xs.length ∧ Pv i H, ⟨xs.length, by simp, Nat.zero_le _, h0⟩, ?_⟩
  rintro i m H ⟨rfl, hi, p⟩
  have q := hl i H hi p
  by_cases hlt : i < xs.length
  · refine .inr ⟨⟨xs, xs[i], q, by simp [hlt]⟩, Pv (i + 1), fun H' p' => ⟨xs.length - (i + 1), by omega, rfl, hlt, p'⟩, fun x H' y => ?_⟩
    obtain ⟨e, y⟩ := y
    subst e
    exact hs i x _ (y xs q) p
  · have e : i = xs.length := by omega
    subst e
    exact .inl ⟨⟨xs, q, Nat.le_refl _⟩, hd H p⟩
end Ev

namespace Ev
open PySem PySem.Spec PyProof.Rows L2
/-- the worth of the node s, the worths of its parts being val's -/
def shVal (R : Ring) (fv val : Nat → R.A) (d : R.A) : Sh → R.A
  | .zero => R.zero
  | .one => R.one
  | .fact k => fv k
  | .plus i j => R.plus (val i) (val j)
  | .times i j => R.times (val i) (val j)
  | .star _ => d
theorem exists_val (R : Ring) {nodes : List Sh} (wf : WF nodes) (fv : Nat → R.A) : ∃ val, ValOk R nodes fv val := by
  have step : ∀ n : Nat, ∃ val : Nat → R.A, ∀ (m : Nat) (s : Sh), m < n → nodes[m]? = some s → val m = shVal R fv val (val m) s := by
    intro n
    induction n with
    | zero => exact ⟨fun _ => R.zero, fun m s h => absurd h (Nat.not_lt_zero _)⟩
    | succ n ih =>
      obtain ⟨val, hv⟩ := ih
      cases en : nodes[n]? with
      | none =>
        refine ⟨val, fun m s hm e => hv m s ?_ e⟩
        rcases Nat.lt_or_eq_of_le (Nat.le_of_lt_succ hm) with z | z
        · exact z
        · subst z
          rw [en] at e
          cases e
      | some s0 =>
        refine ⟨fun i => if i = n then shVal R fv val R.zero s0 else val i, fun m s hm e => ?_⟩
        have hlow := wf.low m s e
        rcases Nat.lt_or_eq_of_le (Nat.le_of_lt_succ hm) with z | z
        · have ne : ∀ i, i ≤ m → ¬ i = n := fun i hi => by omega
          have old := hv m s z e
          cases s with
          | plus i j =>
            simp only [shVal] at old ⊢
            rw [if_neg (ne m (Nat.le_refl _)), if_neg (ne i (Nat.le_of_lt hlow.1)), if_neg (ne j (Nat.le_of_lt hlow.2))]
            exact old
          | times i j =>
            simp only [shVal] at old ⊢
            rw [if_neg (ne m (Nat.le_refl _)), if_neg (ne i (Nat.le_of_lt hlow.1)), if_neg (ne j (Nat.le_of_lt hlow.2))]
            exact old
          | star i => rfl
          | zero =>
            simp only [shVal] at old ⊢
            rw [if_neg (ne m (Nat.le_refl _))]
            exact old
          | one =>
            simp only [shVal] at old ⊢
            rw [if_neg (ne m (Nat.le_refl _))]
            exact old
          | fact k =>
            simp only [shVal] at old ⊢
            rw [if_neg (ne m (Nat.le_refl _))]
            exact old
        · subst z
          rw [en] at e
          have es : s0 = s := Option.some.inj e
          subst es
          have ne : ∀ i, i < m → ¬ i = m := fun i hi => by omega
          cases s0 with
          | plus i j =>
            simp only [shVal]
            rw [if_pos trivial, if_neg (ne i hlow.1), if_neg (ne j hlow.2)]
          | times i j =>
            simp only [shVal]
            rw [if_pos trivial, if_neg (ne i hlow.1), if_neg (ne j hlow.2)]
          | star i => rfl
          | zero => simp [shVal]
          | one => simp [shVal]
          | fact k => simp [shVal]
  obtain ⟨val, hv⟩ := step nodes.length
  refine ⟨val, fun m s e => ?_⟩
  have h := hv m s (List.getElem?_eq_some_iff.mp e).1 e
  cases s <;> exact h
structure TxtL (K : PySem.W.Frag) (mg : Str → Option Value) where
  hasStar : GDef K mg "has_star" sHasStar ["circuits", "node"]
  slope : GDef K mg "slope" sSlope ["circuits", "node", "fact", "numbers"]
def spHasStar (P : Program) (w : World) (C : Addr) : Sp := fun vs H Q _ => ∃ (pc L D : Addr) (n : Nat) (nodes : List Sh), vs = [.ref pc, nV n] ∧ CircAt P w C H pc L D nodes ∧ n < nodes.length ∧ nodes.length ≤ 50 ∧
  ∀ (b : Bool) (H' : Hp), Same H H' → (b = true ↔ ∃ m i, Reach nodes n m ∧ nodes[m]? = some (.star i)) → Q (.bl b) H'
def fvS (x : Int → Int) (f : Nat) (k : Nat) : Du := dvar x (f : Int) (k : Int)
def spSlope (P : Program) (w : World) (C eN : Addr) : Sp := fun vs H Q E => ∃ (pc L D d : Addr) (n f : Nat) (nodes : List Sh) (ns : List (L2.Key × V)) (x : Int → Int), vs = [.ref pc, nV n, nV f, .ref d] ∧ CircAt P w C H pc L D nodes ∧ n < nodes.length ∧ nodes.length ≤ 16 ∧
  H d = some (.dK ns) ∧ (NoStars nodes ∨ ∃ i, nodes[n]? = some (.star i)) ∧ (NoStars nodes → ∀ k : Nat, k < 4 → valV ns (Sum.inl (k : Int) : L2.Key) = some (.int (x k)) ∧ (x k).natAbs ≤ 3) ∧
  ((∃ i, nodes[n]? = some (.star i)) → ∀ H', Same H H' → E (.ref eN) none H') ∧
  (NoStars nodes → ∀ val : Nat → Du, ValOk slopesR nodes (fvS x f) val → ∀ H', Same H H' → Q (.int (val n).2) H')
theorem tag_star' (s : Sh) : decide (V.str s.tag = V.str "star") = (match s with | .star _ => true | _ => false) := (tag_is s).2.2.2
section
variable {P : Program} {w : World} {K : PySem.W.Frag} {mg : Str → Option Value} {base : Heap} {A : Ads}
theorem scHasStar : FnScope ["circuits", "node", "part"] ["circuits", "node"] (defScope sHasStar) := ⟨rfl, rfl, rfl, by decide +kernel, rfl, by decide +kernel, by decide +kernel⟩
theorem ok_hasStar (TC : TxtC K mg A) (B : TxtB mg) (T : TxtL K mg) : FnOk P w K mg base CX0 3 T.hasStar.f T.hasStar.fd ["circuits", "node"] (spHasStar P w A.C) := by
  have GW : FnOk P w K mg base CX0 2 TC.within.f TC.within.fd ["self", "node"] (spWithin P w A.C) := ok_within TC B
  have GH : FnOk P w K mg base CX0 1 TC.shown.f TC.shown.fd ["self", "node"] (spShown P w A.C) := ok_shown TC
  refine T.hasStar.F.ok scHasStar (fun vs H Q E h => ?_) (fun cdv A' outer s H vs Q E hr h => ?_)
  · obtain ⟨pc, L, D, n, nodes, rfl, _⟩ := h
    rfl
  · obtain ⟨pc, L, D, n, nodes, rfl, hC, hn, hlen, k⟩ := h
    have hr1 : Room 1 _ := hr.mono (by decide)
    refine ⟨_, pss_one (ps_ret (pe_callB (cr_any rfl) (by rfl) B.any (by decide +kernel) (pa_cons
      (pe_lc (own := [("part", 2)]) (g := gName 2) (tt := tYes) (te := tOp rEq (tOp (rIxT K) (tMeth A.C "shown" (spShown P w A.C) [] E0 (tVar 0) (tCons (tVar 2) tNil)) (tC (.int 0))) (tC (.str "star"))) (by rfl) scHasStar.nd
        (pi_list (pe_meth (pv 0) TC.cl TC.within.m GW hr TC.within.b .nil pass0 (pa_cons (pv 1) pa_nil))) (blkOk_by (N := ["circuits", "node", "part"]) (sc := defScope sHasStar) (by decide +kernel)) (fun _ _ _ _ _ => pg_name (i := 2) scHasStar.nd rfl (.inl rfl))
          (fun _ _ _ _ _ => pts_nil) (fun _ _ _ _ _ => by exact (pe_cmpR op_eq (pe_ix ix_tup (pe_meth (pv 0) TC.cl TC.shown.m GH hr1 TC.shown.b .nil pass0 (pa_cons (pv 2) pa_nil)) pe_int (fun _ _ => rfl)) pe_str (nomark _)))) pa_nil))), ?_⟩
    obtain ⟨dx, h1⟩ := hC.ob
    refine ⟨_, rfl, pc, dx, _, rfl, h1, cf_no _ _ (by decide +kernel) (by decide +kernel), _, rfl, pc, L, D, n, nodes, rfl, hC, hn, hlen, fun ms q H1 s1 hq rising reach hml => ⟨q, rfl, ⟨_, SqL.of hq⟩, fun F nF => ?_⟩⟩
    have hC1 := hC.same s1
    refine lc_list (K := K) (a := q) (xs := ms.map nV) (fun i H2 => Same H1 H2 ∧ ∃ bs : List Bool, H2 F = some (.lst (bs.map V.bl)) ∧ bs.length = i ∧ (bs.any id = true ↔ ∃ j m y, j < i ∧ ms[j]? = some m ∧ nodes[m]? = some (.star y)))
      ⟨same_new nF, [], upd_same, rfl, ⟨(fun z => Bool.noConfusion z), fun ⟨j, _, _, hj, _⟩ => absurd hj (Nat.not_lt_zero _)⟩⟩ (fun i H2 _ ⟨s2, _⟩ => SqL.of (s2 _ _ hq)) ?_ ?_
    · rintro i x H2 hi ⟨s2, bs, hF2, hbl, hb⟩
      rw [List.getElem?_map] at hi
      cases hm : ms[i]? with
      | none =>
        rw [hm] at hi
        cases hi
      | some m =>
        rw [hm] at hi
        have ex : nV m = x := Option.some.inj hi
        subst ex
        have hml' : m < nodes.length := Nat.lt_of_le_of_lt (((reach m).mp (List.mem_of_getElem? hm)).le hC.wf) hn
        obtain ⟨sh, hsh⟩ : ∃ sh, nodes[m]? = some sh := ⟨_, List.getElem?_eq_getElem hml'⟩
        have hi50 : i < ms.length := (List.getElem?_eq_some_iff.mp hm).1
        refine ⟨rfl, _, rfl, pc, dx, _, rfl, s2 _ _ (s1 _ _ h1), cf_no _ _ (by decide +kernel) (by decide +kernel), _, rfl, pc, L, D, m, nodes, sh, rfl, hC1.same s2, hsh, fun a hD => ?_⟩
        obtain ⟨vs, hs, h0⟩ := sh_sq (K := K) hD
        refine ⟨a, vs, 0, _, rfl, rfl, hs, at0 h0, rfl, _, hF2, (by rw [List.length_map, hbl]; exact Nat.lt_of_lt_of_le hi50 (Nat.le_trans hml (by rw [sizeLine_eq]; decide))), fun b o e => ?_, bs ++ [match sh with | .star _ => true | _ => false], ?_, by simp [hbl], ?_⟩
        · rw [upd_ne (ne_of_none e nF)]
          exact s2 _ _ e
        · rw [upd_same, List.map_append, tag_star']
          rfl
        · rw [List.any_append, Bool.or_eq_true, hb]
          constructor
          · rintro (⟨j, m', y, hj, e1, e2⟩ | z)
            · exact ⟨j, m', y, by omega, e1, e2⟩
            · cases sh with
              | star y => exact ⟨i, m, y, Nat.lt_succ_self _, hm, hsh⟩
              | _ => cases z
          · rintro ⟨j, m', y, hj, e1, e2⟩
            rcases Nat.lt_or_eq_of_le (Nat.le_of_lt_succ hj) with z | z
            · exact .inl ⟨j, m', y, z, e1, e2⟩
            · subst z
              rw [hm] at e1
              cases e1
              rw [hsh] at e2
              cases e2
              exact .inr rfl
    · rintro H2 ⟨s2, bs, hF2, hbl, hb⟩
      rw [List.length_map] at hb
      refine ⟨F, bs, rfl, SqL.of hF2, k _ H2 (s1.trans s2) (hb.trans ⟨fun ⟨j, m, y, _, e1, e2⟩ => ⟨m, y, (reach m).mp (List.mem_of_getElem? e1), e2⟩, fun ⟨m, y, e1, e2⟩ => ?_⟩)⟩
      obtain ⟨j, hj⟩ := List.mem_iff_getElem?.mp ((reach m).mpr e1)
      exact ⟨j, m, y, (List.getElem?_eq_some_iff.mp hj).1, hj, e2⟩
noncomputable def slopesAt (T : TxtS K mg A) (eT : Addr) : RingAt P w K mg base slopesR A.S eT where
  cl := T.cl
  zero := ⟨T.zero.f, T.zero.fd, T.zero.m, T.zero.b, (ok_sZero T).mono (by decide)⟩
  one := ⟨T.one.f, T.one.fd, T.one.m, T.one.b, (ok_sOne T).mono (by decide)⟩
  plus := ⟨T.plus.f, T.plus.fd, T.plus.m, T.plus.b, (ok_sPlus T eT).mono (by decide)⟩
  times := ⟨T.times.f, T.times.fd, T.times.m, T.times.b, (ok_sTimes T eT).mono (by decide)⟩
theorem scSlope : FnScope ["circuits", "node", "fact", "numbers", "worths", "k"] ["circuits", "node", "fact", "numbers"] (defScope sSlope) := ⟨rfl, rfl, rfl, by decide +kernel, rfl, by decide +kernel, by decide +kernel⟩
theorem ok_slope (TC : TxtC K mg A) (B : TxtB mg) (TW : TxtW K mg) (TS : TxtS K mg A) (T : TxtL K mg) (XN : ExcAt K mg "NoStar" A.eN) : FnOk P w K mg base (L2.CX P w) 6 T.slope.f T.slope.fd ["circuits", "node", "fact", "numbers"] (spSlope P w A.C A.eN) := by
  have GF : FnOk P w K mg base CX0 3 TC.factsIn.f TC.factsIn.fd ["self", "node"] (spFactsIn P w A.C) := ok_factsIn TC B
  have GS : FnOk P w K mg base CX0 3 T.hasStar.f T.hasStar.fd ["circuits", "node"] (spHasStar P w A.C) := ok_hasStar TC B T
  have GW := ok_worth (P := P) (w := w) (base := base) (R := slopesR) (C := A.S) (eT := A.eT) TC B TW (slopesAt TS A.eT)
  refine T.slope.F.okX scSlope (fun vs H Q E h => ?_) (fun cdv A' outer s H vs Q E hr h => ?_)
  · obtain ⟨pc, L, D, d, n, f, nodes, ns, x, rfl, _⟩ := h
    rfl
  · obtain ⟨pc, L, D, d, n, f, nodes, ns, x, rfl, hC, hn, hlen, hd, hcase, hx, kE, kQ⟩ := h
    have hu := hu_of hr
    have hr3 : Room 3 _ := hr.mono (by decide)
    refine ⟨_, pss_cons (ps_if (pt_val (pe_call GS hr3 rfl T.hasStar.g T.hasStar.F.kp T.hasStar.b .nil pass0 (pa_cons (pv 0) (pa_cons (pv 1) pa_nil))))
        (pss_one (ps_raise rfl (takes_of rfl rfl rfl rfl) (pmk_own PySem.F.excBase_ValueError XN.x XN.g XN.k (raises_own XN.b XN.t) (by exact rfl)))) pss_nil)
      (pss_cons (ps_setDc (i := 4) (own := [("k", 5)]) (g := gName 5) (tt := tYes) rfl scSlope.nd rfl rfl (sw_trueD rfl rfl rfl (by decide +kernel))
        (pi_list (pe_meth (pv 0) TC.cl TC.factsIn.m GF hr3 TC.factsIn.b .nil pass0 (pa_cons (pv 1) pa_nil))) (blkOk_by (N := ["circuits", "node", "fact", "numbers", "worths", "k"]) (sc := defScope sSlope) (by decide +kernel))
        (fun _ _ _ _ _ => pg_name (i := 5) scSlope.nd rfl (.inl rfl)) (fun _ _ _ _ _ => pts_nil) (fun _ _ _ _ _ => pv 5)
        (fun _ _ _ _ _ => pe_tupF (pa_cons (pe_dget hu (pv 3) (pv 5) (fun _ _ => rfl)) (pa_cons (pe_callTy call_int1 (by rfl) B.int (by decide +kernel) (pa_cons (pe_cmpR op_eq (pv 5) (pv 2) (nomark _)) pa_nil)) pa_nil))))
      (pss_one (ps_ret (pe_ix ix_tup (pe_call (E := E) GW hr rfl TW.worth.g TW.worth.F.kp TW.worth.b .nil (passes_call (takes_of rfl rfl rfl rfl) (fun _ _ _ _ h => h)) (pa_cons (pv 0) (pa_cons (pv 1) (pa_cons (pe_makeO TS.made rfl TS.g) (pa_cons (pv 4) pa_nil))))) pe_int (fun _ _ => rfl))))), ?_⟩
    -- if has_star(circuits, node)
    refine ⟨_, rfl, _, rfl, pc, L, D, n, nodes, rfl, hC, hn, Nat.le_trans hlen (by decide), fun b H1 s1 hb => ⟨b, rfl, ?_⟩⟩
    cases b with
    | true =>
      refine iteT ?_
      refine kE ?_ H1 s1
      rcases hcase with z | z
      · obtain ⟨m, i, _, e⟩ := hb.mp rfl
        exact absurd e (z m i)
      · exact z
    | false =>
      refine iteF ?_
      have nst : NoStars nodes := by
        rcases hcase with z | ⟨i, z⟩
        · exact z
        · exact absurd (hb.mpr ⟨n, i, .refl, z⟩) (by simp)
      have hxs := hx nst
      -- worths = {..}
      obtain ⟨dx, h1⟩ := hC.ob
      refine ⟨_, rfl, pc, dx, _, rfl, s1 _ _ h1, cf_no _ _ (by decide +kernel) (by decide +kernel), _, rfl, pc, L, D, n, nodes, rfl, hC.same s1, hn, Nat.le_trans hlen (by decide), fun fs q H2 s2 hq hfl hf4 hff => ⟨q, rfl, ⟨_, SqL.of hq⟩, fun F nF => ?_⟩⟩
      refine dc_list (K := K) (a := q) (xs := fs.map nV) (fun i H3 => Same H2 H3 ∧ ∃ kvs, H3 F = some (.dK kvs) ∧ kvs.length ≤ i ∧ ∀ j k, j < i → fs[j]? = some k → ∃ v, valV kvs (Sum.inl (k : Int) : L2.Key) = some v ∧ slopesR.rep 0 H3 v (fvS x f k))
        ⟨same_new nF, [], upd_same, Nat.le_refl _, fun j k hj => absurd hj (Nat.not_lt_zero _)⟩ (fun i H3 _ ⟨s3, _⟩ => SqL.of (s3 _ _ hq)) ?_ ?_
      · rintro i y H3 hi ⟨s3, kvs, hF3, hkl, hkv⟩
        rw [List.getElem?_map] at hi
        cases hm : fs[i]? with
        | none =>
          rw [hm] at hi
          cases hi
        | some k =>
          rw [hm] at hi
          have ey : nV k = y := Option.some.inj hi
          subst ey
          obtain ⟨ev, ex3⟩ := hxs k (hf4 k (List.mem_of_getElem? hm))
          have hi50 : i < fs.length := (List.getElem?_eq_some_iff.mp hm).1
          refine ⟨rfl, _, rfl, _, rfl, _, rfl, d, _, rfl, (by rw [← ev]; exact DGet.k (k := Sum.inl (k : Int)) (s3 _ _ (s2 _ _ (s1 _ _ hd)))), _, rfl, _, rfl, rfl, .inr ⟨_, rfl, ln2, fun a o na da => ?_⟩⟩
          have s4 := same_new (o := .frz o (.tup [.int (x k), .int (if decide (V.int (k : Int) = V.int (f : Int)) = true then 1 else 0)])) na
          refine ⟨kvs, Sum.inl (k : Int), rfl, s4 _ _ hF3, Nat.lt_of_le_of_lt hkl (Nat.lt_of_lt_of_le hi50 (Nat.le_trans hfl (by rw [sizeLine_eq]; decide))), fun b o e => ?_, _, upd_same, ?_, fun j k' hj hk' => ?_⟩
          · rw [upd_ne (ne_of_none e nF)]
            exact s4 _ _ (s3 _ _ e)
          · have := length_putK kvs (Sum.inl (k : Int) : L2.Key) (V.ref a)
            omega
          · have hF4 : (upd H3 a (.frz o (.tup [.int (x k), .int (if decide (V.int (k : Int) = V.int (f : Int)) = true then 1 else 0)]))) F = some (.dK kvs) := s4 _ _ hF3
            have fk5 : Fk (upd H3 a (.frz o (.tup [.int (x k), .int (if decide (V.int (k : Int) = V.int (f : Int)) = true then 1 else 0)]))) (upd (upd H3 a (.frz o (.tup [.int (x k), .int (if decide (V.int (k : Int) = V.int (f : Int)) = true then 1 else 0)]))) F (.dK (putK kvs (Sum.inl (k : Int)) (.ref a)))) := .upd (nf_dK hF4)
            rw [valV_put]
            by_cases e : k' = k
            · subst e
              rw [if_pos rfl]
              have ed : fvS x f k' = (x k', if decide (V.int (k' : Int) = V.int (f : Int)) = true then 1 else 0) := by
                unfold fvS dvar
                rw [decV]
                simp
              refine ⟨_, rfl, slopesR.fk ?_ fk5⟩
              rw [ed]
              refine ⟨du_new (a := (x k', if decide (V.int (k' : Int) = V.int (f : Int)) = true then 1 else 0)) da, .small (Nat.le_trans ex3 (by decide)) ?_⟩
              show Int.natAbs (if decide (V.int (k' : Int) = V.int (f : Int)) = true then 1 else 0) ≤ 8
              split <;> decide
            · have : ¬ (Sum.inl (k' : Int) : L2.Key) = Sum.inl (k : Int) := fun z => e (by have := Sum.inl.inj z; omega)
              rw [if_neg this]
              have hj' : j < i := by
                rcases Nat.lt_or_eq_of_le (Nat.le_of_lt_succ hj) with z | z
                · exact z
                · subst z
                  rw [hm] at hk'
                  cases hk'
                  exact absurd rfl e
              obtain ⟨v, e1, e2⟩ := hkv j k' hj' hk'
              exact ⟨v, e1, slopesR.fk e2 ((Fk.of_same s4).trans fk5)⟩
      · rintro H3 ⟨s3, kvs, hF3, hkl, hkv⟩
        rw [List.length_map] at hkv
        have s13 := (s1.trans s2).trans s3
        -- worth(circuits, node, Slopes(), worths)[1]
        refine ⟨_, rfl, _, rfl, fun y dy ny ndy ney => ⟨_, rfl, ?_⟩⟩
        have s4 : Same H3 (upd (upd H3 dy (.own y)) y (.ins A.S dy [])) := fun b o e => by
          rw [upd_ne (ne_of_none e ny), upd_ne (ne_of_none e ndy)]
          exact e
        obtain ⟨val, hval⟩ : ∃ val : Nat → Du, ValOk slopesR nodes (fvS x f) val := exists_val slopesR hC.wf _
        refine ⟨pc, L, D, y, dy, F, n, nodes, kvs, fvS x f, val, rfl, hC.same (s13.trans s4), hn, hlen, nst, upd_same, s4 _ _ hF3, fun m k hm hk => ?_, hval, fun v H4 s5 r => ?_, fun hb => hb.elim⟩
        · obtain ⟨j, hj⟩ := List.mem_iff_getElem?.mp (hff m k hm hk)
          obtain ⟨v, e1, e2⟩ := hkv j k (List.getElem?_eq_some_iff.mp hj).1 hj
          exact ⟨v, e1, slopesR.fk e2 (.of_same s4)⟩
        · obtain ⟨pa, rfl, ha⟩ := du_sq (K := K) r.1
          exact ⟨pa, _, 1, _, rfl, rfl, ha, at1 rfl, kQ nst val hval H4 ((s13.trans s4).trans s5)⟩
end
end Ev

/-! Sums and products of polynomials, as the program reckons them. -/
namespace Ev
section
variable {κ : Type} [DecidableEq κ]
def accs (t l : List (κ × Int)) : List (κ × Int) := l.foldl (fun t q => acc t q.1 q.2) t
theorem accs_cons (t : List (κ × Int)) (q : κ × Int) (l : List (κ × Int)) : accs t (q :: l) = accs (acc t q.1 q.2) l := rfl
theorem accs_snoc (t l : List (κ × Int)) (q : κ × Int) : accs t (l ++ [q]) = acc (accs t l) q.1 q.2 := by
  unfold accs
  rw [List.foldl_append]
  rfl
theorem accs_nodup : ∀ (l t : List (κ × Int)), (t.map (·.1)).Nodup → ((accs t l).map (·.1)).Nodup
  | [], _, h => h
  | q :: l, t, h => accs_nodup l _ (acc_nodup t q.1 q.2 h)
theorem accs_length : ∀ (l t : List (κ × Int)), (accs t l).length ≤ t.length + l.length
  | [], t => Nat.le_refl _
  | q :: l, t => by
    have h1 := accs_length l (acc t q.1 q.2)
    have h2 := acc_length t q.1 q.2
    rw [accs_cons, List.length_cons]
    omega
theorem nrm_accs : ∀ (l t : List (κ × Int)), nrm (accs t l) ≤ nrm t + nrm l
  | [], t => Nat.le_refl _
  | q :: l, t => by
    have h1 := nrm_accs l (acc t q.1 q.2)
    have h2 := nrm_acc t q.1 q.2
    rw [accs_cons, nrm_cons]
    omega
theorem accs_keys : ∀ (l t : List (κ × Int)) (j : κ), j ∈ (accs t l).map (·.1) → j ∈ t.map (·.1) ∨ j ∈ l.map (·.1)
  | [], t, j, h => .inl h
  | q :: l, t, j, h => by
    rcases accs_keys l _ j h with z | z
    · rcases acc_keys_sub t q.1 q.2 j z with y | y
      · exact .inr (by rw [y, List.map_cons]; exact List.mem_cons_self)
      · exact .inl y
    · exact .inr (by rw [List.map_cons]; exact List.mem_cons_of_mem _ z)
theorem tsum_accs (g : κ → Int → Du) (hg : ∀ k c d, g k (c + d) = dadd (g k c) (g k d)) : ∀ (l t : List (κ × Int)), tsum g (accs t l) = dadd (tsum g t) (tsum g l)
  | [], t => (dadd_zero _).symm
  | q :: l, t => by
    rw [accs_cons, tsum_accs g hg l, tsum_acc g hg]
    show dadd (dadd (tsum g t) (g q.1 q.2)) (tsum g l) = dadd (tsum g t) (dadd (g q.1 q.2) (tsum g l))
    rw [dadd_assoc]
theorem tsum_take (g : κ → Int → Du) {l : List (κ × Int)} {i : Nat} {q : κ × Int} (h : l[i]? = some q) : tsum g (l.take (i + 1)) = dadd (tsum g (l.take i)) (g q.1 q.2) := by
  rw [List.take_add_one, h, Option.toList, tsum_append]
  show dadd _ (dadd (g q.1 q.2) dz) = _
  rw [dadd_zero]
theorem nrm_take {l : List (κ × Int)} {i : Nat} {q : κ × Int} (h : l[i]? = some q) : nrm (l.take (i + 1)) = nrm (l.take i) + q.2.natAbs := by
  rw [List.take_add_one, h, Option.toList, nrm_append, nrm_cons, nrm_nil]
  rfl
end
/-- exponents at least 1, facts in range -/
abbrev MExp (m : Mono) : Prop := ∀ q ∈ m, 0 ≤ q.1 ∧ q.1 < 4 ∧ 1 ≤ q.2
theorem mexp_acc {m : Mono} {k e : Int} (h : MExp m) (hk : 0 ≤ k ∧ k < 4 ∧ 1 ≤ e) : MExp (acc m k e) := fun q hq => by
  rcases acc_mem m k e q hq with z | ⟨z, y⟩
  · exact h q z
  · rw [z]
    refine ⟨hk.1, hk.2.1, ?_⟩
    rcases y with y | ⟨d, y1, y2⟩
    · rw [y]; exact hk.2.2
    · have := (h _ y1).2.2
      simp only at this
      omega
theorem mexp_accs : ∀ (l m : Mono), MExp m → MExp l → MExp (accs m l)
  | [], m, h, _ => h
  | q :: l, m, h, hl => mexp_accs l _ (mexp_acc h (hl q List.mem_cons_self)) fun r hr => hl r (List.mem_cons_of_mem _ hr)
section
variable {x : Int → Int} {f : Int}
theorem dmono_accs : ∀ (l m : Mono), MExp m → MExp l → dmono x f (accs m l) = dmul (dmono x f m) (dmono x f l)
  | [], m, _, _ => (dmul_one _).symm
  | q :: l, m, h, hl => by
    have hq := hl q List.mem_cons_self
    have h' := mexp_acc h hq
    rw [accs_cons, dmono_accs l _ h' fun r hr => hl r (List.mem_cons_of_mem _ hr)]
    unfold dmono
    rw [tprod_acc (gM x f) (fun k c d hc hd => gM_add k c d hc hd) m q.1 q.2 (fun r hr => by have := (h r hr).2.2; omega) (by have := hq.2.2; omega)]
    show dmul (dmul (tprod (gM x f) m) (gM x f q.1 q.2)) (tprod (gM x f) l) = dmul (tprod (gM x f) m) (dmul (gM x f q.1 q.2) (tprod (gM x f) l))
    rw [dmul_assoc]
end
theorem pow_succ_add (n : Nat) : 2 ^ (n + 1) = 2 ^ n + 2 ^ n := by rw [Nat.pow_succ]; omega
theorem pow2_succ (n : Nat) : 2 ^ 2 ^ (n + 1) = 2 ^ 2 ^ n * 2 ^ 2 ^ n := by rw [pow_succ_add, Nat.pow_add]
theorem two_le_pow2 (n : Nat) : 2 ≤ 2 ^ 2 ^ n := by
  have h : 2 ^ 0 ≤ 2 ^ n := Nat.pow_le_pow_right (by decide) (Nat.zero_le _)
  have h1 : 2 ^ 1 ≤ 2 ^ 2 ^ n := Nat.pow_le_pow_right (by decide) h
  exact h1
theorem unite_ok {n : Nat} {m1 m2 m : Mono} (h1 : MonoOk n m1) (h2 : MonoOk n m2) (hp : m.Perm (accs m1 m2)) : MonoOk (n + 1) m ∧ ∀ (x : Int → Int) (f : Int), dmono x f m = dmul (dmono x f m1) (dmono x f m2) := by
  refine ⟨⟨?_, fun q hq => mexp_accs m2 m1 h1.ok h2.ok q (hp.mem_iff.mp hq), ?_⟩, fun x f => ?_⟩
  · exact (hp.map (·.1)).nodup_iff.mpr (accs_nodup m2 m1 h1.nd)
  · rw [nrm_perm hp, pow_succ_add]
    have := nrm_accs m2 m1
    have := h1.deg
    have := h2.deg
    omega
  · unfold dmono
    rw [tprod_perm _ hp]
    exact dmono_accs m2 m1 h1.ok h2.ok
theorem plus_ok {n : Nat} {a b p : Poly} (ha : PolyOk n a) (hb : PolyOk n b) (hp : p.Perm (accs a b)) (hl : p.length ≤ 400) : PolyOk (n + 1) p ∧ ∀ (x : Int → Int) (f : Int), dpoly x f p = dadd (dpoly x f a) (dpoly x f b) := by
  refine ⟨⟨?_, hl, ?_, fun q hq => ?_⟩, fun x f => ?_⟩
  · exact (hp.map (·.1)).nodup_iff.mpr (accs_nodup b a ha.nd)
  · rw [nrm_perm hp, pow2_succ]
    have h1 := nrm_accs b a
    have h2 := ha.nrm
    have h3 := hb.nrm
    have h4 := Nat.mul_le_mul_right (2 ^ 2 ^ n) (two_le_pow2 n)
    omega
  · have hk : q.1 ∈ (accs a b).map (·.1) := List.mem_map.mpr ⟨q, hp.mem_iff.mp hq, rfl⟩
    rcases accs_keys b a q.1 hk with z | z
    · obtain ⟨r, hr, e⟩ := List.mem_map.mp z
      rw [← e]
      exact (ha.ok r hr).mono (Nat.le_succ n)
    · obtain ⟨r, hr, e⟩ := List.mem_map.mp z
      rw [← e]
      exact (hb.ok r hr).mono (Nat.le_succ n)
  · unfold dpoly
    rw [tsum_perm _ hp]
    exact tsum_accs (gP x f) (fun k c d => gP_add k c d) b a
/-- behind i terms of a -/
structure Outer (n : Nat) (a b : Poly) (i : Nat) (t : Poly) : Prop where
  nd : (t.map (·.1)).Nodup
  len : t.length ≤ i * b.length
  nr : nrm t ≤ nrm (a.take i) * nrm b
  ok : ∀ q ∈ t, MonoOk (n + 1) q.1
  val : ∀ (x : Int → Int) (f : Int), dpoly x f t = dmul (dpoly x f (a.take i)) (dpoly x f b)
/-- .. and j of b, for the term q of a -/
structure Inner (n : Nat) (a b : Poly) (i : Nat) (q : Mono × Int) (j : Nat) (t : Poly) : Prop where
  nd : (t.map (·.1)).Nodup
  len : t.length ≤ i * b.length + j
  nr : nrm t ≤ nrm (a.take i) * nrm b + q.2.natAbs * nrm (b.take j)
  ok : ∀ r ∈ t, MonoOk (n + 1) r.1
  val : ∀ (x : Int → Int) (f : Int), dpoly x f t = dadd (dmul (dpoly x f (a.take i)) (dpoly x f b)) (dmul (gP x f q.1 q.2) (dpoly x f (b.take j)))
theorem outer0 {n : Nat} {a b : Poly} : Outer n a b 0 [] := by
  refine ⟨List.nodup_nil, Nat.zero_le _, Nat.zero_le _, fun q hq => (nomatch hq), fun x f => ?_⟩
  show dz = dmul dz _
  rw [zero_dmul]
theorem Outer.inner {n : Nat} {a b : Poly} {i : Nat} {t : Poly} (h : Outer n a b i t) (q : Mono × Int) : Inner n a b i q 0 t := by
  refine ⟨h.nd, h.len, ?_, h.ok, fun x f => ?_⟩
  · show nrm t ≤ _ + _ * 0
    have := h.nr
    omega
  · rw [h.val x f]
    show _ = dadd _ (dmul _ dz)
    rw [dmul_zero, dadd_zero]
theorem Inner.step {n : Nat} {a b : Poly} {i j : Nat} {q r : Mono × Int} {t : Poly} {m : Mono} (h : Inner n a b i q j t) (hr : b[j]? = some r) (hm : MonoOk (n + 1) m) (hv : ∀ (x : Int → Int) (f : Int), dmono x f m = dmul (dmono x f q.1) (dmono x f r.1)) :
    Inner n a b i q (j + 1) (acc t m (q.2 * r.2)) := by
  refine ⟨acc_nodup t m _ h.nd, ?_, ?_, fun s hs => ?_, fun x f => ?_⟩
  · have := acc_length t m (q.2 * r.2)
    have := h.len
    omega
  · have h1 := nrm_acc t m (q.2 * r.2)
    have h2 := h.nr
    rw [nrm_take hr, Nat.mul_add]
    rw [Int.natAbs_mul] at h1
    omega
  · have hk : s.1 ∈ (acc t m (q.2 * r.2)).map (·.1) := List.mem_map.mpr ⟨s, hs, rfl⟩
    rcases acc_keys_sub t m _ s.1 hk with z | z
    · rw [z]
      exact hm
    · obtain ⟨u, hu, e⟩ := List.mem_map.mp z
      rw [← e]
      exact h.ok u hu
  · unfold dpoly
    rw [tsum_acc (gP x f) (fun k c d => gP_add k c d), tsum_take (gP x f) hr, gP_mul q.1 r.1 q.2 r.2 (hv x f), dmul_add]
    have := h.val x f
    unfold dpoly at this
    rw [this, dadd_assoc]
theorem Inner.outer {n : Nat} {a b : Poly} {i : Nat} {q : Mono × Int} {t : Poly} (h : Inner n a b i q b.length t) (hq : a[i]? = some q) : Outer n a b (i + 1) t := by
  refine ⟨h.nd, ?_, ?_, h.ok, fun x f => ?_⟩
  · have := h.len
    rw [Nat.succ_mul]
    exact this
  · have := h.nr
    rw [List.take_length] at this
    rw [nrm_take hq, Nat.add_mul]
    exact this
  · have := h.val x f
    rw [List.take_length] at this
    rw [this]
    unfold dpoly
    rw [tsum_take (gP x f) hq, add_dmul]
theorem times_ok {n : Nat} {a b t p : Poly} (ha : PolyOk n a) (hb : PolyOk n b) (h : Outer n a b a.length t) (hp : p.Perm t) (hl : p.length ≤ 400) : PolyOk (n + 1) p ∧ ∀ (x : Int → Int) (f : Int), dpoly x f p = dmul (dpoly x f a) (dpoly x f b) := by
  refine ⟨⟨?_, hl, ?_, fun q hq => h.ok q (hp.mem_iff.mp hq)⟩, fun x f => ?_⟩
  · exact (hp.map (·.1)).nodup_iff.mpr h.nd
  · rw [nrm_perm hp, pow2_succ]
    have h1 := h.nr
    rw [List.take_length] at h1
    exact Nat.le_trans h1 (Nat.mul_le_mul ha.nrm hb.nrm)
  · have := h.val x f
    rw [List.take_length] at this
    rw [← this]
    unfold dpoly
    exact tsum_perm _ hp
end Ev

/-! The semiring of polynomials. -/
namespace Ev
open PySem PySem.Spec PyProof.Rows L2
/-! ### polynomials as data -/
def monoK (m : Mono) : NestedKey := .tup (m.map fun q => pairK (.num q.1, q.2))
def termK (t : Mono × Int) : NestedKey := pairK (monoK t.1, t.2)
def polyK (p : Poly) : NestedKey := .tup (p.map termK)
theorem monoK_inj {m m' : Mono} (h : monoK m = monoK m') : m = m' := by
  unfold monoK at h
  induction m generalizing m' with
  | nil =>
    have h := NestedKey.tup.inj h
    cases m' with
    | nil => rfl
    | cons q m' => simp at h
  | cons q m ih =>
    have h := NestedKey.tup.inj h
    cases m' with
    | nil => simp at h
    | cons q' m' =>
      rw [List.map_cons, List.map_cons, List.cons.injEq] at h
      obtain ⟨h1, h2⟩ := h
      have e := ih (congrArg NestedKey.tup h2)
      unfold pairK at h1
      have h1 := NestedKey.tup.inj h1
      simp only [List.cons.injEq, NestedKey.num.injEq, and_true] at h1
      rw [e]
      have : q = q' := Prod.ext h1.1 h1.2
      rw [this]
theorem monoK_depth (m : Mono) : (monoK m).depth ≤ 8 := by
  unfold monoK
  rw [NestedKey.depth]
  have : NestedKey.depthAll (m.map fun q => pairK (.num q.1, q.2)) ≤ 1 := by
    induction m with
    | nil => simp [NestedKey.depthAll]
    | cons q m ih =>
      rw [List.map_cons, NestedKey.depthAll]
      have : (pairK (.num q.1, q.2)).depth = 1 := by simp [pairK, NestedKey.depth, NestedKey.depthAll]
      omega
  omega
theorem dat_pair (k : NestedKey) (c : Int) : (pairK (k, c)).data = .tuple [k.data, .int c] := by simp only [pairK, NestedKey.data, NestedKey.datas]
theorem dat_mono (m : Mono) : (monoK m).data = .tuple (m.map fun q => .tuple [.int q.1, .int q.2]) := by
  unfold monoK
  rw [NestedKey.data]
  congr 1
  induction m with
  | nil => rfl
  | cons q m ih =>
    rw [List.map_cons, List.map_cons, NestedKey.datas, ih, dat_pair, NestedKey.data]
theorem alike_num (a b c d : Int) : PySem.W.alike (pairK (.num a, b)).data (pairK (.num c, d)).data = true := by
  rw [dat_pair, dat_pair, NestedKey.data, NestedKey.data]
  simp [PySem.W.alike, PySem.W.alikeAll]
theorem alike_mono : ∀ m m' : Mono, PySem.W.alike (monoK m).data (monoK m').data = true := by
  intro m m'
  rw [dat_mono, dat_mono, PySem.W.alike]
  induction m generalizing m' with
  | nil => simp [PySem.W.alikeAll]
  | cons q m ih =>
    cases m' with
    | nil => simp [PySem.W.alikeAll]
    | cons q' m' =>
      rw [List.map_cons, List.map_cons, PySem.W.alikeAll, ih]
      simp [PySem.W.alike, PySem.W.alikeAll]
theorem alike_term (m m' : Mono) (c c' : Int) : PySem.W.alike (pairK (monoK m, c)).data (pairK (monoK m', c')).data = true := by
  rw [dat_pair, dat_pair, PySem.W.alike]
  simp [PySem.W.alikeAll, alike_mono, PySem.W.alike]
theorem dep_num (a b : Int) : (pairK (.num a, b)).data.depth ≤ 8 := by
  rw [dat_pair, NestedKey.data]
  simp [PyData.depth, PyData.depthAll]
theorem dep_mono (m : Mono) : (monoK m).data.depth ≤ 2 := by
  rw [dat_mono, PyData.depth]
  have : PyData.depthAll (m.map fun q => .tuple [.int q.1, .int q.2]) ≤ 1 := by
    induction m with
    | nil => simp [PyData.depthAll]
    | cons q m ih =>
      rw [List.map_cons, PyData.depthAll]
      have : (PyData.tuple [.int q.1, .int q.2]).depth = 1 := by simp [PyData.depth, PyData.depthAll]
      omega
  omega
theorem dep_term (m : Mono) (c : Int) : (pairK (monoK m, c)).data.depth ≤ 8 := by
  rw [dat_pair, PyData.depth, PyData.depthAll, PyData.depthAll, PyData.depthAll]
  have := dep_mono m
  have : (PyData.int c).depth = 0 := by simp [PyData.depth]
  omega
/-! ### tables -/
section
variable {κ κ' : Type} [DecidableEq κ] [DecidableEq κ'] (f : κ → κ')
def encT (t : List (κ × Int)) : List (κ' × V) := t.map fun q => (f q.1, V.int q.2)
variable {f}
theorem enc_val (hf : ∀ a b, f a = f b → a = b) (k : κ) : ∀ t : List (κ × Int), valV (encT f t) (f k) = (aget t k).map V.int
  | [] => rfl
  | (j, d) :: t => by
    unfold aget
    by_cases e : j = k
    · subst e
      rw [if_pos rfl]
      exact valV_pos (p := (f j, V.int d)) rfl
    · rw [if_neg e, ← enc_val hf k t]
      exact valV_neg (p := (f j, V.int d)) fun z => e (hf _ _ z)
theorem enc_get (hf : ∀ a b, f a = f b → a = b) (k : κ) (t : List (κ × Int)) : (valV (encT f t) (f k)).getD (.int 0) = .int ((aget t k).getD 0) := by
  rw [enc_val hf]
  cases aget t k <;> rfl
theorem aget_none : ∀ {t : List (κ × Int)} {k : κ}, aget t k = none → k ∉ t.map (·.1)
  | [], k, _ => by simp
  | (j, d) :: t, k, h => by
    unfold aget at h
    split at h
    · cases h
    · rename_i hne
      have := aget_none h
      simp only [List.map_cons, List.mem_cons, not_or]
      exact ⟨fun z => hne z.symm, this⟩
theorem acc_new : ∀ {t : List (κ × Int)} {k : κ} {c : Int}, k ∉ t.map (·.1) → acc t k c = t ++ [(k, c)]
  | [], k, c, _ => rfl
  | (j, d) :: t, k, c, h => by
    simp only [List.map_cons, List.mem_cons, not_or] at h
    unfold acc
    rw [if_neg fun z => h.1 z.symm, acc_new h.2]
    rfl
theorem enc_put (hf : ∀ a b, f a = f b → a = b) (k : κ) (c : Int) : ∀ t : List (κ × Int), (t.map (·.1)).Nodup → putK (encT f t) (f k) (.int ((aget t k).getD 0 + c)) = encT f (acc t k c) := by
  intro t hn
  cases e : aget t k with
  | none =>
    have h1 : valV (encT f t) (f k) = none := by
      rw [enc_val hf, e]
      rfl
    rw [putK_new _ h1, acc_new (aget_none e)]
    unfold encT
    rw [List.map_append]
    show _ ++ [(f k, V.int (0 + c))] = _ ++ [(f k, V.int c)]
    rw [Int.zero_add]
  | some d =>
    have h1 : ((encT f t).any fun kv => decide (kv.1 = f k)) = true := by
      rw [valV_any, enc_val hf, e]
      rfl
    unfold putK
    rw [if_pos h1]
    clear h1
    induction t with
    | nil => cases e
    | cons q t ih =>
      obtain ⟨j, d'⟩ := q
      have hn' : j ∉ t.map (·.1) ∧ (t.map (·.1)).Nodup := List.nodup_cons.mp hn
      unfold acc
      by_cases ej : j = k
      · subst ej
        rw [if_pos rfl]
        unfold aget at e
        rw [if_pos rfl] at e
        cases e
        unfold encT
        rw [List.map_cons, List.map_cons, List.map_cons]
        show (if f j = f j then (f j, V.int (d + c)) else (f j, V.int d)) :: _ = (f j, V.int (d + c)) :: _
        rw [if_pos rfl]
        congr 1
        rw [List.map_map]
        refine List.map_congr_left fun r hr => ?_
        have : ¬ f r.1 = f j := fun z => hn'.1 (by rw [← hf _ _ z]; exact List.mem_map.mpr ⟨r, hr, rfl⟩)
        show (if f r.1 = f j then (f r.1, _) else (f r.1, V.int r.2)) = _
        rw [if_neg this]
      · rw [if_neg ej]
        unfold aget at e
        rw [if_neg ej] at e
        have := ih hn'.2 e
        unfold encT at this ⊢
        rw [List.map_cons, List.map_cons, List.map_cons, ← this]
        show (if f j = f k then _ else (f j, V.int d')) :: _ = (f j, V.int d') :: _
        rw [if_neg fun z => ej (hf _ _ z)]
end
theorem inl_inj : ∀ a b : Int, (Sum.inl a : L2.Key) = Sum.inl b → a = b := fun _ _ z => Sum.inl.inj z
abbrev encI (m : Mono) : List (L2.Key × V) := encT (fun k : Int => (Sum.inl k : L2.Key)) m
abbrev encP (t : Poly) : List (NestedKey × V) := encT monoK t
theorem monoK_inj' : ∀ a b : Mono, monoK a = monoK b → a = b := fun _ _ z => monoK_inj z
theorem putK_app {κ : Type} [DecidableEq κ] {kvs : List (κ × V)} {k : κ} {v : V} (h : k ∉ kvs.map (·.1)) : putK kvs k v = kvs ++ [(k, v)] := by
  refine putK_new v ?_
  cases e : valV kvs k with
  | none => rfl
  | some y => exact absurd (valV_in e) h
theorem foldl_put {κ : Type} [DecidableEq κ] : ∀ (more kvs : List (κ × V)), ((kvs ++ more).map (·.1)).Nodup → more.foldl (fun acc kv => putK acc kv.1 kv.2) kvs = kvs ++ more
  | [], kvs, _ => (List.append_nil _).symm
  | p :: more, kvs, h => by
    have hp : p.1 ∉ kvs.map (·.1) := fun z => by
      rw [List.map_append, List.nodup_append] at h
      exact h.2.2 p.1 z p.1 (by rw [List.map_cons]; exact List.mem_cons_self) rfl
    show more.foldl _ (putK kvs p.1 p.2) = _
    rw [putK_app hp, foldl_put more (kvs ++ [(p.1, p.2)]) (by simpa using h), List.append_assoc]
    rfl
theorem encT_keys {κ κ' : Type} [DecidableEq κ] [DecidableEq κ'] {f : κ → κ'} (hf : ∀ a b, f a = f b → a = b) {t : List (κ × Int)} (h : (t.map (·.1)).Nodup) : ((encT f t).map (·.1)).Nodup := by
  unfold encT
  rw [List.map_map]
  have e : ((fun q : κ' × V => q.1) ∘ fun q : κ × Int => (f q.1, V.int q.2)) = f ∘ fun q : κ × Int => q.1 := rfl
  rw [e, ← List.map_map]
  exact List.Pairwise.map f (fun a b hab z => hab (hf _ _ z)) h
theorem mergeN_nil {t : Poly} (h : (t.map (·.1)).Nodup) : mergeN [] (encP t) = encP t := foldl_put (encP t) [] (by simpa using encT_keys monoK_inj' h)
theorem mergeK_nil {m : Mono} (h : (m.map (·.1)).Nodup) : mergeK [] (encI m) = encI m := foldl_put (encI m) [] (by simpa using encT_keys inl_inj h)
theorem int_K (z : NestedKey) {H : Hp} {v : V} {k : NestedKey} {c : Int} {K : PySem.W.Frag} (h : Dn H v (pairK (k, c))) : ∃ a w, v = .ref a ∧ SqT K H a [w, .int c] ∧ Dn H w k := by
  obtain ⟨p, vs, rfl, hs, ha⟩ := Dn.sq (K := K) h
  cases ha with
  | cons h1 h2 =>
    cases h2 with
    | cons h2 h3 =>
      cases h3
      have e2 := h2.num_inv
      subst e2
      exact ⟨p, _, rfl, hs, h1⟩
theorem Dn.all {H : Hp} {K : PySem.W.Frag} {v : V} {ks : List NestedKey} (h : Dn H v (.tup ks)) : ∃ a vs, v = .ref a ∧ SqT K H a vs ∧ vs.length = ks.length ∧ ∀ (i : Nat) k, ks[i]? = some k → ∃ w, vs[i]? = some w ∧ Dn H w k := by
  obtain ⟨p, vs, rfl, hs, ha⟩ := Dn.sq (K := K) h
  exact ⟨p, vs, rfl, hs, ha.length, fun i k e => ha.get e⟩
end Ev

/-! The defs of the polynomials. -/
namespace Ev
open PySem PySem.Spec PyProof.Rows L2
theorem perm_map {α β : Type} (f : α → β) {l u : List β} (h : l.Perm u) : ∀ t : List α, u = t.map f → ∃ p : List α, l = p.map f ∧ p.Perm t := by
  induction h with
  | nil =>
    intro t e
    exact ⟨t, e, .refl _⟩
  | @cons x l1 l2 h ih =>
    intro t e
    cases t with
    | nil => cases e
    | cons a t =>
      rw [List.map_cons, List.cons.injEq] at e
      obtain ⟨p, e1, e2⟩ := ih t e.2
      exact ⟨a :: p, by rw [List.map_cons, e1, e.1], e2.cons a⟩
  | swap x y l =>
    intro t e
    match t, e with
    | a :: b :: t, e =>
      rw [List.map_cons, List.map_cons, List.cons.injEq, List.cons.injEq] at e
      exact ⟨b :: a :: t, by rw [List.map_cons, List.map_cons, e.1, e.2.1, e.2.2], List.Perm.swap _ _ _⟩
  | trans h1 h2 ih1 ih2 =>
    intro t e
    obtain ⟨p2, e2, q2⟩ := ih2 t e
    obtain ⟨p1, e1, q1⟩ := ih1 p2 e2
    exact ⟨p1, e1, q1.trans q2⟩
theorem zs_dn {H : Hp} : ∀ {zs : List (Addr × NestedKey × Int)}, (∀ z ∈ zs, Dn H (.ref z.1) (pairK z.2)) → DnAll H (zs.map fun z => V.ref z.1) ((zs.map (·.2)).map pairK)
  | [], _ => .nil
  | z :: zs, h => .cons (h z List.mem_cons_self) (zs_dn fun y hy => h y (List.mem_cons_of_mem _ hy))
/-- the polynomials, told by their worths -/
def polyR : Ring where
  A := (Int → Int) → Int → Du
  zero := fun _ _ => dz
  one := fun _ _ => done
  plus := fun a b x f => dadd (a x f) (b x f)
  times := fun a b x f => dmul (a x f) (b x f)
  rep := fun n H v a => ∃ p : Poly, Dn H v (polyK p) ∧ PolyOk n p ∧ ∀ x f, a x f = dpoly x f p
  big := True
  mono := fun ⟨p, h1, h2, h3⟩ hm => ⟨p, h1, h2.mono hm, h3⟩
  fk := fun ⟨p, h1, h2, h3⟩ t => ⟨p, Dn.fk t _ _ h1, h2, h3⟩
structure TxtP (K : PySem.W.Frag) (mg : Str → Option Value) (A : Ads) where
  cl : Cls K A.P
  g : mg "Polynomials" = some (.ref A.P)
  made : MkO K A.P
  zero : MDef K A.P "zero" "Polynomials.zero" sPZero ["self"]
  one : MDef K A.P "one" "Polynomials.one" sPOne ["self"]
  plus : MDef K A.P "plus" "Polynomials.plus" sPPlus ["self", "a", "b"]
  times : MDef K A.P "times" "Polynomials.times" sPTimes ["self", "a", "b"]
  vari : GDef K mg "variable" sVariable ["fact"]
  packed : GDef K mg "packed" sPacked ["table"]
  united : GDef K mg "united" sUnited ["one", "other"]
  normal : GDef K mg "normal" sNormal ["circuits", "node"]
def spVari : Sp := fun vs H Q _ => ∃ k : Nat, vs = [nV k] ∧ ∀ (v : V) (H' : Hp), Same H H' → Dn H' v (polyK [([((k : Int), 1)], 1)]) → Q v H'
def spPacked (P : Program) (w : World) (eT : Addr) : Sp := fun vs H Q E => ∃ (d : Addr) (t : Poly), vs = [.ref d] ∧ NDict P w H d (encP t) ∧
  (∀ (v : V) (H' : Hp) (p : Poly), Same H H' → Dn H' v (polyK p) → p.Perm t → p.length ≤ 400 → Q v H') ∧ ∀ H', Same H H' → E (.ref eT) none H'
def spUnited : Sp := fun vs H Q _ => ∃ (va vb : V) (m1 m2 : Mono) (n : Nat), vs = [va, vb] ∧ Dn H va (monoK m1) ∧ Dn H vb (monoK m2) ∧ MonoOk n m1 ∧ MonoOk n m2 ∧ n ≤ 14 ∧
  ∀ (v : V) (H' : Hp) (m : Mono), Same H H' → Dn H' v (monoK m) → m.Perm (accs m1 m2) → Q v H'
abbrev itP (t : Poly) : List (NestedKey × Int) := t.map fun q : Mono × Int => (monoK q.1, q.2)
theorem mono_len {n : Nat} {m : Mono} (h : MonoOk n m) (hn : n ≤ 14) : m.length ≤ 16384 := by
  have h1 := len_le_nrm h.ok
  have h2 : 2 ^ n ≤ 2 ^ 14 := Nat.pow_le_pow_right (by decide) hn
  have h3 := h.deg
  omega
section
variable {P : Program} {w : World} {K : PySem.W.Frag} {mg : Str → Option Value} {base : Heap} {A : Ads}
theorem scVari : FnScope ["fact"] ["fact"] (defScope sVariable) := ⟨rfl, rfl, rfl, by decide +kernel, rfl, by decide +kernel, by decide +kernel⟩
theorem scPacked : FnScope ["table"] ["table"] (defScope sPacked) := ⟨rfl, rfl, rfl, by decide +kernel, rfl, by decide +kernel, by decide +kernel⟩
theorem scUnited : FnScope ["one", "other", "table", "fact", "exponent"] ["one", "other"] (defScope sUnited) := ⟨rfl, rfl, rfl, by decide +kernel, rfl, by decide +kernel, by decide +kernel⟩
theorem scPZero : FnScope ["self"] ["self"] (defScope sPZero) := ⟨rfl, rfl, rfl, by decide +kernel, rfl, by decide +kernel, by decide +kernel⟩
theorem scPOne : FnScope ["self"] ["self"] (defScope sPOne) := ⟨rfl, rfl, rfl, by decide +kernel, rfl, by decide +kernel, by decide +kernel⟩
theorem scPPlus : FnScope ["self", "a", "b", "table", "monomial", "coefficient"] ["self", "a", "b"] (defScope sPPlus) := ⟨rfl, rfl, rfl, by decide +kernel, rfl, by decide +kernel, by decide +kernel⟩
theorem scPTimes : FnScope ["self", "a", "b", "table", "one", "first", "other", "second", "monomial"] ["self", "a", "b"] (defScope sPTimes) := ⟨rfl, rfl, rfl, by decide +kernel, rfl, by decide +kernel, by decide +kernel⟩
theorem ok_vari (T : TxtP K mg A) : FnOk P w K mg base CX0 1 T.vari.f T.vari.fd ["fact"] spVari := by
  refine T.vari.F.ok scVari (fun vs H Q E h => ?_) (fun cdv A' outer s H vs Q E hr h => ?_)
  · obtain ⟨k, rfl, _⟩ := h
    rfl
  · obtain ⟨k, rfl, q⟩ := h
    refine ⟨_, pss_one (ps_ret (pe_tupF (pa_cons (pe_tupF (pa_cons (pe_tupF (pa_cons (pe_tupF (pa_cons (pv 0) (pa_cons pe_int pa_nil))) pa_nil)) (pa_cons pe_int pa_nil))) pa_nil))), ?_⟩
    refine ⟨_, rfl, ln2, fun a oa na da => ⟨ln1, fun b ob nb db => ⟨ln2, fun c oc nc dc => ⟨ln1, fun d od nd dd => ?_⟩⟩⟩⟩
    have d1 : Dn (upd H a (.frz oa (.tup [nV k, .int 1]))) (.ref a) (pairK (.num (k : Int), 1)) := .tup upd_same da (.cons (.int _) (.cons (.int _) .nil))
    have d2 := Dn.tup (ks := [pairK (.num (k : Int), 1)]) (upd_same (H := upd H a (.frz oa (.tup [nV k, .int 1]))) (a := b) (o := .frz ob (.tup [.ref a]))) db (.cons (d1.same (same_new nb)) .nil)
    have d3 := Dn.tup (ks := [.tup [pairK (.num (k : Int), 1)], .num 1]) (upd_same (a := c) (o := .frz oc (.tup [.ref b, .int 1]))) dc (.cons (d2.same (same_new nc)) (.cons (.int _) .nil))
    have d4 := Dn.tup (ks := [.tup [.tup [pairK (.num (k : Int), 1)], .num 1]]) (upd_same (a := d) (o := .frz od (.tup [.ref c]))) dd (.cons (d3.same (same_new nd)) .nil)
    exact q _ _ ((((same_new na).trans (same_new nb)).trans (same_new nc)).trans (same_new nd)) d4
theorem ok_packed (B : TxtB mg) (T : TxtP K mg A) (XT : ExcAt K mg "TooLarge" A.eT) : FnOk P w K mg base (L2.CX P w) 1 T.packed.f T.packed.fd ["table"] (spPacked P w A.eT) := by
  refine T.packed.F.okX scPacked (fun vs H Q E h => ?_) (fun cdv A' outer s H vs Q E hr h => ?_)
  · obtain ⟨d, t, rfl, _⟩ := h
    rfl
  · obtain ⟨d, t, rfl, hd, k, ke⟩ := h
    obtain ⟨tM, gM⟩ := B.mostM
    have hu := hr.units
    refine ⟨_, pss_cons (ps_if (pt_cmpR op_gt (pe_callB call_len_nd (by rfl) B.len PySem.boot_len (pa_cons (pv 0) pa_nil)) (pe_glob (v := .int 400) rfl gM ⟨_, rfl⟩) (nomark _))
        (pss_one (ps_raise rfl (takes_of rfl rfl rfl rfl) (pmk_own PySem.F.excBase_ValueError XT.x XT.g XT.k (raises_own XT.b XT.t) (by exact rfl)))) pss_nil)
      (pss_one (ps_ret (pe_callTy cr_tupF (by rfl) B.tuple (by decide +kernel) (pa_cons (pe_callB (cr_sortA rfl hu) (by rfl) B.sorted (by decide +kernel) (pa_cons (pe_itemsA (pv 0)) pa_nil)) pa_nil)))), ?_⟩
    refine ⟨_, rfl, d, _, rfl, hd, _, _, rfl, rfl, _, rfl, ?_⟩
    have hl : (encP t).length = t.length := List.length_map _
    rw [hl]
    by_cases hb : (400 : Int) < (t.length : Nat)
    · refine iteB (decide_eq_true hb) ?_
      exact ke H (.refl _)
    · refine iteBF (decide_eq_false hb) ?_
      have ei : encP t = (itP t).map fun it => (it.1, V.int it.2) := by
        unfold encP encT itP
        rw [List.map_map]
        rfl
      rw [ei] at hd
      refine ⟨_, rfl, d, itP t, rfl, .inl hd, fun p np => ?_⟩
      refine ⟨p, d, itP t, rfl, upd_same, .inl (hd.same (same_new np)), fun it hit jt hjt => ?_, fun it hit => ?_, fun H1 l zs s1 nl hperm hl1 hD => ?_⟩
      · obtain ⟨q1, _, rfl⟩ := List.mem_map.mp hit
        obtain ⟨q2, _, rfl⟩ := List.mem_map.mp hjt
        exact alike_term _ _ _ _
      · obtain ⟨q1, _, rfl⟩ := List.mem_map.mp hit
        exact dep_term _ _
      · obtain ⟨r, er, hr2⟩ := perm_map _ hperm t rfl
        have hall := zs_dn hD
        rw [er, List.map_map] at hall
        refine ⟨l, _, rfl, SqL.of hl1, fun l2 o n2 d2 => k _ _ r (((same_new np).trans s1).trans (same_new n2)) (.tup upd_same d2 (DnAll.fk (.new n2) _ _ hall)) hr2 ?_⟩
        have := hr2.length_eq
        omega
theorem ok_united (B : TxtB mg) (T : TxtP K mg A) : FnOk P w K mg base CX0 1 T.united.f T.united.fd ["one", "other"] spUnited := by
  refine T.united.F.ok scUnited (fun vs H Q E h => ?_) (fun cdv A' outer s H vs Q E hr h => ?_)
  · obtain ⟨va, vb, m1, m2, n, rfl, _⟩ := h
    rfl
  · obtain ⟨va, vb, m1, m2, n, rfl, h1, h2, o1, o2, hn, k⟩ := h
    have hu := hr.units
    have hu1 := hu_of hr
    refine ⟨_, pss_cons (ps_set (i := 2) scUnited.nd rfl (.inl rfl) (pe_callTy (cr_dictI rfl) (by rfl) B.dict (by decide +kernel) (pa_cons (pv 0) pa_nil)))
      (pss_cons (ps_for PassesOwn.never rfl (pi_tup (pv 1)) (pg_tup rfl (pgs_cons (pg_name (i := 3) scUnited.nd rfl (.inl rfl)) (pgs_cons (pg_name (i := 4) scUnited.nd rfl (.inl rfl)) pgs_nil)))
        (pss_one (ps_dput hu1 (pv 2) (pv 3) (pe_op op_add (pe_dget2 hu1 (pv 2) (pv 3) pe_int ⟨rfl, rfl, rfl, rfl⟩) (pv 4)) rfl)))
      (pss_one (ps_ret (pe_callTy cr_tupF (by rfl) B.tuple (by decide +kernel) (pa_cons (pe_callB (cr_sortA rfl hu) (by rfl) B.sorted (by decide +kernel) (pa_cons (pe_itemsA (pv 2)) pa_nil)) pa_nil))))), ?_⟩
    obtain ⟨p1, _, rfl, _, _⟩ := h1.sq (K := K)
    obtain ⟨p2, xs, rfl, hs2, ha2⟩ := h2.sq (K := K)
    refine ⟨_, rfl, p1, m1, rfl, h1, fun d nd => ?_⟩
    have em : mergeK [] (m1.map fun q => ((Sum.inl q.1 : L2.Key), V.int q.2)) = encI m1 := mergeK_nil o1.nd
    rw [em]
    have s1 := same_new (o := .dK (encI m1)) nd
    have hd1 : (upd H d (.dK (encI m1))) d = some (.dK (encI m1)) := upd_same
    have nk : ∀ b o, H b = some o → b ≠ d := fun b o e => ne_of_none e nd
    generalize upd H d (.dK (encI m1)) = H1 at s1 hd1
    have hlen := ha2.length
    rw [List.length_map] at hlen
    refine ⟨_, rfl, p2, rfl, ⟨_, sqT_same hs2 s1⟩, for_tup (K := K) (a := p2) (xs := xs) (fun i σ H2 => ∃ vf ve, σ = [some (.ref p1), some (.ref p2), some (.ref d), vf, ve] ∧ Same H H2 ∧ H2 d = some (.dK (encI (accs m1 (m2.take i)))))
      ⟨none, none, rfl, s1, hd1⟩ (fun i σ H2 _ ⟨_, _, _, s2, _⟩ => sqT_same hs2 s2) ?_ ?_⟩
    · rintro i x σ H2 hi ⟨vf, ve, rfl, s2, hd2⟩
      obtain ⟨kk, ek, hx⟩ := ha2.get' hi
      rw [List.getElem?_map] at ek
      cases eq : m2[i]? with
      | none =>
        rw [eq] at ek
        cases ek
      | some q =>
        rw [eq] at ek
        have ek' : pairK (.num q.1, q.2) = kk := Option.some.inj ek
        subst ek'
        obtain ⟨a, wv, rfl, ha, hw⟩ := int_K (K := K) (.num 0) hx
        have ew := hw.num_inv
        subst ew
        have hi2 : i < m2.length := (List.getElem?_eq_some_iff.mp eq).1
        refine ⟨a, _, rfl, sqT_same ha s2, rfl, _, _, rfl, _, _, rfl, rfl, ?_⟩
        refine ⟨_, rfl, d, rfl, .inl ⟨_, .inl hd2⟩, _, rfl, _, DGet.k (k := Sum.inl q.1) hd2, _, rfl, _, _, enc_get inl_inj _ _, rfl, ?_⟩
        refine ⟨_, rfl, _, rfl, d, _, rfl, DPut.k (k := Sum.inl q.1) hd2 ?_, _, _, rfl, fun b o e => ?_, ?_⟩
        · have l1 := accs_length (m2.take i) m1
          have l2 := mono_len o1 hn
          have l3 := mono_len o2 hn
          rw [List.length_take] at l1
          have : (encI (accs m1 (m2.take i))).length = (accs m1 (m2.take i)).length := List.length_map _
          rw [this, sizeLine_eq]
          omega
        · rw [upd_ne (nk b o e)]
          exact s2 _ _ e
        · rw [upd_same, enc_put inl_inj _ _ _ (accs_nodup _ _ o1.nd), ← accs_snoc]
          rw [List.take_add_one, eq]
          rfl
    · rintro σ H2 ⟨vf, ve, rfl, s2, hd2⟩
      rw [hlen, List.take_length] at hd2
      have hE : ∀ H3, Same H2 H3 → EntIs P w H3 d ((accs m1 m2).map fun q => (NestedKey.num q.1, q.2)) := fun H3 s3 => .inr ⟨accs m1 m2, rfl, s3 _ _ hd2⟩
      refine ⟨_, rfl, d, _, rfl, hE H2 (.refl _), fun p np => ?_⟩
      refine ⟨p, d, _, rfl, upd_same, hE _ (same_new np), fun it hit jt hjt => ?_, fun it hit => ?_, fun H3 l zs s3 nl hperm hl1 hD => ?_⟩
      · obtain ⟨q1, _, rfl⟩ := List.mem_map.mp hit
        obtain ⟨q2, _, rfl⟩ := List.mem_map.mp hjt
        exact alike_num _ _ _ _
      · obtain ⟨q1, _, rfl⟩ := List.mem_map.mp hit
        exact dep_num _ _
      · obtain ⟨r, er, hr2⟩ := perm_map _ hperm _ rfl
        have hall := zs_dn hD
        rw [er, List.map_map] at hall
        exact ⟨l, _, rfl, SqL.of hl1, fun l2 o n2 d2 => k _ _ r ((s2.trans ((same_new np).trans s3)).trans (same_new n2)) (.tup upd_same d2 (DnAll.fk (.new n2) _ _ hall)) hr2⟩
end
end Ev

namespace Ev
open PySem PySem.Spec PyProof.Rows L2
theorem poly0 : PolyOk 0 [] := ⟨List.nodup_nil, Nat.zero_le _, Nat.zero_le _, fun q hq => (nomatch hq)⟩
theorem poly1 : PolyOk 0 [([], 1)] := ⟨by simp, by decide, by decide, fun q hq => by
  rw [List.mem_singleton] at hq
  rw [hq]
  exact ⟨List.nodup_nil, fun r hr => (nomatch hr), by decide⟩⟩
theorem polyV {k : Nat} (hk : k < 4) : PolyOk 0 [([((k : Int), 1)], 1)] := ⟨by simp, by show 1 ≤ 400; decide, by show 1 ≤ 2 ^ 2 ^ 0; decide, fun q hq => by
  rw [List.mem_singleton] at hq
  rw [hq]
  refine ⟨by simp, fun r hr => ?_, by show 1 ≤ 2 ^ 0; decide⟩
  rw [List.mem_singleton] at hr
  rw [hr]
  refine ⟨?_, ?_, ?_⟩ <;> simp only <;> omega⟩
theorem dpoly1 (x : Int → Int) (f : Int) : dpoly x f [([], 1)] = done := by
  show dadd (dmul (1, 0) done) dz = done
  rfl
theorem dpolyV (x : Int → Int) (f k : Int) : dpoly x f [([(k, 1)], 1)] = dvar x f k := by
  show dadd (dmul (1, 0) (dmul (dpow (dvar x f k) 1) done)) dz = dvar x f k
  rw [dadd_zero, dmul_one]
  show dmul done (dpow (dvar x f k) 1) = _
  rw [one_dmul]
  show dmul done (dvar x f k) = _
  rw [one_dmul]
section
variable {P : Program} {w : World} {K : PySem.W.Frag} {mg : Str → Option Value} {base : Heap} {A : Ads}
theorem ok_pZero (T : TxtP K mg A) : FnOk P w K mg base (L2.CX P w) 3 T.zero.f T.zero.fd ["self"] (spConst polyR polyR.zero) := by
  refine T.zero.F.okX scPZero (fun vs H Q E h => ?_) (fun cdv A' outer s H vs Q E hr h => ?_)
  · obtain ⟨p, rfl, _⟩ := h
    rfl
  · obtain ⟨p, rfl, k⟩ := h
    exact ⟨_, pss_one (ps_ret (pe_tupF pa_nil)), ln0, fun q o nq d => k _ _ (same_new nq) ⟨[], Dn.tup (ks := []) upd_same d .nil, poly0, fun x f => rfl⟩⟩
theorem ok_pOne (T : TxtP K mg A) : FnOk P w K mg base (L2.CX P w) 3 T.one.f T.one.fd ["self"] (spConst polyR polyR.one) := by
  refine T.one.F.okX scPOne (fun vs H Q E h => ?_) (fun cdv A' outer s H vs Q E hr h => ?_)
  · obtain ⟨p, rfl, _⟩ := h
    rfl
  · obtain ⟨p, rfl, k⟩ := h
    refine ⟨_, pss_one (ps_ret (pe_tupF (pa_cons (pe_tupF (pa_cons (pe_tupF pa_nil) (pa_cons pe_int pa_nil))) pa_nil))), ?_⟩
    refine ⟨ln0, fun a oa na da => ⟨ln2, fun b ob nb db => ⟨ln1, fun c oc nc dc => ?_⟩⟩⟩
    have d1 : Dn (upd H a (.frz oa (.tup []))) (.ref a) (monoK []) := Dn.tup (ks := []) upd_same da .nil
    have d2 := Dn.tup (ks := [monoK [], .num 1]) (upd_same (a := b) (o := .frz ob (.tup [.ref a, .int 1]))) db (.cons (d1.same (same_new nb)) (.cons (.int _) .nil))
    have d3 := Dn.tup (ks := [.tup [monoK [], .num 1]]) (upd_same (a := c) (o := .frz oc (.tup [.ref b]))) dc (.cons (d2.same (same_new nc)) .nil)
    exact k _ _ (((same_new na).trans (same_new nb)).trans (same_new nc)) ⟨[([], 1)], d3, poly1, fun x f => (dpoly1 x f).symm⟩
theorem term_at {H : Hp} {x : V} {q : Mono × Int} (h : Dn H x (termK q)) : ∃ a b, x = .ref a ∧ SqT K H a [.ref b, .int q.2] ∧ Dn H (.ref b) (monoK q.1) := by
  obtain ⟨a, wv, rfl, ha, hw⟩ := int_K (K := K) (.num 0) (k := monoK q.1) (c := q.2) h
  obtain ⟨b, vs, rfl, _, _⟩ := hw.sq (K := K)
  exact ⟨a, b, rfl, ha, hw⟩
theorem ok_pPlus (B : TxtB mg) (T : TxtP K mg A) (XT : ExcAt K mg "TooLarge" A.eT) : FnOk P w K mg base (L2.CX P w) 3 T.plus.f T.plus.fd ["self", "a", "b"] (spBin polyR polyR.plus A.eT) := by
  have GP : FnOk P w K mg base (L2.CX P w) 1 T.packed.f T.packed.fd ["table"] (spPacked P w A.eT) := ok_packed B T XT
  refine T.plus.F.okX scPPlus (fun vs H Q E h => ?_) (fun cdv A' outer s H vs Q E hr h => ?_)
  · obtain ⟨p, va, vb, a, b, n, rfl, _⟩ := h
    rfl
  · obtain ⟨ps, va, vb, ea, eb, n, rfl, ⟨a, h1, o1, v1⟩, ⟨b, h2, o2, v2⟩, hn, k, ke⟩ := h
    have hu := hr.units
    have hr1 : Room 1 _ := hr.mono (by decide)
    refine ⟨_, pss_cons (ps_set (i := 3) scPPlus.nd rfl (.inl rfl) (pe_callTy (cr_dictN rfl hu) (by rfl) B.dict (by decide +kernel) (pa_cons (pv 1) pa_nil)))
      (pss_cons (ps_for (passes_of rfl) rfl (pi_tup (pv 2)) (pg_tup rfl (pgs_cons (pg_name (i := 4) scPPlus.nd rfl (.inl rfl)) (pgs_cons (pg_name (i := 5) scPPlus.nd rfl (.inl rfl)) pgs_nil)))
        (pss_one (ps_asg (pe_op op_add (pe_nget2 hu (pv 3) (pv 4) pe_int ⟨rfl, rfl, rfl, rfl⟩) (pv 5)) (pg_sub (pv 3) (pv 4) (set_nd hu)))))
      (pss_one (ps_ret (pe_call (E := E) GP hr1 rfl T.packed.g T.packed.F.kp T.packed.b .nil (passes_call (takes_of rfl rfl rfl rfl) (fun _ _ _ _ h => h)) (pa_cons (pv 3) pa_nil))))), ?_⟩
    obtain ⟨p1, _, rfl, _, _⟩ := h1.sq (K := K)
    obtain ⟨p2, xs, rfl, hs2, ha2⟩ := h2.sq (K := K)
    have hit : polyK a = .tup ((itP a).map pairK) := by
      unfold polyK
      rw [List.map_map]
      rfl
    refine ⟨_, rfl, p1, itP a, rfl, by rw [← hit]; exact h1, fun q hq => ?_, fun d φ nd hN => ?_⟩
    · obtain ⟨r, _, rfl⟩ := List.mem_map.mp hq
      exact ⟨⟨_, rfl⟩, monoK_depth _⟩
    have em : mergeN [] ((itP a).map fun q => (q.1, V.int q.2)) = encP a := by
      rw [← mergeN_nil o1.nd]
      unfold encP encT itP
      rw [List.map_map]
      rfl
    rw [em] at hN
    have s1 := same_new (o := .ext φ) nd
    have nk : ∀ b o, H b = some o → b ≠ d := fun b o e => ne_of_none e nd
    generalize upd H d (.ext φ) = H1 at s1 hN
    have hlen := ha2.length
    rw [List.length_map] at hlen
    refine ⟨_, rfl, p2, rfl, ⟨_, sqT_same hs2 s1⟩, for_tup (K := K) (a := p2) (xs := xs) (fun i σ H2 => ∃ vf ve, σ = [some (.ref ps), some (.ref p1), some (.ref p2), some (.ref d), vf, ve] ∧ Same H H2 ∧ NDict P w H2 d (encP (accs a (b.take i))))
      ⟨none, none, rfl, s1, hN⟩ (fun i σ H2 _ ⟨_, _, _, s2, _⟩ => sqT_same hs2 s2) ?_ ?_⟩
    · rintro i x σ H2 hi ⟨vf, ve, rfl, s2, hN2⟩
      obtain ⟨kk, ek, hx⟩ := ha2.get' hi
      rw [List.getElem?_map] at ek
      cases eq : b[i]? with
      | none =>
        rw [eq] at ek
        cases ek
      | some q =>
        rw [eq] at ek
        have ek' : termK q = kk := Option.some.inj ek
        subst ek'
        obtain ⟨pa, pb, rfl, ha, hw⟩ := term_at (K := K) hx
        have hi2 : i < b.length := (List.getElem?_eq_some_iff.mp eq).1
        have hw2 := hw.same s2
        refine ⟨pa, _, rfl, sqT_same ha s2, rfl, _, _, rfl, _, _, rfl, rfl, ?_⟩
        refine ⟨_, rfl, d, _, rfl, hN2, _, rfl, monoK q.1, pb, _, rfl, hw2, monoK_depth _, hN2, _, rfl, _, _, enc_get monoK_inj' _ _, rfl, ?_⟩
        refine ⟨_, rfl, _, rfl, monoK q.1, pb, d, _, rfl, rfl, hw2, monoK_depth _, hN2, ?_, fun φ2 hN3 => ⟨_, _, rfl, fun b' o e => ?_, ?_⟩⟩
        · have l1 := accs_length (b.take i) a
          have l2 := o1.len
          have l3 := o2.len
          rw [List.length_take] at l1
          have : (encP (accs a (b.take i))).length = (accs a (b.take i)).length := List.length_map _
          rw [this, sizeLine_eq]
          omega
        · rw [upd_ne (nk b' o e)]
          exact s2 _ _ e
        · rw [enc_put monoK_inj' _ _ _ (accs_nodup _ _ o1.nd), ← accs_snoc] at hN3
          rw [List.take_add_one, eq]
          exact hN3
    · rintro σ H2 ⟨vf, ve, rfl, s2, hN2⟩
      rw [hlen, List.take_length] at hN2
      refine ⟨_, rfl, d, _, rfl, hN2, fun v H3 p s3 hD hp hl => ?_, fun H3 s3 => ke trivial H3 (s2.trans s3)⟩
      obtain ⟨z1, z2⟩ := plus_ok o1 o2 hp hl
      exact k v H3 (s2.trans s3) ⟨p, hD, z1, fun x f => by rw [z2]; show dadd (ea x f) (eb x f) = _; rw [v1, v2]⟩
theorem ok_pTimes (B : TxtB mg) (T : TxtP K mg A) (XT : ExcAt K mg "TooLarge" A.eT) : FnOk P w K mg base (L2.CX P w) 3 T.times.f T.times.fd ["self", "a", "b"] (spBin polyR polyR.times A.eT) := by
  have GP : FnOk P w K mg base (L2.CX P w) 1 T.packed.f T.packed.fd ["table"] (spPacked P w A.eT) := ok_packed B T XT
  have GU : FnOk P w K mg base CX0 1 T.united.f T.united.fd ["one", "other"] spUnited := ok_united B T
  refine T.times.F.okX scPTimes (fun vs H Q E h => ?_) (fun cdv A' outer s H vs Q E hr h => ?_)
  · obtain ⟨p, va, vb, a, b, n, rfl, _⟩ := h
    rfl
  · obtain ⟨ps, va, vb, ea, eb, n, rfl, ⟨a, h1, o1, v1⟩, ⟨b, h2, o2, v2⟩, hn, k, ke⟩ := h
    have hu := hr.units
    have hr1 : Room 1 _ := hr.mono (by decide)
    refine ⟨_, pss_cons (ps_set (i := 3) scPTimes.nd rfl (.inl rfl) pe_nnew)
      (pss_cons (ps_for (passes_of rfl) rfl (pi_tup (pv 1)) (pg_tup rfl (pgs_cons (pg_name (i := 4) scPTimes.nd rfl (.inl rfl)) (pgs_cons (pg_name (i := 5) scPTimes.nd rfl (.inl rfl)) pgs_nil)))
        (pss_one (ps_for (passes_of rfl) rfl (pi_tup (pv 2)) (pg_tup rfl (pgs_cons (pg_name (i := 6) scPTimes.nd rfl (.inl rfl)) (pgs_cons (pg_name (i := 7) scPTimes.nd rfl (.inl rfl)) pgs_nil)))
          (pss_cons (ps_set (i := 8) scPTimes.nd rfl (.inl rfl) (pe_call GU hr1 rfl T.united.g T.united.F.kp T.united.b .nil pass0 (pa_cons (pv 4) (pa_cons (pv 6) pa_nil))))
          (pss_one (ps_asg (pe_op op_add (pe_nget2 hu (pv 3) (pv 8) pe_int ⟨rfl, rfl, rfl, rfl⟩) (pe_op op_mulW (pv 5) (pv 7))) (pg_sub (pv 3) (pv 8) (set_nd hu))))))))
      (pss_one (ps_ret (pe_call (E := E) GP hr1 rfl T.packed.g T.packed.F.kp T.packed.b .nil (passes_call (takes_of rfl rfl rfl rfl) (fun _ _ _ _ h => h)) (pa_cons (pv 3) pa_nil))))), ?_⟩
    obtain ⟨p1, xs1, rfl, hs1, ha1⟩ := h1.sq (K := K)
    obtain ⟨p2, xs2, rfl, hs2, ha2⟩ := h2.sq (K := K)
    have hlen1 := ha1.length
    rw [List.length_map] at hlen1
    have hlen2 := ha2.length
    rw [List.length_map] at hlen2
    intro d φ nd hN
    have s1 := same_new (o := .ext φ) nd
    have nk : ∀ b o, H b = some o → b ≠ d := fun b o e => ne_of_none e nd
    generalize upd H d (.ext φ) = H1 at s1 hN
    refine ⟨_, rfl, p1, rfl, ⟨_, sqT_same hs1 s1⟩, for_tup (K := K) (a := p1) (xs := xs1) (fun i σ H2 => ∃ x4 x5 x6 x7 x8 t, σ = [some (.ref ps), some (.ref p1), some (.ref p2), some (.ref d), x4, x5, x6, x7, x8] ∧ Same H H2 ∧ NDict P w H2 d (encP t) ∧ Outer n a b i t)
      ⟨none, none, none, none, none, [], rfl, s1, hN, outer0⟩ (fun i σ H2 _ ⟨_, _, _, _, _, _, _, s2, _⟩ => sqT_same hs1 s2) ?_ ?_⟩
    · rintro i x σ H2 hi ⟨x4, x5, x6, x7, x8, t, rfl, s2, hN2, hO⟩
      obtain ⟨kk, ek, hx⟩ := ha1.get' hi
      rw [List.getElem?_map] at ek
      cases eq : a[i]? with
      | none =>
        rw [eq] at ek
        cases ek
      | some q =>
        rw [eq] at ek
        have ek' : termK q = kk := Option.some.inj ek
        subst ek'
        obtain ⟨pa, pb, rfl, ha, hw⟩ := term_at (K := K) hx
        have hi2 : i < a.length := (List.getElem?_eq_some_iff.mp eq).1
        refine ⟨pa, _, rfl, sqT_same ha s2, rfl, _, _, rfl, _, _, rfl, rfl, ?_⟩
        refine ⟨_, rfl, p2, rfl, ⟨_, sqT_same hs2 s2⟩, for_tup (K := K) (a := p2) (xs := xs2) (fun j σ H3 => ∃ x6 x7 x8 t, σ = [some (.ref ps), some (.ref p1), some (.ref p2), some (.ref d), some (.ref pb), some (.int q.2), x6, x7, x8] ∧ Same H H3 ∧ NDict P w H3 d (encP t) ∧ Inner n a b i q j t)
          ⟨x6, x7, x8, t, rfl, s2, hN2, hO.inner q⟩ (fun j σ H3 _ ⟨_, _, _, _, _, s3, _⟩ => sqT_same hs2 s3) ?_ ?_⟩
        · rintro j y σ H3 hj ⟨x6, x7, x8, t, rfl, s3, hN3, hI⟩
          obtain ⟨kk, ek, hy⟩ := ha2.get' hj
          rw [List.getElem?_map] at ek
          cases er : b[j]? with
          | none =>
            rw [er] at ek
            cases ek
          | some r =>
            rw [er] at ek
            have ek' : termK r = kk := Option.some.inj ek
            subst ek'
            obtain ⟨pc, pd, rfl, hc, hz⟩ := term_at (K := K) hy
            have hj2 : j < b.length := (List.getElem?_eq_some_iff.mp er).1
            have oq := o1.ok q (List.mem_of_getElem? eq)
            have or := o2.ok r (List.mem_of_getElem? er)
            refine ⟨pc, _, rfl, sqT_same hc s3, rfl, _, _, rfl, _, _, rfl, rfl, ?_⟩
            refine ⟨_, rfl, _, rfl, _, _, q.1, r.1, n, rfl, hw.same s3, hz.same s3, oq, or, hn, fun v H4 m s4 hD hp => ?_⟩
            obtain ⟨u1, u2⟩ := unite_ok oq or hp
            obtain ⟨pm, _, rfl, _, _⟩ := hD.sq (K := K)
            have s34 := s3.trans s4
            have hN4 : NDict P w H4 d (encP t) := hN3.same s4
            have b1 := nrm_mem (List.mem_of_getElem? eq)
            have b2 := nrm_mem (List.mem_of_getElem? er)
            have hp2 : 2 ^ n ≤ 16384 := by
              have : 2 ^ n ≤ 2 ^ 14 := Nat.pow_le_pow_right (by decide) hn
              exact this
            have hm : CMulW q.2 r.2 := cmul_of (Nat.le_trans b1 o1.nrm) (Nat.le_trans b2 o2.nrm) (by omega) (by omega)
            refine ⟨_, rfl, d, _, rfl, hN4, _, rfl, monoK m, pm, _, rfl, hD, monoK_depth _, hN4, ?_⟩
            refine ⟨_, rfl, _, rfl, _, _, rfl, rfl, hm, _, _, enc_get monoK_inj' _ _, rfl, ?_⟩
            refine ⟨_, rfl, _, rfl, monoK m, pm, d, _, rfl, rfl, hD, monoK_depth _, hN4, ?_, fun φ2 hN5 => ⟨_, _, _, _, rfl, fun b' o e => ?_, ?_, hI.step er u1 u2⟩⟩
            · have l1 := hI.len
              have l2 := o1.len
              have l3 := o2.len
              have l4 : i * b.length ≤ 400 * 400 := Nat.mul_le_mul (by omega) l3
              have : (encP t).length = t.length := List.length_map _
              rw [this, sizeLine_eq]
              omega
            · rw [upd_ne (nk b' o e)]
              exact s34 _ _ e
            · rw [enc_put monoK_inj' _ _ _ hI.nd] at hN5
              exact hN5
        · rintro σ H3 ⟨x6, x7, x8, t, rfl, s3, hN3, hI⟩
          rw [hlen2] at hI
          exact ⟨_, _, _, _, _, t, rfl, s3, hN3, hI.outer eq⟩
    · rintro σ H2 ⟨x4, x5, x6, x7, x8, t, rfl, s2, hN2, hO⟩
      rw [hlen1] at hO
      refine ⟨_, rfl, d, _, rfl, hN2, fun v H3 p s3 hD hp hl => ?_, fun H3 s3 => ke trivial H3 (s2.trans s3)⟩
      obtain ⟨z1, z2⟩ := times_ok o1 o2 hO hp hl
      exact k v H3 (s2.trans s3) ⟨p, hD, z1, fun x f => by rw [z2]; show dmul (ea x f) (eb x f) = _; rw [v1, v2]⟩
noncomputable def polyAt (B : TxtB mg) (T : TxtP K mg A) (XT : ExcAt K mg "TooLarge" A.eT) : RingAt P w K mg base polyR A.P A.eT where
  cl := T.cl
  zero := ⟨T.zero.f, T.zero.fd, T.zero.m, T.zero.b, ok_pZero T⟩
  one := ⟨T.one.f, T.one.fd, T.one.m, T.one.b, ok_pOne T⟩
  plus := ⟨T.plus.f, T.plus.fd, T.plus.m, T.plus.b, ok_pPlus B T XT⟩
  times := ⟨T.times.f, T.times.fd, T.times.m, T.times.b, ok_pTimes B T XT⟩
end
end Ev

namespace Ev
open PySem PySem.Spec PyProof.Rows L2
def fvP (k : Nat) : (Int → Int) → Int → Du := fun x f => dvar x f (k : Int)
def spNormal (P : Program) (w : World) (C eT : Addr) : Sp := fun vs H Q E => ∃ (pc L D : Addr) (n : Nat) (nodes : List Sh), vs = [.ref pc, nV n] ∧ CircAt P w C H pc L D nodes ∧ n < nodes.length ∧ nodes.length ≤ 16 ∧ NoStars nodes ∧
  (∀ val : Nat → polyR.A, ValOk polyR nodes fvP val → ∀ (v : V) (H' : Hp) (p : Poly), Same H H' → Dn H' v (polyK p) → PolyOk n p → (∀ x f, val n x f = dpoly x f p) → Q v H') ∧ ∀ H', Same H H' → E (.ref eT) none H'
section
variable {P : Program} {w : World} {K : PySem.W.Frag} {mg : Str → Option Value} {base : Heap} {A : Ads}
theorem scNormal : FnScope ["circuits", "node", "k"] ["circuits", "node"] (defScope sNormal) := ⟨rfl, rfl, rfl, by decide +kernel, rfl, by decide +kernel, by decide +kernel⟩
theorem ok_normal (TC : TxtC K mg A) (B : TxtB mg) (TW : TxtW K mg) (T : TxtP K mg A) (XT : ExcAt K mg "TooLarge" A.eT) : FnOk P w K mg base (L2.CX P w) 6 T.normal.f T.normal.fd ["circuits", "node"] (spNormal P w A.C A.eT) := by
  have GF : FnOk P w K mg base CX0 3 TC.factsIn.f TC.factsIn.fd ["self", "node"] (spFactsIn P w A.C) := ok_factsIn TC B
  have GV : FnOk P w K mg base CX0 1 T.vari.f T.vari.fd ["fact"] spVari := ok_vari T
  have GW := ok_worth (P := P) (w := w) (base := base) (R := polyR) (C := A.P) (eT := A.eT) TC B TW (polyAt B T XT)
  refine T.normal.F.okX scNormal (fun vs H Q E h => ?_) (fun cdv A' outer s H vs Q E hr h => ?_)
  · obtain ⟨pc, L, D, n, nodes, rfl, _⟩ := h
    rfl
  · obtain ⟨pc, L, D, n, nodes, rfl, hC, hn, hlen, nst, k, ke⟩ := h
    have hr3 : Room 3 _ := hr.mono (by decide)
    have hr1 : Room 1 _ := hr.mono (by decide)
    refine ⟨_, pss_one (ps_ret (pe_call (E := E) GW hr rfl TW.worth.g TW.worth.F.kp TW.worth.b .nil (passes_call (takes_of rfl rfl rfl rfl) (fun _ _ _ _ h => h)) (pa_cons (pv 0) (pa_cons (pv 1) (pa_cons (pe_makeO T.made rfl T.g) (pa_cons
      (pe_dc (own := [("k", 2)]) (g := gName 2) (tt := tYes) (tk := tVar 2) (tv := tCall spVari [] E0 (tCons (tVar 2) tNil)) rfl scNormal.nd
        (pi_list (pe_meth (pv 0) TC.cl TC.factsIn.m GF hr3 TC.factsIn.b .nil pass0 (pa_cons (pv 1) pa_nil))) (blkOk_by (N := ["circuits", "node", "k"]) (sc := defScope sNormal) (by decide +kernel))
        (fun _ _ _ _ _ => pg_name (i := 2) scNormal.nd rfl (.inl rfl)) (fun _ _ _ _ _ => pts_nil) (fun _ _ _ _ _ => pv 2)
        (fun _ _ _ _ _ => by exact (pe_call GV hr1 rfl T.vari.g T.vari.F.kp T.vari.b .nil pass0 (pa_cons (pv 2) pa_nil)))) pa_nil)))))), ?_⟩
    refine ⟨_, rfl, _, rfl, fun y dy ny ndy ney => ?_⟩
    have s1 : Same H (upd (upd H dy (.own y)) y (.ins A.P dy [])) := fun b o e => by
      rw [upd_ne (ne_of_none e ny), upd_ne (ne_of_none e ndy)]
      exact e
    have hy : (upd (upd H dy (.own y)) y (.ins A.P dy [])) y = some (.ins A.P dy []) := upd_same
    generalize upd (upd H dy (.own y)) y (.ins A.P dy []) = H1 at s1 hy
    obtain ⟨dx, h1⟩ := hC.ob
    refine ⟨_, rfl, pc, dx, _, rfl, s1 _ _ h1, cf_no _ _ (by decide +kernel) (by decide +kernel), _, rfl, pc, L, D, n, nodes, rfl, hC.same s1, hn, Nat.le_trans hlen (by decide), fun fs q H2 s2 hq hfl hf4 hff => ⟨q, rfl, ⟨_, SqL.of hq⟩, fun F nF => ?_⟩⟩
    refine dc_list (K := K) (a := q) (xs := fs.map nV) (fun i H3 => Same H2 H3 ∧ ∃ kvs, H3 F = some (.dK kvs) ∧ kvs.length ≤ i ∧ ∀ j k, j < i → fs[j]? = some k → ∃ v, valV kvs (Sum.inl (k : Int) : L2.Key) = some v ∧ polyR.rep 0 H3 v (fvP k))
      ⟨same_new nF, [], upd_same, Nat.le_refl _, fun j k hj => absurd hj (Nat.not_lt_zero _)⟩ (fun i H3 _ ⟨s3, _⟩ => SqL.of (s3 _ _ hq)) ?_ ?_
    · rintro i z H3 hi ⟨s3, kvs, hF3, hkl, hkv⟩
      rw [List.getElem?_map] at hi
      cases hm : fs[i]? with
      | none =>
        rw [hm] at hi
        cases hi
      | some k =>
        rw [hm] at hi
        have ey : nV k = z := Option.some.inj hi
        subst ey
        have hk4 := hf4 k (List.mem_of_getElem? hm)
        have hi50 : i < fs.length := (List.getElem?_eq_some_iff.mp hm).1
        refine ⟨rfl, _, rfl, _, rfl, k, rfl, fun v H4 s4 hD => ?_⟩
        have hF4 := s4 _ _ hF3
        have fk5 : Fk H4 (upd H4 F (.dK (putK kvs (Sum.inl (k : Int)) v))) := .upd (nf_dK hF4)
        refine ⟨kvs, Sum.inl (k : Int), rfl, hF4, Nat.lt_of_le_of_lt hkl (Nat.lt_of_lt_of_le hi50 (Nat.le_trans hfl (by rw [sizeLine_eq]; decide))), fun b o e => ?_, _, upd_same, ?_, fun j k' hj hk' => ?_⟩
        · rw [upd_ne (ne_of_none e nF)]
          exact s4 _ _ (s3 _ _ e)
        · have := length_putK kvs (Sum.inl (k : Int) : L2.Key) v
          omega
        · rw [valV_put]
          by_cases e : k' = k
          · subst e
            rw [if_pos rfl]
            exact ⟨v, rfl, [([((k' : Int), 1)], 1)], Dn.fk fk5 _ _ hD, polyV hk4, fun x f => (dpolyV x f _).symm⟩
          · have : ¬ (Sum.inl (k' : Int) : L2.Key) = Sum.inl (k : Int) := fun z => e (by have := Sum.inl.inj z; omega)
            rw [if_neg this]
            have hj' : j < i := by
              rcases Nat.lt_or_eq_of_le (Nat.le_of_lt_succ hj) with z | z
              · exact z
              · subst z
                rw [hm] at hk'
                cases hk'
                exact absurd rfl e
            obtain ⟨v', e1, e2⟩ := hkv j k' hj' hk'
            exact ⟨v', e1, polyR.fk e2 ((Fk.of_same s4).trans fk5)⟩
    · rintro H3 ⟨s3, kvs, hF3, hkl, hkv⟩
      rw [List.length_map] at hkv
      have s13 := (s1.trans s2).trans s3
      obtain ⟨val, hval⟩ : ∃ val : Nat → polyR.A, ValOk polyR nodes fvP val := exists_val polyR hC.wf _
      refine ⟨pc, L, D, y, dy, F, n, nodes, kvs, fvP, val, rfl, hC.same s13, hn, hlen, nst, s3 _ _ (s2 _ _ hy), hF3, fun m k hm hk => ?_, hval, fun v H4 s4 r => ?_, fun _ H4 s4 => ke H4 (s13.trans s4)⟩
      · obtain ⟨j, hj⟩ := List.mem_iff_getElem?.mp (hff m k hm hk)
        exact hkv j k (List.getElem?_eq_some_iff.mp hj).1 hj
      · obtain ⟨p, r1, r2, r3⟩ := r
        exact k val hval v H4 p (s13.trans s4) r1 r2 r3
end
end Ev

/-! The law's helpers. -/
namespace Ev
open PySem PySem.Spec PyProof.Rows L2
structure TxtX (K : PySem.W.Frag) (mg : Str → Option Value) where
  pot : GDef K mg "_law_pot" sPot ["_law_script"]
  next : GDef K mg "_law_next" sNext ["_law_pot_here", "_law_limit"]
  isInt : GDef K mg "_law_is_int" sIsInt ["_law_value"]
  grown : GDef K mg "_law_grown" sGrown ["_law_pot_here", "_law_circuits", "_law_facts", "_law_stars"]
  form : GDef K mg "_law_form" sForm ["_law_circuits", "_law_node"]
  power : GDef K mg "_law_power" sPower ["_law_number", "_law_exponent"]
  due : GDef K mg "_law_due" sDue ["_law_form_here", "_law_fact", "_law_numbers"]
  refused : GDef K mg "_law_refused" sRefused ["_law_circuits", "_law_node"]
/-- the pot stands at q -/
structure PotAt (H : Hp) (q s : Addr) (zs : List Int) (i : Nat) (c sd : Int) : Prop where
  at_ : H q = some (.lst [.ref s, .int (i : Int), .int c, .int sd])
  li : H s = some (.lst (zs.map V.int))
  c0 : 0 ≤ c
  s0 : 0 ≤ sd
  s1 : sd < 2147483647
def Pot (H : Hp) (q s : Addr) : Prop := ∃ zs i c sd, PotAt H q s zs i c sd
/-- all but q is kept -/
def But (q : Addr) (H H' : Hp) : Prop := ∀ b o, H b = some o → b ≠ q → H' b = some o
theorem But.refl (q : Addr) (H : Hp) : But q H H := fun _ _ h _ => h
theorem But.trans {q : Addr} {H H1 H2 : Hp} (a : But q H H1) (b : But q H1 H2) : But q H H2 := fun c o h h1 => b c o (a c o h h1) h1
theorem But.upd {q : Addr} {H : Hp} {o : HO} : But q H (upd H q o) := fun b u h hb => by rw [upd_ne hb]; exact h
theorem PotAt.ne {H : Hp} {q s : Addr} {zs : List Int} {i : Nat} {c sd : Int} (h : PotAt H q s zs i c sd) : s ≠ q := fun e => by
  have h1 := h.at_
  rw [← e, h.li] at h1
  have h2 := HO.lst.inj (Option.some.inj h1)
  cases zs with
  | nil => cases h2
  | cons z zs => cases h2
theorem Pot.lst {H : Hp} {q s : Addr} (h : Pot H q s) : ∃ ys, H q = some (.lst ys) := let ⟨_, _, _, _, h⟩ := h; ⟨_, h.at_⟩
theorem Pot.same {H H' : Hp} {q s : Addr} (h : Pot H q s) (t : Same H H') : Pot H' q s := let ⟨zs, i, c, sd, h⟩ := h; ⟨zs, i, c, sd, t _ _ h.at_, t _ _ h.li, h.c0, h.s0, h.s1⟩
def spPot (K : PySem.W.Frag) : Sp := fun vs H Q _ => ∃ (a : Addr) (ns : List Int), vs = [.ref a] ∧ SqL K H a (ns.map V.int) ∧ ns.length ≤ 63 ∧ ∀ (q s : Addr) (H' : Hp), Same H H' → Pot H' q s → Q (.ref q) H'
def spNext : Sp := fun vs H Q _ => ∃ (q s : Addr) (n : Nat), vs = [.ref q, nV n] ∧ Pot H q s ∧ 0 < n ∧ n ≤ 1000 ∧ ∀ (r : Nat) (H' : Hp), r < n → Pot H' q s → But q H H' → Q (nV r) H'
theorem mod_nat (x : Int) {n : Nat} (h : 0 < n) : ∃ r : Nat, x % (n : Int) = (r : Int) ∧ r < n := by
  have h1 := Int.emod_nonneg x (b := (n : Int)) (by omega)
  have h2 := Int.emod_lt_of_pos x (b := (n : Int)) (by omega)
  exact ⟨(x % (n : Int)).toNat, by omega, by omega⟩
theorem div_nat {n : Nat} (h : 0 < n) (hn : n ≤ 1000) (x : Int) : CDivW x (n : Int) := by
  refine ⟨by omega, ?_⟩
  have : (n : Int).natAbs < 2 ^ 10 := by
    rw [Int.natAbs_natCast]
    exact Nat.lt_of_le_of_lt hn (by decide)
  exact Nat.lt_trans (PySem.Flt.log2_lt_of (by decide) this) (by decide)
section
variable {P : Program} {w : World} {K : PySem.W.Frag} {mg : Str → Option Value} {base : Heap} {A : Ads}
theorem scPot : FnScope ["_law_script", "_law_seed", "_law_cell"] ["_law_script"] (defScope sPot) := ⟨rfl, rfl, rfl, by decide +kernel, rfl, by decide +kernel, by decide +kernel⟩
theorem scNext : FnScope ["_law_pot_here", "_law_limit", "_law_cell", "_law_found", "_law_mixed"] ["_law_pot_here", "_law_limit"] (defScope sNext) := ⟨rfl, rfl, rfl, by decide +kernel, rfl, by decide +kernel, by decide +kernel⟩
theorem ok_pot (B : TxtB mg) (T : TxtX K mg) : FnOk P w K mg base CX0 1 T.pot.f T.pot.fd ["_law_script"] (spPot K) := by
  refine T.pot.F.ok scPot (fun vs H Q E h => ?_) (fun cdv A' outer s H vs Q E hr h => ?_)
  · obtain ⟨a, ns, rfl, _⟩ := h
    rfl
  · obtain ⟨a, ns, rfl, hS, hl, k⟩ := h
    refine ⟨_, pss_cons (ps_set (i := 1) scPot.nd rfl (.inl rfl) pe_int)
      (pss_cons (ps_for PassesOwn.never rfl (pi_list (pv 0)) (pg_name (i := 2) scPot.nd rfl (.inl rfl))
        (pss_one (ps_set (i := 1) scPot.nd rfl (.inl rfl) (pe_op op_mod (pe_callTy call_int1 (by rfl) B.int (by decide +kernel) (pa_cons (pe_op op_add (pe_op op_mul (pv 1) pe_int) (pv 2)) pa_nil)) pe_int))))
      (pss_one (ps_ret (pe_lst (pa_cons (pe_callTy call_list_of (by rfl) B.list (by decide +kernel) (pa_cons (pv 0) pa_nil)) (pa_cons pe_int (pa_cons pe_int (pa_cons (pv 1) pa_nil)))))))), ?_⟩
    refine ⟨_, rfl, a, rfl, ⟨_, hS⟩, for_list (K := K) (a := a) (xs := ns.map V.int) (fun i σ H2 => H2 = H ∧ ∃ sd vc, σ = [some (.ref a), some (.int sd), vc] ∧ 0 ≤ sd ∧ sd < 2147483647)
      ⟨rfl, 1, none, rfl, by decide, by decide⟩ (fun i σ H2 _ ⟨e, _⟩ => by rw [e]; exact hS) ?_ ?_⟩
    · rintro i x σ H2 hi ⟨rfl, sd, vc, rfl, h0, h1⟩
      rw [List.getElem?_map] at hi
      cases hm : ns[i]? with
      | none =>
        rw [hm] at hi
        cases hi
      | some z =>
        rw [hm] at hi
        have ex : V.int z = x := Option.some.inj hi
        subst ex
        refine ⟨_, rfl, _, _, rfl, rfl, .inr ⟨by decide, by decide⟩, _, rfl, _, _, rfl, rfl, .inl ⟨_, rfl, _, _, rfl, rfl, (by show (0 : Int) < 2147483647; decide), rfl, _, _, rfl, ?_, ?_⟩⟩
        · exact Int.emod_nonneg _ (by decide)
        · exact Int.emod_lt_of_pos _ (by decide)
    · rintro σ H2 ⟨rfl, sd, vc, rfl, h0, h1⟩
      refine ⟨_, rfl, a, _, rfl, .inl hS, fun l nl => ⟨_, rfl, (by show 4 ≤ sizeLine; rw [sizeLine_eq]; decide), fun q nq => k q l _ ((same_new nl).trans (same_new nq)) ⟨ns, 0, 0, sd, upd_same, ?_, by decide, h0, h1⟩⟩⟩
      exact same_new nq _ _ upd_same
theorem ok_next (B : TxtB mg) (T : TxtX K mg) : FnOk P w K mg base CX0 1 T.next.f T.next.fd ["_law_pot_here", "_law_limit"] spNext := by
  refine T.next.F.ok scNext (fun vs H Q E h => ?_) (fun cdv A' outer s H vs Q E hr h => ?_)
  · obtain ⟨q, s', n, rfl, _⟩ := h
    rfl
  · obtain ⟨q, s', n, rfl, ⟨zs, i, c, sd, hP⟩, hn0, hn, k⟩ := h
    refine ⟨_, pss_cons (ps_if (PW.pt (pw_and (pt_cmpR op_eq (pe_ix ix_list (pv 0) pe_int (fun _ _ => rfl)) pe_int (nomark _))
          (pw_and1 (pt_cmpR op_lt (pe_ix ix_list (pv 0) pe_int (fun _ _ => rfl)) (pe_callB call_len_seq (by rfl) B.len PySem.boot_len (pa_cons (pe_ix ix_list (pv 0) pe_int (fun _ _ => rfl)) pa_nil)) (nomark _)))))
        (pss_cons (ps_set (i := 2) scNext.nd rfl (.inl rfl) (pe_callB call_abs (by rfl) B.abs (by decide +kernel) (pa_cons (pe_callTy call_int1 (by rfl) B.int (by decide +kernel) (pa_cons (pe_ix ix_list (pe_ix ix_list (pv 0) pe_int (fun _ _ => rfl)) (pe_ix ix_list (pv 0) pe_int (fun _ _ => rfl)) (fun _ _ => rfl)) pa_nil)) pa_nil)))
        (pss_cons (ps_asg (pe_op op_add (pe_ix ix_list (pv 0) pe_int (fun _ _ => rfl)) pe_int) (pg_sub (pv 0) pe_int set_list))
        (pss_cons (ps_if (pt_cmpR op_lt (pv 2) (pe_op op_pow pe_int pe_int) (nomark _))
          (pss_one (ps_ret (pe_op op_mod (pe_callTy call_int1 (by rfl) B.int (by decide +kernel) (pa_cons (pv 2) pa_nil)) (pv 1)))) pss_nil)
        (pss_one (ps_asg (pv 2) (pg_sub (pv 0) pe_int set_list)))))) pss_nil)
      (pss_cons (ps_if (pt_cmpR op_gt (pe_ix ix_list (pv 0) pe_int (fun _ _ => rfl)) pe_int (nomark _))
        (pss_cons (ps_set (i := 3) scNext.nd rfl (.inl rfl) (pe_op op_mod (pe_callTy call_int1 (by rfl) B.int (by decide +kernel) (pa_cons (pe_ix ix_list (pv 0) pe_int (fun _ _ => rfl)) pa_nil)) (pv 1)))
        (pss_cons (ps_asg (pe_op op_fdivW (pe_ix ix_list (pv 0) pe_int (fun _ _ => rfl)) (pv 1)) (pg_sub (pv 0) pe_int set_list))
        (pss_one (ps_ret (pv 3))))) pss_nil)
      (pss_cons (ps_asg (pe_op op_mod (pe_callTy call_int1 (by rfl) B.int (by decide +kernel) (pa_cons (pe_op op_add (pe_op op_mul (pe_ix ix_list (pv 0) pe_int (fun _ _ => rfl)) pe_int) pe_int) pa_nil)) pe_int) (pg_sub (pv 0) pe_int set_list))
      (pss_cons (ps_set (i := 4) scNext.nd rfl (.inl rfl) (pe_op op_mod (pe_callTy call_int1 (by rfl) B.int (by decide +kernel) (pa_cons (pe_op op_add (pe_op op_mul (pe_ix ix_list (pv 0) pe_int (fun _ _ => rfl)) pe_int) (pe_op op_fdivW (pe_ix ix_list (pv 0) pe_int (fun _ _ => rfl)) pe_int)) pa_nil)) pe_int))
      (pss_one (ps_ret (pe_op op_mod (pe_callTy call_int1 (by rfl) B.int (by decide +kernel) (pa_cons (pv 4) pa_nil)) (pv 1))))))), ?_⟩
    have nsq := hP.ne
    have hq := SqL.of (K := K) hP.at_
    have hs := SqL.of (K := K) hP.li
    have hzl : (zs.map V.int).length = zs.length := List.length_map _
    -- the found cell or a part of it
    have c0 := hP.c0
    by_cases hz : c = 0
    · -- the next cell
      subst hz
      by_cases hi : i < zs.length
      · refine ⟨_, rfl, q, _, 2, _, rfl, rfl, hq, by rfl, rfl, _, rfl, ?_⟩
        refine iteB (by rfl) ?_
        refine ⟨_, rfl, q, _, 1, _, rfl, rfl, hq, by rfl, _, rfl, q, _, 0, _, rfl, rfl, hq, at0 rfl, s', _, rfl, .inl hs, _, _, rfl, rfl, _, rfl, ?_⟩
        refine iteB (decide_eq_true (by rw [hzl]; omega)) ?_
        obtain ⟨z, ez⟩ : ∃ z, zs[i]? = some z := ⟨_, List.getElem?_eq_getElem hi⟩
        refine ⟨_, rfl, q, _, 0, _, rfl, rfl, hq, at0 rfl, _, rfl, q, _, 1, _, rfl, rfl, hq, by rfl, s', _, _, _, rfl, rfl, hs, at_of rfl (by rw [List.getElem?_map, ez]; rfl), .inl ⟨_, rfl, _, rfl, ?_⟩⟩
        have hcl : (0 : Int) ≤ if z < 0 then -z else z := by
          split <;> omega
        generalize (if z < 0 then -z else z) = cl at hcl
        refine ⟨_, rfl, q, _, 1, _, rfl, rfl, hq, by rfl, _, _, rfl, rfl, _, rfl, q, _, 1, 1, rfl, rfl, hP.at_, by rfl, ?_⟩
        have hP1 : PotAt (upd H q (.lst [.ref s', .int ((i + 1 : Nat) : Int), .int 0, .int sd])) q s' zs (i + 1) 0 sd := ⟨upd_same, by rw [upd_ne nsq]; exact hP.li, by decide, hP.s0, hP.s1⟩
        have b1 : But q H (upd H q (.lst [.ref s', .int ((i + 1 : Nat) : Int), .int 0, .int sd])) := .upd
        have e1 : (upd H q (.lst ([.ref s', .int (i : Int), .int 0, .int sd].set 1 (.int ((i : Int) + 1))))) = upd H q (.lst [.ref s', .int ((i + 1 : Nat) : Int), .int 0, .int sd]) := by rfl
        rw [e1]
        generalize upd H q (.lst [.ref s', .int ((i + 1 : Nat) : Int), .int 0, .int sd]) = H1 at hP1 b1
        refine ⟨_, rfl, _, _, rfl, rfl, ⟨by decide, by decide, by decide⟩, _, _, rfl, rfl, _, rfl, ?_⟩
        by_cases hb : cl < 10 ^ (Int.toNat 18)
        · refine iteB (decide_eq_true hb) ?_
          obtain ⟨r, er, hr'⟩ := mod_nat cl hn0
          refine ⟨_, rfl, .inl ⟨_, rfl, _, rfl, _, _, rfl, rfl, (by omega), ?_⟩⟩
          show Q (V.int (cl % (n : Int))) H1
          rw [er]
          exact k r H1 hr' ⟨_, _, _, _, hP1⟩ b1
        · refine iteBF (decide_eq_false hb) ?_
          have hcl0 : 0 < cl := by
            have : (0 : Int) < 10 ^ (Int.toNat 18) := by decide
            omega
          refine ⟨_, rfl, _, rfl, q, _, 2, 2, rfl, rfl, hP1.at_, by rfl, ?_⟩
          have hP2 : PotAt (upd H1 q (.lst [.ref s', .int ((i + 1 : Nat) : Int), .int cl, .int sd])) q s' zs (i + 1) cl sd := ⟨upd_same, by rw [upd_ne nsq]; exact hP1.li, hcl, hP.s0, hP.s1⟩
          have b2 : But q H (upd H1 q (.lst [.ref s', .int ((i + 1 : Nat) : Int), .int cl, .int sd])) := b1.trans .upd
          have e2 : (upd H1 q (.lst ([.ref s', .int ((i + 1 : Nat) : Int), .int 0, .int sd].set 2 (.int cl)))) = upd H1 q (.lst [.ref s', .int ((i + 1 : Nat) : Int), .int cl, .int sd]) := by rfl
          rw [e2]
          generalize upd H1 q (.lst [.ref s', .int ((i + 1 : Nat) : Int), .int cl, .int sd]) = H2 at hP2 b2
          refine ⟨_, rfl, q, _, 2, _, rfl, rfl, SqL.of hP2.at_, by rfl, _, _, rfl, rfl, _, rfl, ?_⟩
          refine iteB (decide_eq_true hcl0) ?_
          refine ⟨_, rfl, q, _, 2, _, rfl, rfl, SqL.of hP2.at_, by rfl, .inl ⟨_, rfl, _, rfl, _, _, rfl, rfl, (by omega), ?_⟩⟩
          refine ⟨_, rfl, q, _, 2, _, rfl, rfl, SqL.of hP2.at_, by rfl, _, rfl, _, _, rfl, rfl, div_nat hn0 hn _, _, rfl, q, _, 2, 2, rfl, rfl, hP2.at_, by rfl, _, rfl, ?_⟩
          obtain ⟨r, er, hr'⟩ := mod_nat cl hn0
          show Q (V.int (cl % (n : Int))) _
          rw [er]
          exact k r _ hr' ⟨zs, i + 1, cl / (n : Int), sd, upd_same, by rw [upd_ne nsq]; exact hP2.li, Int.ediv_nonneg hcl (by omega), hP.s0, hP.s1⟩ (b2.trans .upd)
      · refine ⟨_, rfl, q, _, 2, _, rfl, rfl, hq, by rfl, rfl, _, rfl, ?_⟩
        refine iteB (by rfl) ?_
        refine ⟨_, rfl, q, _, 1, _, rfl, rfl, hq, by rfl, _, rfl, q, _, 0, _, rfl, rfl, hq, at0 rfl, s', _, rfl, .inl hs, _, _, rfl, rfl, _, rfl, ?_⟩
        refine iteBF (decide_eq_false (by rw [hzl]; omega)) ?_
        refine ⟨_, rfl, q, _, 2, _, rfl, rfl, hq, by rfl, _, _, rfl, rfl, _, rfl, ?_⟩
        refine iteBF (by rfl) ?_
        refine ⟨_, rfl, q, _, 3, _, rfl, rfl, hq, by rfl, _, _, rfl, rfl, .inr ⟨by decide, by decide⟩, _, _, rfl, rfl, .inl ⟨_, rfl, _, _, rfl, rfl, (by show (0 : Int) < 2147483647; decide), _, rfl, q, _, 3, 3, rfl, rfl, hP.at_, by rfl, ?_⟩⟩
        dsimp only
        have h0 : 0 ≤ (sd * 48271 + 12345) % 2147483647 := Int.emod_nonneg _ (by decide)
        have h1 : (sd * 48271 + 12345) % 2147483647 < 2147483647 := Int.emod_lt_of_pos _ (by decide)
        generalize (sd * 48271 + 12345) % 2147483647 = sd2 at h0 h1
        have hP1 : PotAt (upd H q (.lst [.ref s', .int (i : Int), .int 0, .int sd2])) q s' zs i 0 sd2 := ⟨upd_same, by rw [upd_ne nsq]; exact hP.li, by decide, h0, h1⟩
        have b1 : But q H (upd H q (.lst [.ref s', .int (i : Int), .int 0, .int sd2])) := .upd
        have e1 : (upd H q (.lst ([.ref s', .int (i : Int), .int 0, .int sd].set 3 (.int sd2)))) = upd H q (.lst [.ref s', .int (i : Int), .int 0, .int sd2]) := by rfl
        rw [e1]
        generalize upd H q (.lst [.ref s', .int (i : Int), .int 0, .int sd2]) = H1 at hP1 b1
        have hq1 := SqL.of (K := K) hP1.at_
        refine ⟨_, rfl, q, _, 3, _, rfl, rfl, hq1, by rfl, _, _, rfl, rfl, .inr ⟨by decide, by decide⟩, _, rfl, q, _, 3, _, rfl, rfl, hq1, by rfl, _, _, rfl, rfl, ⟨by decide, by decide⟩, _, _, rfl, rfl, .inl ⟨_, rfl, _, _, rfl, rfl, (by show (0 : Int) < 2147483629; decide), ?_⟩⟩
        refine ⟨_, rfl, .inl ⟨_, rfl, _, rfl, _, _, rfl, rfl, (by omega), ?_⟩⟩
        obtain ⟨r, er, hr'⟩ := mod_nat ((sd2 * 69621 + sd2 / 127) % 2147483629) hn0
        show Q (V.int ((sd2 * 69621 + sd2 / 127) % 2147483629 % (n : Int))) H1
        rw [er]
        exact k r H1 hr' ⟨_, _, _, _, hP1⟩ b1
    · -- a part of the cell
      refine ⟨_, rfl, q, _, 2, _, rfl, rfl, hq, by rfl, rfl, _, rfl, ?_⟩
      refine iteBF (decide_eq_false fun z => hz (V.int.inj z)) ?_
      refine iteF ?_
      refine ⟨_, rfl, q, _, 2, _, rfl, rfl, hq, by rfl, _, _, rfl, rfl, _, rfl, ?_⟩
      refine iteB (decide_eq_true (by omega)) ?_
      refine ⟨_, rfl, q, _, 2, _, rfl, rfl, hq, by rfl, .inl ⟨_, rfl, _, rfl, _, _, rfl, rfl, (by omega), ?_⟩⟩
      refine ⟨_, rfl, q, _, 2, _, rfl, rfl, hq, by rfl, _, rfl, _, _, rfl, rfl, div_nat hn0 hn _, _, rfl, q, _, 2, 2, rfl, rfl, hP.at_, by rfl, _, rfl, ?_⟩
      obtain ⟨r, er, hr'⟩ := mod_nat c hn0
      show Q (V.int (c % (n : Int))) _
      rw [er]
      exact k r _ hr' ⟨zs, i, c / (n : Int), sd, upd_same, by rw [upd_ne nsq]; exact hP.li, Int.ediv_nonneg c0 (by omega), hP.s0, hP.s1⟩ .upd
end
end Ev

namespace Ev
open PySem PySem.Spec PyProof.Rows L2
/-- what the except clauses ask of the classes of errors -/
structure ExcT (K : PySem.W.Frag) (mg : Str → Option Value) (A : Ads) : Prop where
  g : mg "WorthError" = some (.ref A.eW)
  xT : PySem.W.exmOne K (.ref A.eT) (.ref A.eW) = some true
  xN : PySem.W.exmOne K (.ref A.eN) (.ref A.eW) = some true
  cT : ExcC K A.eT
  cN : ExcC K A.eN
  kT : PySem.W.kitOne K (.ref A.eT) (.ref A.eT) = some true
  kN : PySem.W.kitOne K (.ref A.eN) (.ref A.eN) = some true
def tsIs (K : PySem.W.Frag) (c : Addr) (i : Nat) : Addr → Value → Option Addr → TS := fun a cls d D σ H => ∃ D0, cls = .ref D0 ∧ d = none ∧ ExcC K D0 ∧ tRet (tCB (rIsE K D0 a) (tCons (tVar i) (tCons (tC (.ref c)) tNil))) D σ H
theorem pss_when {X : Cx} {st : List Stmt} {cls : Value} {d : Option Addr} {t : Addr → TS} (h : ∀ D0, cls = .ref D0 → d = none → ExcC X.K D0 → PSs X st (t D0)) : PSs X st (fun D σ H => ∃ D0, cls = .ref D0 ∧ d = none ∧ ExcC X.K D0 ∧ t D0 D σ H) :=
  ⟨fun pins s σ H D I ⟨D0, h1, h2, h3, q⟩ => (h D0 h1 h2 h3).run pins s σ H D I q⟩
def spForm (P : Program) (w : World) (C : Addr) : Sp := fun vs H Q _ => ∃ (pc L D : Addr) (n : Nat) (nodes : List Sh), vs = [.ref pc, nV n] ∧ CircAt P w C H pc L D nodes ∧ n < nodes.length ∧ nodes.length ≤ 16 ∧ NoStars nodes ∧
  (∀ val : Nat → polyR.A, ValOk polyR nodes fvP val → ∀ (v : V) (H' : Hp) (p : Poly), Same H H' → Dn H' v (polyK p) → PolyOk n p → (∀ x f, val n x f = dpoly x f p) → Q v H') ∧ ∀ H', Same H H' → Q (.bl true) H'
def spRefused (P : Program) (w : World) (C : Addr) : Sp := fun vs H Q _ => ∃ (pc L D : Addr) (n i : Nat) (nodes : List Sh), vs = [.ref pc, nV n] ∧ CircAt P w C H pc L D nodes ∧ nodes[n]? = some (.star i) ∧ nodes.length ≤ 16 ∧ ∀ H', Same H H' → Q (.bl true) H'
def spIsInt : Sp := fun vs H Q _ => ∃ i : Int, vs = [.int i] ∧ Q (.bl true) H
section
variable {P : Program} {w : World} {K : PySem.W.Frag} {mg : Str → Option Value} {base : Heap} {A : Ads}
theorem scForm : FnScope ["_law_circuits", "_law_node", "e"] ["_law_circuits", "_law_node"] (defScope sForm) := ⟨rfl, rfl, rfl, by decide +kernel, rfl, by decide +kernel, by decide +kernel⟩
theorem scRefused : FnScope ["_law_circuits", "_law_node", "e"] ["_law_circuits", "_law_node"] (defScope sRefused) := ⟨rfl, rfl, rfl, by decide +kernel, rfl, by decide +kernel, by decide +kernel⟩
theorem scIsInt : FnScope ["_law_value"] ["_law_value"] (defScope sIsInt) := ⟨rfl, rfl, rfl, by decide +kernel, rfl, by decide +kernel, by decide +kernel⟩
theorem ok_isInt (B : TxtB mg) (T : TxtX K mg) : FnOk P w K mg base CX0 1 T.isInt.f T.isInt.fd ["_law_value"] spIsInt := by
  refine T.isInt.F.ok scIsInt (fun vs H Q E h => ?_) (fun cdv A' outer s H vs Q E hr h => ?_)
  · obtain ⟨i, rfl, _⟩ := h
    rfl
  · obtain ⟨i, rfl, k⟩ := h
    refine ⟨_, pss_one (ps_ret (pe_and (pe_callB call_isi (by rfl) B.isinstance (by decide +kernel) (pa_cons (pv 0) (pa_cons (pe_bltn (v := .ty "int") (u := .type "int") (by rfl) B.int (by decide +kernel) rfl) pa_nil)))
      (pe_one (pe_not (pe_callB call_isi (by rfl) B.isinstance (by decide +kernel) (pa_cons (pv 0) (pa_cons (pe_bltn (v := .ty "bool") (u := .type "bool") (by rfl) B.bool (by decide +kernel) rfl) pa_nil))))))), ?_⟩
    exact ⟨_, rfl, _, _, _, _, true, rfl, .ty _, .base (.int i), kit_ty (by decide +kernel), true, rfl, iteT ⟨_, rfl, _, _, _, _, false, rfl, .ty _, .base (.int i), kit_ty (by decide +kernel), false, rfl, k⟩⟩
theorem ok_form (TC : TxtC K mg A) (B : TxtB mg) (TW : TxtW K mg) (TP : TxtP K mg A) (XT : ExcAt K mg "TooLarge" A.eT) (X : ExcT K mg A) (T : TxtX K mg) : FnOk P w K mg base CX0 7 T.form.f T.form.fd ["_law_circuits", "_law_node"] (spForm P w A.C) := by
  have GN : FnOk P w K mg base (L2.CX P w) 6 TP.normal.f TP.normal.fd ["circuits", "node"] (spNormal P w A.C A.eT) := ok_normal TC B TW TP XT
  refine T.form.F.ok scForm (fun vs H Q E h => ?_) (fun cdv A' outer s H vs Q E hr h => ?_)
  · obtain ⟨pc, L, D, n, nodes, rfl, _⟩ := h
    rfl
  · obtain ⟨pc, L, D, n, nodes, rfl, hC, hn, hlen, nst, k, ke⟩ := h
    refine ⟨_, pss_one (ps_try_as (i := 2) (tb := fun W => tRet (tCallS (spNormal P w A.C A.eT) (WE W) (tCons (tVar 0) (tCons (tVar 1) tNil)))) (ts := tsIs K A.eT 2) (Wout := fun _ _ _ _ => False) rfl rfl scForm.nd rfl rfl ⟨rfl, by decide, Or.inl X.g⟩ takes0
      (fun W pn xe tk _ => pss_one (ps_ret (by exact (pe_callS GN hr rfl TP.normal.g TP.normal.F.kp TP.normal.b (fun σ => passAt tk σ) (by exact (pa_cons (pv 0) (pa_cons (pv 1) pa_nil)))))))
      (fun a oe cls d pn hz hf => pss_when fun D0 h1 h2 h3 => by
        subst h1 h2
        exact pss_one (ps_ret (pe_callB (call_isE h3 hz hf) (by rfl) B.isinstance (by decide +kernel) (pa_cons (pv 2) (pa_cons (pe_glob (v := .ref A.eT) rfl XT.g rfl) pa_nil)))))), ?_⟩
    refine ⟨_, rfl, _, rfl, pc, L, D, n, nodes, rfl, hC, hn, hlen, nst, k, fun H1 s1 => ⟨true, X.xT, fun _ a na => ?_, fun z => Bool.noConfusion z⟩⟩
    exact ⟨A.eT, rfl, rfl, X.cT, _, rfl, .ref A.eT, .ref A.eT, true, rfl, (fun u hu => hu), X.kT, ke H1 s1⟩
theorem ok_refused (TC : TxtC K mg A) (B : TxtB mg) (TW : TxtW K mg) (TS : TxtS K mg A) (TL : TxtL K mg) (XN : ExcAt K mg "NoStar" A.eN) (X : ExcT K mg A) (T : TxtX K mg) : FnOk P w K mg base CX0 7 T.refused.f T.refused.fd ["_law_circuits", "_law_node"] (spRefused P w A.C) := by
  have GS : FnOk P w K mg base (L2.CX P w) 6 TL.slope.f TL.slope.fd ["circuits", "node", "fact", "numbers"] (spSlope P w A.C A.eN) := ok_slope TC B TW TS TL XN
  refine T.refused.F.ok scRefused (fun vs H Q E h => ?_) (fun cdv A' outer s H vs Q E hr h => ?_)
  · obtain ⟨pc, L, D, n, i, nodes, rfl, _⟩ := h
    rfl
  · obtain ⟨pc, L, D, n, i, nodes, rfl, hC, hn, hlen, k⟩ := h
    refine ⟨_, pss_cons (ps_try_as (i := 2) (tb := fun W => tDrop (tCallS (spSlope P w A.C A.eN) (WE W) (tCons (tVar 0) (tCons (tVar 1) (tCons (tC (.int 0)) (tCons (tDisp [(tC (.int 0), tC (.int 1))]) tNil)))))) (ts := tsIs K A.eN 2) (Wout := fun _ _ _ _ => False) rfl rfl scRefused.nd rfl rfl ⟨rfl, by decide, Or.inl X.g⟩ takes0
      (fun W pn xe tk _ => pss_one (ps_expr (by exact (pe_callS GS hr rfl TL.slope.g TL.slope.F.kp TL.slope.b (fun σ => passAt tk σ) (by exact (pa_cons (pv 0) (pa_cons (pv 1) (pa_cons pe_int (pa_cons (pe_disp (pps_cons pe_int pe_int pps_nil) rfl rfl (fun z => nomatch z) (by decide)) pa_nil)))))))))
      (fun a oe cls d pn hz hf => pss_when fun D0 h1 h2 h3 => by
        subst h1 h2
        exact pss_one (ps_ret (pe_callB (call_isE h3 hz hf) (by rfl) B.isinstance (by decide +kernel) (pa_cons (pv 2) (pa_cons (pe_glob (v := .ref A.eN) rfl XN.g rfl) pa_nil))))))
      (pss_one (ps_ret pe_bl)), ?_⟩
    have no : ¬ NoStars nodes := fun z => z n i hn
    refine ⟨_, rfl, _, rfl, fun d nd => ?_⟩
    have hd : (upd H d (.dK [])) d = some (.dK []) := upd_same
    refine ⟨hd, [(Sum.inl 0, .int 1)], rfl, (by show 1 ≤ 15; decide), ?_⟩
    have s1 : Same H (upd (upd H d (.dK [])) d (.dK (mergeK [] [(Sum.inl 0, .int 1)]))) := fun b o e => by
      rw [upd_ne (ne_of_none e nd), upd_ne (ne_of_none e nd)]
      exact e
    refine ⟨pc, L, D, d, n, 0, nodes, _, fun _ => 0, rfl, hC.same s1, (List.getElem?_eq_some_iff.mp hn).1, hlen, upd_same, .inr ⟨i, hn⟩, fun z => absurd z no, fun _ H1 s2 => ⟨true, X.xN, fun _ a na => ?_, fun z => Bool.noConfusion z⟩, fun z => absurd z no⟩
    exact ⟨A.eN, rfl, rfl, X.cN, _, rfl, .ref A.eN, .ref A.eN, true, rfl, (fun u hu => hu), X.kN, k H1 (s1.trans s2)⟩
end
end Ev

/-! What the law's own sum over the monomials is. -/
namespace Ev
section
variable (x : Int → Int) (f : Int)
def pw (q : Int × Int) : Int := x q.1 ^ (q.2 - if q.1 = f then 1 else 0).toNat
def ip : Mono → Int
  | [] => 1
  | q :: l => pw x f q * ip l
variable {x f}
theorem ip_snoc (l : Mono) (q : Int × Int) : ip x f (l ++ [q]) = ip x f l * pw x f q := by
  induction l with
  | nil => show pw x f q * 1 = 1 * pw x f q; rw [Int.mul_one, Int.one_mul]
  | cons r l ih => show pw x f r * ip x f (l ++ [q]) = pw x f r * ip x f l * pw x f q; rw [ih, Int.mul_assoc]
theorem ip_take {l : Mono} {i : Nat} {q : Int × Int} (h : l[i]? = some q) : ip x f (l.take (i + 1)) = ip x f (l.take i) * pw x f q := by
  rw [List.take_add_one, h, Option.toList, ip_snoc]
theorem dpow_fst (a : Du) : ∀ n : Nat, (dpow a n).1 = a.1 ^ n
  | 0 => (Int.pow_zero _).symm
  | n + 1 => by
    show (dpow a n).1 * a.1 = a.1 ^ (n + 1)
    rw [dpow_fst a n, Int.pow_succ]
theorem dpow_snd0 (a : Int) : ∀ n : Nat, (dpow (a, 0) n).2 = 0
  | 0 => rfl
  | n + 1 => by
    show (dpow (a, 0) n).1 * 0 + (dpow (a, 0) n).2 * a = 0
    rw [dpow_snd0 a n, Int.mul_zero, Int.zero_mul, Int.add_zero]
theorem dpow_snd1 (a : Int) : ∀ n : Nat, (dpow (a, 1) (n + 1)).2 = ((n : Int) + 1) * a ^ n
  | 0 => by
    show (1 : Int) * 1 + 0 * a = (0 + 1) * a ^ 0
    rw [Int.pow_zero]
    omega
  | n + 1 => by
    show (dpow (a, 1) (n + 1)).1 * 1 + (dpow (a, 1) (n + 1)).2 * a = _
    rw [dpow_snd1 a n, dpow_fst]
    show a ^ (n + 1) * 1 + _ = _
    rw [Int.pow_succ, Int.natCast_succ]
    generalize a ^ n = y
    grind
theorem gM_fst (k e : Int) : (gM x f k e).1 = x k ^ e.toNat := by
  unfold gM
  rw [dpow_fst]
  rfl
theorem gM_no {k e : Int} (h : k ≠ f) : (gM x f k e).2 = 0 := by
  unfold gM dvar
  rw [if_neg h, dpow_snd0]
theorem gM_own {e : Int} (h : 1 ≤ e) : (gM x f f e).2 = e * x f ^ (e - 1).toNat := by
  unfold gM dvar
  rw [if_pos rfl]
  have e1 : e.toNat = (e - 1).toNat + 1 := by omega
  rw [e1, dpow_snd1]
  congr 1
  omega
theorem ip_no : ∀ {m : Mono}, f ∉ m.map (·.1) → ip x f m = (dmono x f m).1
  | [], _ => rfl
  | q :: m, h => by
    simp only [List.map_cons, List.mem_cons, not_or] at h
    show pw x f q * ip x f m = (gM x f q.1 q.2).1 * (dmono x f m).1
    rw [ip_no h.2, gM_fst]
    unfold pw
    rw [if_neg fun z => h.1 z.symm, Int.sub_zero]
theorem snd_no : ∀ {m : Mono}, f ∉ m.map (·.1) → (dmono x f m).2 = 0
  | [], _ => rfl
  | q :: m, h => by
    simp only [List.map_cons, List.mem_cons, not_or] at h
    show (gM x f q.1 q.2).1 * (dmono x f m).2 + (gM x f q.1 q.2).2 * (dmono x f m).1 = 0
    rw [snd_no h.2, gM_no fun z => h.1 z.symm, Int.mul_zero, Int.zero_mul, Int.add_zero]
theorem mono_due : ∀ {m : Mono}, (m.map (·.1)).Nodup → MExp m → (dmono x f m).2 = (aget m f).getD 0 * ip x f m
  | [], _, _ => rfl
  | q :: m, hn, he => by
    obtain ⟨k, e⟩ := q
    have hn' : k ∉ m.map (·.1) ∧ (m.map (·.1)).Nodup := List.nodup_cons.mp hn
    have he' : MExp m := fun r hr => he r (List.mem_cons_of_mem _ hr)
    have hq := he (k, e) List.mem_cons_self
    show (gM x f k e).1 * (dmono x f m).2 + (gM x f k e).2 * (dmono x f m).1 = _
    by_cases hk : k = f
    · subst hk
      unfold aget
      rw [if_pos rfl, snd_no hn'.1, gM_own hq.2.2, Int.mul_zero, Int.zero_add]
      show _ = e * (pw x k (k, e) * ip x k m)
      rw [ip_no hn'.1]
      unfold pw
      rw [if_pos rfl, Int.mul_assoc]
    · unfold aget
      rw [if_neg hk, gM_no hk, Int.zero_mul, Int.add_zero, mono_due hn'.2 he', gM_fst]
      show _ = _ * (pw x f (k, e) * ip x f m)
      unfold pw
      rw [if_neg hk, Int.sub_zero]
      generalize x k ^ e.toNat = y
      grind
theorem due_step {n : Nat} {p : Poly} {i : Nat} {q : Mono × Int} (h : p[i]? = some q) (ok : MonoOk n q.1) : (dpoly x f (p.take (i + 1))).2 = (dpoly x f (p.take i)).2 + q.2 * ((aget q.1 f).getD 0 * ip x f q.1) := by
  unfold dpoly
  rw [tsum_take (gP x f) h]
  show (tsum (gP x f) (p.take i)).2 + (q.2 * (dmono x f q.1).2 + 0 * (dmono x f q.1).1) = _
  rw [mono_due ok.nd ok.ok, Int.zero_mul, Int.add_zero]
theorem own_case {n : Nat} {m : Mono} (ok : MonoOk n m) : ((aget m f).getD 0 = 0 ∨ 1 ≤ (aget m f).getD 0) ∧ ((aget m f).getD 0).natAbs ≤ 2 ^ n := by
  cases e : aget m f with
  | none => exact ⟨.inl rfl, Nat.zero_le _⟩
  | some d =>
    have hm : ∀ {m : Mono} {d : Int}, aget m f = some d → (f, d) ∈ m := by
      intro m
      induction m with
      | nil => intro d e; cases e
      | cons q m ih =>
        intro d e
        obtain ⟨k, c⟩ := q
        unfold aget at e
        split at e
        · rename_i hk
          cases e
          rw [hk]
          exact List.mem_cons_self
        · exact List.mem_cons_of_mem _ (ih e)
    have h1 := hm e
    have h2 := (ok.ok _ h1).2.2
    have h3 := nrm_mem h1
    have h4 := ok.deg
    refine ⟨.inr h2, ?_⟩
    show d.natAbs ≤ _
    simp only at h3
    omega
theorem pow_abs {a : Int} (ha : a.natAbs ≤ 3) (t : Nat) : (a ^ t).natAbs ≤ 2 ^ (2 * t) := by
  rw [Int.natAbs_pow, Nat.pow_mul]
  exact Nat.pow_le_pow_left (by omega) t
theorem pw_abs {q : Int × Int} (hx : (x q.1).natAbs ≤ 3) (hq : 1 ≤ q.2) : (pw x f q).natAbs ≤ 2 ^ (2 * q.2.natAbs) := by
  unfold pw
  refine Nat.le_trans (pow_abs hx _) (Nat.pow_le_pow_right (by decide) ?_)
  split <;> omega
theorem ip_abs : ∀ {m : Mono}, (∀ q ∈ m, (x q.1).natAbs ≤ 3 ∧ 1 ≤ q.2) → (ip x f m).natAbs ≤ 2 ^ (2 * nrm m)
  | [], _ => by show 1 ≤ 2 ^ 0; decide
  | q :: m, h => by
    have h1 := h q List.mem_cons_self
    have h2 := ip_abs (m := m) fun r hr => h r (List.mem_cons_of_mem _ hr)
    show (pw x f q * ip x f m).natAbs ≤ _
    rw [Int.natAbs_mul, nrm_cons, Nat.mul_add, Nat.pow_add]
    exact Nat.mul_le_mul (pw_abs h1.1 h1.2) h2
end
end Ev

namespace Ev
open PySem PySem.Spec PyProof.Rows L2
def spPower : Sp := fun vs H Q _ => ∃ (a : Int) (e : Nat), vs = [.int a, nV e] ∧ a.natAbs ≤ 3 ∧ e ≤ 32768 ∧ Q (.int (a ^ e)) H
def NumsAt (ns : List (L2.Key × V)) (x : Int → Int) : Prop := ∀ k : Nat, k < 4 → valV ns (Sum.inl (k : Int) : L2.Key) = some (.int (x k)) ∧ (x k).natAbs ≤ 3
def spDue : Sp := fun vs H Q _ => ∃ (v : V) (f : Nat) (d : Addr) (p : Poly) (n : Nat) (ns : List (L2.Key × V)) (x : Int → Int), vs = [v, nV f, .ref d] ∧ Dn H v (polyK p) ∧ PolyOk n p ∧ n ≤ 15 ∧ H d = some (.dK ns) ∧ NumsAt ns x ∧
  ∀ H', Same H H' → Q (.int (dpoly x (f : Int) p).2) H'
theorem nums_int {ns : List (L2.Key × V)} {x : Int → Int} (h : NumsAt ns x) {k : Int} (h0 : 0 ≤ k) (h4 : k < 4) : valV ns (Sum.inl k : L2.Key) = some (.int (x k)) ∧ (x k).natAbs ≤ 3 := by
  obtain ⟨n, rfl⟩ := Int.eq_ofNat_of_zero_le h0
  exact h n (by omega)
section
variable {P : Program} {w : World} {K : PySem.W.Frag} {mg : Str → Option Value} {base : Heap} {A : Ads}
theorem scPower : FnScope ["_law_number", "_law_exponent", "_law_found", "_law_k"] ["_law_number", "_law_exponent"] (defScope sPower) := ⟨rfl, rfl, rfl, by decide +kernel, rfl, by decide +kernel, by decide +kernel⟩
theorem scDue : FnScope ["_law_form_here", "_law_fact", "_law_numbers", "_law_total", "_law_pair", "_law_own", "_law_part", "_law_power_here"] ["_law_form_here", "_law_fact", "_law_numbers"] (defScope sDue) := ⟨rfl, rfl, rfl, by decide +kernel, rfl, by decide +kernel, by decide +kernel⟩
theorem ok_power (B : TxtB mg) (T : TxtX K mg) : FnOk P w K mg base CX0 1 T.power.f T.power.fd ["_law_number", "_law_exponent"] spPower := by
  refine T.power.F.ok scPower (fun vs H Q E h => ?_) (fun cdv A' outer s H vs Q E hr h => ?_)
  · obtain ⟨a, e, rfl, _⟩ := h
    rfl
  · obtain ⟨a, e, rfl, ha, he, k⟩ := h
    refine ⟨_, pss_cons (ps_set (i := 2) scPower.nd rfl (.inl rfl) pe_int)
      (pss_cons (ps_for PassesOwn.never rfl (pi_range1 (by rfl) B.range (pa_cons (pv 1) pa_nil)) (pg_name (i := 3) scPower.nd rfl (.inl rfl))
        (pss_one (ps_set (i := 2) scPower.nd rfl (.inl rfl) (pe_op op_mulW (pv 2) (pv 0)))))
      (pss_one (ps_ret (pv 2)))), ?_⟩
    refine ⟨_, rfl, _, rfl, by omega, by omega, for_range (lo := 0) (n := e) (fun i σ H2 => H2 = H ∧ ∃ vk, σ = [some (.int a), some (nV e), some (.int (a ^ i)), vk]) ⟨rfl, none, by rw [Int.pow_zero]; rfl⟩ ?_ ?_⟩
    · rintro i σ H2 hi ⟨rfl, vk, rfl⟩
      refine ⟨_, rfl, _, rfl, _, _, rfl, rfl, cmul_of (c := 2 * i) (d := 2) (pow_abs ha i) (by omega) (by omega) (by decide), rfl, some (.int (0 + (i : Int))), ?_⟩
      rw [Int.pow_succ]
      rfl
    · rintro σ H2 ⟨rfl, vk, rfl⟩
      exact ⟨_, rfl, k⟩
theorem ok_due (B : TxtB mg) (T : TxtX K mg) : FnOk P w K mg base CX0 2 T.due.f T.due.fd ["_law_form_here", "_law_fact", "_law_numbers"] spDue := by
  have GP : FnOk P w K mg base CX0 1 T.power.f T.power.fd ["_law_number", "_law_exponent"] spPower := ok_power B T
  refine T.due.F.ok scDue (fun vs H Q E h => ?_) (fun cdv A' outer s H vs Q E hr h => ?_)
  · obtain ⟨v, f, d, p, n, ns, x, rfl, _⟩ := h
    rfl
  · obtain ⟨v, f, d, p, n, ns, x, rfl, hD, ok, hn, hd, hx, k⟩ := h
    have hu := hu_of hr
    refine ⟨_, pss_cons (ps_set (i := 3) scDue.nd rfl (.inl rfl) pe_int)
      (pss_cons (ps_for PassesOwn.never rfl (pi_tup (pv 0)) (pg_name (i := 4) scDue.nd rfl (.inl rfl))
        (pss_cons (ps_set (i := 5) scDue.nd rfl (.inl rfl) (pe_dget2 hu (pe_callTy (cr_dictI rfl) (by rfl) B.dict (by decide +kernel) (pa_cons (pe_ix ix_tup (pv 4) pe_int (fun _ _ => rfl)) pa_nil)) (pv 1) pe_int ⟨rfl, rfl, rfl, rfl⟩))
        (pss_one (ps_if (pt_cmpR op_gt (pv 5) pe_int (nomark _))
          (pss_cons (ps_set (i := 6) scDue.nd rfl (.inl rfl) (pe_op op_mulW (pe_ix ix_tup (pv 4) pe_int (fun _ _ => rfl)) (pv 5)))
          (pss_cons (ps_for PassesOwn.never rfl (pi_tup (pe_ix ix_tup (pv 4) pe_int (fun _ _ => rfl))) (pg_name (i := 7) scDue.nd rfl (.inl rfl))
            (pss_one (ps_set (i := 6) scDue.nd rfl (.inl rfl) (pe_op op_mulW (pv 6) (pe_call GP hr rfl T.power.g T.power.F.kp T.power.b .nil pass0 (pa_cons (pe_dget hu (pv 2) (pe_ix ix_tup (pv 7) pe_int (fun _ _ => rfl)) (fun _ _ => rfl))
              (pa_cons (pe_op op_sub (pe_ix ix_tup (pv 7) pe_int (fun _ _ => rfl)) (pe_callTy call_int1 (by rfl) B.int (by decide +kernel) (pa_cons (pe_cmpR op_eq (pe_ix ix_tup (pv 7) pe_int (fun _ _ => rfl)) (pv 1) (nomark _)) pa_nil))) pa_nil)))))))
          (pss_one (ps_set (i := 3) scDue.nd rfl (.inl rfl) (pe_op op_add (pv 3) (pv 6)))))) pss_nil))))
      (pss_one (ps_ret (pv 3)))), ?_⟩
    obtain ⟨pa, xs, rfl, hs, ha⟩ := hD.sq (K := K)
    have hlen := ha.length
    rw [List.length_map] at hlen
    refine ⟨_, rfl, pa, rfl, ⟨_, hs⟩, for_tup (K := K) (a := pa) (xs := xs) (fun i σ H2 => ∃ x4 x5 x6 x7, σ = [some (.ref pa), some (nV f), some (.ref d), some (.int (dpoly x (f : Int) (p.take i)).2), x4, x5, x6, x7] ∧ Same H H2)
      ⟨none, none, none, none, rfl, .refl _⟩ (fun i σ H2 _ ⟨_, _, _, _, _, s2⟩ => sqT_same hs s2) ?_ ?_⟩
    · rintro i y σ H2 hi ⟨x4, x5, x6, x7, rfl, s2⟩
      obtain ⟨kk, ek, hy⟩ := ha.get' hi
      rw [List.getElem?_map] at ek
      cases eq : p[i]? with
      | none =>
        rw [eq] at ek
        cases ek
      | some q =>
        rw [eq] at ek
        have ek' : termK q = kk := Option.some.inj ek
        subst ek'
        obtain ⟨ta, tb, rfl, ht, hm⟩ := term_at (K := K) hy
        have okm := ok.ok q (List.mem_of_getElem? eq)
        have ds := due_step (x := x) (f := (f : Int)) eq okm
        obtain ⟨own, hownb⟩ := own_case (f := (f : Int)) okm
        have ht2 := sqT_same ht s2
        have hm2 := hm.same s2
        refine ⟨_, rfl, ta, _, 0, _, rfl, rfl, ht2, at0 rfl, tb, q.1, rfl, hm2, fun e ne => ?_⟩
        have em : mergeK [] (q.1.map fun r => ((Sum.inl r.1 : L2.Key), V.int r.2)) = encI q.1 := mergeK_nil okm.nd
        rw [em]
        have s3 : Same H (upd H2 e (.dK (encI q.1))) := s2.trans (same_new ne)
        have he : (upd H2 e (.dK (encI q.1))) e = some (.dK (encI q.1)) := upd_same
        generalize upd H2 e (.dK (encI q.1)) = H3 at s3 he
        have ht3 := sqT_same ht s3
        refine ⟨e, rfl, .inl ⟨_, .inl he⟩, _, rfl, _, DGet.k (k := Sum.inl (f : Int)) he, ?_⟩
        rw [enc_get inl_inj]
        generalize (aget q.1 (f : Int)).getD 0 = ow at own hownb ds
        refine ⟨_, rfl, _, _, rfl, rfl, _, rfl, ?_⟩
        rcases own with rfl | hpos
        · refine iteBF (by rfl) ?_
          refine ⟨some (.ref ta), some (.int 0), x6, x7, ?_, s3⟩
          rw [ds, Int.zero_mul, Int.mul_zero, Int.add_zero]
          rfl
        · refine iteB (decide_eq_true (by omega)) ?_
          have hp2 : 2 ^ n ≤ 32768 := by
            have : 2 ^ n ≤ 2 ^ 15 := Nat.pow_le_pow_right (by decide) hn
            exact this
          have hc : q.2.natAbs ≤ 2 ^ 2 ^ n := Nat.le_trans (nrm_mem (List.mem_of_getElem? eq)) ok.nrm
          have ho : ow.natAbs ≤ 2 ^ 2 ^ n := Nat.le_trans hownb (Nat.le_of_lt Nat.lt_two_pow_self)
          have hxm : ∀ r ∈ q.1, (x r.1).natAbs ≤ 3 ∧ 1 ≤ r.2 := fun r hr => ⟨(nums_int hx (okm.ok r hr).1 (okm.ok r hr).2.1).2, (okm.ok r hr).2.2⟩
          obtain ⟨mb, ys, emb, hms, hma⟩ := hm.sq (K := K)
          cases emb
          have hmlen := hma.length
          rw [List.length_map] at hmlen
          refine ⟨_, rfl, ta, _, 1, _, rfl, rfl, ht3, at1 rfl, _, rfl, _, _, rfl, rfl, cmul_of hc ho (by omega) (by omega), ?_⟩
          refine ⟨_, rfl, ta, _, 0, _, rfl, rfl, ht3, at0 rfl, tb, rfl, ⟨_, sqT_same hms s3⟩, for_tup (K := K) (a := tb) (xs := ys) (fun j σ H4 => H4 = H3 ∧ ∃ x7, σ = [some (.ref pa), some (nV f), some (.ref d), some (.int (dpoly x (f : Int) (p.take i)).2), some (.ref ta), some (.int ow), some (.int (q.2 * ow * ip x (f : Int) (q.1.take j))), x7])
            ⟨rfl, x7, by rw [show q.2 * ow * ip x (f : Int) (q.1.take 0) = q.2 * ow from Int.mul_one _]; rfl⟩ (fun j σ H4 _ ⟨e4, _⟩ => by rw [e4]; exact sqT_same hms s3) ?_ ?_⟩
          · rintro j z σ H4 hj ⟨rfl, x7, rfl⟩
            obtain ⟨kk, ek, hz⟩ := hma.get' hj
            rw [List.getElem?_map] at ek
            cases er : q.1[j]? with
            | none =>
              rw [er] at ek
              cases ek
            | some r =>
              rw [er] at ek
              have ek' : pairK (.num r.1, r.2) = kk := Option.some.inj ek
              subst ek'
              obtain ⟨pb, wv, rfl, hpb, hw⟩ := int_K (K := K) (.num 0) hz
              have ew := hw.num_inv
              subst ew
              have hr := okm.ok r (List.mem_of_getElem? er)
              obtain ⟨ex, hx3⟩ := nums_int hx hr.1 hr.2.1
              have hpb3 := sqT_same hpb s3
              have hmem := hxm r (List.mem_of_getElem? er)
              have hre := nrm_mem (List.mem_of_getElem? er)
              have hdeg := okm.deg
              have hpw := pw_abs (f := (f : Int)) hmem.1 hmem.2
              obtain ⟨t, et⟩ : ∃ t : Nat, r.2 - (if r.1 = (f : Int) then 1 else 0) = (t : Int) := ⟨(r.2 - (if r.1 = (f : Int) then 1 else 0)).toNat, by split <;> omega⟩
              have htl : t ≤ 32768 := by
                split at et <;> omega
              have epw : pw x (f : Int) r = x r.1 ^ t := by
                unfold pw
                rw [et]
                rfl
              have hip : (ip x (f : Int) (q.1.take j)).natAbs ≤ 2 ^ (2 * nrm (q.1.take j)) := ip_abs fun r hr => hxm r (List.mem_of_mem_take hr)
              have htk := nrm_take_le q.1 j
              have hpart : (q.2 * ow * ip x (f : Int) (q.1.take j)).natAbs ≤ 2 ^ (2 ^ n + 2 ^ n + 2 * nrm (q.1.take j)) := by
                rw [Int.natAbs_mul, Int.natAbs_mul]
                exact mul_le_pow (mul_le_pow hc ho) hip
              refine ⟨_, rfl, _, rfl, _, rfl, pb, _, 0, _, rfl, rfl, hpb3, at0 rfl, d, .int (x r.1), rfl, (by rw [← ex]; exact DGet.k (k := Sum.inl r.1) (s3 _ _ hd)), ?_⟩
              refine ⟨_, rfl, pb, _, 1, _, rfl, rfl, hpb3, at1 rfl, _, rfl, pb, _, 0, _, rfl, rfl, hpb3, at0 rfl, _, rfl, rfl, .inr ⟨_, rfl, _, _, rfl, rfl, ?_⟩⟩
              have ei : r.2 - (if decide (V.int r.1 = V.int (f : Int)) = true then 1 else 0) = (t : Int) := by
                rw [← et, decV]
                congr 1
                by_cases hk : r.1 = (f : Int)
                · rw [if_pos hk, if_pos (decide_eq_true hk)]
                · rw [if_neg hk, if_neg (by simp [hk])]
              refine ⟨x r.1, t, by show [V.int (x r.1), V.int (r.2 - (if decide (V.int r.1 = V.int (f : Int)) = true then 1 else 0))] = _; rw [ei], hx3, htl, _, _, rfl, rfl, cmul_of hpart (by rw [← epw]; exact hpw) (by omega) (by omega), rfl, some (.ref pb), ?_⟩
              rw [ip_take er, epw, ← Int.mul_assoc]
              rfl
          · rintro σ H4 ⟨rfl, x7, rfl⟩
            rw [hmlen, List.take_length]
            refine ⟨_, rfl, _, rfl, _, _, rfl, rfl, some (.ref ta), some (.int ow), some (.int (q.2 * ow * ip x (f : Int) q.1)), x7, ?_, s3⟩
            rw [ds, Int.mul_assoc]
            rfl
    · rintro σ H2 ⟨x4, x5, x6, x7, rfl, s2⟩
      rw [hlen, List.take_length]
      exact ⟨_, rfl, k H2 s2⟩
end
end Ev

namespace Ev
open PySem PySem.Spec PyProof.Rows L2
/-! ### the nodes that are drawn -/
def Kept3 (q L D : Addr) (H H' : Hp) : Prop := ∀ b o, H b = some o → b ≠ q → b ≠ L → b ≠ D → H' b = some o
theorem Kept3.refl (q L D : Addr) (H : Hp) : Kept3 q L D H H := fun _ _ h _ _ _ => h
theorem Kept3.trans {q L D : Addr} {H H1 H2 : Hp} (a : Kept3 q L D H H1) (b : Kept3 q L D H1 H2) : Kept3 q L D H H2 := fun c o h h1 h2 h3 => b c o (a c o h h1 h2 h3) h1 h2 h3
theorem Kept3.but {q L D : Addr} {H H' : Hp} (a : But q H H') : Kept3 q L D H H' := fun c o h h1 _ _ => a c o h h1
theorem Kept3.two {q L D : Addr} {H H' : Hp} (a : Kept2 L D H H') : Kept3 q L D H H' := fun c o h _ h2 h3 => a c o h h2 h3
theorem Kept3.same {q L D : Addr} {H H' : Hp} (a : Same H H') : Kept3 q L D H H' := fun c o h _ _ _ => a c o h
/-- the pot and the store -/
structure Sit (P : Program) (w : World) (C : Addr) (H : Hp) (q s pc L D : Addr) (nodes : List Sh) : Prop where
  pot : Pot H q s
  circ : CircAt P w C H pc L D nodes
  qL : q ≠ L
section
variable {P : Program} {w : World} {C : Addr} {H H' : Hp} {q s pc L D : Addr} {nodes nodes' : List Sh}
theorem Sit.qp (S : Sit P w C H q s pc L D nodes) : q ≠ pc := by
  obtain ⟨ys, h1⟩ := S.pot.lst
  obtain ⟨dx, h2⟩ := S.circ.ob
  exact ne_of h1 h2 (fun z => nomatch z)
theorem Sit.qD (S : Sit P w C H q s pc L D nodes) : q ≠ D := by
  obtain ⟨ys, h1⟩ := S.pot.lst
  obtain ⟨kvs, h2, _⟩ := S.circ.di
  obtain ⟨φ, h3⟩ := h2.ext
  exact ne_of h1 h3 (fun z => nomatch z)
theorem Sit.same (S : Sit P w C H q s pc L D nodes) (t : Same H H') : Sit P w C H' q s pc L D nodes := ⟨S.pot.same t, S.circ.same t, S.qL⟩
theorem Sit.next (S : Sit P w C H q s pc L D nodes) (p : Pot H' q s) (b : But q H H') : Sit P w C H' q s pc L D nodes := by
  obtain ⟨ys, h1⟩ := S.pot.lst
  exact ⟨p, S.circ.but (nf_lst h1) (fun e => S.qp e.symm) (fun e => S.qL e.symm) (fun e => S.qD e.symm) b, S.qL⟩
/-- a list that is none of these is written -/
theorem Sit.put {l : Addr} {xs ys : List V} (S : Sit P w C H q s pc L D nodes) (hl : H l = some (.lst xs)) (lq : l ≠ q) (lL : l ≠ L) (ls : l ≠ s) : Sit P w C (upd H l (.lst ys)) q s pc L D nodes := by
  have lD : D ≠ l := by
    obtain ⟨kvs, h2, _⟩ := S.circ.di
    obtain ⟨φ, h3⟩ := h2.ext
    exact ne_of h3 hl (fun z => nomatch z)
  have lp : pc ≠ l := by
    obtain ⟨dx, h2⟩ := S.circ.ob
    exact ne_of h2 hl (fun z => nomatch z)
  refine ⟨?_, S.circ.but (nf_lst hl) lp (fun e => lL e.symm) lD fun b o e hb => by rw [upd_ne hb]; exact e, S.qL⟩
  obtain ⟨zs, i, c, sd, h⟩ := S.pot
  exact ⟨zs, i, c, sd, by rw [upd_ne fun e => lq e.symm]; exact h.at_, by rw [upd_ne fun e => ls e.symm]; exact h.li, h.c0, h.s0, h.s1⟩
theorem Sit.sL (S : Sit P w C H q s pc L D nodes) {zs : List Int} {i : Nat} {c sd : Int} (h : PotAt H q s zs i c sd) : s ≠ L ∧ s ≠ D := by
  constructor
  · intro e
    obtain ⟨vs, h1, h2⟩ := S.circ.li
    rw [← e, h.li] at h1
    have h3 := HO.lst.inj (Option.some.inj h1)
    subst h3
    obtain ⟨v, e1, e2⟩ := h2.get (i := 0) (k := Sh.zero.key) (by rw [List.getElem?_map, S.circ.wf.z]; rfl)
    obtain ⟨a, _, _, ea, _⟩ := e2.tup_inv
    rw [List.getElem?_map] at e1
    cases ez : zs[0]? with
    | none =>
      rw [ez] at e1
      cases e1
    | some z =>
      rw [ez] at e1
      have e3 : V.int z = v := Option.some.inj e1
      rw [← e3] at ea
      cases ea
  · obtain ⟨kvs, h2, _⟩ := S.circ.di
    obtain ⟨φ, h3⟩ := h2.ext
    exact ne_of h.li h3 (fun z => nomatch z)
theorem Sit.two (S : Sit P w C H q s pc L D nodes) (c : CircAt P w C H' pc L D nodes') (k : Kept2 L D H H') : Sit P w C H' q s pc L D nodes' := by
  refine ⟨?_, c, S.qL⟩
  obtain ⟨zs, i, c, sd, h⟩ := id S.pot
  obtain ⟨h1, h2⟩ := S.sL h
  exact ⟨zs, i, c, sd, k _ _ h.at_ S.qL S.qD, k _ _ h.li h1 h2, h.c0, h.s0, h.s1⟩
end
theorem Grow.len {nodes nodes' : List Sh} (g : Grow nodes nodes') : nodes.length ≤ nodes'.length ∧ nodes'.length ≤ nodes.length + 1 := by
  rcases g with rfl | ⟨s, _, rfl⟩
  · omega
  · rw [List.length_append, List.length_singleton]
    omega
theorem Grow.noStars {nodes nodes' : List Sh} (g : Grow nodes nodes') (h : NoStars nodes) : NoStars nodes' := by
  rcases g with rfl | ⟨s, hs, rfl⟩
  · exact h
  · intro m i e
    rcases get_of_more e with z | ⟨_, z⟩
    · exact h m i z
    · exact hs i z.symm
def spGrown (P : Program) (w : World) (C : Addr) : Sp := fun vs H Q _ => ∃ q s pc L D : Addr, vs = [.ref q, .ref pc, nV 4, .bl false] ∧ Sit P w C H q s pc L D [.zero, .one] ∧
  ∀ (l : Addr) (H' : Hp) (ms : List Nat) (nodes : List Sh), Sit P w C H' q s pc L D nodes → NoStars nodes → nodes.length ≤ 13 → H' l = some (.lst (ms.map nV)) → 2 ≤ ms.length → ms.length ≤ 100 → (∀ m ∈ ms, m < nodes.length) → l ≠ q → l ≠ s → l ≠ L → l ≠ D → H l = none → Kept3 q L D H H' → Q (.ref l) H'
def rLn (K : PySem.W.Frag) : List V → Hp → VK → Prop := fun xs H Q => ∃ p ys, xs = [V.ref p] ∧ (SqL K H p ys ∨ SqT K H p ys) ∧ Q (V.int ((ys.length : Nat) : Int)) H
def rMin2 : List V → Hp → VK → Prop := fun xs H Q => ∃ i j, xs = [V.int i, V.int j] ∧ Q (V.int (if j < i then j else i)) H
theorem min_nat (a b : Nat) : V.int (if ((b : Nat) : Int) < ((a : Nat) : Int) then ((b : Nat) : Int) else ((a : Nat) : Int)) = nV (min a b) := by
  show V.int _ = V.int _
  congr 1
  split <;> omega
section
variable {P : Program} {w : World} {K : PySem.W.Frag} {mg : Str → Option Value} {base : Heap} {A : Ads}
theorem scGrown : FnScope ["_law_pot_here", "_law_circuits", "_law_facts", "_law_stars", "_law_nodes", "_law_k", "_law_kind", "_law_drawn", "_law_j"] ["_law_pot_here", "_law_circuits", "_law_facts", "_law_stars"] (defScope sGrown) := ⟨rfl, rfl, rfl, by decide +kernel, rfl, by decide +kernel, by decide +kernel⟩
theorem ok_grown (TC : TxtC K mg A) (B : TxtB mg) (T : TxtX K mg) : FnOk P w K mg base CX0 4 T.grown.f T.grown.fd ["_law_pot_here", "_law_circuits", "_law_facts", "_law_stars"] (spGrown P w A.C) := by
  have GN : FnOk P w K mg base CX0 1 T.next.f T.next.fd ["_law_pot_here", "_law_limit"] spNext := ok_next B T
  have GF : FnOk P w K mg base CX0 3 TC.fact.f TC.fact.fd ["self", "k"] (spFact P w A.C) := ok_fact TC B
  have GP : FnOk P w K mg base CX0 3 TC.plus.f TC.plus.fd ["self", "nodes"] (spOp P w K A.C) := ok_plus TC B
  have GT : FnOk P w K mg base CX0 3 TC.times.f TC.times.fd ["self", "nodes"] (spOp P w K A.C) := ok_times TC B
  refine T.grown.F.ok scGrown (fun vs H Q E h => ?_) (fun cdv A' outer s H vs Q E hr h => ?_)
  · obtain ⟨q, s', pc, L, D, rfl, _⟩ := h
    rfl
  · obtain ⟨q, s', pc, L, D, rfl, S0, k⟩ := h
    have hr1 : Room 1 _ := hr.mono (by decide)
    refine ⟨_, pss_cons (ps_set (i := 4) scGrown.nd rfl (.inr rfl) (pe_lst (pa_cons pe_int (pa_cons pe_int pa_nil))))
      (pss_cons (ps_for PassesOwn.never rfl (pi_range1 (by rfl) B.range (pa_cons (pe_op op_add pe_int (pe_call GN hr1 rfl T.next.g T.next.F.kp T.next.b .nil pass0 (pa_cons (pv 0) (pa_cons pe_int pa_nil)))) pa_nil)) (pg_name (i := 5) scGrown.nd rfl (.inl rfl))
        (pss_cons (ps_set (i := 6) scGrown.nd rfl (.inl rfl) (pe_call GN hr1 rfl T.next.g T.next.F.kp T.next.b .nil pass0 (pa_cons (pv 0) (pa_cons pe_int pa_nil))))
        (pss_cons (ps_setLc (i := 7) (own := [("_law_j", 8)]) (g := gName 8) (tt := tYes) (te := tOp (rIxL K) (tVar 4) (tOp (rI0 fun i j => V.int (i - j)) (tOp (rI0 fun i j => V.int (i - j)) (tCB (rLn K) (tCons (tVar 4) tNil)) (tC (.int 1))) (tCall spNext [] E0 (tCons (tVar 0) (tCons (tCB rMin2 (tCons (tC (.int 6)) (tCons (tCB (rLn K) (tCons (tVar 4) tNil)) tNil))) tNil)))))
          rfl scGrown.nd rfl rfl (sw_true rfl rfl rfl (by decide +kernel))
          (pi_range1 (by rfl) B.range (pa_cons (pe_call GN hr1 rfl T.next.g T.next.F.kp T.next.b .nil pass0 (pa_cons (pv 0) (pa_cons pe_int pa_nil))) pa_nil)) (blkOk_by (N := ["_law_pot_here", "_law_circuits", "_law_facts", "_law_stars", "_law_nodes", "_law_k", "_law_kind", "_law_drawn", "_law_j"]) (sc := defScope sGrown) (by decide +kernel))
          (fun _ _ _ _ _ => pg_name (i := 8) scGrown.nd rfl (.inl rfl)) (fun _ _ _ _ _ => pts_nil)
          (fun _ _ _ _ _ => by exact (pe_ix ix_list (pv 4) (pe_op op_sub (pe_op op_sub (pe_callB call_len_seq (by rfl) B.len PySem.boot_len (pa_cons (pv 4) pa_nil)) pe_int)
            (pe_call GN hr1 rfl T.next.g T.next.F.kp T.next.b .nil pass0 (pa_cons (pv 0) (pa_cons (pe_callB (call_min2 rfl) (by rfl) B.min (by decide +kernel) (pa_cons pe_int (pa_cons (pe_callB call_len_seq (by rfl) B.len PySem.boot_len (pa_cons (pv 4) pa_nil)) pa_nil))) pa_nil)))) (fun _ _ => rfl))))
        (pss_one (ps_if (pt_cmpR op_lt (pv 6) pe_int (nomark _))
          (pss_one (ps_expr (pe_bm PySem.F.plainAttrs_list PySem.F.slot_list_append PySem.F.type_list_append mt_append (pv 4) (pa_cons (pe_meth (pv 1) TC.cl TC.fact.m GF hr TC.fact.b .nil pass0 (pa_cons (pe_call GN hr1 rfl T.next.g T.next.F.kp T.next.b .nil pass0 (pa_cons (pv 0) (pa_cons (pv 2) pa_nil))) pa_nil)) pa_nil))))
          (pss_one (ps_if (PW.pt (pw_and (pt_cmpR op_eq (pv 6) pe_int (nomark _)) (pw_and1 (pt_val (pv 3))))) (pss_one ps_never)
          (pss_one (ps_if (PW.pt (pw_or (pt_cmpR op_eq (pv 6) pe_int (nomark _)) (pw_or1 (pt_cmpR op_eq (pv 6) pe_int (nomark _)))))
            (pss_one (ps_expr (pe_bm PySem.F.plainAttrs_list PySem.F.slot_list_append PySem.F.type_list_append mt_append (pv 4) (pa_cons (pe_meth (pv 1) TC.cl TC.plus.m GP hr TC.plus.b .nil pass0 (pa_cons (pv 7) pa_nil)) pa_nil))))
            (pss_one (ps_expr (pe_bm PySem.F.plainAttrs_list PySem.F.slot_list_append PySem.F.type_list_append mt_append (pv 4) (pa_cons (pe_meth (pv 1) TC.cl TC.times.m GT hr TC.times.b .nil pass0 (pa_cons (pv 7) pa_nil)) pa_nil)))))))))))))
      (pss_one (ps_ret (pv 4)))), ?_⟩
    -- _law_nodes = [0, 1]
    refine ⟨ln2, fun l nl => ?_⟩
    have s1 := same_new (o := .lst [.int 0, .int 1]) nl
    have hl1 : (upd H l (.lst [.int 0, .int 1])) l = some (.lst (([0, 1] : List Nat).map nV)) := upd_same
    have S1 := S0.same s1
    obtain ⟨ysq, hq0⟩ := S0.pot.lst
    have lq : l ≠ q := (ne_of_none hq0 nl).symm
    have ls : l ≠ s' := by
      obtain ⟨zs, i, c, sd, h⟩ := S0.pot
      exact (ne_of_none h.li nl).symm
    have lL : l ≠ L := by
      obtain ⟨vs, h1, _⟩ := S0.circ.li
      exact (ne_of_none h1 nl).symm
    have lD : l ≠ D := by
      obtain ⟨kvs, h2, _⟩ := S0.circ.di
      obtain ⟨φ, h3⟩ := h2.ext
      exact (ne_of_none h3 nl).symm
    generalize upd H l (.lst [.int 0, .int 1]) = H1 at s1 hl1 S1
    have kp1 : Kept3 q L D H H1 := .same s1
    -- for _law_k in range(4 + _law_next(_law_pot_here, 8))
    refine ⟨_, rfl, q, s', 8, rfl, S1.pot, by decide, by decide, fun r H2 hr2 p2 b2 => ?_⟩
    have S2 := S1.next p2 b2
    refine ⟨_, _, rfl, rfl, _, rfl, by omega, by omega, for_range (lo := 0) (n := (4 + (r : Int)).toNat) (fun i σ H3 => ∃ (nodes : List Sh) (ms : List Nat) (x5 x6 x7 : Option V), σ = [some (.ref q), some (.ref pc), some (nV 4), some (.bl false), some (.ref l), x5, x6, x7, none] ∧
        Sit P w A.C H3 q s' pc L D nodes ∧ NoStars nodes ∧ nodes.length ≤ 2 + i ∧ H3 l = some (.lst (ms.map nV)) ∧ ms.length = 2 + i ∧ (∀ m ∈ ms, m < nodes.length) ∧ Kept3 q L D H H3)
      ⟨[.zero, .one], [0, 1], none, none, none, rfl, S2, ?_, Nat.le_refl _, b2 _ _ hl1 lq, rfl, ?_, kp1.trans (.but b2)⟩ ?_ ?_⟩
    · intro m i e
      match m, e with
      | 0, e => cases e
      | 1, e => cases e
      | m + 2, e => simp at e
    · intro m hm
      simp only [List.mem_cons, List.not_mem_nil, or_false] at hm
      show m < 2
      omega
    · rintro i σ H3 hi ⟨nodes, ms, x5, x6, x7, rfl, S3, nst, hnl, hl3, hml, hmb, kp3⟩
      have hi11 : i < 11 := by omega
      -- _law_kind
      refine ⟨_, rfl, q, s', 6, rfl, S3.pot, by decide, by decide, fun r1 H4 hr4 p4 b4 => ?_⟩
      have S4 := S3.next p4 b4
      have hl4 := b4 _ _ hl3 lq
      -- _law_drawn
      refine ⟨_, rfl, q, s', 3, rfl, S4.pot, by decide, by decide, fun r2 H5 hr5 p5 b5 => ⟨_, rfl, by omega, by omega, fun F nF => ?_⟩⟩
      have S5 := S4.next p5 b5
      have hl5 := b5 _ _ hl4 lq
      have Fq : F ≠ q := by
        obtain ⟨ys, hy⟩ := S5.pot.lst
        exact (ne_of_none hy nF).symm
      have Fl : F ≠ l := (ne_of_none hl5 nF).symm
      have s6 := same_new (o := .lst []) nF
      refine lc_range (lo := 0) (n := r2) (fun j H6 => ∃ ds : List Nat, H6 F = some (.lst (ds.map nV)) ∧ ds.length = j ∧ (∀ d ∈ ds, d < nodes.length) ∧ Pot H6 q s' ∧ But q H5 H6)
        ⟨[], upd_same, rfl, fun d hd => (nomatch hd), S5.pot.same s6, fun b o e _ => s6 _ _ e⟩ ?_ ?_
      · rintro j H6 hj ⟨ds, hF6, hdl, hdb, p6, b6⟩
        have hl6 := b6 _ _ hl5 lq
        have emin : (ms.map nV).length = ms.length := List.length_map _
        refine ⟨rfl, _, rfl, _, rfl, l, _, rfl, .inl (SqL.of hl6), _, _, rfl, rfl, _, rfl, _, rfl, l, _, rfl, .inl (SqL.of hl6), _, _, rfl, ?_⟩
        refine ⟨q, s', min 6 ms.length, ?_, p6, by omega, by omega, fun r3 H7 hr7 p7 b7 => ?_⟩
        · have e := min_nat 6 ms.length
          rw [← e, emin]
          rfl
        · have hl7 := b7 _ _ hl6 lq
          have hF7 := b7 _ _ hF6 Fq
          obtain ⟨m, em⟩ : ∃ m, ms[ms.length - 1 - r3]? = some m := ⟨_, List.getElem?_eq_getElem (by omega)⟩
          refine ⟨_, _, rfl, rfl, l, _, _, nV m, rfl, rfl, SqL.of hl7, at_of (j := ms.length - 1 - r3) (by rw [emin]; omega) (by rw [List.getElem?_map, em]; rfl), _, hF7, ?_, ds ++ [m], ?_, by rw [List.length_append, hdl]; rfl, fun d hd => ?_, ?_, ?_⟩
          · rw [List.length_map, hdl, sizeLine_eq]
            omega
          · rw [upd_same, List.map_append]
            rfl
          · rcases List.mem_append.mp hd with z | z
            · exact hdb d z
            · rw [List.mem_singleton] at z
              rw [z]
              exact hmb m (List.mem_of_getElem? em)
          · obtain ⟨zs, i', c, sd, h⟩ := p7
            have Fs : s' ≠ F := by
              obtain ⟨zs, i', c, sd, h⟩ := S5.pot
              exact ne_of_none h.li nF
            exact ⟨zs, i', c, sd, by rw [upd_ne fun e => Fq e.symm]; exact h.at_, by rw [upd_ne Fs]; exact h.li, h.c0, h.s0, h.s1⟩
          · intro b o e hb
            rw [upd_ne (ne_of_none e nF)]
            exact (b6.trans b7) _ _ e hb
      · rintro H6 ⟨ds, hF6, hdl, hdb, p6, b6⟩
        have S6 := S5.next p6 b6
        have hl6 := b6 _ _ hl5 lq
        have kp6 : Kept3 q L D H H6 := ((kp3.trans (.but b4)).trans (.but b5)).trans (.but b6)
        -- behind an append
        have fin : ∀ (H7 H8 : Hp) (n : Nat) (nodes' : List Sh), Sit P w A.C H7 q s' pc L D nodes → Kept3 q L D H H7 → H7 l = some (.lst (ms.map nV)) → n < nodes'.length → Grow nodes nodes' → CircAt P w A.C H8 pc L D nodes' → Kept2 L D H7 H8 →
            H8 l = some (.lst (ms.map nV)) ∧ (ms.map nV).length < sizeLine ∧ ∃ (nodes : List Sh) (ms' : List Nat) (y5 y6 y7 : Option V), ([some (.ref q), some (.ref pc), some (nV 4), some (.bl false), some (.ref l), some (.int (0 + (i : Int))), some (nV r1), some (.ref F), none] : L2.St) = [some (.ref q), some (.ref pc), some (nV 4), some (.bl false), some (.ref l), y5, y6, y7, none] ∧
              Sit P w A.C (upd H8 l (.lst (ms.map nV ++ [nV n]))) q s' pc L D nodes ∧ NoStars nodes ∧ nodes.length ≤ 2 + (i + 1) ∧ (upd H8 l (.lst (ms.map nV ++ [nV n]))) l = some (.lst (ms'.map nV)) ∧ ms'.length = 2 + (i + 1) ∧ (∀ m ∈ ms', m < nodes.length) ∧ Kept3 q L D H (upd H8 l (.lst (ms.map nV ++ [nV n]))) := by
          intro H7 H8 n nodes' S7 kp7 hl7 hn g c8 k8
          have hl8 := k8 _ _ hl7 lL lD
          have S8 := S7.two c8 k8
          have gl := g.len
          refine ⟨hl8, by rw [List.length_map, hml, sizeLine_eq]; omega, nodes', ms ++ [n], _, _, _, rfl, S8.put hl8 lq lL ls, g.noStars nst, by omega, ?_, by rw [List.length_append, hml]; rfl, fun m hm => ?_, fun b o e h1 h2 h3 => ?_⟩
          · rw [upd_same, List.map_append]
            rfl
          · rcases List.mem_append.mp hm with z | z
            · have := hmb m z
              omega
            · rw [List.mem_singleton] at z
              rw [z]
              exact hn
          · rw [upd_ne (ne_of_none e nl)]
            exact (kp7.trans (.two k8)) _ _ e h1 h2 h3
        obtain ⟨dx, hpc⟩ := S6.circ.ob
        have hl1000 : nodes.length ≤ 1000 := by omega
        -- by the kind
        refine ⟨_, rfl, _, _, rfl, rfl, _, rfl, ?_⟩
        by_cases h2 : r1 < 2
        · refine iteB (decide_eq_true (by omega)) ?_
          refine ⟨_, rfl, .inl ⟨rfl, _, SqL.of hl6⟩, _, rfl, pc, dx, _, rfl, hpc, cf_no _ _ (by decide +kernel) (by decide +kernel), _, rfl, _, rfl, q, s', 4, rfl, S6.pot, by decide, by decide, fun r7 H7 hr7 p7 b7 => ?_⟩
          have S7 := S6.next p7 b7
          refine ⟨pc, L, D, r7, nodes, rfl, hr7, S7.circ, hl1000, fun n nodes' H8 e1 e2 c8 k8 => ?_⟩
          have g : Grow nodes nodes' := by
            rcases e2 with z | z
            · exact .inl z
            · exact .inr ⟨.fact r7, fun _ z => (nomatch z), z⟩
          obtain ⟨f1, f2, f3⟩ := fin H7 H8 n nodes' S7 (kp6.trans (.but b7)) (b7 _ _ hl6 lq) (List.getElem?_eq_some_iff.mp e1).1 g c8 k8
          exact ⟨l, _, _, rfl, rfl, f1, f2, f3⟩
        · refine iteBF (decide_eq_false (by omega)) ?_
          have e5 : decide (nV r1 = V.int 5) = decide (r1 = 5) := by
            rw [decV]
            exact decide_eq_decide.mpr (by omega)
          have e2 : decide (nV r1 = V.int 2) = decide (r1 = 2) := by
            rw [decV]
            exact decide_eq_decide.mpr (by omega)
          have e4 : decide (nV r1 = V.int 4) = decide (r1 = 4) := by
            rw [decV]
            exact decide_eq_decide.mpr (by omega)
          -- plus or times
          have op : ∀ (Q' : VK), (∀ (n : Nat) (nodes' : List Sh) (H8 : Hp), n < nodes'.length → Grow nodes nodes' → CircAt P w A.C H8 pc L D nodes' → Kept2 L D H6 H8 → Q' (nV n) H8) → spOp P w K A.C ([.ref pc, .ref F] : List V) H6 Q' E0 := fun Q' hQ =>
            ⟨pc, F, L, D, ds, nodes, rfl, SqL.of hF6, by omega, hdb, S6.circ, hl1000, hQ⟩
          refine ⟨_, rfl, rfl, _, rfl, ?_⟩
          rw [e5]
          by_cases h5 : r1 = 5
          · refine iteB (decide_eq_true h5) ?_
            refine ⟨_, rfl, false, rfl, iteF ?_⟩
            refine ⟨_, rfl, rfl, _, rfl, ?_⟩
            rw [e2]
            refine iteBF (decide_eq_false (by omega)) ?_
            refine ⟨_, rfl, rfl, _, rfl, ?_⟩
            rw [e4]
            refine iteBF (decide_eq_false (by omega)) ?_
            refine ⟨_, rfl, .inl ⟨rfl, _, SqL.of hl6⟩, _, rfl, pc, dx, _, rfl, hpc, cf_no _ _ (by decide +kernel) (by decide +kernel), _, rfl, op _ fun n nodes' H8 hn g c8 k8 => ?_⟩
            obtain ⟨f1, f2, f3⟩ := fin H6 H8 n nodes' S6 kp6 hl6 hn g c8 k8
            exact ⟨l, _, _, rfl, rfl, f1, f2, f3⟩
          · refine iteBF (decide_eq_false h5) ?_
            refine iteF ?_
            refine ⟨_, rfl, rfl, _, rfl, ?_⟩
            rw [e2]
            by_cases h2' : r1 = 2
            · refine iteB (decide_eq_true h2') ?_
              refine iteT ?_
              refine ⟨_, rfl, .inl ⟨rfl, _, SqL.of hl6⟩, _, rfl, pc, dx, _, rfl, hpc, cf_no _ _ (by decide +kernel) (by decide +kernel), _, rfl, op _ fun n nodes' H8 hn g c8 k8 => ?_⟩
              obtain ⟨f1, f2, f3⟩ := fin H6 H8 n nodes' S6 kp6 hl6 hn g c8 k8
              exact ⟨l, _, _, rfl, rfl, f1, f2, f3⟩
            · refine iteBF (decide_eq_false h2') ?_
              refine ⟨_, rfl, rfl, _, rfl, ?_⟩
              rw [e4]
              by_cases h4' : r1 = 4
              · refine iteB (decide_eq_true h4') ?_
                refine ⟨_, rfl, .inl ⟨rfl, _, SqL.of hl6⟩, _, rfl, pc, dx, _, rfl, hpc, cf_no _ _ (by decide +kernel) (by decide +kernel), _, rfl, op _ fun n nodes' H8 hn g c8 k8 => ?_⟩
                obtain ⟨f1, f2, f3⟩ := fin H6 H8 n nodes' S6 kp6 hl6 hn g c8 k8
                exact ⟨l, _, _, rfl, rfl, f1, f2, f3⟩
              · refine iteBF (decide_eq_false h4') ?_
                refine ⟨_, rfl, .inl ⟨rfl, _, SqL.of hl6⟩, _, rfl, pc, dx, _, rfl, hpc, cf_no _ _ (by decide +kernel) (by decide +kernel), _, rfl, op _ fun n nodes' H8 hn g c8 k8 => ?_⟩
                obtain ⟨f1, f2, f3⟩ := fin H6 H8 n nodes' S6 kp6 hl6 hn g c8 k8
                exact ⟨l, _, _, rfl, rfl, f1, f2, f3⟩
    · rintro σ H3 ⟨nodes, ms, x5, x6, x7, rfl, S3, nst, hnl, hl3, hml, hmb, kp3⟩
      exact ⟨_, rfl, k l H3 ms nodes S3 nst (by omega) hl3 (by omega) (by omega) hmb lq ls lL lD nl kp3⟩
end
end Ev

namespace Ev
open PySem PySem.Spec PyProof.Rows L2
def spLaw (K : PySem.W.Frag) : Sp := fun vs H Q _ => ∃ (a : Addr) (ns : List Int), vs = [.ref a] ∧ SqL K H a (ns.map V.int) ∧ ns.length ≤ 63 ∧ ∀ H', Q (.bl true) H'
theorem DnAll.snoc {H : Hp} : ∀ {vs : List V} {ks : List NestedKey} {v : V} {k : NestedKey}, DnAll H vs ks → Dn H v k → DnAll H (vs ++ [v]) (ks ++ [k])
  | _, _, _, _, .nil, h => .cons h .nil
  | _, _, _, _, .cons h1 h2, h => .cons h1 (DnAll.snoc h2 h)
theorem du_dat (a : Du) : (duK a).data = .tuple [.int a.1, .int a.2] := by simp only [duK, NestedKey.data, NestedKey.datas]
theorem du_eqv {a b : Du} (h : a = b) : PyData.eqv (duK a).data (duK b).data = true := by
  subst h
  refine PySem.W.eqv_refl_alike _ ?_
  rw [du_dat]
  simp [PySem.W.alike, PySem.W.alikeAll]
theorem du_sh (a : Du) : SeqAt.shaped (duK a).data = true := by
  rw [du_dat]
  rfl
theorem du_rd {H : Hp} {v : V} {a : Du} (h : Dn H v (duK a)) : ∃ p o, v = .ref p ∧ H p = some (.frz o (.tup [.int a.1, .int a.2])) := by
  obtain ⟨p, o, vs, rfl, hp, _, ha⟩ := h.tup_inv
  cases ha with
  | cons h1 h2 =>
    cases h2 with
    | cons h2 h3 =>
      cases h3
      have e1 := h1.num_inv
      have e2 := h2.num_inv
      subst e1 e2
      exact ⟨p, o, rfl, hp⟩
/-- two pairs that differ by no means -/
theorem du_ne {K : PySem.W.Frag} {H : Hp} {x y : V} {a b : Du} {Q : VK} (hx : Dn H x (duK a)) (hy : Dn H y (duK b)) (e : a = b) (h : Q (.bl false) H) : rNeD K x y H Q :=
  ⟨(duK a).data, (duK b).data, Dn.dp _ _ hx, Dn.dp _ _ hy, du_sh a, du_sh b, by rw [du_eqv e]; exact h⟩
theorem pairs_at {K : PySem.W.Frag} {H : Hp} : ∀ {vs : List V} {qs : List (Int × Int)}, DnAll H vs (qs.map fun q => pairK (.num q.1, q.2)) → ∃ ps : List Addr, vs = ps.map V.ref ∧ Paired (fun p (kv : L2.Key × V) => SqT K H p [kV kv.1, kv.2]) ps (encI qs)
  | [], [], _ => ⟨[], rfl, .nil⟩
  | v :: vs, q :: qs, .cons h1 h2 => by
    obtain ⟨ps, e, r⟩ := pairs_at (K := K) h2
    obtain ⟨a, wv, rfl, ha, hw⟩ := int_K (K := K) (.num 0) h1
    have ew := hw.num_inv
    subst ew
    exact ⟨a :: ps, by rw [e]; rfl, .cons ha r⟩
/-- four drawn numbers -/
theorem four {qs : List (Int × Int)} (hl : qs.length = 4) (h : ∀ (t : Nat) z, qs[t]? = some z → z.1 = (t : Int) ∧ z.2.natAbs ≤ 3) : ∃ x : Int → Int, NumsAt (mergeK [] (encI qs)) x := by
  match qs, hl, h with
  | [q0, q1, q2, q3], _, h =>
    obtain ⟨k0, z0⟩ := q0
    obtain ⟨k1, z1⟩ := q1
    obtain ⟨k2, z2⟩ := q2
    obtain ⟨k3, z3⟩ := q3
    obtain ⟨e0, b0⟩ := h 0 _ rfl
    obtain ⟨e1, b1⟩ := h 1 _ rfl
    obtain ⟨e2, b2⟩ := h 2 _ rfl
    obtain ⟨e3, b3⟩ := h 3 _ rfl
    simp only at e0 b0 e1 b1 e2 b2 e3 b3
    subst e0 e1 e2 e3
    refine ⟨fun k => if k = 0 then z0 else if k = 1 then z1 else if k = 2 then z2 else z3, fun k hk => ?_⟩
    have em : mergeK [] (encI [(((0 : Nat) : Int), z0), (((1 : Nat) : Int), z1), (((2 : Nat) : Int), z2), (((3 : Nat) : Int), z3)]) = encI [(((0 : Nat) : Int), z0), (((1 : Nat) : Int), z1), (((2 : Nat) : Int), z2), (((3 : Nat) : Int), z3)] := mergeK_nil (by show ([0, 1, 2, 3] : List Int).Nodup; decide)
    rw [em, enc_val inl_inj]
    match k, hk with
    | 0, _ => exact ⟨rfl, b0⟩
    | 1, _ => exact ⟨rfl, b1⟩
    | 2, _ => exact ⟨rfl, b2⟩
    | 3, _ => exact ⟨rfl, b3⟩
theorem Pot.upd {H : Hp} {q s p : Addr} {o : HO} (h : Pot H q s) (pq : p ≠ q) (ps : p ≠ s) : Pot (L2.upd H p o) q s := by
  obtain ⟨zs, i, c, sd, h⟩ := h
  exact ⟨zs, i, c, sd, by rw [upd_ne fun e => pq e.symm]; exact h.at_, by rw [upd_ne fun e => ps e.symm]; exact h.li, h.c0, h.s0, h.s1⟩
theorem Pot.fresh {H : Hp} {q s p : Addr} (h : Pot H q s) (n : H p = none) : p ≠ q ∧ p ≠ s := by
  obtain ⟨zs, i, c, sd, h⟩ := h
  exact ⟨(ne_of_none h.at_ n).symm, (ne_of_none h.li n).symm⟩
theorem val_unique (R : Ring) {nodes : List Sh} (wf : WF nodes) (nst : NoStars nodes) {fv v1 v2 : Nat → R.A} (h1 : ValOk R nodes fv v1) (h2 : ValOk R nodes fv v2) : ∀ b n : Nat, n < b → n < nodes.length → v1 n = v2 n
  | 0, n, hb, _ => absurd hb (Nat.not_lt_zero _)
  | b + 1, n, hb, hn => by
    have ih := val_unique R wf nst h1 h2 b
    obtain ⟨s, e⟩ : ∃ s, nodes[n]? = some s := ⟨_, List.getElem?_eq_getElem hn⟩
    have low := wf.low n s e
    have e1 := h1 n s e
    have e2 := h2 n s e
    cases s with
    | zero => exact e1.trans e2.symm
    | one => exact e1.trans e2.symm
    | fact k => exact e1.trans e2.symm
    | plus i j =>
      have hl : i < n ∧ j < n := low
      have a := ih i (by omega) (by omega)
      have b := ih j (by omega) (by omega)
      simp only at e1 e2
      rw [e1, e2, a, b]
    | times i j =>
      have hl : i < n ∧ j < n := low
      have a := ih i (by omega) (by omega)
      have b := ih j (by omega) (by omega)
      simp only at e1 e2
      rw [e1, e2, a, b]
    | star i => exact absurd e (nst n i)
theorem poly_slope {nodes : List Sh} {val : Nat → polyR.A} (h : ValOk polyR nodes fvP val) (x : Int → Int) (f : Nat) : ValOk slopesR nodes (fvS x f) (fun m => val m x (f : Int)) := by
  intro m s e
  have := h m s e
  cases s with
  | zero => exact congrFun (congrFun this x) (f : Int)
  | one => exact congrFun (congrFun this x) (f : Int)
  | fact k => exact congrFun (congrFun this x) (f : Int)
  | plus i j => exact congrFun (congrFun this x) (f : Int)
  | times i j => exact congrFun (congrFun this x) (f : Int)
  | star i => rfl
theorem slope_is {nodes : List Sh} (wf : WF nodes) (nst : NoStars nodes) {val : Nat → polyR.A} (h : ValOk polyR nodes fvP val) {x : Int → Int} {f n : Nat} {v2 : Nat → slopesR.A} (h2 : ValOk slopesR nodes (fvS x f) v2) (hn : n < nodes.length) {p : Poly} (hp : ∀ x f, val n x f = dpoly x f p) :
    (v2 n).2 = (dpoly x (f : Int) p).2 := by
  have e := val_unique slopesR wf nst h2 (poly_slope h x f) (n + 1) n (Nat.lt_succ_self n) hn
  rw [e]
  exact congrArg Prod.snd (hp x f)
/-- a ring object and three pairs -/
structure Tri (C : Addr) (y dy : Addr) (va vb vc : V) (a b c : Du) (H : Hp) : Prop where
  y : H y = some (.ins C dy [])
  a : slopesR.rep 0 H va a
  b : slopesR.rep 0 H vb b
  c : slopesR.rep 0 H vc c
theorem Tri.same {C y dy : Addr} {va vb vc : V} {a b c : Du} {H H' : Hp} (t : Tri C y dy va vb vc a b c H) (s : Same H H') : Tri C y dy va vb vc a b c H' :=
  ⟨s _ _ t.y, slopesR.fk t.a (.of_same s), slopesR.fk t.b (.of_same s), slopesR.fk t.c (.of_same s)⟩
abbrev lawN : List Str := ["_law_script", "_law_pot_here", "_law_circuits", "_law_nodes", "_law_fact", "_law_numbers", "_law_k", "_law_node", "_law_form_here", "_law_found", "_law_ring", "_law_a", "_law_b", "_law_c", "_law_x"]
section
variable {P : Program} {w : World} {K : PySem.W.Frag} {mg : Str → Option Value} {base : Heap} {A : Ads}
theorem scLaw : FnScope lawN ["_law_script"] (defScope sLaw) := ⟨rfl, rfl, rfl, by decide +kernel, rfl, by decide +kernel, by decide +kernel⟩
theorem ok_law (TC : TxtC K mg A) (B : TxtB mg) (TW : TxtW K mg) (TS : TxtS K mg A) (TL : TxtL K mg) (TP : TxtP K mg A) (XT : ExcAt K mg "TooLarge" A.eT) (XN : ExcAt K mg "NoStar" A.eN) (X : ExcT K mg A) (T : TxtX K mg) (TLaw : DefAt K "law" "law" sLaw ["_law_script"]) :
    FnOk P w K mg base CX0 8 TLaw.f TLaw.fd ["_law_script"] (spLaw K) := by
  have GPot : FnOk P w K mg base CX0 1 T.pot.f T.pot.fd ["_law_script"] (spPot K) := ok_pot B T
  have GN : FnOk P w K mg base CX0 1 T.next.f T.next.fd ["_law_pot_here", "_law_limit"] spNext := ok_next B T
  have GI : FnOk P w K mg base CX0 1 TC.init.f TC.init.fd ["self"] (spInit P w A.C) := ok_init TC B
  have GG : FnOk P w K mg base CX0 4 T.grown.f T.grown.fd ["_law_pot_here", "_law_circuits", "_law_facts", "_law_stars"] (spGrown P w A.C) := ok_grown TC B T
  have GF : FnOk P w K mg base CX0 7 T.form.f T.form.fd ["_law_circuits", "_law_node"] (spForm P w A.C) := ok_form TC B TW TP XT X T
  have GS : FnOk P w K mg base (L2.CX P w) 6 TL.slope.f TL.slope.fd ["circuits", "node", "fact", "numbers"] (spSlope P w A.C A.eN) := ok_slope TC B TW TS TL XN
  have GII : FnOk P w K mg base CX0 1 T.isInt.f T.isInt.fd ["_law_value"] spIsInt := ok_isInt B T
  have GD : FnOk P w K mg base CX0 2 T.due.f T.due.fd ["_law_form_here", "_law_fact", "_law_numbers"] spDue := ok_due B T
  have GR : FnOk P w K mg base CX0 7 T.refused.f T.refused.fd ["_law_circuits", "_law_node"] (spRefused P w A.C) := ok_refused TC B TW TS TL XN X T
  have GSZ : FnOk P w K mg base (L2.CX P w) 1 TS.zero.f TS.zero.fd ["self"] (spConst slopesR dz) := ok_sZero TS
  have GSO : FnOk P w K mg base (L2.CX P w) 1 TS.one.f TS.one.fd ["self"] (spConst slopesR done) := ok_sOne TS
  have GSP : FnOk P w K mg base (L2.CX P w) 1 TS.plus.f TS.plus.fd ["self", "a", "b"] (spBin slopesR dadd A.eT) := ok_sPlus TS A.eT
  have GST : FnOk P w K mg base (L2.CX P w) 1 TS.times.f TS.times.fd ["self", "a", "b"] (spBin slopesR dmul A.eT) := ok_sTimes TS A.eT
  have GSS : FnOk P w K mg base CX0 1 TS.star.f TS.star.fd ["self", "a"] spSStar := ok_sStar TS
  have GSI : FnOk P w K mg base CX0 2 TS.is_.f TS.is_.fd ["self", "a"] (spSIs K) := ok_sIs TS B
  have GCF : FnOk P w K mg base CX0 3 TC.fact.f TC.fact.fd ["self", "k"] (spFact P w A.C) := ok_fact TC B
  have GCS : FnOk P w K mg base CX0 3 TC.star.f TC.star.fd ["self", "node"] (spStar P w A.C) := ok_star TC B
  refine TLaw.F.ok scLaw (fun vs H Q E h => ?_) (fun cdv A' outer s H vs Q E hr h => ?_)
  · obtain ⟨a, ns, rfl, _⟩ := h
    rfl
  · obtain ⟨a, ns, rfl, hS, hl63, k⟩ := h
    have hu := hr.units
    have hr1 : Room 1 _ := hr.mono (by decide)
    have hr2 : Room 2 _ := hr.mono (by decide)
    have hr3 : Room 3 _ := hr.mono (by decide)
    have hr4 : Room 4 _ := hr.mono (by decide)
    have hr6 : Room 6 _ := hr.mono (by decide)
    refine ⟨_, pss_cons (ps_set (i := 1) scLaw.nd rfl (.inr rfl) (pe_call GPot hr1 rfl T.pot.g T.pot.F.kp T.pot.b .nil pass0 (pa_cons (pv 0) pa_nil)))
      (pss_cons (ps_set (i := 2) scLaw.nd rfl (.inl rfl) (pe_make0 TC.made GI hr2 rfl TC.g TC.init.b .nil pass0))
      (pss_cons (ps_set (i := 3) scLaw.nd rfl (.inl rfl) (pe_call GG hr4 rfl T.grown.g T.grown.F.kp T.grown.b .nil pass0 (pa_cons (pv 1) (pa_cons (pv 2) (pa_cons pe_int (pa_cons pe_bl pa_nil))))))
      (pss_cons (ps_set (i := 5) scLaw.nd rfl (.inl rfl) (pe_callTy (call_dictP rfl) (by rfl) B.dict (by decide +kernel) (pa_cons
        (pe_lc (own := [("_law_fact", 4)]) (g := gName 4) (tt := tYes) (te := tTupF (tCons (tVar 4) (tCons (tOp (rI0 fun i j => V.int (i - j)) (tCall spNext [] E0 (tCons (tVar 1) (tCons (tC (.int 7)) tNil))) (tC (.int 3))) tNil))) (by rfl) scLaw.nd
          (pi_range1 (by rfl) B.range (pa_cons pe_int pa_nil)) (blkOk_by (N := lawN) (sc := defScope sLaw) (by decide +kernel)) (fun _ _ _ _ _ => pg_name (i := 4) scLaw.nd rfl (.inl rfl)) (fun _ _ _ _ _ => pts_nil)
          (fun _ _ _ _ _ => by exact (pe_tupF (pa_cons (pv 4) (pa_cons (pe_op op_sub (pe_call GN hr1 rfl T.next.g T.next.F.kp T.next.b .nil pass0 (pa_cons (pv 1) (pa_cons pe_int pa_nil))) pe_int) pa_nil))))) pa_nil)))
      (pss_cons (ps_for PassesOwn.never rfl (pi_range1 (by rfl) B.range (pa_cons pe_int pa_nil)) (pg_name (i := 6) scLaw.nd rfl (.inl rfl))
        (pss_cons (ps_set (i := 7) scLaw.nd rfl (.inl rfl) (pe_ix ix_list (pv 3) (pe_op op_sub (pe_op op_sub (pe_callB call_len_seq (by rfl) B.len PySem.boot_len (pa_cons (pv 3) pa_nil)) pe_int)
            (pe_call GN hr1 rfl T.next.g T.next.F.kp T.next.b .nil pass0 (pa_cons (pv 1) (pa_cons (pe_callB (call_min2 rfl) (by rfl) B.min (by decide +kernel) (pa_cons pe_int (pa_cons (pe_callB call_len_seq (by rfl) B.len PySem.boot_len (pa_cons (pv 3) pa_nil)) pa_nil))) pa_nil)))) (fun _ _ => rfl)))
        (pss_cons (ps_set (i := 8) scLaw.nd rfl (.inl rfl) (pe_call GF hr rfl T.form.g T.form.F.kp T.form.b .nil pass0 (pa_cons (pv 2) (pa_cons (pv 7) pa_nil))))
        (pss_cons (ps_if (pt_cmpR op_isV (pv 8) pe_bl (nomark _)) (pss_one (ps_ret pe_bl)) pss_nil)
        (pss_one (ps_if (pt_cmpR op_notV (pv 8) pe_bl (nomark _))
          (pss_one (ps_for PassesOwn.never rfl (pi_range1 (by rfl) B.range (pa_cons pe_int pa_nil)) (pg_name (i := 4) scLaw.nd rfl (.inl rfl))
            (pss_cons (ps_set (i := 9) scLaw.nd rfl (.inl rfl) (pe_call GS hr6 rfl TL.slope.g TL.slope.F.kp TL.slope.b .nil passL (pa_cons (pv 2) (pa_cons (pv 7) (pa_cons (pv 4) (pa_cons (pv 5) pa_nil))))))
            (pss_one (ps_if (PW.pt (pw_or (pt_not (pt_val (pe_call GII hr1 rfl T.isInt.g T.isInt.F.kp T.isInt.b .nil pass0 (pa_cons (pv 9) pa_nil))))
                (pw_or1 (pt_cmpR op_ne (pv 9) (pe_call GD hr2 rfl T.due.g T.due.F.kp T.due.b .nil pass0 (pa_cons (pv 8) (pa_cons (pv 4) (pa_cons (pv 5) pa_nil)))) (nomark _)))))
              (pss_one (ps_ret pe_bl)) pss_nil))))) pss_nil))))))
      (pss_cons (ps_set (i := 10) scLaw.nd rfl (.inr rfl) (pe_makeO TS.made rfl TS.g))
      (pss_cons (ps_asg (pe_lc (own := [("_law_k", 6)]) (g := gName 6) (tt := tYes) (te := tTupF (tCons (tOp (rI0 fun i j => V.int (i - j)) (tCall spNext [] E0 (tCons (tVar 1) (tCons (tC (.int 9)) tNil))) (tC (.int 4))) (tCons (tOp (rI0 fun i j => V.int (i - j)) (tCall spNext [] E0 (tCons (tVar 1) (tCons (tC (.int 9)) tNil))) (tC (.int 4))) tNil))) (by rfl) scLaw.nd
          (pi_range1 (by rfl) B.range (pa_cons pe_int pa_nil)) (blkOk_by (N := lawN) (sc := defScope sLaw) (by decide +kernel)) (fun _ _ _ _ _ => pg_name (i := 6) scLaw.nd rfl (.inl rfl)) (fun _ _ _ _ _ => pts_nil)
          (fun _ _ _ _ _ => by exact (pe_tupF (pa_cons (pe_op op_sub (pe_call GN hr1 rfl T.next.g T.next.F.kp T.next.b .nil pass0 (pa_cons (pv 1) (pa_cons pe_int pa_nil))) pe_int) (pa_cons (pe_op op_sub (pe_call GN hr1 rfl T.next.g T.next.F.kp T.next.b .nil pass0 (pa_cons (pv 1) (pa_cons pe_int pa_nil))) pe_int) pa_nil)))))
        (pg_lst rfl (pgs_cons (pg_name (i := 11) scLaw.nd rfl (.inl rfl)) (pgs_cons (pg_name (i := 12) scLaw.nd rfl (.inl rfl)) (pgs_cons (pg_name (i := 13) scLaw.nd rfl (.inl rfl)) pgs_nil)))))
      (pss_cons (ps_if (PW.pt (pw_or (pt_cmpR (op_neD hu) (pe_meth (pv 10) TS.cl TS.times.m GST hr1 TS.times.b .nil passL (pa_cons (pv 11) (pa_cons (pe_meth (pv 10) TS.cl TS.plus.m GSP hr1 TS.plus.b .nil passL (pa_cons (pv 12) (pa_cons (pv 13) pa_nil))) pa_nil)))
            (pe_meth (pv 10) TS.cl TS.plus.m GSP hr1 TS.plus.b .nil passL (pa_cons (pe_meth (pv 10) TS.cl TS.times.m GST hr1 TS.times.b .nil passL (pa_cons (pv 11) (pa_cons (pv 12) pa_nil))) (pa_cons (pe_meth (pv 10) TS.cl TS.times.m GST hr1 TS.times.b .nil passL (pa_cons (pv 11) (pa_cons (pv 13) pa_nil))) pa_nil))) (nomark _))
          (pw_or1 (pt_cmpR (op_neD hu) (pe_meth (pv 10) TS.cl TS.times.m GST hr1 TS.times.b .nil passL (pa_cons (pv 11) (pa_cons (pv 12) pa_nil))) (pe_meth (pv 10) TS.cl TS.times.m GST hr1 TS.times.b .nil passL (pa_cons (pv 12) (pa_cons (pv 11) pa_nil))) (nomark _)))))
        (pss_one (ps_ret pe_bl)) pss_nil)
      (pss_cons (ps_if (PW.pt (pw_or (pt_cmpR (op_neD hu) (pe_meth (pv 10) TS.cl TS.times.m GST hr1 TS.times.b .nil passL (pa_cons (pv 11) (pa_cons (pe_meth (pv 10) TS.cl TS.times.m GST hr1 TS.times.b .nil passL (pa_cons (pv 12) (pa_cons (pv 13) pa_nil))) pa_nil)))
            (pe_meth (pv 10) TS.cl TS.times.m GST hr1 TS.times.b .nil passL (pa_cons (pe_meth (pv 10) TS.cl TS.times.m GST hr1 TS.times.b .nil passL (pa_cons (pv 11) (pa_cons (pv 12) pa_nil))) (pa_cons (pv 13) pa_nil))) (nomark _))
          (pw_or (pt_cmpR (op_neD hu) (pe_meth (pv 10) TS.cl TS.plus.m GSP hr1 TS.plus.b .nil passL (pa_cons (pv 11) (pa_cons (pe_tupF (pa_cons pe_int (pa_cons pe_int pa_nil))) pa_nil))) (pv 11) (nomark _))
          (pw_or1 (pt_cmpR (op_neD hu) (pe_meth (pv 10) TS.cl TS.times.m GST hr1 TS.times.b .nil passL (pa_cons (pv 11) (pa_cons (pe_tupF (pa_cons pe_int (pa_cons pe_int pa_nil))) pa_nil))) (pv 11) (nomark _))))))
        (pss_one (ps_ret pe_bl)) pss_nil)
      (pss_cons (ps_if (PW.pt (pw_or (pt_cmpR (op_neD hu) (pe_meth0 (pv 10) TS.cl TS.zero.m GSZ hr1 TS.zero.b .nil passL) (pe_tupF (pa_cons pe_int (pa_cons pe_int pa_nil))) (nomark _))
          (pw_or (pt_cmpR (op_neD hu) (pe_meth0 (pv 10) TS.cl TS.one.m GSO hr1 TS.one.b .nil passL) (pe_tupF (pa_cons pe_int (pa_cons pe_int pa_nil))) (nomark _))
          (pw_or (pt_cmpR (op_neD hu) (pe_meth (pv 10) TS.cl TS.star.m GSS hr1 TS.star.b .nil pass0 (pa_cons (pe_tupF (pa_cons pe_int (pa_cons pe_int pa_nil))) pa_nil)) (pe_tupF (pa_cons pe_int (pa_cons pe_int pa_nil))) (nomark _))
          (pw_or1 (pt_cmpR op_notV (pe_meth (pv 10) TS.cl TS.is_.m GSI hr2 TS.is_.b .nil pass0 (pa_cons (pv 11) pa_nil)) pe_bl (nomark _)))))))
        (pss_one (ps_ret pe_bl)) pss_nil)
      (pss_one (ps_ret (pe_and (pe_call GR hr rfl T.refused.g T.refused.F.kp T.refused.b .nil pass0 (pa_cons (pv 2) (pa_cons (pe_meth (pv 2) TC.cl TC.star.m GCS hr3 TC.star.b .nil pass0 (pa_cons (pe_meth (pv 2) TC.cl TC.fact.m GCF hr3 TC.fact.b .nil pass0 (pa_cons pe_int pa_nil)) pa_nil)) pa_nil)))
        (pe_one (pe_not (pe_callB (cr_any rfl) (by rfl) B.any (by decide +kernel) (pa_cons
          (pe_lc (own := [("_law_x", 14)]) (g := gName 14) (tt := tYes) (te := tMeth A.S "is_element" (spSIs K) [] E0 (tVar 10) (tCons (tVar 14) tNil)) (by rfl) scLaw.nd
            (pi_list (pe_lst (pa_cons (pe_tupF (pa_cons pe_int pa_nil)) (pa_cons (pe_lst (pa_cons pe_int (pa_cons pe_int pa_nil))) (pa_cons pe_int (pa_cons (pe_tupF (pa_cons pe_int (pa_cons pe_str pa_nil))) (pa_cons (pe_tupF (pa_cons pe_bl (pa_cons pe_int pa_nil))) pa_nil)))))))
            (blkOk_by (N := lawN) (sc := defScope sLaw) (by decide +kernel)) (fun _ _ _ _ _ => pg_name (i := 14) scLaw.nd rfl (.inl rfl)) (fun _ _ _ _ _ => pts_nil)
            (fun _ _ _ _ _ => by exact (pe_meth (pv 10) TS.cl TS.is_.m GSI hr2 TS.is_.b .nil pass0 (pa_cons (pv 14) pa_nil)))) pa_nil)))))))))))))))), ?_⟩
    -- the pot, the store, the nodes
    refine ⟨_, rfl, a, ns, rfl, hS, hl63, fun q s' H1 s1 p1 => ?_⟩
    intro pc dx npc ndx nn
    have sm : Same H1 (upd (upd H1 dx (.own pc)) pc (.ins A.C dx [])) := fun b o e => by
      rw [upd_ne (ne_of_none e npc), upd_ne (ne_of_none e ndx)]
      exact e
    refine ⟨pc, dx, rfl, upd_same, fun L D H2 nL nD hC kp => ⟨rfl, ?_⟩⟩
    have k2 : Same H1 H2 := fun b o e => kp b o (sm _ _ e) (ne_of_none e npc)
    have qL : q ≠ L := by
      obtain ⟨ys, hy⟩ := p1.lst
      exact ne_of_none (sm _ _ hy) nL
    have S2 : Sit P w A.C H2 q s' pc L D [.zero, .one] := ⟨p1.same k2, hC, qL⟩
    refine ⟨_, rfl, _, rfl, q, s', pc, L, D, rfl, S2, fun l H3 ms nodes S3 nst hnl hl3 hm2 hm100 hmb lq ls lL lD nl kp3 => ?_⟩
    clear kp3 nl S2 k2 kp hC nL nD sm
    -- the numbers
    refine ⟨_, rfl, by decide, by decide, fun F nF => ?_⟩
    obtain ⟨Fq, Fs⟩ := S3.pot.fresh nF
    have sF := same_new (o := .lst []) nF
    refine lc_range (lo := 0) (n := 4) (fun j H4 => ∃ (vs : List V) (qs : List (Int × Int)), H4 F = some (.lst vs) ∧ DnAll H4 vs (qs.map fun q => pairK (.num q.1, q.2)) ∧ qs.length = j ∧ (∀ (t : Nat) z, qs[t]? = some z → z.1 = (t : Int) ∧ z.2.natAbs ≤ 3) ∧ Pot H4 q s' ∧ But q H3 H4)
      ⟨[], [], upd_same, .nil, rfl, fun t z e => (by simp at e), S3.pot.same sF, fun b o e _ => sF _ _ e⟩ ?_ ?_
    · rintro j H4 hj ⟨vs, qs, hF4, hda, hql, hqs, p4, b4⟩
      refine ⟨rfl, _, rfl, _, rfl, q, s', 7, rfl, p4, by decide, by decide, fun r H5 hr5 p5 b5 => ⟨_, _, rfl, rfl, ln2, fun a5 o5 na da => ?_⟩⟩
      have hF5 := b5 _ _ hF4 Fq
      have s6 := same_new (o := .frz o5 (.tup [.int (0 + (j : Int)), .int ((r : Int) - 3)])) na
      have hF6 := s6 _ _ hF5
      obtain ⟨aq, as⟩ := p5.fresh na
      obtain ⟨ys, hqy⟩ := p4.lst
      have vl := hda.length
      rw [List.length_map] at vl
      have fk : Fk H4 (upd (upd H5 a5 (.frz o5 (.tup [.int (0 + (j : Int)), .int ((r : Int) - 3)]))) F (.lst (vs ++ [.ref a5]))) := ((Fk.of_but (nf_lst hqy) b5).trans (.of_same s6)).trans (.upd (nf_lst hF6))
      refine ⟨vs, hF6, by rw [vl, hql, sizeLine_eq]; omega, vs ++ [.ref a5], qs ++ [(0 + (j : Int), (r : Int) - 3)], upd_same, ?_, by rw [List.length_append, hql]; rfl, fun t z e => ?_, (p5.same s6).upd Fq Fs, fun b o e hb => ?_⟩
      · rw [List.map_append]
        refine DnAll.snoc (DnAll.fk fk _ _ hda) ?_
        exact Dn.fk (.upd (nf_lst hF6)) _ _ (.tup upd_same da (.cons (.int _) (.cons (.int _) .nil)))
      · by_cases ht : t < qs.length
        · rw [List.getElem?_append_left ht] at e
          exact hqs t z e
        · rw [List.getElem?_append_right (by omega)] at e
          have h0 : t - qs.length = 0 := by
            have := (List.getElem?_eq_some_iff.mp e).1
            simp at this
            omega
          rw [h0] at e
          have ez : (0 + (j : Int), (r : Int) - 3) = z := Option.some.inj e
          rw [← ez]
          refine ⟨?_, ?_⟩ <;> (simp only; omega)
      · rw [upd_ne (ne_of_none e nF)]
        exact s6 _ _ (b5 _ _ (b4 _ _ e hb) hb)
    · rintro H4 ⟨vs, qs, hF4, hda, hql, hqs, p4, b4⟩
      obtain ⟨ps, rfl, hpp⟩ := pairs_at (K := K) hda
      obtain ⟨x, hx⟩ := four hql hqs
      refine ⟨F, ps, encI qs, rfl, SqL.of hF4, hpp, fun d nd => ?_⟩
      have S4 := S3.next p4 b4
      have hl4 := b4 _ _ hl3 lq
      have s5 := same_new (o := .dK (mergeK [] (encI qs))) nd
      have hd5 : (upd H4 d (.dK (mergeK [] (encI qs)))) d = some (.dK (mergeK [] (encI qs))) := upd_same
      have S5 := S4.same s5
      have hl5 := s5 _ _ hl4
      generalize upd H4 d (.dK (mergeK [] (encI qs))) = H5 at s5 hd5 S5 hl5
      generalize mergeK [] (encI qs) = kvs at hd5 hx
      clear hpp hda hF4 hqs hql S4 hl4 p4 b4 s5 nd sF nF Fq Fs S3 hl3
      -- three nodes
      refine ⟨_, rfl, by decide, by decide, for_range (lo := 0) (n := 3) (fun i σ H6 => ∃ x4 x6 x7 x8 x9, σ = [some (.ref a), some (.ref q), some (.ref pc), some (.ref l), x4, some (.ref d), x6, x7, x8, x9, none, none, none, none, none] ∧ Sit P w A.C H6 q s' pc L D nodes ∧ H6 l = some (.lst (ms.map nV)) ∧ H6 d = some (.dK kvs))
        ⟨none, none, none, none, none, rfl, S5, hl5, hd5⟩ ?_ ?_⟩
      · rintro i σ H6 hi ⟨x4, x6, x7, x8, x9, rfl, S6, hl6, hd6⟩
        have emin : (ms.map nV).length = ms.length := List.length_map _
        have dq : d ≠ q := by
          obtain ⟨ys, hy⟩ := S6.pot.lst
          exact ne_of hd6 hy (fun z => nomatch z)
        refine ⟨_, rfl, _, rfl, l, _, rfl, .inl (SqL.of hl6), _, _, rfl, rfl, _, rfl, _, rfl, l, _, rfl, .inl (SqL.of hl6), _, _, rfl, ?_⟩
        refine ⟨q, s', min 5 ms.length, ?_, S6.pot, by omega, by omega, fun r H7 hr7 p7 b7 => ?_⟩
        · have e := min_nat 5 ms.length
          rw [← e, emin]
          rfl
        have hl7 := b7 _ _ hl6 lq
        have hd7 := b7 _ _ hd6 dq
        have S7 := S6.next p7 b7
        obtain ⟨m, em⟩ : ∃ m, ms[ms.length - 1 - r]? = some m := ⟨_, List.getElem?_eq_getElem (by omega)⟩
        have hm := hmb m (List.mem_of_getElem? em)
        refine ⟨_, _, rfl, rfl, l, _, _, nV m, rfl, rfl, SqL.of hl7, at_of (j := ms.length - 1 - r) (by rw [emin]; omega) (by rw [List.getElem?_map, em]; rfl), ?_⟩
        refine ⟨_, rfl, _, rfl, pc, L, D, m, nodes, rfl, S7.circ, hm, by omega, nst, fun val hval v H8 p s8 hD ok hvp => ?_, fun H8 s8 => ?_⟩
        · obtain ⟨va, _, rfl, _, _⟩ := hD.sq (K := K)
          refine ⟨_, rfl, false, rfl, .inl ⟨va, rfl⟩, _, rfl, ?_⟩
          refine iteBF (decide_eq_false fun z => nomatch z) ?_
          refine ⟨_, rfl, true, rfl, .inl ⟨va, rfl⟩, _, rfl, ?_⟩
          have et : isBl (.ref va) true = false := decide_eq_false fun z => nomatch z
          rw [et]
          refine iteB rfl ?_
          have S8 := S7.same s8
          have hd8 := s8 _ _ hd7
          refine ⟨_, rfl, by decide, by decide, for_range (lo := 0) (n := 4) (fun t σ H9 => ∃ y4 y9, σ = [some (.ref a), some (.ref q), some (.ref pc), some (.ref l), y4, some (.ref d), some (.int (0 + (i : Int))), some (nV m), some (.ref va), y9, none, none, none, none, none] ∧ Same H8 H9)
            ⟨x4, x9, rfl, .refl _⟩ ?_ ?_⟩
          · rintro t σ H9 ht ⟨y4, y9, rfl, s9⟩
            rw [Int.zero_add]
            have S9 := S8.same s9
            refine ⟨_, rfl, _, rfl, _, rfl, _, rfl, pc, L, D, d, m, t, nodes, kvs, x, rfl, S9.circ, hm, by omega, s9 _ _ hd8, .inl nst, fun _ => hx, fun ⟨i, z⟩ => absurd z (nst _ _), fun _ val' hval' H10 s10 => ?_⟩
            have evl := slope_is S7.circ.wf nst hval hval' hm hvp
            refine ⟨_, rfl, _, rfl, true, rfl, ?_⟩
            refine iteBF rfl ?_
            have s910 := s9.trans s10
            refine ⟨_, rfl, _, rfl, _, rfl, _, rfl, .ref va, t, d, p, m, kvs, x, rfl, hD.same s910, ok, by omega, s910 _ _ hd8, hx, fun H11 s11 => ⟨rfl, _, rfl, ?_⟩⟩
            refine iteBF (by rw [decV, decide_eq_true evl]; rfl) ?_
            exact ⟨_, _, rfl, s910.trans s11⟩
          · rintro σ H9 ⟨y4, y9, rfl, s9⟩
            exact ⟨_, _, _, _, _, rfl, S8.same s9, s9 _ _ (s8 _ _ hl7), s9 _ _ hd8⟩
        · refine ⟨_, rfl, false, rfl, .inr ⟨true, rfl⟩, _, rfl, ?_⟩
          refine iteBF (by rfl) ?_
          refine ⟨_, rfl, true, rfl, .inr ⟨true, rfl⟩, _, rfl, ?_⟩
          refine iteBF (by rfl) ?_
          exact ⟨_, _, _, _, _, rfl, S7.same s8, s8 _ _ hl7, s8 _ _ hd7⟩
      · rintro σ H6 ⟨x4, x6, x7, x8, x9, rfl, S6, hl6, hd6⟩
        clear hd5 S5 hl5 H5
        -- the ring
        intro y dy ny ndy ney
        have s7 : Same H6 (upd (upd H6 dy (.own y)) y (.ins A.S dy [])) := fun b o e => by
          rw [upd_ne (ne_of_none e ny), upd_ne (ne_of_none e ndy)]
          exact e
        have hy7 : (upd (upd H6 dy (.own y)) y (.ins A.S dy [])) y = some (.ins A.S dy []) := upd_same
        have S7 := S6.same s7
        generalize upd (upd H6 dy (.own y)) y (.ins A.S dy []) = H7 at s7 hy7 S7
        clear hl6 hd6 S6 s7 ny ndy ney
        -- three pairs
        refine ⟨_, rfl, by decide, by decide, fun G nG => ?_⟩
        obtain ⟨Gq, Gs⟩ := S7.pot.fresh nG
        have sG := same_new (o := .lst []) nG
        refine lc_range (lo := 0) (n := 3) (fun j H8 => ∃ (vs : List V) (ds : List Du), H8 G = some (.lst vs) ∧ DnAll H8 vs (ds.map duK) ∧ ds.length = j ∧ (∀ d ∈ ds, d.1.natAbs ≤ 8 ∧ d.2.natAbs ≤ 8) ∧ Pot H8 q s' ∧ But q H7 H8)
          ⟨[], [], upd_same, .nil, rfl, fun d hd => (nomatch hd), S7.pot.same sG, fun b o e _ => sG _ _ e⟩ ?_ ?_
        · rintro j H8 hj ⟨vs, ds, hG8, hda, hdl, hds, p8, b8⟩
          refine ⟨rfl, _, rfl, q, s', 9, rfl, p8, by decide, by decide, fun r1 H9 hr9 p9 b9 => ⟨_, _, rfl, rfl, _, rfl, q, s', 9, rfl, p9, by decide, by decide, fun r2 H10 hr10 p10 b10 => ⟨_, _, rfl, rfl, ln2, fun a5 o5 na da => ?_⟩⟩⟩
          have hG10 := b10 _ _ (b9 _ _ hG8 Gq) Gq
          have s11 := same_new (o := .frz o5 (.tup [.int ((r1 : Int) - 4), .int ((r2 : Int) - 4)])) na
          have hG11 := s11 _ _ hG10
          obtain ⟨ys, hqy⟩ := p8.lst
          obtain ⟨zs, hqz⟩ := p9.lst
          have vl := hda.length
          rw [List.length_map] at vl
          have fk : Fk H8 (upd (upd H10 a5 (.frz o5 (.tup [.int ((r1 : Int) - 4), .int ((r2 : Int) - 4)]))) G (.lst (vs ++ [.ref a5]))) := (((Fk.of_but (nf_lst hqy) b9).trans (.of_but (nf_lst hqz) b10)).trans (.of_same s11)).trans (.upd (nf_lst hG11))
          refine ⟨vs, hG11, by rw [vl, hdl, sizeLine_eq]; omega, vs ++ [.ref a5], ds ++ [((r1 : Int) - 4, (r2 : Int) - 4)], upd_same, ?_, by rw [List.length_append, hdl]; rfl, fun d hd => ?_, (p10.same s11).upd Gq Gs, fun b o e hb => ?_⟩
          · rw [List.map_append]
            refine DnAll.snoc (DnAll.fk fk _ _ hda) ?_
            exact Dn.fk (.upd (nf_lst hG11)) _ _ (du_new (a := ((r1 : Int) - 4, (r2 : Int) - 4)) da)
          · rcases List.mem_append.mp hd with z | z
            · exact hds d z
            · rw [List.mem_singleton] at z
              rw [z]
              refine ⟨?_, ?_⟩ <;> (simp only; omega)
          · rw [upd_ne (ne_of_none e nG)]
            exact s11 _ _ (b10 _ _ (b9 _ _ (b8 _ _ e hb) hb) hb)
        · rintro H8 ⟨vs, ds, hG8, hda, hdl, hds, p8, b8⟩
          have S8 := S7.next p8 b8
          have yq : y ≠ q := by
            obtain ⟨ys, hyq⟩ := S7.pot.lst
            exact ne_of hy7 hyq (fun z => nomatch z)
          have hy8 := b8 _ _ hy7 yq
          match ds, hdl, hda, hds with
          | [da, db, dc], _, hda, hds =>
          cases hda with
          | @cons va _ _ _ ha hda =>
          cases hda with
          | @cons vb _ _ _ hb hda =>
          cases hda with
          | @cons vc _ _ _ hc hda =>
          cases hda
          have Rr : Tri A.S y dy va vb vc da db dc H8 := ⟨hy8, ⟨ha, .small (hds da (by simp)).1 (hds da (by simp)).2⟩, ⟨hb, .small (hds db (by simp)).1 (hds db (by simp)).2⟩, ⟨hc, .small (hds dc (by simp)).1 (hds dc (by simp)).2⟩⟩
          refine ⟨G, _, rfl, SqL.of hG8, rfl, _, _, rfl, _, _, rfl, _, _, rfl, rfl, ?_⟩
          clear hds ha hb hc hy8 hG8 b8 p8 S7 hy7 nG sG Gq Gs
          obtain ⟨pA, eA, _⟩ := du_sq (K := K) Rr.a.1
          obtain ⟨pB, eB, _⟩ := du_sq (K := K) Rr.b.1
          obtain ⟨pC, eC, _⟩ := du_sq (K := K) Rr.c.1
          -- a(b + c) = ab + ac
          refine ⟨_, rfl, y, dy, [], rfl, Rr.y, rfl, _, rfl, _, rfl, y, dy, [], rfl, Rr.y, rfl, _, rfl, _, rfl, y, vb, vc, db, dc, 0, rfl, Rr.b, Rr.c, by decide, fun v1 H9 s9 r1 => ⟨y, va, v1, da, dadd db dc, 1, rfl, slopesR.mono (Rr.same s9).a (by decide), r1, by decide, fun v2 H10 s10 r2 => ?_, fun hb => hb.elim⟩, fun hb => hb.elim⟩
          have t10 := s9.trans s10
          refine ⟨_, rfl, y, dy, [], rfl, (Rr.same t10).y, rfl, _, rfl, y, dy, [], rfl, (Rr.same t10).y, rfl, _, rfl, _, rfl, y, va, vb, da, db, 0, rfl, (Rr.same t10).a, (Rr.same t10).b, by decide, fun v3 H11 s11 r3 => ?_, fun hb => hb.elim⟩
          have t11 := t10.trans s11
          refine ⟨_, rfl, y, dy, [], rfl, (Rr.same t11).y, rfl, _, rfl, _, rfl, y, va, vc, da, dc, 0, rfl, (Rr.same t11).a, (Rr.same t11).c, by decide, fun v4 H12 s12 r4 => ⟨y, v3, v4, dmul da db, dmul da dc, 1, rfl, slopesR.fk r3 (.of_same s12), r4, by decide, fun v5 H13 s13 r5 => ?_, fun hb => hb.elim⟩, fun hb => hb.elim⟩
          have t13 := (t11.trans s12).trans s13
          refine du_ne (r2.1.same ((s11.trans s12).trans s13)) r5.1 (dmul_add _ _ _) ⟨_, rfl, ?_⟩
          refine iteF ?_
          -- ab = ba
          refine ⟨_, rfl, y, dy, [], rfl, (Rr.same t13).y, rfl, _, rfl, _, rfl, y, va, vb, da, db, 0, rfl, (Rr.same t13).a, (Rr.same t13).b, by decide, fun v6 H14 s14 r6 => ?_, fun hb => hb.elim⟩
          have t14 := t13.trans s14
          refine ⟨_, rfl, y, dy, [], rfl, (Rr.same t14).y, rfl, _, rfl, _, rfl, y, vb, va, db, da, 0, rfl, (Rr.same t14).b, (Rr.same t14).a, by decide, fun v7 H15 s15 r7 => ?_, fun hb => hb.elim⟩
          have t15 := t14.trans s15
          refine du_ne (r6.1.same s15) r7.1 (dmul_comm _ _) ⟨_, rfl, ?_⟩
          refine iteF ?_
          -- a(bc) = (ab)c
          refine ⟨_, rfl, y, dy, [], rfl, (Rr.same t15).y, rfl, _, rfl, _, rfl, y, dy, [], rfl, (Rr.same t15).y, rfl, _, rfl, _, rfl, y, vb, vc, db, dc, 0, rfl, (Rr.same t15).b, (Rr.same t15).c, by decide, fun v8 H16 s16 r8 => ⟨y, va, v8, da, dmul db dc, 1, rfl, slopesR.mono (Rr.same (t15.trans s16)).a (by decide), r8, by decide, fun v9 H17 s17 r9 => ?_, fun hb => hb.elim⟩, fun hb => hb.elim⟩
          have t17 := (t15.trans s16).trans s17
          refine ⟨_, rfl, y, dy, [], rfl, (Rr.same t17).y, rfl, _, rfl, y, dy, [], rfl, (Rr.same t17).y, rfl, _, rfl, _, rfl, y, va, vb, da, db, 0, rfl, (Rr.same t17).a, (Rr.same t17).b, by decide, fun v10 H18 s18 r10 => ⟨_, rfl, y, v10, vc, dmul da db, dc, 1, rfl, r10, slopesR.mono (Rr.same (t17.trans s18)).c (by decide), by decide, fun v11 H19 s19 r11 => ?_, fun hb => hb.elim⟩, fun hb => hb.elim⟩
          have t19 := (t17.trans s18).trans s19
          refine du_ne (r9.1.same (s18.trans s19)) r11.1 (dmul_assoc _ _ _).symm ⟨_, rfl, ?_⟩
          refine iteF ?_
          -- a + 0 = a
          refine ⟨_, rfl, y, dy, [], rfl, (Rr.same t19).y, rfl, _, rfl, ln2, fun p0 o0 n0 d0 => ?_⟩
          have t20 := t19.trans (same_new (o := .frz o0 (.tup [.int 0, .int 0])) n0)
          refine ⟨y, va, .ref p0, da, dz, 0, rfl, (Rr.same t20).a, ⟨du_new (a := dz) d0, .small (by decide) (by decide)⟩, by decide, fun v12 H21 s21 r12 => ?_, fun hb => hb.elim⟩
          have t21 := t20.trans s21
          refine ⟨_, rfl, ?_⟩
          refine du_ne r12.1 (Rr.same t21).a.1 (dadd_zero _) ⟨_, rfl, ?_⟩
          refine iteF ?_
          -- a 1 = a
          refine ⟨_, rfl, y, dy, [], rfl, (Rr.same t21).y, rfl, _, rfl, ln2, fun p1 o1 n1 d1 => ?_⟩
          have t22 := t21.trans (same_new (o := .frz o1 (.tup [.int 1, .int 0])) n1)
          refine ⟨y, va, .ref p1, da, done, 0, rfl, (Rr.same t22).a, ⟨du_new (a := done) d1, .small (by decide) (by decide)⟩, by decide, fun v13 H23 s23 r13 => ?_, fun hb => hb.elim⟩
          have t23 := t22.trans s23
          refine ⟨_, rfl, ?_⟩
          refine du_ne r13.1 (Rr.same t23).a.1 (dmul_one _) ⟨_, rfl, ?_⟩
          refine iteF ?_
          -- zero, one, star, is_element
          refine ⟨_, rfl, y, dy, [], rfl, (Rr.same t23).y, rfl, y, rfl, fun v14 H24 s24 r14 => ⟨ln2, fun p2 o2 n2 d2 => ?_⟩⟩
          have u25 := same_new (o := .frz o2 (.tup [.int 0, .int 0])) n2
          have t25 := (t23.trans s24).trans u25
          refine du_ne (r14.1.same u25) (du_new (a := dz) d2) rfl ⟨_, rfl, ?_⟩
          refine iteF ?_
          refine ⟨_, rfl, y, dy, [], rfl, (Rr.same t25).y, rfl, y, rfl, fun v15 H26 s26 r15 => ⟨ln2, fun p3 o3 n3 d3 => ?_⟩⟩
          have u27 := same_new (o := .frz o3 (.tup [.int 1, .int 0])) n3
          have t27 := (t25.trans s26).trans u27
          refine du_ne (r15.1.same u27) (du_new (a := done) d3) rfl ⟨_, rfl, ?_⟩
          refine iteF ?_
          refine ⟨_, rfl, y, dy, [], rfl, (Rr.same t27).y, rfl, ln2, fun p4 o4 n4 d4 => ?_⟩
          have u28 := same_new (o := .frz o4 (.tup [.int 0, .int 0])) n4
          refine ⟨y, .ref p4, rfl, du_new (a := dz) d4, fun v16 H29 s29 r16 => ⟨ln2, fun p5 o5 n5 d5 => ?_⟩⟩
          have u30 := same_new (o := .frz o5 (.tup [.int 1, .int 0])) n5
          have t30 := ((t27.trans u28).trans s29).trans u30
          refine du_ne (r16.same u30) (du_new (a := done) d5) rfl ⟨_, rfl, ?_⟩
          refine iteF ?_
          have R30 := Rr.same t30
          have S30 := S8.same t30
          generalize (L2.upd H29 p5 (.frz o5 (.tup [.int 1, .int 0]))) = H30 at t30 R30 S30
          obtain ⟨pa, oa, epa, hpa⟩ := du_rd R30.a.1
          have el : ElemIs K H30 va true := by
            rw [epa]
            have := ElemIs.pair (K := K) (x := .int da.1) (y := .int da.2) (.inr ⟨oa, hpa⟩) (.inl ⟨_, rfl⟩) (.inl ⟨_, rfl⟩)
            exact this
          refine ⟨_, rfl, y, dy, [], rfl, R30.y, rfl, _, rfl, y, va, true, rfl, el, true, rfl, .inr ⟨true, rfl⟩, _, rfl, ?_⟩
          refine iteBF (by rfl) ?_
          have hy30 := R30.y
          clear el hpa epa
          -- a node with a star is refused
          obtain ⟨dx', hpc⟩ := S30.circ.ob
          refine ⟨_, rfl, _, rfl, pc, dx', _, rfl, hpc, cf_no _ _ (by decide +kernel) (by decide +kernel), _, rfl, pc, dx', _, rfl, hpc, cf_no _ _ (by decide +kernel) (by decide +kernel), ?_⟩
          refine ⟨pc, L, D, 0, nodes, rfl, by decide, S30.circ, by omega, fun i1 nodes1 H31 e1 g1 c31 k31 => ?_⟩
          have hi1 : i1 < nodes1.length := (List.getElem?_eq_some_iff.mp e1).1
          have hz1 : i1 ≠ 0 := fun z => by
            rw [z, c31.wf.z] at e1
            cases e1
          have hl1 : nodes1.length ≤ 14 := by
            rcases g1 with z | z
            · rw [z]; omega
            · rw [z, List.length_append, List.length_singleton]; omega
          refine ⟨pc, L, D, i1, nodes1, rfl, hz1, hi1, c31, by omega, fun i2 nodes2 H32 e2 g2 c32 k32 => ?_⟩
          have hl2 : nodes2.length ≤ 15 := by
            rcases g2 with z | z
            · rw [z]; omega
            · rw [z, List.length_append, List.length_singleton]; omega
          refine ⟨pc, L, D, i2, i1, nodes2, rfl, c32, e2, by omega, fun H33 s33 => ⟨true, rfl, iteT ?_⟩⟩
          have yL : y ≠ L ∧ y ≠ D := by
            obtain ⟨vs', h1, _⟩ := S30.circ.li
            obtain ⟨kvs', h2, _⟩ := S30.circ.di
            obtain ⟨φ, h3⟩ := h2.ext
            exact ⟨ne_of hy30 h1 (fun z => nomatch z), ne_of hy30 h3 (fun z => nomatch z)⟩
          have hy33 : H33 y = some (.ins A.S dy []) := s33 _ _ (k32 _ _ (k31 _ _ hy30 yL.1 yL.2) yL.1 yL.2)
          clear c32 e2 g2 k32 c31 k31 g1 e1 hpc S30 R30 t30
          -- no such thing is an element
          refine ⟨ln1, fun a1 o1' n1' d1' => ⟨ln2, fun a2 n2' => ⟨ln2, fun a3 o3' n3' d3' => ⟨ln2, fun a4 o4' n4' d4' => ⟨(by show 5 ≤ sizeLine; rw [sizeLine_eq]; decide), fun a5 n5' => ?_⟩⟩⟩⟩⟩
          have w1 := same_new (o := .frz o1' (.tup [.int 1])) n1'
          have w2 := same_new (o := .lst [.int 0, .int 0]) n2'
          have w3 := same_new (o := .frz o3' (.tup [.int 0, .str "a"])) n3'
          have w4 := same_new (o := .frz o4' (.tup [.bl true, .int 0])) n4'
          have w5 := same_new (o := .lst [.ref a1, .ref a2, .int 5, .ref a3, .ref a4]) n5'
          have x1 := w5 _ _ (w4 _ _ (w3 _ _ (w2 _ _ (upd_same (H := H33) (a := a1) (o := .frz o1' (.tup [.int 1]))))))
          have x2 := w5 _ _ (w4 _ _ (w3 _ _ (upd_same (H := L2.upd H33 a1 (.frz o1' (.tup [.int 1]))) (a := a2) (o := .lst [.int 0, .int 0]))))
          have x3 := w5 _ _ (w4 _ _ (upd_same (H := L2.upd (L2.upd H33 a1 (.frz o1' (.tup [.int 1]))) a2 (.lst [.int 0, .int 0])) (a := a3) (o := .frz o3' (.tup [.int 0, .str "a"]))))
          have x4' := w5 _ _ (upd_same (H := L2.upd (L2.upd (L2.upd H33 a1 (.frz o1' (.tup [.int 1]))) a2 (.lst [.int 0, .int 0])) a3 (.frz o3' (.tup [.int 0, .str "a"]))) (a := a4) (o := .frz o4' (.tup [.bl true, .int 0])))
          have x5 : (L2.upd (L2.upd (L2.upd (L2.upd (L2.upd H33 a1 (.frz o1' (.tup [.int 1]))) a2 (.lst [.int 0, .int 0])) a3 (.frz o3' (.tup [.int 0, .str "a"]))) a4 (.frz o4' (.tup [.bl true, .int 0]))) a5 (.lst [.ref a1, .ref a2, .int 5, .ref a3, .ref a4])) a5 = some (.lst [.ref a1, .ref a2, .int 5, .ref a3, .ref a4]) := upd_same
          have hy38 := w5 _ _ (w4 _ _ (w3 _ _ (w2 _ _ (w1 _ _ hy33))))
          generalize L2.upd (L2.upd (L2.upd (L2.upd (L2.upd H33 a1 (.frz o1' (.tup [.int 1]))) a2 (.lst [.int 0, .int 0])) a3 (.frz o3' (.tup [.int 0, .str "a"]))) a4 (.frz o4' (.tup [.bl true, .int 0]))) a5 (.lst [.ref a1, .ref a2, .int 5, .ref a3, .ref a4]) = H38 at x1 x2 x3 x4' x5 hy38
          clear w1 w2 w3 w4 w5
          have el : ∀ (i : Nat) (z : V) (H' : Hp), ([.ref a1, .ref a2, .int 5, .ref a3, .ref a4] : List V)[i]? = some z → Same H38 H' → ElemIs K H' z false := by
            intro i z H' e s
            match i, e with
            | 0, e =>
              have ez : V.ref a1 = z := Option.some.inj e
              subst ez
              exact .other (.inr ⟨_, s _ _ x1⟩) (by show 1 ≠ 2; decide)
            | 1, e =>
              have ez : V.ref a2 = z := Option.some.inj e
              subst ez
              exact .lst (s _ _ x2)
            | 2, e =>
              have ez : V.int 5 = z := Option.some.inj e
              subst ez
              exact .int 5
            | 3, e =>
              have ez : V.ref a3 = z := Option.some.inj e
              subst ez
              have := ElemIs.pair (K := K) (x := .int 0) (y := .str "a") (.inr ⟨_, s _ _ x3⟩) (.inl ⟨_, rfl⟩) (.inr (.inr ⟨_, rfl⟩))
              exact this
            | 4, e =>
              have ez : V.ref a4 = z := Option.some.inj e
              subst ez
              have := ElemIs.pair (K := K) (x := .bl true) (y := .int 0) (.inr ⟨_, s _ _ x4'⟩) (.inr (.inl ⟨_, rfl⟩)) (.inl ⟨_, rfl⟩)
              exact this
            | i + 5, e => simp at e
          refine ⟨a5, rfl, ⟨_, SqL.of x5⟩, fun M nM => lc_list (K := K) (a := a5) (xs := [.ref a1, .ref a2, .int 5, .ref a3, .ref a4]) (fun i H39 => Same H38 H39 ∧ ∃ bs : List Bool, H39 M = some (.lst (bs.map V.bl)) ∧ bs.length = i ∧ ∀ b ∈ bs, b = false)
            ⟨same_new nM, [], upd_same, rfl, fun b hb => (nomatch hb)⟩ (fun i H39 _ ⟨s, _⟩ => SqL.of (s _ _ x5)) ?_ ?_⟩
          · rintro i z H39 hi ⟨s39, bs, hM, hbl, hb⟩
            have hi5 : i < 5 := (List.getElem?_eq_some_iff.mp hi).1
            refine ⟨rfl, _, rfl, y, dy, [], rfl, s39 _ _ hy38, rfl, _, rfl, y, z, false, rfl, el i z H39 hi s39, _, hM, by rw [List.length_map, hbl, sizeLine_eq]; omega, fun b o e => ?_, bs ++ [false], ?_, by rw [List.length_append, hbl]; rfl, fun b hb' => ?_⟩
            · rw [upd_ne (ne_of_none e nM)]
              exact s39 _ _ e
            · rw [upd_same, List.map_append]
              rfl
            · rcases List.mem_append.mp hb' with q | q
              · exact hb b q
              · rw [List.mem_singleton] at q
                exact q
          · rintro H39 ⟨s39, bs, hM, hbl, hb⟩
            refine ⟨M, bs, rfl, SqL.of hM, _, rfl, ?_⟩
            have ea : bs.any id = false := by
              rw [List.any_eq_false]
              intro b hbm
              rw [hb b hbm]
              decide
            rw [ea]
            exact k H39
end
end Ev

/-! The end: what the top has written, and the law's own head. -/
namespace Ev
open PySem PySem.Spec PyProof.Rows L2
theorem all_mk {l : PySem.W.OpenLaw} {w : World} {K : PySem.W.Frag} {h : Heap} {mg : Str → Option Value} {fa C S P eW eN eT : Addr} {f0 f1 f2 f3 f4 f5 f6 f7 f8 f9 f10 f11 f12 f13 f14 f15 f16 f17 f18 f19 f20 f21 f22 f23 f24 f25 f26 f27 f28 f29 f30 f31 f32 f33 f34 f35 f36 f37 f38 f39 : Addr} (X : K.In h) (G : h.Ns mainGlobals mg) (hfa : mg "law" = some (.ref fa))
    {od0 an0 od1 an1 od2 an2 od3 an3 od4 an4 od5 an5 od6 an6 od7 an7 od8 an8 od9 an9 od10 an10 od11 an11 od12 an12 od13 an13 od14 an14 od15 an15 od16 an16 od17 an17 od18 an18 od19 an19 od20 an20 od21 an21 od22 an22 od23 an23 od24 an24 od25 an25 od26 an26 od27 an27 od28 an28 od29 an29 od30 an30 od31 an31 od32 an32 od33 an33 od34 an34 od35 an35 od36 an36 od37 an37 od38 an38 od39 an39 : Option Addr} {sl0 sl1 sl2 sl3 sl4 sl5 sl6 sl7 sl8 sl9 sl10 sl11 sl12 sl13 sl14 sl15 sl16 sl17 sl18 sl19 sl20 sl21 sl22 sl23 sl24 sl25 sl26 sl27 sl28 sl29 sl30 sl31 sl32 sl33 sl34 sl35 sl36 sl37 sl38 sl39 : Array (Option Value)} {oc0 kV0 dc0 pm0 cd0 ct0 oc1 kV1 dc1 pm1 cd1 ct1 oc2 kV2 dc2 pm2 cd2 ct2 oc3 kV3 dc3 pm3 cd3 ct3 oc4 kV4 dc4 pm4 cd4 ct4 oc5 kV5 dc5 pm5 cd5 ct5 oc6 kV6 dc6 pm6 cd6 ct6 oc7 kV7 dc7 pm7 cd7 ct7 oc8 kV8 dc8 pm8 cd8 ct8 oc9 kV9 dc9 pm9 cd9 ct9 oc10 kV10 dc10 pm10 cd10 ct10 oc11 kV11 dc11 pm11 cd11 ct11 oc12 kV12 dc12 pm12 cd12 ct12 oc13 kV13 dc13 pm13 cd13 ct13 oc14 kV14 dc14 pm14 cd14 ct14 oc15 kV15 dc15 pm15 cd15 ct15 oc16 kV16 dc16 pm16 cd16 ct16 oc17 kV17 dc17 pm17 cd17 ct17 oc18 kV18 dc18 pm18 cd18 ct18 oc19 kV19 dc19 pm19 cd19 ct19 oc20 kV20 dc20 pm20 cd20 ct20 oc21 kV21 dc21 pm21 cd21 ct21 oc22 kV22 dc22 pm22 cd22 ct22 oc23 kV23 dc23 pm23 cd23 ct23 oc24 kV24 dc24 pm24 cd24 ct24 oc25 kV25 dc25 pm25 cd25 ct25 oc26 kV26 dc26 pm26 cd26 ct26 oc27 kV27 dc27 pm27 cd27 ct27 oc28 kV28 dc28 pm28 cd28 ct28 oc29 kV29 dc29 pm29 cd29 ct29 oc30 kV30 dc30 pm30 cd30 ct30 oc31 kV31 dc31 pm31 cd31 ct31 oc32 kV32 dc32 pm32 cd32 ct32 oc33 kV33 dc33 pm33 cd33 ct33 oc34 kV34 dc34 pm34 cd34 ct34 oc35 kV35 dc35 pm35 cd35 ct35 oc36 kV36 dc36 pm36 cd36 ct36 oc37 kV37 dc37 pm37 cd37 ct37 oc38 kV38 dc38 pm38 cd38 ct38 oc39 kV39 dc39 pm39 cd39 ct39 : Value} {t_zero t_one t_mostN t_mostP t_mostM : Tok}
    (aC : PySem.W.nsIn K mainGlobals "Circuits" = some (some (.ref C)))
    (aS : PySem.W.nsIn K mainGlobals "Slopes" = some (some (.ref S)))
    (aP : PySem.W.nsIn K mainGlobals "Polynomials" = some (some (.ref P)))
    (aeW : PySem.W.nsIn K mainGlobals "WorthError" = some (some (.ref eW)))
    (aeN : PySem.W.nsIn K mainGlobals "NoStar" = some (some (.ref eN)))
    (aeT : PySem.W.nsIn K mainGlobals "TooLarge" = some (some (.ref eT)))
    (a0 : PySem.W.findIn K (.ref C) "__init__" = some (some (.ref f0)))
    (i0 : PySem.W.isFn K (.ref f0) = true)
    (l0 : K.lookup f0 = some ⟨oc0, od0, .func (PySem.W.fnOf "__init__" "Circuits.__init__" (defArgs sInit) (defBody sInit) (defScope sInit) .none kV0 dc0 pm0 an0 cd0 ct0), sl0⟩)
    (c0 : PySem.W.codeIn K cd0 "Circuits.__init__" = true)
    (k0 : PySem.W.keepIn K (.ref f0) = true)
    (a1 : PySem.W.findIn K (.ref C) "number" = some (some (.ref f1)))
    (i1 : PySem.W.isFn K (.ref f1) = true)
    (l1 : K.lookup f1 = some ⟨oc1, od1, .func (PySem.W.fnOf "number" "Circuits.number" (defArgs sNumber) (defBody sNumber) (defScope sNumber) .none kV1 dc1 pm1 an1 cd1 ct1), sl1⟩)
    (c1 : PySem.W.codeIn K cd1 "Circuits.number" = true)
    (k1 : PySem.W.keepIn K (.ref f1) = true)
    (a2 : PySem.W.findIn K (.ref C) "width" = some (some (.ref f2)))
    (i2 : PySem.W.isFn K (.ref f2) = true)
    (l2 : K.lookup f2 = some ⟨oc2, od2, .func (PySem.W.fnOf "width" "Circuits.width" (defArgs sWidth) (defBody sWidth) (defScope sWidth) .none kV2 dc2 pm2 an2 cd2 ct2), sl2⟩)
    (c2 : PySem.W.codeIn K cd2 "Circuits.width" = true)
    (k2 : PySem.W.keepIn K (.ref f2) = true)
    (a3 : PySem.W.findIn K (.ref C) "fact" = some (some (.ref f3)))
    (i3 : PySem.W.isFn K (.ref f3) = true)
    (l3 : K.lookup f3 = some ⟨oc3, od3, .func (PySem.W.fnOf "fact" "Circuits.fact" (defArgs sFact) (defBody sFact) (defScope sFact) .none kV3 dc3 pm3 an3 cd3 ct3), sl3⟩)
    (c3 : PySem.W.codeIn K cd3 "Circuits.fact" = true)
    (k3 : PySem.W.keepIn K (.ref f3) = true)
    (a4 : PySem.W.findIn K (.ref C) "plus" = some (some (.ref f4)))
    (i4 : PySem.W.isFn K (.ref f4) = true)
    (l4 : K.lookup f4 = some ⟨oc4, od4, .func (PySem.W.fnOf "plus" "Circuits.plus" (defArgs sPlus) (defBody sPlus) (defScope sPlus) .none kV4 dc4 pm4 an4 cd4 ct4), sl4⟩)
    (c4 : PySem.W.codeIn K cd4 "Circuits.plus" = true)
    (k4 : PySem.W.keepIn K (.ref f4) = true)
    (a5 : PySem.W.findIn K (.ref C) "times" = some (some (.ref f5)))
    (i5 : PySem.W.isFn K (.ref f5) = true)
    (l5 : K.lookup f5 = some ⟨oc5, od5, .func (PySem.W.fnOf "times" "Circuits.times" (defArgs sTimes) (defBody sTimes) (defScope sTimes) .none kV5 dc5 pm5 an5 cd5 ct5), sl5⟩)
    (c5 : PySem.W.codeIn K cd5 "Circuits.times" = true)
    (k5 : PySem.W.keepIn K (.ref f5) = true)
    (a6 : PySem.W.findIn K (.ref C) "star" = some (some (.ref f6)))
    (i6 : PySem.W.isFn K (.ref f6) = true)
    (l6 : K.lookup f6 = some ⟨oc6, od6, .func (PySem.W.fnOf "star" "Circuits.star" (defArgs sStar) (defBody sStar) (defScope sStar) .none kV6 dc6 pm6 an6 cd6 ct6), sl6⟩)
    (c6 : PySem.W.codeIn K cd6 "Circuits.star" = true)
    (k6 : PySem.W.keepIn K (.ref f6) = true)
    (a7 : PySem.W.findIn K (.ref C) "shown" = some (some (.ref f7)))
    (i7 : PySem.W.isFn K (.ref f7) = true)
    (l7 : K.lookup f7 = some ⟨oc7, od7, .func (PySem.W.fnOf "shown" "Circuits.shown" (defArgs sShown) (defBody sShown) (defScope sShown) .none kV7 dc7 pm7 an7 cd7 ct7), sl7⟩)
    (c7 : PySem.W.codeIn K cd7 "Circuits.shown" = true)
    (k7 : PySem.W.keepIn K (.ref f7) = true)
    (a8 : PySem.W.findIn K (.ref C) "parts" = some (some (.ref f8)))
    (i8 : PySem.W.isFn K (.ref f8) = true)
    (l8 : K.lookup f8 = some ⟨oc8, od8, .func (PySem.W.fnOf "parts" "Circuits.parts" (defArgs sParts) (defBody sParts) (defScope sParts) .none kV8 dc8 pm8 an8 cd8 ct8), sl8⟩)
    (c8 : PySem.W.codeIn K cd8 "Circuits.parts" = true)
    (k8 : PySem.W.keepIn K (.ref f8) = true)
    (a9 : PySem.W.findIn K (.ref C) "within" = some (some (.ref f9)))
    (i9 : PySem.W.isFn K (.ref f9) = true)
    (l9 : K.lookup f9 = some ⟨oc9, od9, .func (PySem.W.fnOf "within" "Circuits.within" (defArgs sWithin) (defBody sWithin) (defScope sWithin) .none kV9 dc9 pm9 an9 cd9 ct9), sl9⟩)
    (c9 : PySem.W.codeIn K cd9 "Circuits.within" = true)
    (k9 : PySem.W.keepIn K (.ref f9) = true)
    (a10 : PySem.W.findIn K (.ref C) "facts_in" = some (some (.ref f10)))
    (i10 : PySem.W.isFn K (.ref f10) = true)
    (l10 : K.lookup f10 = some ⟨oc10, od10, .func (PySem.W.fnOf "facts_in" "Circuits.facts_in" (defArgs sFactsIn) (defBody sFactsIn) (defScope sFactsIn) .none kV10 dc10 pm10 an10 cd10 ct10), sl10⟩)
    (c10 : PySem.W.codeIn K cd10 "Circuits.facts_in" = true)
    (k10 : PySem.W.keepIn K (.ref f10) = true)
    (a11 : PySem.W.nsIn K mainGlobals "sum_in" = some (some (.ref f11)))
    (l11 : K.lookup f11 = some ⟨oc11, od11, .func (PySem.W.fnOf "sum_in" "sum_in" (defArgs sSumIn) (defBody sSumIn) (defScope sSumIn) .none kV11 dc11 pm11 an11 cd11 ct11), sl11⟩)
    (c11 : PySem.W.codeIn K cd11 "sum_in" = true)
    (k11 : PySem.W.keepIn K (.ref f11) = true)
    (a12 : PySem.W.nsIn K mainGlobals "product_in" = some (some (.ref f12)))
    (l12 : K.lookup f12 = some ⟨oc12, od12, .func (PySem.W.fnOf "product_in" "product_in" (defArgs sProductIn) (defBody sProductIn) (defScope sProductIn) .none kV12 dc12 pm12 an12 cd12 ct12), sl12⟩)
    (c12 : PySem.W.codeIn K cd12 "product_in" = true)
    (k12 : PySem.W.keepIn K (.ref f12) = true)
    (a13 : PySem.W.nsIn K mainGlobals "worth" = some (some (.ref f13)))
    (l13 : K.lookup f13 = some ⟨oc13, od13, .func (PySem.W.fnOf "worth" "worth" (defArgs sWorth) (defBody sWorth) (defScope sWorth) .none kV13 dc13 pm13 an13 cd13 ct13), sl13⟩)
    (c13 : PySem.W.codeIn K cd13 "worth" = true)
    (k13 : PySem.W.keepIn K (.ref f13) = true)
    (a14 : PySem.W.nsIn K mainGlobals "is_number" = some (some (.ref f14)))
    (l14 : K.lookup f14 = some ⟨oc14, od14, .func (PySem.W.fnOf "is_number" "is_number" (defArgs sIsNumber) (defBody sIsNumber) (defScope sIsNumber) .none kV14 dc14 pm14 an14 cd14 ct14), sl14⟩)
    (c14 : PySem.W.codeIn K cd14 "is_number" = true)
    (k14 : PySem.W.keepIn K (.ref f14) = true)
    (a15 : PySem.W.findIn K (.ref S) "zero" = some (some (.ref f15)))
    (i15 : PySem.W.isFn K (.ref f15) = true)
    (l15 : K.lookup f15 = some ⟨oc15, od15, .func (PySem.W.fnOf "zero" "Slopes.zero" (defArgs sSZero) (defBody sSZero) (defScope sSZero) .none kV15 dc15 pm15 an15 cd15 ct15), sl15⟩)
    (c15 : PySem.W.codeIn K cd15 "Slopes.zero" = true)
    (k15 : PySem.W.keepIn K (.ref f15) = true)
    (a16 : PySem.W.findIn K (.ref S) "one" = some (some (.ref f16)))
    (i16 : PySem.W.isFn K (.ref f16) = true)
    (l16 : K.lookup f16 = some ⟨oc16, od16, .func (PySem.W.fnOf "one" "Slopes.one" (defArgs sSOne) (defBody sSOne) (defScope sSOne) .none kV16 dc16 pm16 an16 cd16 ct16), sl16⟩)
    (c16 : PySem.W.codeIn K cd16 "Slopes.one" = true)
    (k16 : PySem.W.keepIn K (.ref f16) = true)
    (a17 : PySem.W.findIn K (.ref S) "plus" = some (some (.ref f17)))
    (i17 : PySem.W.isFn K (.ref f17) = true)
    (l17 : K.lookup f17 = some ⟨oc17, od17, .func (PySem.W.fnOf "plus" "Slopes.plus" (defArgs sSPlus) (defBody sSPlus) (defScope sSPlus) .none kV17 dc17 pm17 an17 cd17 ct17), sl17⟩)
    (c17 : PySem.W.codeIn K cd17 "Slopes.plus" = true)
    (k17 : PySem.W.keepIn K (.ref f17) = true)
    (a18 : PySem.W.findIn K (.ref S) "times" = some (some (.ref f18)))
    (i18 : PySem.W.isFn K (.ref f18) = true)
    (l18 : K.lookup f18 = some ⟨oc18, od18, .func (PySem.W.fnOf "times" "Slopes.times" (defArgs sSTimes) (defBody sSTimes) (defScope sSTimes) .none kV18 dc18 pm18 an18 cd18 ct18), sl18⟩)
    (c18 : PySem.W.codeIn K cd18 "Slopes.times" = true)
    (k18 : PySem.W.keepIn K (.ref f18) = true)
    (a19 : PySem.W.findIn K (.ref S) "star" = some (some (.ref f19)))
    (i19 : PySem.W.isFn K (.ref f19) = true)
    (l19 : K.lookup f19 = some ⟨oc19, od19, .func (PySem.W.fnOf "star" "Slopes.star" (defArgs sSStar) (defBody sSStar) (defScope sSStar) .none kV19 dc19 pm19 an19 cd19 ct19), sl19⟩)
    (c19 : PySem.W.codeIn K cd19 "Slopes.star" = true)
    (k19 : PySem.W.keepIn K (.ref f19) = true)
    (a20 : PySem.W.findIn K (.ref S) "is_element" = some (some (.ref f20)))
    (i20 : PySem.W.isFn K (.ref f20) = true)
    (l20 : K.lookup f20 = some ⟨oc20, od20, .func (PySem.W.fnOf "is_element" "Slopes.is_element" (defArgs sSIs) (defBody sSIs) (defScope sSIs) .none kV20 dc20 pm20 an20 cd20 ct20), sl20⟩)
    (c20 : PySem.W.codeIn K cd20 "Slopes.is_element" = true)
    (k20 : PySem.W.keepIn K (.ref f20) = true)
    (a21 : PySem.W.nsIn K mainGlobals "has_star" = some (some (.ref f21)))
    (l21 : K.lookup f21 = some ⟨oc21, od21, .func (PySem.W.fnOf "has_star" "has_star" (defArgs sHasStar) (defBody sHasStar) (defScope sHasStar) .none kV21 dc21 pm21 an21 cd21 ct21), sl21⟩)
    (c21 : PySem.W.codeIn K cd21 "has_star" = true)
    (k21 : PySem.W.keepIn K (.ref f21) = true)
    (a22 : PySem.W.nsIn K mainGlobals "slope" = some (some (.ref f22)))
    (l22 : K.lookup f22 = some ⟨oc22, od22, .func (PySem.W.fnOf "slope" "slope" (defArgs sSlope) (defBody sSlope) (defScope sSlope) .none kV22 dc22 pm22 an22 cd22 ct22), sl22⟩)
    (c22 : PySem.W.codeIn K cd22 "slope" = true)
    (k22 : PySem.W.keepIn K (.ref f22) = true)
    (a23 : PySem.W.nsIn K mainGlobals "variable" = some (some (.ref f23)))
    (l23 : K.lookup f23 = some ⟨oc23, od23, .func (PySem.W.fnOf "variable" "variable" (defArgs sVariable) (defBody sVariable) (defScope sVariable) .none kV23 dc23 pm23 an23 cd23 ct23), sl23⟩)
    (c23 : PySem.W.codeIn K cd23 "variable" = true)
    (k23 : PySem.W.keepIn K (.ref f23) = true)
    (a24 : PySem.W.nsIn K mainGlobals "packed" = some (some (.ref f24)))
    (l24 : K.lookup f24 = some ⟨oc24, od24, .func (PySem.W.fnOf "packed" "packed" (defArgs sPacked) (defBody sPacked) (defScope sPacked) .none kV24 dc24 pm24 an24 cd24 ct24), sl24⟩)
    (c24 : PySem.W.codeIn K cd24 "packed" = true)
    (k24 : PySem.W.keepIn K (.ref f24) = true)
    (a25 : PySem.W.nsIn K mainGlobals "united" = some (some (.ref f25)))
    (l25 : K.lookup f25 = some ⟨oc25, od25, .func (PySem.W.fnOf "united" "united" (defArgs sUnited) (defBody sUnited) (defScope sUnited) .none kV25 dc25 pm25 an25 cd25 ct25), sl25⟩)
    (c25 : PySem.W.codeIn K cd25 "united" = true)
    (k25 : PySem.W.keepIn K (.ref f25) = true)
    (a26 : PySem.W.findIn K (.ref P) "zero" = some (some (.ref f26)))
    (i26 : PySem.W.isFn K (.ref f26) = true)
    (l26 : K.lookup f26 = some ⟨oc26, od26, .func (PySem.W.fnOf "zero" "Polynomials.zero" (defArgs sPZero) (defBody sPZero) (defScope sPZero) .none kV26 dc26 pm26 an26 cd26 ct26), sl26⟩)
    (c26 : PySem.W.codeIn K cd26 "Polynomials.zero" = true)
    (k26 : PySem.W.keepIn K (.ref f26) = true)
    (a27 : PySem.W.findIn K (.ref P) "one" = some (some (.ref f27)))
    (i27 : PySem.W.isFn K (.ref f27) = true)
    (l27 : K.lookup f27 = some ⟨oc27, od27, .func (PySem.W.fnOf "one" "Polynomials.one" (defArgs sPOne) (defBody sPOne) (defScope sPOne) .none kV27 dc27 pm27 an27 cd27 ct27), sl27⟩)
    (c27 : PySem.W.codeIn K cd27 "Polynomials.one" = true)
    (k27 : PySem.W.keepIn K (.ref f27) = true)
    (a28 : PySem.W.findIn K (.ref P) "plus" = some (some (.ref f28)))
    (i28 : PySem.W.isFn K (.ref f28) = true)
    (l28 : K.lookup f28 = some ⟨oc28, od28, .func (PySem.W.fnOf "plus" "Polynomials.plus" (defArgs sPPlus) (defBody sPPlus) (defScope sPPlus) .none kV28 dc28 pm28 an28 cd28 ct28), sl28⟩)
    (c28 : PySem.W.codeIn K cd28 "Polynomials.plus" = true)
    (k28 : PySem.W.keepIn K (.ref f28) = true)
    (a29 : PySem.W.findIn K (.ref P) "times" = some (some (.ref f29)))
    (i29 : PySem.W.isFn K (.ref f29) = true)
    (l29 : K.lookup f29 = some ⟨oc29, od29, .func (PySem.W.fnOf "times" "Polynomials.times" (defArgs sPTimes) (defBody sPTimes) (defScope sPTimes) .none kV29 dc29 pm29 an29 cd29 ct29), sl29⟩)
    (c29 : PySem.W.codeIn K cd29 "Polynomials.times" = true)
    (k29 : PySem.W.keepIn K (.ref f29) = true)
    (a30 : PySem.W.nsIn K mainGlobals "normal" = some (some (.ref f30)))
    (l30 : K.lookup f30 = some ⟨oc30, od30, .func (PySem.W.fnOf "normal" "normal" (defArgs sNormal) (defBody sNormal) (defScope sNormal) .none kV30 dc30 pm30 an30 cd30 ct30), sl30⟩)
    (c30 : PySem.W.codeIn K cd30 "normal" = true)
    (k30 : PySem.W.keepIn K (.ref f30) = true)
    (a31 : PySem.W.nsIn K mainGlobals "_law_pot" = some (some (.ref f31)))
    (l31 : K.lookup f31 = some ⟨oc31, od31, .func (PySem.W.fnOf "_law_pot" "_law_pot" (defArgs sPot) (defBody sPot) (defScope sPot) .none kV31 dc31 pm31 an31 cd31 ct31), sl31⟩)
    (c31 : PySem.W.codeIn K cd31 "_law_pot" = true)
    (k31 : PySem.W.keepIn K (.ref f31) = true)
    (a32 : PySem.W.nsIn K mainGlobals "_law_next" = some (some (.ref f32)))
    (l32 : K.lookup f32 = some ⟨oc32, od32, .func (PySem.W.fnOf "_law_next" "_law_next" (defArgs sNext) (defBody sNext) (defScope sNext) .none kV32 dc32 pm32 an32 cd32 ct32), sl32⟩)
    (c32 : PySem.W.codeIn K cd32 "_law_next" = true)
    (k32 : PySem.W.keepIn K (.ref f32) = true)
    (a33 : PySem.W.nsIn K mainGlobals "_law_is_int" = some (some (.ref f33)))
    (l33 : K.lookup f33 = some ⟨oc33, od33, .func (PySem.W.fnOf "_law_is_int" "_law_is_int" (defArgs sIsInt) (defBody sIsInt) (defScope sIsInt) .none kV33 dc33 pm33 an33 cd33 ct33), sl33⟩)
    (c33 : PySem.W.codeIn K cd33 "_law_is_int" = true)
    (k33 : PySem.W.keepIn K (.ref f33) = true)
    (a34 : PySem.W.nsIn K mainGlobals "_law_grown" = some (some (.ref f34)))
    (l34 : K.lookup f34 = some ⟨oc34, od34, .func (PySem.W.fnOf "_law_grown" "_law_grown" (defArgs sGrown) (defBody sGrown) (defScope sGrown) .none kV34 dc34 pm34 an34 cd34 ct34), sl34⟩)
    (c34 : PySem.W.codeIn K cd34 "_law_grown" = true)
    (k34 : PySem.W.keepIn K (.ref f34) = true)
    (a35 : PySem.W.nsIn K mainGlobals "_law_form" = some (some (.ref f35)))
    (l35 : K.lookup f35 = some ⟨oc35, od35, .func (PySem.W.fnOf "_law_form" "_law_form" (defArgs sForm) (defBody sForm) (defScope sForm) .none kV35 dc35 pm35 an35 cd35 ct35), sl35⟩)
    (c35 : PySem.W.codeIn K cd35 "_law_form" = true)
    (k35 : PySem.W.keepIn K (.ref f35) = true)
    (a36 : PySem.W.nsIn K mainGlobals "_law_power" = some (some (.ref f36)))
    (l36 : K.lookup f36 = some ⟨oc36, od36, .func (PySem.W.fnOf "_law_power" "_law_power" (defArgs sPower) (defBody sPower) (defScope sPower) .none kV36 dc36 pm36 an36 cd36 ct36), sl36⟩)
    (c36 : PySem.W.codeIn K cd36 "_law_power" = true)
    (k36 : PySem.W.keepIn K (.ref f36) = true)
    (a37 : PySem.W.nsIn K mainGlobals "_law_due" = some (some (.ref f37)))
    (l37 : K.lookup f37 = some ⟨oc37, od37, .func (PySem.W.fnOf "_law_due" "_law_due" (defArgs sDue) (defBody sDue) (defScope sDue) .none kV37 dc37 pm37 an37 cd37 ct37), sl37⟩)
    (c37 : PySem.W.codeIn K cd37 "_law_due" = true)
    (k37 : PySem.W.keepIn K (.ref f37) = true)
    (a38 : PySem.W.nsIn K mainGlobals "_law_refused" = some (some (.ref f38)))
    (l38 : K.lookup f38 = some ⟨oc38, od38, .func (PySem.W.fnOf "_law_refused" "_law_refused" (defArgs sRefused) (defBody sRefused) (defScope sRefused) .none kV38 dc38 pm38 an38 cd38 ct38), sl38⟩)
    (c38 : PySem.W.codeIn K cd38 "_law_refused" = true)
    (k38 : PySem.W.keepIn K (.ref f38) = true)
    (a39 : PySem.W.nsIn K mainGlobals "law" = some (some (.ref f39)))
    (l39 : K.lookup f39 = some ⟨oc39, od39, .func (PySem.W.fnOf "law" "law" (defArgs sLaw) (defBody sLaw) (defScope sLaw) .none kV39 dc39 pm39 an39 cd39 ct39), sl39⟩)
    (c39 : PySem.W.codeIn K cd39 "law" = true)
    (k39 : PySem.W.keepIn K (.ref f39) = true)
    (pgC : PySem.W.plainGet K C Str.empty = true)
    (hdC : PySem.W.hasDictIn K C = true)
    (poC : PySem.W.plainOver K C = true)
    (saC : PySem.W.findIn K (.ref C) "__setattr__" = some (some (.builtin "object.__setattr__")))
    (mkC : PySem.W.makesIn K C = true)
    (kcC : PySem.W.keepIn K (.ref C) = true)
    (pgS : PySem.W.plainGet K S Str.empty = true)
    (hdS : PySem.W.hasDictIn K S = true)
    (poS : PySem.W.plainOver K S = true)
    (saS : PySem.W.findIn K (.ref S) "__setattr__" = some (some (.builtin "object.__setattr__")))
    (mkS : PySem.W.makesIn K S = true)
    (kcS : PySem.W.keepIn K (.ref S) = true)
    (pgP : PySem.W.plainGet K P Str.empty = true)
    (hdP : PySem.W.hasDictIn K P = true)
    (poP : PySem.W.plainOver K P = true)
    (saP : PySem.W.findIn K (.ref P) "__setattr__" = some (some (.builtin "object.__setattr__")))
    (mkP : PySem.W.makesIn K P = true)
    (kcP : PySem.W.keepIn K (.ref P) = true)
    (inS : PySem.W.findIn K (.ref S) "__init__" = some (some (.builtin "object.__init__")))
    (inP : PySem.W.findIn K (.ref P) "__init__" = some (some (.builtin "object.__init__")))
    (nN : PySem.W.findIn K (.ref C) "nodes" = some none)
    (nU : PySem.W.findIn K (.ref C) "numbers" = some none)
    (xeN : PySem.W.excIn K eN [.type "ValueError", .type "Exception", .type "BaseException", .type "object"] "ValueError.__new__" = true)
    (kceN : PySem.W.keepIn K (.ref eN) = true)
    (beN : PySem.W.subIn K (.ref eN) (.type "BaseException") = some true)
    (teN : PySem.W.typeIn K (.ref eN) = some (.type "type"))
    (seN : PySem.W.subIn K (.ref eN) (.ref eW) = some true)
    (gaeN : PySem.W.findIn K (.ref eN) "__getattribute__" = some (some (.builtin "BaseException.__getattribute__")))
    (ggeN : PySem.W.findIn K (.ref eN) "__getattr__" = some none)
    (hdeN : PySem.W.hasDictIn K eN = true)
    (cleN : PySem.W.findIn K (.ref eN) "__class__" = some (some (.builtin "object.__class__")))
    (moeN : PySem.W.mroIn K eN (.type "object") = some true)
    (xeT : PySem.W.excIn K eT [.type "ValueError", .type "Exception", .type "BaseException", .type "object"] "ValueError.__new__" = true)
    (kceT : PySem.W.keepIn K (.ref eT) = true)
    (beT : PySem.W.subIn K (.ref eT) (.type "BaseException") = some true)
    (teT : PySem.W.typeIn K (.ref eT) = some (.type "type"))
    (seT : PySem.W.subIn K (.ref eT) (.ref eW) = some true)
    (gaeT : PySem.W.findIn K (.ref eT) "__getattribute__" = some (some (.builtin "BaseException.__getattribute__")))
    (ggeT : PySem.W.findIn K (.ref eT) "__getattr__" = some none)
    (hdeT : PySem.W.hasDictIn K eT = true)
    (cleT : PySem.W.findIn K (.ref eT) "__class__" = some (some (.builtin "object.__class__")))
    (moeT : PySem.W.mroIn K eT (.type "object") = some true)
    (hn : PySem.W.specialIn K (.builtin "object.__class__") "__get__" = some (some (.builtin "getset_descriptor.__get__")))
    (ht : PySem.W.takesIn K (.builtin "object.__class__") = some true)
    (beW : PySem.W.subIn K (.ref eW) (.type "BaseException") = some true)
    (hdeW : PySem.W.hasDictIn K eW = true)
    (teW : PySem.W.typeIn K (.ref eW) = some (.type "type"))
    (z_zero : PySem.W.nsIn K mainGlobals "ZERO" = some (some (.int 0 t_zero)))
    (z_one : PySem.W.nsIn K mainGlobals "ONE" = some (some (.int 1 t_one)))
    (z_mostN : PySem.W.nsIn K mainGlobals "MOST_NODES" = some (some (.int 20000 t_mostN)))
    (z_mostP : PySem.W.nsIn K mainGlobals "MOST_PARTS" = some (some (.int 2000 t_mostP)))
    (z_mostM : PySem.W.nsIn K mainGlobals "MOST_MONOMIALS" = some (some (.int 400 t_mostM)))
    (n_len : PySem.W.nsIn K mainGlobals "len" = some none)
    (n_sorted : PySem.W.nsIn K mainGlobals "sorted" = some none)
    (n_tuple : PySem.W.nsIn K mainGlobals "tuple" = some none)
    (n_any : PySem.W.nsIn K mainGlobals "any" = some none)
    (n_isinstance : PySem.W.nsIn K mainGlobals "isinstance" = some none)
    (n_int : PySem.W.nsIn K mainGlobals "int" = some none)
    (n_bool : PySem.W.nsIn K mainGlobals "bool" = some none)
    (n_dict : PySem.W.nsIn K mainGlobals "dict" = some none)
    (n_range : PySem.W.nsIn K mainGlobals "range" = some none)
    (n_abs : PySem.W.nsIn K mainGlobals "abs" = some none)
    (n_min : PySem.W.nsIn K mainGlobals "min" = some none)
    (n_list : PySem.W.nsIn K mainGlobals "list" = some none)
    : ∃ fd : FuncData, (∀ (s : Shared) (v : Value), BindsTo s fd ⟨[v], []⟩ [("_law_script", v)]) ∧ ∀ base : Heap, K.In base → base.Ns mainGlobals mg → FnOk l.prog w K mg base CX0 8 fa fd ["_law_script"] (spLaw K) := by
  have e := hfa.symm.trans (PySem.W.mg_of X G a39)
  cases e
  have F0 := fun_mk (st := sInit) l0 c0 k0
  have b0 := F0.binds (ps := ["self"]) fun _ _ _ _ _ _ us hl => match us, hl with | [_], _ => rfl
  have F1 := fun_mk (st := sNumber) l1 c1 k1
  have b1 := F1.binds (ps := ["self", "node"]) fun _ _ _ _ _ _ us hl => match us, hl with | [_, _], _ => rfl
  have F2 := fun_mk (st := sWidth) l2 c2 k2
  have b2 := F2.binds (ps := ["self", "node"]) fun _ _ _ _ _ _ us hl => match us, hl with | [_, _], _ => rfl
  have F3 := fun_mk (st := sFact) l3 c3 k3
  have b3 := F3.binds (ps := ["self", "k"]) fun _ _ _ _ _ _ us hl => match us, hl with | [_, _], _ => rfl
  have F4 := fun_mk (st := sPlus) l4 c4 k4
  have b4 := F4.binds (ps := ["self", "nodes"]) fun _ _ _ _ _ _ us hl => match us, hl with | [_, _], _ => rfl
  have F5 := fun_mk (st := sTimes) l5 c5 k5
  have b5 := F5.binds (ps := ["self", "nodes"]) fun _ _ _ _ _ _ us hl => match us, hl with | [_, _], _ => rfl
  have F6 := fun_mk (st := sStar) l6 c6 k6
  have b6 := F6.binds (ps := ["self", "node"]) fun _ _ _ _ _ _ us hl => match us, hl with | [_, _], _ => rfl
  have F7 := fun_mk (st := sShown) l7 c7 k7
  have b7 := F7.binds (ps := ["self", "node"]) fun _ _ _ _ _ _ us hl => match us, hl with | [_, _], _ => rfl
  have F8 := fun_mk (st := sParts) l8 c8 k8
  have b8 := F8.binds (ps := ["self", "node"]) fun _ _ _ _ _ _ us hl => match us, hl with | [_, _], _ => rfl
  have F9 := fun_mk (st := sWithin) l9 c9 k9
  have b9 := F9.binds (ps := ["self", "node"]) fun _ _ _ _ _ _ us hl => match us, hl with | [_, _], _ => rfl
  have F10 := fun_mk (st := sFactsIn) l10 c10 k10
  have b10 := F10.binds (ps := ["self", "node"]) fun _ _ _ _ _ _ us hl => match us, hl with | [_, _], _ => rfl
  have F11 := fun_mk (st := sSumIn) l11 c11 k11
  have b11 := F11.binds (ps := ["semiring", "worths"]) fun _ _ _ _ _ _ us hl => match us, hl with | [_, _], _ => rfl
  have F12 := fun_mk (st := sProductIn) l12 c12 k12
  have b12 := F12.binds (ps := ["semiring", "worths"]) fun _ _ _ _ _ _ us hl => match us, hl with | [_, _], _ => rfl
  have F13 := fun_mk (st := sWorth) l13 c13 k13
  have b13 := F13.binds (ps := ["circuits", "node", "semiring", "worths"]) fun _ _ _ _ _ _ us hl => match us, hl with | [_, _, _, _], _ => rfl
  have F14 := fun_mk (st := sIsNumber) l14 c14 k14
  have b14 := F14.binds (ps := ["thing"]) fun _ _ _ _ _ _ us hl => match us, hl with | [_], _ => rfl
  have F15 := fun_mk (st := sSZero) l15 c15 k15
  have b15 := F15.binds (ps := ["self"]) fun _ _ _ _ _ _ us hl => match us, hl with | [_], _ => rfl
  have F16 := fun_mk (st := sSOne) l16 c16 k16
  have b16 := F16.binds (ps := ["self"]) fun _ _ _ _ _ _ us hl => match us, hl with | [_], _ => rfl
  have F17 := fun_mk (st := sSPlus) l17 c17 k17
  have b17 := F17.binds (ps := ["self", "a", "b"]) fun _ _ _ _ _ _ us hl => match us, hl with | [_, _, _], _ => rfl
  have F18 := fun_mk (st := sSTimes) l18 c18 k18
  have b18 := F18.binds (ps := ["self", "a", "b"]) fun _ _ _ _ _ _ us hl => match us, hl with | [_, _, _], _ => rfl
  have F19 := fun_mk (st := sSStar) l19 c19 k19
  have b19 := F19.binds (ps := ["self", "a"]) fun _ _ _ _ _ _ us hl => match us, hl with | [_, _], _ => rfl
  have F20 := fun_mk (st := sSIs) l20 c20 k20
  have b20 := F20.binds (ps := ["self", "a"]) fun _ _ _ _ _ _ us hl => match us, hl with | [_, _], _ => rfl
  have F21 := fun_mk (st := sHasStar) l21 c21 k21
  have b21 := F21.binds (ps := ["circuits", "node"]) fun _ _ _ _ _ _ us hl => match us, hl with | [_, _], _ => rfl
  have F22 := fun_mk (st := sSlope) l22 c22 k22
  have b22 := F22.binds (ps := ["circuits", "node", "fact", "numbers"]) fun _ _ _ _ _ _ us hl => match us, hl with | [_, _, _, _], _ => rfl
  have F23 := fun_mk (st := sVariable) l23 c23 k23
  have b23 := F23.binds (ps := ["fact"]) fun _ _ _ _ _ _ us hl => match us, hl with | [_], _ => rfl
  have F24 := fun_mk (st := sPacked) l24 c24 k24
  have b24 := F24.binds (ps := ["table"]) fun _ _ _ _ _ _ us hl => match us, hl with | [_], _ => rfl
  have F25 := fun_mk (st := sUnited) l25 c25 k25
  have b25 := F25.binds (ps := ["one", "other"]) fun _ _ _ _ _ _ us hl => match us, hl with | [_, _], _ => rfl
  have F26 := fun_mk (st := sPZero) l26 c26 k26
  have b26 := F26.binds (ps := ["self"]) fun _ _ _ _ _ _ us hl => match us, hl with | [_], _ => rfl
  have F27 := fun_mk (st := sPOne) l27 c27 k27
  have b27 := F27.binds (ps := ["self"]) fun _ _ _ _ _ _ us hl => match us, hl with | [_], _ => rfl
  have F28 := fun_mk (st := sPPlus) l28 c28 k28
  have b28 := F28.binds (ps := ["self", "a", "b"]) fun _ _ _ _ _ _ us hl => match us, hl with | [_, _, _], _ => rfl
  have F29 := fun_mk (st := sPTimes) l29 c29 k29
  have b29 := F29.binds (ps := ["self", "a", "b"]) fun _ _ _ _ _ _ us hl => match us, hl with | [_, _, _], _ => rfl
  have F30 := fun_mk (st := sNormal) l30 c30 k30
  have b30 := F30.binds (ps := ["circuits", "node"]) fun _ _ _ _ _ _ us hl => match us, hl with | [_, _], _ => rfl
  have F31 := fun_mk (st := sPot) l31 c31 k31
  have b31 := F31.binds (ps := ["_law_script"]) fun _ _ _ _ _ _ us hl => match us, hl with | [_], _ => rfl
  have F32 := fun_mk (st := sNext) l32 c32 k32
  have b32 := F32.binds (ps := ["_law_pot_here", "_law_limit"]) fun _ _ _ _ _ _ us hl => match us, hl with | [_, _], _ => rfl
  have F33 := fun_mk (st := sIsInt) l33 c33 k33
  have b33 := F33.binds (ps := ["_law_value"]) fun _ _ _ _ _ _ us hl => match us, hl with | [_], _ => rfl
  have F34 := fun_mk (st := sGrown) l34 c34 k34
  have b34 := F34.binds (ps := ["_law_pot_here", "_law_circuits", "_law_facts", "_law_stars"]) fun _ _ _ _ _ _ us hl => match us, hl with | [_, _, _, _], _ => rfl
  have F35 := fun_mk (st := sForm) l35 c35 k35
  have b35 := F35.binds (ps := ["_law_circuits", "_law_node"]) fun _ _ _ _ _ _ us hl => match us, hl with | [_, _], _ => rfl
  have F36 := fun_mk (st := sPower) l36 c36 k36
  have b36 := F36.binds (ps := ["_law_number", "_law_exponent"]) fun _ _ _ _ _ _ us hl => match us, hl with | [_, _], _ => rfl
  have F37 := fun_mk (st := sDue) l37 c37 k37
  have b37 := F37.binds (ps := ["_law_form_here", "_law_fact", "_law_numbers"]) fun _ _ _ _ _ _ us hl => match us, hl with | [_, _, _], _ => rfl
  have F38 := fun_mk (st := sRefused) l38 c38 k38
  have b38 := F38.binds (ps := ["_law_circuits", "_law_node"]) fun _ _ _ _ _ _ us hl => match us, hl with | [_, _], _ => rfl
  have F39 := fun_mk (st := sLaw) l39 c39 k39
  have b39 := F39.binds (ps := ["_law_script"]) fun _ _ _ _ _ _ us hl => match us, hl with | [_], _ => rfl
  let A : Ads := ⟨C, S, P, eW, eN, eT⟩
  have XT : ExcAt K mg "TooLarge" A.eT := ⟨PySem.W.mg_of X G aeT, xeT, kceT, beT, teT⟩
  have XN : ExcAt K mg "NoStar" A.eN := ⟨PySem.W.mg_of X G aeN, xeN, kceN, beN, teN⟩
  have XX : ExcT K mg A := ⟨PySem.W.mg_of X G aeW, PySem.W.exm_ref beW hdeW teW seT, PySem.W.exm_ref beW hdeW teW seN, ⟨gaeT, ggeT, beT, hdeT, cleT, hn, ht, moeT⟩, ⟨gaeN, ggeN, beN, hdeN, cleN, hn, ht, moeN⟩, if_pos (beq_self_eq_true _), if_pos (beq_self_eq_true _)⟩
  have B : TxtB mg := { zero := ⟨_, PySem.W.mg_of X G z_zero⟩, one := ⟨_, PySem.W.mg_of X G z_one⟩, mostN := ⟨_, PySem.W.mg_of X G z_mostN⟩, mostP := ⟨_, PySem.W.mg_of X G z_mostP⟩, mostM := ⟨_, PySem.W.mg_of X G z_mostM⟩, «len» := PySem.W.mg_none_of X G n_len, «sorted» := PySem.W.mg_none_of X G n_sorted, «tuple» := PySem.W.mg_none_of X G n_tuple, «any» := PySem.W.mg_none_of X G n_any, «isinstance» := PySem.W.mg_none_of X G n_isinstance, «int» := PySem.W.mg_none_of X G n_int, «bool» := PySem.W.mg_none_of X G n_bool, «dict» := PySem.W.mg_none_of X G n_dict, «range» := PySem.W.mg_none_of X G n_range, «abs» := PySem.W.mg_none_of X G n_abs, «min» := PySem.W.mg_none_of X G n_min, «list» := PySem.W.mg_none_of X G n_list }
  let TC : TxtC K mg A := { cl := ⟨pgC, hdC, poC, saC⟩, nN := nN, nU := nU, g := PySem.W.mg_of X G aC, init := ⟨_, _, F0, b0⟩, made := ⟨mkC, a0, i0, kcC⟩, number := { f := _, fd := _, F := F1, b := b1, m := ⟨a1, i1, k1⟩ }, width := { f := _, fd := _, F := F2, b := b2, m := ⟨a2, i2, k2⟩ }, fact := { f := _, fd := _, F := F3, b := b3, m := ⟨a3, i3, k3⟩ }, plus := { f := _, fd := _, F := F4, b := b4, m := ⟨a4, i4, k4⟩ }, times := { f := _, fd := _, F := F5, b := b5, m := ⟨a5, i5, k5⟩ }, star := { f := _, fd := _, F := F6, b := b6, m := ⟨a6, i6, k6⟩ }, shown := { f := _, fd := _, F := F7, b := b7, m := ⟨a7, i7, k7⟩ }, parts := { f := _, fd := _, F := F8, b := b8, m := ⟨a8, i8, k8⟩ }, within := { f := _, fd := _, F := F9, b := b9, m := ⟨a9, i9, k9⟩ }, factsIn := { f := _, fd := _, F := F10, b := b10, m := ⟨a10, i10, k10⟩ } }
  let TW : TxtW K mg := { sumIn := { f := _, fd := _, F := F11, b := b11, g := PySem.W.mg_of X G a11 }, productIn := { f := _, fd := _, F := F12, b := b12, g := PySem.W.mg_of X G a12 }, worth := { f := _, fd := _, F := F13, b := b13, g := PySem.W.mg_of X G a13 } }
  let TS : TxtS K mg A := { cl := ⟨pgS, hdS, poS, saS⟩, g := PySem.W.mg_of X G aS, made := ⟨mkS, inS, kcS⟩, zero := { f := _, fd := _, F := F15, b := b15, m := ⟨a15, i15, k15⟩ }, one := { f := _, fd := _, F := F16, b := b16, m := ⟨a16, i16, k16⟩ }, plus := { f := _, fd := _, F := F17, b := b17, m := ⟨a17, i17, k17⟩ }, times := { f := _, fd := _, F := F18, b := b18, m := ⟨a18, i18, k18⟩ }, star := { f := _, fd := _, F := F19, b := b19, m := ⟨a19, i19, k19⟩ }, is_ := { f := _, fd := _, F := F20, b := b20, m := ⟨a20, i20, k20⟩ }, isNumber := { f := _, fd := _, F := F14, b := b14, g := PySem.W.mg_of X G a14 } }
  let TL : TxtL K mg := { hasStar := { f := _, fd := _, F := F21, b := b21, g := PySem.W.mg_of X G a21 }, slope := { f := _, fd := _, F := F22, b := b22, g := PySem.W.mg_of X G a22 } }
  let TP : TxtP K mg A := { cl := ⟨pgP, hdP, poP, saP⟩, g := PySem.W.mg_of X G aP, made := ⟨mkP, inP, kcP⟩, zero := { f := _, fd := _, F := F26, b := b26, m := ⟨a26, i26, k26⟩ }, one := { f := _, fd := _, F := F27, b := b27, m := ⟨a27, i27, k27⟩ }, plus := { f := _, fd := _, F := F28, b := b28, m := ⟨a28, i28, k28⟩ }, times := { f := _, fd := _, F := F29, b := b29, m := ⟨a29, i29, k29⟩ }, vari := { f := _, fd := _, F := F23, b := b23, g := PySem.W.mg_of X G a23 }, packed := { f := _, fd := _, F := F24, b := b24, g := PySem.W.mg_of X G a24 }, united := { f := _, fd := _, F := F25, b := b25, g := PySem.W.mg_of X G a25 }, normal := { f := _, fd := _, F := F30, b := b30, g := PySem.W.mg_of X G a30 } }
  let T : TxtX K mg := { pot := { f := _, fd := _, F := F31, b := b31, g := PySem.W.mg_of X G a31 }, next := { f := _, fd := _, F := F32, b := b32, g := PySem.W.mg_of X G a32 }, isInt := { f := _, fd := _, F := F33, b := b33, g := PySem.W.mg_of X G a33 }, grown := { f := _, fd := _, F := F34, b := b34, g := PySem.W.mg_of X G a34 }, form := { f := _, fd := _, F := F35, b := b35, g := PySem.W.mg_of X G a35 }, power := { f := _, fd := _, F := F36, b := b36, g := PySem.W.mg_of X G a36 }, due := { f := _, fd := _, F := F37, b := b37, g := PySem.W.mg_of X G a37 }, refused := { f := _, fd := _, F := F38, b := b38, g := PySem.W.mg_of X G a38 } }
  let TLaw : DefAt K "law" "law" sLaw ["_law_script"] := ⟨_, _, F39, b39⟩
  exact ⟨PySem.W.fnOf "law" "law" (defArgs sLaw) (defBody sLaw) (defScope sLaw) .none kV39 dc39 pm39 an39 cd39 ct39, fun s v => .of_eq rfl, fun base _ _ => ok_law (A := A) TC B TW TS TL TP XT XN XX T TLaw⟩
theorem walk {l : PySem.W.OpenLaw} {q : Program} {loose : List Str} {XP : (Str → Option Value) → Heap → Prop} {YP : World → Heap → Prop} {d : DefRec} {K : Params → PySem.W.Frag} (hn : l.most = some 63) (hdf : d.params.defaults = [])
    (hY : ∀ (w : World) (h : Heap), YP w h → (K w.params).In h)
    (F : ∀ (w : World) (mg : Str → Option Value) (fa : Addr) (h : Heap), (K w.params).In h → h.Ns mainGlobals mg → mg d.name = some (.ref fa) →
      ∃ fd : FuncData, (∀ (s : Shared) (u : Value), BindsTo s fd ⟨[u], []⟩ [("_law_script", u)]) ∧ ∀ base : Heap, (K w.params).In base → base.Ns mainGlobals mg → FnOk l.prog w (K w.params) mg base CX0 8 fa fd ["_law_script"] (spLaw (K w.params))) :
    PySem.W.WalkO q loose XP YP l.row.toRowW d [] (fun f vs => PySem.call f vs) :=
  L2.walk_of (n := 63) (k := 8) (x := "_law_script") (CX := fun _ => CX0) (sp := fun w => spLaw (K w.params)) hn (by decide) hdf ⟨rfl, by decide, by decide⟩ hY F (fun _ _ a ns hl _ hS => ⟨a, ns, rfl, hS, hl, fun _ => rfl⟩) fun _ _ _ _ _ z => z
end Ev
open PySem PySem.W PyProof.Rows
set_option maxRecDepth 100000 in
set_option maxHeartbeats 0 in
theorem PySem.Challenge.cw_everyworth_k34_slopes_holds : PySem.Challenge.rw_everyworth_k34_slopes.Holds := by
  w_on; o_law; k_head; (case hw => w_witness2)
  k_fill
  refine Ev.walk (l := PySem.Challenge.rw_everyworth_k34_slopes) rfl rfl (fun w h Y => PySem.W.kIn_of Y) ?F
  case F =>
    intro w mg fa h KX G hmg
    refine' Ev.all_mk KX G hmg ?aC ?aS ?aP ?aeW ?aeN ?aeT ?a0 ?i0 ?l0 ?c0 ?k0 ?a1 ?i1 ?l1 ?c1 ?k1 ?a2 ?i2 ?l2 ?c2 ?k2 ?a3 ?i3 ?l3 ?c3 ?k3 ?a4 ?i4 ?l4 ?c4 ?k4 ?a5 ?i5 ?l5 ?c5 ?k5 ?a6 ?i6 ?l6 ?c6 ?k6 ?a7 ?i7 ?l7 ?c7 ?k7 ?a8 ?i8 ?l8 ?c8 ?k8 ?a9 ?i9 ?l9 ?c9 ?k9 ?a10 ?i10 ?l10 ?c10 ?k10 ?a11 ?l11 ?c11 ?k11 ?a12 ?l12 ?c12 ?k12 ?a13 ?l13 ?c13 ?k13 ?a14 ?l14 ?c14 ?k14 ?a15 ?i15 ?l15 ?c15 ?k15 ?a16 ?i16 ?l16 ?c16 ?k16 ?a17 ?i17 ?l17 ?c17 ?k17 ?a18 ?i18 ?l18 ?c18 ?k18 ?a19 ?i19 ?l19 ?c19 ?k19 ?a20 ?i20 ?l20 ?c20 ?k20 ?a21 ?l21 ?c21 ?k21 ?a22 ?l22 ?c22 ?k22 ?a23 ?l23 ?c23 ?k23 ?a24 ?l24 ?c24 ?k24 ?a25 ?l25 ?c25 ?k25 ?a26 ?i26 ?l26 ?c26 ?k26 ?a27 ?i27 ?l27 ?c27 ?k27 ?a28 ?i28 ?l28 ?c28 ?k28 ?a29 ?i29 ?l29 ?c29 ?k29 ?a30 ?l30 ?c30 ?k30 ?a31 ?l31 ?c31 ?k31 ?a32 ?l32 ?c32 ?k32 ?a33 ?l33 ?c33 ?k33 ?a34 ?l34 ?c34 ?k34 ?a35 ?l35 ?c35 ?k35 ?a36 ?l36 ?c36 ?k36 ?a37 ?l37 ?c37 ?k37 ?a38 ?l38 ?c38 ?k38 ?a39 ?l39 ?c39 ?k39 ?pgC ?hdC ?poC ?saC ?mkC ?kcC ?pgS ?hdS ?poS ?saS ?mkS ?kcS ?pgP ?hdP ?poP ?saP ?mkP ?kcP ?inS ?inP ?nN ?nU ?xeN ?kceN ?beN ?teN ?seN ?gaeN ?ggeN ?hdeN ?cleN ?moeN ?xeT ?kceT ?beT ?teT ?seT ?gaeT ?ggeT ?hdeT ?cleT ?moeT ?hn ?ht ?beW ?hdeW ?teW ?z_zero ?z_one ?z_mostN ?z_mostP ?z_mostM ?n_len ?n_sorted ?n_tuple ?n_any ?n_isinstance ?n_int ?n_bool ?n_dict ?n_range ?n_abs ?n_min ?n_list
    (case aC => k_is)
    (case aS => k_is)
    (case aP => k_is)
    (case aeW => k_is)
    (case aeN => k_is)
    (case aeT => k_is)
    (case a0 => k_is)
    (case i0 => k_is)
    (case l0 => k_is)
    (case c0 => k_is)
    (case k0 => k_is)
    (case a1 => k_is)
    (case i1 => k_is)
    (case l1 => k_is)
    (case c1 => k_is)
    (case k1 => k_is)
    (case a2 => k_is)
    (case i2 => k_is)
    (case l2 => k_is)
    (case c2 => k_is)
    (case k2 => k_is)
    (case a3 => k_is)
    (case i3 => k_is)
    (case l3 => k_is)
    (case c3 => k_is)
    (case k3 => k_is)
    (case a4 => k_is)
    (case i4 => k_is)
    (case l4 => k_is)
    (case c4 => k_is)
    (case k4 => k_is)
    (case a5 => k_is)
    (case i5 => k_is)
    (case l5 => k_is)
    (case c5 => k_is)
    (case k5 => k_is)
    (case a6 => k_is)
    (case i6 => k_is)
    (case l6 => k_is)
    (case c6 => k_is)
    (case k6 => k_is)
    (case a7 => k_is)
    (case i7 => k_is)
    (case l7 => k_is)
    (case c7 => k_is)
    (case k7 => k_is)
    (case a8 => k_is)
    (case i8 => k_is)
    (case l8 => k_is)
    (case c8 => k_is)
    (case k8 => k_is)
    (case a9 => k_is)
    (case i9 => k_is)
    (case l9 => k_is)
    (case c9 => k_is)
    (case k9 => k_is)
    (case a10 => k_is)
    (case i10 => k_is)
    (case l10 => k_is)
    (case c10 => k_is)
    (case k10 => k_is)
    (case a11 => k_is)
    (case l11 => k_is)
    (case c11 => k_is)
    (case k11 => k_is)
    (case a12 => k_is)
    (case l12 => k_is)
    (case c12 => k_is)
    (case k12 => k_is)
    (case a13 => k_is)
    (case l13 => k_is)
    (case c13 => k_is)
    (case k13 => k_is)
    (case a14 => k_is)
    (case l14 => k_is)
    (case c14 => k_is)
    (case k14 => k_is)
    (case a15 => k_is)
    (case i15 => k_is)
    (case l15 => k_is)
    (case c15 => k_is)
    (case k15 => k_is)
    (case a16 => k_is)
    (case i16 => k_is)
    (case l16 => k_is)
    (case c16 => k_is)
    (case k16 => k_is)
    (case a17 => k_is)
    (case i17 => k_is)
    (case l17 => k_is)
    (case c17 => k_is)
    (case k17 => k_is)
    (case a18 => k_is)
    (case i18 => k_is)
    (case l18 => k_is)
    (case c18 => k_is)
    (case k18 => k_is)
    (case a19 => k_is)
    (case i19 => k_is)
    (case l19 => k_is)
    (case c19 => k_is)
    (case k19 => k_is)
    (case a20 => k_is)
    (case i20 => k_is)
    (case l20 => k_is)
    (case c20 => k_is)
    (case k20 => k_is)
    (case a21 => k_is)
    (case l21 => k_is)
    (case c21 => k_is)
    (case k21 => k_is)
    (case a22 => k_is)
    (case l22 => k_is)
    (case c22 => k_is)
    (case k22 => k_is)
    (case a23 => k_is)
    (case l23 => k_is)
    (case c23 => k_is)
    (case k23 => k_is)
    (case a24 => k_is)
    (case l24 => k_is)
    (case c24 => k_is)
    (case k24 => k_is)
    (case a25 => k_is)
    (case l25 => k_is)
    (case c25 => k_is)
    (case k25 => k_is)
    (case a26 => k_is)
    (case i26 => k_is)
    (case l26 => k_is)
    (case c26 => k_is)
    (case k26 => k_is)
    (case a27 => k_is)
    (case i27 => k_is)
    (case l27 => k_is)
    (case c27 => k_is)
    (case k27 => k_is)
    (case a28 => k_is)
    (case i28 => k_is)
    (case l28 => k_is)
    (case c28 => k_is)
    (case k28 => k_is)
    (case a29 => k_is)
    (case i29 => k_is)
    (case l29 => k_is)
    (case c29 => k_is)
    (case k29 => k_is)
    (case a30 => k_is)
    (case l30 => k_is)
    (case c30 => k_is)
    (case k30 => k_is)
    (case a31 => k_is)
    (case l31 => k_is)
    (case c31 => k_is)
    (case k31 => k_is)
    (case a32 => k_is)
    (case l32 => k_is)
    (case c32 => k_is)
    (case k32 => k_is)
    (case a33 => k_is)
    (case l33 => k_is)
    (case c33 => k_is)
    (case k33 => k_is)
    (case a34 => k_is)
    (case l34 => k_is)
    (case c34 => k_is)
    (case k34 => k_is)
    (case a35 => k_is)
    (case l35 => k_is)
    (case c35 => k_is)
    (case k35 => k_is)
    (case a36 => k_is)
    (case l36 => k_is)
    (case c36 => k_is)
    (case k36 => k_is)
    (case a37 => k_is)
    (case l37 => k_is)
    (case c37 => k_is)
    (case k37 => k_is)
    (case a38 => k_is)
    (case l38 => k_is)
    (case c38 => k_is)
    (case k38 => k_is)
    (case a39 => k_is)
    (case l39 => k_is)
    (case c39 => k_is)
    (case k39 => k_is)
    (case pgC => k_is)
    (case hdC => k_is)
    (case poC => k_is)
    (case saC => k_is)
    (case mkC => k_is)
    (case kcC => k_is)
    (case pgS => k_is)
    (case hdS => k_is)
    (case poS => k_is)
    (case saS => k_is)
    (case mkS => k_is)
    (case kcS => k_is)
    (case pgP => k_is)
    (case hdP => k_is)
    (case poP => k_is)
    (case saP => k_is)
    (case mkP => k_is)
    (case kcP => k_is)
    (case inS => k_is)
    (case inP => k_is)
    (case nN => k_is)
    (case nU => k_is)
    (case xeN => k_exc)
    (case kceN => k_is)
    (case beN => k_is)
    (case teN => k_is)
    (case seN => k_is)
    (case gaeN => k_is)
    (case ggeN => k_is)
    (case hdeN => k_is)
    (case cleN => k_is)
    (case moeN => k_is)
    (case xeT => k_exc)
    (case kceT => k_is)
    (case beT => k_is)
    (case teT => k_is)
    (case seT => k_is)
    (case gaeT => k_is)
    (case ggeT => k_is)
    (case hdeT => k_is)
    (case cleT => k_is)
    (case moeT => k_is)
    (case hn => k_is)
    (case ht => k_is)
    (case beW => k_is)
    (case hdeW => k_is)
    (case teW => k_is)
    (case z_zero => k_is)
    (case z_one => k_is)
    (case z_mostN => k_is)
    (case z_mostP => k_is)
    (case z_mostM => k_is)
    (case n_len => k_is)
    (case n_sorted => k_is)
    (case n_tuple => k_is)
    (case n_any => k_is)
    (case n_isinstance => k_is)
    (case n_int => k_is)
    (case n_bool => k_is)
    (case n_dict => k_is)
    (case n_range => k_is)
    (case n_abs => k_is)
    (case n_min => k_is)
    (case n_list => k_is)

