import PyProof.Rows.All
import Wide.All
import OpenK.AllK
import Wide.FinOn
import PyProof.EqAt
import PyProof.EqKinds
import PyProof.TupleCall
import KE.KStateDown
import Lean
import HandS.Base
import HandS.Call
import HandS.List
import HandS.Comp
import HandS.Dict
import HandS.Iter
import HandS.Text
import HandS.Walk
import HandS.Exc
import HandS.Ends
import HandS.More
import HandS.Words
import HandS.WordsList
import HandS.WordsDict
import HandS.WordsExc
import HandS.Steps
import HandS.Evl
import HandS.Flow
import HandS.Style
import HandS.Conv
import HandS.Codes
import HandS.NoneIn
import HandS.SortKw
import HandS.IsInst
import HandS.OwnEq
import HandS.ListEq
import HandS.DictEq
import HandS.DictTup
import HandS.StrMore
import HandS.TupAny
import HandS.TupLen
import HandS.WideBits
import HandS.Defaults
import HandS.ExcInit
import HandS.TryMany
import HandS.Lambda
import HandS.EndBits
import HandS.EndTab
import HandS.HeadWalk
import HandS.Head0
import HandS.Head1
import HandS.Head2
import HandS.HeadEnd
import HandS.HeadHook1
import HandS.HeadHook2
import HandS.HeadHook3
import HandS.HeadHook4
import PySem.Challenge.RW_keptqubits_k12_whole_commutants_and_join
import KE.KDictCopyH
import KE.KDictKeyed
import KE.KDictDisplayH
import HandS.ExcField
import PyProof.P3Eq
set_option Elab.async false
set_option linter.all false
set_option maxRecDepth 100000
section
set_option maxHeartbeats 200000
/-! Plain mathematics, first part: popcount, rows. -/
namespace Kp
/-- how many bits are 1 -/
def pc (n : Nat) : Nat := if h : n = 0 then 0 else n % 2 + pc (n / 2)
theorem pc_zero : pc 0 = 0 := by unfold pc; simp
theorem pc_pos {n : Nat} (h : n ≠ 0) : pc n = n % 2 + pc (n / 2) := by
  conv => lhs; unfold pc
  rw [dif_neg h]
theorem pc_step (n : Nat) : pc n = n % 2 + pc (n / 2) := by
  by_cases h : n = 0
  · subst h; rw [pc_zero]
  · exact pc_pos h
/-- the lowest 1 taken away -/
theorem and_pred (n : Nat) (h : n ≠ 0) : pc n = pc (n &&& (n - 1)) + 1 := by
  induction n using Nat.strongRecOn with
  | _ n ih =>
    by_cases p : n % 2 = 1
    · -- odd: n &&& (n-1) = n - 1
      have e : n &&& (n - 1) = n - 1 := by
        apply Nat.eq_of_testBit_eq
        intro i
        rw [Nat.testBit_and]
        cases i with
        | zero => simp [Nat.testBit_zero]; omega
        | succ i =>
          rw [Nat.testBit_succ, Nat.testBit_succ, show (n - 1) / 2 = n / 2 by omega, Bool.and_self]
      rw [e, pc_step n, pc_step (n - 1), show (n - 1) / 2 = n / 2 by omega]
      omega
    · have h2 : n / 2 ≠ 0 := by omega
      have i2 := ih (n / 2) (by omega) h2
      have e : n &&& (n - 1) = 2 * ((n / 2) &&& (n / 2 - 1)) := by
        apply Nat.eq_of_testBit_eq
        intro i
        rw [Nat.testBit_and]
        cases i with
        | zero => simp [Nat.testBit_zero]; omega
        | succ i =>
          rw [Nat.testBit_succ, Nat.testBit_succ, Nat.testBit_succ, show (n - 1) / 2 = n / 2 - 1 by omega, show 2 * (n / 2 &&& n / 2 - 1) / 2 = (n / 2 &&& n / 2 - 1) by omega, Nat.testBit_and]
      rw [e, pc_step n, pc_step (2 * _), show 2 * (n / 2 &&& n / 2 - 1) / 2 = (n / 2 &&& n / 2 - 1) by omega, i2]
      omega
theorem and_pred_lt {n : Nat} (h : n ≠ 0) : n &&& (n - 1) < n := Nat.lt_of_le_of_lt Nat.and_le_right (by omega)
structure Row where
  x : Nat
  z : Nat
  s : Nat
deriving DecidableEq
/-- the sign of a product: the power, cut to one bit -/
def pw (a b : Row) : Int := (pc (a.x &&& a.z) : Int) + (pc (b.x &&& b.z) : Int) - (pc ((a.x ^^^ b.x) &&& (a.z ^^^ b.z)) : Int) + 2 * ((pc (a.z &&& b.x) : Int) + (a.s : Int) + (b.s : Int))
def mul (a b : Row) : Row := ⟨a.x ^^^ b.x, a.z ^^^ b.z, (pw a b / 2 % 2).toNat⟩
def crs (a b : Row) : Nat := (pc (a.x &&& b.z) + pc (a.z &&& b.x)) &&& 1
def col (r : Row) (n c : Nat) : Nat := if c < n then r.x >>> c &&& 1 else r.z >>> (c - n) &&& 1
end Kp
end
section
set_option maxHeartbeats 200000
/-! Plain mathematics, second part: rows of bits as numbers, spans, reduced tables, kernels. -/
namespace Kp
/-! ### parity -/
def par (n : Nat) : Bool := pc n % 2 == 1
theorem par_zero : par 0 = false := by unfold par; rw [pc_zero]; rfl
theorem par_step (n : Nat) : par n = (n.testBit 0 ^^ par (n / 2)) := by
  unfold par
  rw [pc_step n, Nat.testBit_zero]
  have h1 : n % 2 = 0 ∨ n % 2 = 1 := by omega
  have h2 : pc (n / 2) % 2 = 0 ∨ pc (n / 2) % 2 = 1 := by omega
  rcases h1 with h1 | h1 <;> rcases h2 with h2 | h2 <;> simp [h1, h2, Nat.add_mod]
theorem par_xor (a b : Nat) : par (a ^^^ b) = (par a ^^ par b) := by
  induction a using Nat.strongRecOn generalizing b with
  | _ a ih =>
    by_cases h : a = 0
    · subst h; rw [Nat.zero_xor, par_zero]; simp
    · rw [par_step (a ^^^ b), par_step a, par_step b, Nat.xor_div_two, ih (a / 2) (by omega) (b / 2), Nat.testBit_xor]
      cases a.testBit 0 <;> cases b.testBit 0 <;> cases par (a / 2) <;> cases par (b / 2) <;> rfl
theorem par_pow (k : Nat) : par (2 ^ k) = true := by
  induction k with
  | zero => rw [par_step]; simp [par_zero]
  | succ k ih =>
    rw [par_step, show 2 ^ (k + 1) / 2 = 2 ^ k by rw [Nat.pow_succ]; omega, ih, Nat.testBit_zero, show 2 ^ (k + 1) % 2 = 0 by rw [Nat.pow_succ]; omega]
    rfl
/-- the dot product -/
def dot (a b : Nat) : Bool := par (a &&& b)
theorem dot_xor_left (a b c : Nat) : dot (a ^^^ b) c = (dot a c ^^ dot b c) := by unfold dot; rw [Nat.and_xor_distrib_right, par_xor]
theorem dot_xor_right (a b c : Nat) : dot a (b ^^^ c) = (dot a b ^^ dot a c) := by unfold dot; rw [Nat.and_xor_distrib_left, par_xor]
theorem dot_zero_left (a : Nat) : dot 0 a = false := by unfold dot; rw [Nat.zero_and, par_zero]
theorem dot_zero_right (a : Nat) : dot a 0 = false := by unfold dot; rw [Nat.and_zero, par_zero]
/-! ### spans -/
inductive Spn (L : List Nat) : Nat → Prop
  | zero : Spn L 0
  | add {v a : Nat} : Spn L v → a ∈ L → Spn L (v ^^^ a)
theorem Spn.one {L : List Nat} {a : Nat} (h : a ∈ L) : Spn L a := by
  have := Spn.add (Spn.zero (L := L)) h
  rwa [Nat.zero_xor] at this
theorem Spn.xor {L : List Nat} {u v : Nat} (hu : Spn L u) (hv : Spn L v) : Spn L (u ^^^ v) := by
  induction hv with
  | zero => rwa [Nat.xor_zero]
  | add _ ha ih => rw [← Nat.xor_assoc]; exact ih.add ha
theorem Spn.sub {L L' : List Nat} (h : ∀ a ∈ L, Spn L' a) {v : Nat} (hv : Spn L v) : Spn L' v := by
  induction hv with
  | zero => exact .zero
  | add _ ha ih => exact ih.xor (h _ ha)
theorem Spn.mono {L L' : List Nat} (h : ∀ a ∈ L, a ∈ L') {v : Nat} (hv : Spn L v) : Spn L' v := hv.sub fun a ha => .one (h a ha)
theorem xor_cancel (a b : Nat) : a ^^^ b ^^^ b = a := by rw [Nat.xor_assoc, Nat.xor_self, Nat.xor_zero]
theorem xor_eq_zero {a b : Nat} (h : a ^^^ b = 0) : a = b := by
  have := congrArg (· ^^^ b) h
  simp only [xor_cancel, Nat.zero_xor] at this
  exact this
theorem Spn.lt {L : List Nat} {w : Nat} (h : ∀ a ∈ L, a < 2 ^ w) {v : Nat} (hv : Spn L v) : v < 2 ^ w := by
  induction hv with
  | zero => exact Nat.two_pow_pos w
  | add _ ha ih => exact Nat.xor_lt_two_pow ih (h _ ha)
theorem Spn.bit {L : List Nat} {k : Nat} (h : ∀ a ∈ L, a.testBit k = false) {v : Nat} (hv : Spn L v) : v.testBit k = false := by
  induction hv with
  | zero => simp
  | add _ ha ih => rw [Nat.testBit_xor, ih, h _ ha]; rfl
theorem Spn.dot {L : List Nat} {u : Nat} (h : ∀ a ∈ L, Kp.dot a u = false) {v : Nat} (hv : Spn L v) : Kp.dot v u = false := by
  induction hv with
  | zero => exact dot_zero_left u
  | add _ ha ih => rw [dot_xor_left, ih, h _ ha]; rfl
/-! ### the program's rows of bits -/
def bl (n : Nat) : Nat := if n = 0 then 0 else n.log2 + 1
theorem bl_pos {n : Nat} (h : n ≠ 0) : bl n = n.log2 + 1 := if_neg h
def lead (m h : Nat) : Nat := m >>> (bl h - 1) &&& 1
theorem shr_bit (x k : Nat) : (x >>> k &&& 1 ≠ 0) ↔ x.testBit k = true := by
  rw [Nat.testBit_eq_decide_div_mod_eq, Nat.and_one_is_mod, Nat.shiftRight_eq_div_pow, decide_eq_true_iff]
  omega
theorem shr_and (x k : Nat) : x >>> k &&& 1 = (x.testBit k).toNat := by
  rw [Nat.testBit_eq_decide_div_mod_eq, Nat.and_one_is_mod, Nat.shiftRight_eq_div_pow]
  have h : x / 2 ^ k % 2 = 0 ∨ x / 2 ^ k % 2 = 1 := by omega
  rcases h with h | h <;> simp [h]
theorem lead_iff {m h : Nat} (hh : h ≠ 0) : (lead m h ≠ 0) ↔ m.testBit h.log2 = true := by
  unfold lead
  rw [bl_pos hh, Nat.add_sub_cancel]
  exact shr_bit m _
def restBy (tb : List Nat) (m : Nat) : Nat := tb.foldl (fun m h => if lead m h ≠ 0 then m ^^^ h else m) m
def srt (l : List Nat) : List Nat := l.mergeSort (fun a b => decide (b ≤ a))
def putIn (tb : List Nat) (m : Nat) : List Nat :=
  if restBy tb m = 0 then tb else srt (tb.map (fun h => if lead h (restBy tb m) ≠ 0 then h ^^^ restBy tb m else h) ++ [restBy tb m])
def redNums (l : List Nat) : List Nat := l.foldl putIn []
theorem srt_perm (l : List Nat) : (srt l).Perm l := List.mergeSort_perm l _
theorem srt_sorted (l : List Nat) : (srt l).Pairwise (fun a b => b ≤ a) := by
  have h := List.pairwise_mergeSort (le := fun a b : Nat => decide (b ≤ a)) (fun a b c h1 h2 => by simp only [decide_eq_true_eq] at *; omega) (fun a b => by simp only [Bool.or_eq_true, decide_eq_true_eq]; omega) l
  exact h.imp fun h => of_decide_eq_true h
theorem srt_unique {l l' : List Nat} (p : l'.Perm l) (s : l'.Pairwise (fun a b => b ≤ a)) : l' = srt l :=
  List.Perm.eq_of_pairwise (le := fun a b : Nat => b ≤ a) (fun a b _ _ h1 h2 => by omega) s (srt_sorted l) (p.trans (srt_perm l).symm)
/-- a table in which no leading bit is in another row -/
def Apt (a b : Nat) : Prop := a.testBit b.log2 = false ∧ b.testBit a.log2 = false
structure Rd (tb : List Nat) : Prop where
  nz : ∀ h ∈ tb, h ≠ 0
  ap : tb.Pairwise Apt
theorem Rd.nil : Rd [] := ⟨fun _ h => by simp at h, .nil⟩
theorem Rd.perm {a b : List Nat} (p : a.Perm b) (h : Rd a) : Rd b := ⟨fun x hx => h.nz x (p.mem_iff.mpr hx), (p.pairwise_iff (R := Apt) fun h => ⟨h.2, h.1⟩).mp h.ap⟩
theorem Rd.tail {a : Nat} {t : List Nat} (h : Rd (a :: t)) : Rd t := ⟨fun x hx => h.nz x (List.mem_cons_of_mem _ hx), (List.pairwise_cons.mp h.ap).2⟩
/-- what is left has none of the leading bits -/
theorem restBy_spec : ∀ {tb : List Nat} (m : Nat), Rd tb → (∀ h ∈ tb, (restBy tb m).testBit h.log2 = false) ∧ ∃ w, Spn tb w ∧ restBy tb m = m ^^^ w
  | [], m, _ => ⟨fun h hh => by simp at hh, 0, .zero, by rw [Nat.xor_zero]; rfl⟩
  | a :: t, m, R => by
    have ha : a ≠ 0 := R.nz a List.mem_cons_self
    have hap := List.pairwise_cons.mp R.ap
    obtain ⟨m', w0, hm', hb, hw0⟩ : ∃ m' w0, restBy (a :: t) m = restBy t m' ∧ m'.testBit a.log2 = false ∧ (w0 = 0 ∨ w0 = a) ∧ m' = m ^^^ w0 := by
      by_cases q : lead m a ≠ 0
      · refine ⟨m ^^^ a, a, ?_, ?_, .inr rfl, rfl⟩
        · show List.foldl _ (if lead m a ≠ 0 then m ^^^ a else m) t = _
          rw [if_pos q]; rfl
        · rw [Nat.testBit_xor, (lead_iff ha).mp q, Nat.testBit_log2 ha]; rfl
      · refine ⟨m, 0, ?_, ?_, .inl rfl, by rw [Nat.xor_zero]⟩
        · show List.foldl _ (if lead m a ≠ 0 then m ^^^ a else m) t = _
          rw [if_neg q]; rfl
        · cases z : m.testBit a.log2 with
          | false => rfl
          | true => exact absurd ((lead_iff ha).mpr z) q
    obtain ⟨i1, w, hw, i2⟩ := restBy_spec (tb := t) m' R.tail
    refine ⟨fun h hh => ?_, w0 ^^^ w, ?_, ?_⟩
    · rw [hm']
      rcases List.mem_cons.mp hh with rfl | hh
      · rw [i2, Nat.testBit_xor, hb, hw.bit fun b hb => (hap.1 b hb).2]; rfl
      · exact i1 h hh
    · refine Spn.xor ?_ (hw.mono fun b hb => List.mem_cons_of_mem _ hb)
      rcases hw0.1 with rfl | rfl
      · exact .zero
      · exact .one List.mem_cons_self
    · rw [hm', i2, hw0.2, Nat.xor_assoc]
/-- by its leading bits -/
def canon (v : Nat) : List Nat → Nat
  | [] => 0
  | h :: t => (if v.testBit h.log2 then h else 0) ^^^ canon v t
theorem canon_xor (u v : Nat) : ∀ tb : List Nat, canon (u ^^^ v) tb = canon u tb ^^^ canon v tb
  | [] => (Nat.xor_self 0).symm
  | h :: t => by
    show (if (u ^^^ v).testBit h.log2 then h else 0) ^^^ canon (u ^^^ v) t = ((if u.testBit h.log2 then h else 0) ^^^ canon u t) ^^^ ((if v.testBit h.log2 then h else 0) ^^^ canon v t)
    rw [canon_xor u v t, Nat.testBit_xor]
    have e : ∀ a b c d : Nat, (a ^^^ b) ^^^ (c ^^^ d) = (a ^^^ c) ^^^ (b ^^^ d) := fun a b c d => by
      rw [Nat.xor_assoc, ← Nat.xor_assoc b c d, Nat.xor_comm b c, Nat.xor_assoc c b d, ← Nat.xor_assoc]
    rw [e]
    congr 1
    cases u.testBit h.log2 <;> cases v.testBit h.log2 <;> simp
theorem canon_off {v : Nat} : ∀ {tb : List Nat}, (∀ h ∈ tb, v.testBit h.log2 = false) → canon v tb = 0
  | [], _ => rfl
  | h :: t, q => by
    show (if v.testBit h.log2 then h else 0) ^^^ canon v t = 0
    rw [q h List.mem_cons_self, canon_off fun h hh => q h (List.mem_cons_of_mem _ hh)]; simp
theorem canon_mem {a : Nat} : ∀ {tb : List Nat}, Rd tb → a ∈ tb → canon a tb = a
  | [], _, h => by simp at h
  | h :: t, R, ha => by
    have hap := List.pairwise_cons.mp R.ap
    show (if a.testBit h.log2 then h else 0) ^^^ canon a t = a
    rcases List.mem_cons.mp ha with rfl | ha
    · rw [Nat.testBit_log2 (R.nz a List.mem_cons_self), canon_off fun h hh => (hap.1 h hh).1, if_pos rfl, Nat.xor_zero]
    · rw [(hap.1 a ha).2, canon_mem R.tail ha]
      simp
theorem canon_sp {tb : List Nat} (R : Rd tb) {v : Nat} (h : Spn tb v) : canon v tb = v := by
  induction h with
  | zero => exact canon_off fun _ _ => Nat.zero_testBit _
  | add _ ha ih => rw [canon_xor, ih, canon_mem R ha]
/-- in the span, without leading bits: nothing -/
theorem sp_zero {tb : List Nat} (R : Rd tb) {v : Nat} (h : Spn tb v) (hb : ∀ h ∈ tb, v.testBit h.log2 = false) : v = 0 := by
  rw [← canon_sp R h]
  exact canon_off hb
theorem restBy_zero {tb : List Nat} (R : Rd tb) (m : Nat) : restBy tb m = 0 ↔ Spn tb m := by
  obtain ⟨h1, w, hw, e⟩ := restBy_spec m R
  constructor
  · intro z
    rw [e] at z
    rw [xor_eq_zero z]
    exact hw
  · intro hm
    exact sp_zero R (by rw [e]; exact hm.xor hw) h1
theorem log2_xor_lt {h r : Nat} (hh : h ≠ 0) (hr : r < 2 ^ h.log2) : h ^^^ r ≠ 0 ∧ (h ^^^ r).log2 = h.log2 := by
  have b1 : (h ^^^ r).testBit h.log2 = true := by
    rw [Nat.testBit_xor, Nat.testBit_log2 hh, Nat.testBit_lt_two_pow hr]; rfl
  have nz : h ^^^ r ≠ 0 := fun z => by rw [z] at b1; simp at b1
  refine ⟨nz, (Nat.log2_eq_iff nz).mpr ⟨Nat.ge_two_pow_of_testBit b1, ?_⟩⟩
  refine Nat.xor_lt_two_pow Nat.lt_log2_self (Nat.lt_of_lt_of_le hr (Nat.pow_le_pow_right (by decide) (Nat.le_succ _)))
/-- a row put in -/
theorem putIn_rd {tb : List Nat} (R : Rd tb) (m : Nat) : Rd (putIn tb m) := by
  unfold putIn
  by_cases z : restBy tb m = 0
  · rw [if_pos z]; exact R
  rw [if_neg z]
  refine Rd.perm (srt_perm _).symm ?_
  obtain ⟨h1, _⟩ := restBy_spec m R
  generalize restBy tb m = r at *
  -- a cleared row
  have clr : ∀ h ∈ tb, ∃ h', (if lead h r ≠ 0 then h ^^^ r else h) = h' ∧ h' ≠ 0 ∧ h'.log2 = h.log2 ∧ h'.testBit r.log2 = false ∧ (∀ k, r.testBit k = false → h'.testBit k = h.testBit k) := by
    intro h hh
    have nz := R.nz h hh
    by_cases q : lead h r ≠ 0
    · have b := (lead_iff z).mp q
      have le : r.log2 ≤ h.log2 := (Nat.le_log2 nz).mpr (Nat.ge_two_pow_of_testBit b)
      have ne : r.log2 ≠ h.log2 := fun e => by
        have := Nat.testBit_log2 z
        rw [e, h1 h hh] at this; cases this
      have lt : r < 2 ^ h.log2 := (Nat.log2_lt z).mp (by omega)
      obtain ⟨n1, n2⟩ := log2_xor_lt nz lt
      refine ⟨h ^^^ r, if_pos q, n1, n2, ?_, fun k hk => ?_⟩
      · rw [Nat.testBit_xor, b, Nat.testBit_log2 z]; rfl
      · rw [Nat.testBit_xor, hk]; simp
    · refine ⟨h, if_neg q, nz, rfl, ?_, fun _ _ => rfl⟩
      cases e : h.testBit r.log2 with
      | false => rfl
      | true => exact absurd ((lead_iff z).mpr e) q
  refine ⟨fun x hx => ?_, ?_⟩
  · rcases List.mem_append.mp hx with hx | hx
    · obtain ⟨h, hh, e⟩ := List.mem_map.mp hx
      obtain ⟨h', e', nz, _⟩ := clr h hh
      rw [← e, e']; exact nz
    · rw [List.mem_singleton.mp hx]; exact z
  · refine List.pairwise_append.mpr ⟨?_, List.pairwise_singleton _ _, ?_⟩
    · rw [List.pairwise_map]
      refine R.ap.imp_of_mem fun {a b} ha hb hab => ?_
      obtain ⟨a', ea, na, la, _, ka⟩ := clr a ha
      obtain ⟨b', eb, nb, lb, _, kb⟩ := clr b hb
      show Apt (if lead a r ≠ 0 then a ^^^ r else a) (if lead b r ≠ 0 then b ^^^ r else b)
      rw [ea, eb]
      refine ⟨?_, ?_⟩
      · rw [lb, ka _ (h1 b hb)]; exact hab.1
      · rw [la, kb _ (h1 a ha)]; exact hab.2
    · intro a ha b hb
      rw [List.mem_singleton.mp hb]
      obtain ⟨h, hh, e⟩ := List.mem_map.mp ha
      obtain ⟨h', e', nz, lg, bt, _⟩ := clr h hh
      rw [← e, e']
      exact ⟨bt, by rw [lg]; exact h1 h hh⟩
theorem putIn_sp {tb : List Nat} (R : Rd tb) (m v : Nat) : Spn (putIn tb m) v ↔ Spn (tb ++ [m]) v := by
  obtain ⟨h1, w, hw, e⟩ := restBy_spec m R
  unfold putIn
  by_cases z : restBy tb m = 0
  · rw [if_pos z]
    have hm : Spn tb m := (restBy_zero R m).mp z
    constructor
    · exact Spn.mono fun a ha => List.mem_append_left _ ha
    · refine Spn.sub fun a ha => ?_
      rcases List.mem_append.mp ha with ha | ha
      · exact .one ha
      · rw [List.mem_singleton.mp ha]; exact hm
  rw [if_neg z]
  have hr : Spn (tb ++ [m]) (restBy tb m) := by
    rw [e]
    exact (Spn.one (List.mem_append_right _ (List.mem_singleton.mpr rfl))).xor (hw.mono fun a ha => List.mem_append_left _ ha)
  constructor
  · refine Spn.sub fun a ha => ?_
    have ha := (srt_perm _).mem_iff.mp ha
    rcases List.mem_append.mp ha with ha | ha
    · obtain ⟨h, hh, rfl⟩ := List.mem_map.mp ha
      have h2 : Spn (tb ++ [m]) h := .one (List.mem_append_left _ hh)
      split
      · exact h2.xor hr
      · exact h2
    · rw [List.mem_singleton.mp ha]; exact hr
  · have inR : ∀ x, x ∈ (tb.map (fun h => if lead h (restBy tb m) ≠ 0 then h ^^^ restBy tb m else h) ++ [restBy tb m]) → Spn (srt (tb.map (fun h => if lead h (restBy tb m) ≠ 0 then h ^^^ restBy tb m else h) ++ [restBy tb m])) x := fun x hx => .one ((srt_perm _).mem_iff.mpr hx)
    have r1 := inR (restBy tb m) (List.mem_append_right _ (List.mem_singleton.mpr rfl))
    have old : ∀ h ∈ tb, Spn (srt (tb.map (fun h => if lead h (restBy tb m) ≠ 0 then h ^^^ restBy tb m else h) ++ [restBy tb m])) h := by
      intro h hh
      have q := inR _ (List.mem_append_left _ (List.mem_map.mpr ⟨h, hh, rfl⟩))
      by_cases c : lead h (restBy tb m) ≠ 0
      · rw [if_pos c] at q
        have := q.xor r1
        rwa [xor_cancel] at this
      · rw [if_neg c] at q; exact q
    refine Spn.sub fun a ha => ?_
    rcases List.mem_append.mp ha with ha | ha
    · exact old a ha
    · rw [List.mem_singleton.mp ha]
      have q := r1.xor (hw.sub old)
      have e2 : restBy tb m ^^^ w = m := by rw [e, xor_cancel]
      rwa [e2] at q
theorem putIn_len {tb : List Nat} (m : Nat) : (putIn tb m).length = if restBy tb m = 0 then tb.length else tb.length + 1 := by
  unfold putIn
  by_cases z : restBy tb m = 0
  · rw [if_pos z, if_pos z]
  · rw [if_neg z, if_neg z, (srt_perm _).length_eq]; simp
theorem putIn_sorted {tb : List Nat} (m : Nat) (h : tb.Pairwise (fun a b => b ≤ a)) : (putIn tb m).Pairwise (fun a b => b ≤ a) := by
  unfold putIn
  by_cases z : restBy tb m = 0
  · rw [if_pos z]; exact h
  · rw [if_neg z]; exact srt_sorted _
/-- the reduced table of a list -/
theorem fold_rd : ∀ (l : List Nat) {tb : List Nat}, Rd tb → Rd (l.foldl putIn tb)
  | [], _, h => h
  | m :: l, _, h => fold_rd l (putIn_rd h m)
theorem redNums_rd (l : List Nat) : Rd (redNums l) := fold_rd l Rd.nil
theorem fold_sp : ∀ (l : List Nat) {tb : List Nat} (v : Nat), Rd tb → (Spn (l.foldl putIn tb) v ↔ Spn (tb ++ l) v)
  | [], tb, v, _ => by rw [List.append_nil]; rfl
  | m :: l, tb, v, h => by
    show Spn (l.foldl putIn (putIn tb m)) v ↔ _
    rw [fold_sp l v (putIn_rd h m)]
    have both : ∀ {A B : List Nat}, (∀ a ∈ A, Spn B a) → (∀ b ∈ B, Spn A b) → (Spn A v ↔ Spn B v) := fun h1 h2 => ⟨Spn.sub h1, Spn.sub h2⟩
    refine both (fun a ha => ?_) fun b hb => ?_
    · rcases List.mem_append.mp ha with ha | ha
      · exact ((putIn_sp h m a).mp (.one ha)).mono fun x hx => by
          rcases List.mem_append.mp hx with hx | hx
          · exact List.mem_append_left _ hx
          · rw [List.mem_singleton.mp hx]; exact List.mem_append_right _ List.mem_cons_self
      · exact .one (List.mem_append_right _ (List.mem_cons_of_mem _ ha))
    · rcases List.mem_append.mp hb with hb | hb
      · exact ((putIn_sp h m b).mpr (.one (List.mem_append_left _ hb))).mono fun x hx => List.mem_append_left _ hx
      · rcases List.mem_cons.mp hb with rfl | hb
        · exact ((putIn_sp h b b).mpr (.one (List.mem_append_right _ (List.mem_singleton.mpr rfl)))).mono fun x hx => List.mem_append_left _ hx
        · exact .one (List.mem_append_right _ hb)
theorem redNums_sp (l : List Nat) (v : Nat) : Spn (redNums l) v ↔ Spn l v := by
  have := fold_sp l (tb := []) v Rd.nil
  rwa [List.nil_append] at this
theorem fold_sorted : ∀ (l : List Nat) {tb : List Nat}, tb.Pairwise (fun a b => b ≤ a) → (l.foldl putIn tb).Pairwise (fun a b => b ≤ a)
  | [], _, h => h
  | m :: l, _, h => fold_sorted l (putIn_sorted m h)
theorem redNums_sorted (l : List Nat) : (redNums l).Pairwise (fun a b => b ≤ a) := fold_sorted l .nil
theorem redNums_lt {l : List Nat} {w : Nat} (h : ∀ a ∈ l, a < 2 ^ w) : ∀ a ∈ redNums l, a < 2 ^ w := fun a ha => ((redNums_sp l a).mp (.one ha)).lt h
theorem fold_len_le : ∀ (l : List Nat) (tb : List Nat), (l.foldl putIn tb).length ≤ tb.length + l.length
  | [], _ => Nat.le_refl _
  | m :: l, tb => by
    show (l.foldl putIn (putIn tb m)).length ≤ _
    have h1 := fold_len_le l (putIn tb m)
    have h2 := putIn_len (tb := tb) m
    rw [List.length_cons]
    split at h2 <;> omega
theorem redNums_len_le (l : List Nat) : (redNums l).length ≤ l.length := by
  have := fold_len_le l []
  simpa [redNums] using this
/-- each row with a bit of its own: none is lost -/
theorem fold_len : ∀ (l : List Nat) (tb done : List Nat), Rd tb → (∀ v, Spn tb v → Spn done v) → (∀ (i a : Nat), l[i]? = some a → ¬ Spn (done ++ l.take i) a) → (l.foldl putIn tb).length = tb.length + l.length
  | [], _, _, _, _, _ => rfl
  | m :: l, tb, done, R, hd, hi => by
    show (l.foldl putIn (putIn tb m)).length = _
    have h0 := hi 0 m rfl
    rw [List.take_zero, List.append_nil] at h0
    have nz : restBy tb m ≠ 0 := fun z => h0 (hd m ((restBy_zero R m).mp z))
    rw [fold_len l (putIn tb m) (done ++ [m]) (putIn_rd R m) ?_ ?_, putIn_len, if_neg nz, List.length_cons]
    · omega
    · intro v hv
      refine ((putIn_sp R m v).mp hv).sub fun a ha => ?_
      rcases List.mem_append.mp ha with ha | ha
      · exact (hd a (.one ha)).mono fun x hx => List.mem_append_left _ hx
      · exact .one (List.mem_append_right _ ha)
    · intro i a h
      have := hi (i + 1) a (by simpa using h)
      rw [List.take_succ_cons] at this
      rwa [List.append_assoc, List.singleton_append]
theorem redNums_len {l : List Nat} (h : ∀ (i a : Nat), l[i]? = some a → ¬ Spn (l.take i) a) : (redNums l).length = l.length := by
  have := fold_len l [] [] Rd.nil (fun _ h => h) (fun i a e => by rw [List.nil_append]; exact h i a e)
  simpa [redNums] using this
/-- .. told by bits -/
theorem redNums_len_bits {l : List Nat} (h : ∀ (i a : Nat), l[i]? = some a → ∃ k : Nat, a.testBit k = true ∧ ∀ (j b : Nat), j < i → l[j]? = some b → b.testBit k = false) : (redNums l).length = l.length := by
  refine redNums_len fun i a e hs => ?_
  obtain ⟨k, h1, h2⟩ := h i a e
  have := hs.bit (k := k) fun b hb => by
    obtain ⟨j, hj, e'⟩ := List.mem_iff_getElem.mp hb
    rw [List.length_take] at hj
    refine h2 j b (by omega) ?_
    rw [List.getElem_take] at e'
    rw [← e', List.getElem?_eq_getElem (by omega)]
  rw [h1] at this; cases this
end Kp
end
section
set_option maxHeartbeats 200000
/-! Plain mathematics, third part: the kernel. -/
namespace Kp
def pvt (tb : List Nat) (w : Nat) : List Nat := tb.map fun h => w - bl h
def kvec (tb : List Nat) (w p : Nat) : Nat := tb.foldl (fun n h => if h >>> (w - 1 - p) &&& 1 ≠ 0 then n ||| 1 <<< (w - 1 - (w - bl h)) else n) (1 <<< (w - 1 - p))
def freeP (tb : List Nat) (w : Nat) : List Nat := (List.range w).filter fun p => !decide (p ∈ pvt tb w)
def kern (L : List Nat) (w : Nat) : List Nat := redNums ((freeP (redNums L) w).map (kvec (redNums L) w))
theorem one_shl (k : Nat) : 1 <<< k = 2 ^ k := by rw [Nat.shiftLeft_eq, Nat.one_mul]
theorem kvec_bit {w p b : Nat} : ∀ (tb : List Nat) (n : Nat), (∀ h ∈ tb, h ≠ 0 ∧ h < 2 ^ w) →
    (tb.foldl (fun n h => if h >>> (w - 1 - p) &&& 1 ≠ 0 then n ||| 1 <<< (w - 1 - (w - bl h)) else n) n).testBit b = (n.testBit b || tb.any fun h => h.testBit (w - 1 - p) && decide (h.log2 = b))
  | [], n, _ => by simp
  | h :: t, n, H => by
    obtain ⟨nz, lt⟩ := H h List.mem_cons_self
    have hl : h.log2 < w := (Nat.log2_lt nz).mpr lt
    rw [List.foldl_cons, kvec_bit t _ fun x hx => H x (List.mem_cons_of_mem _ hx), List.any_cons]
    have e : w - 1 - (w - bl h) = h.log2 := by rw [bl_pos nz]; omega
    rw [e]
    by_cases q : h >>> (w - 1 - p) &&& 1 ≠ 0
    · rw [if_pos q, Nat.testBit_or, one_shl, Nat.testBit_two_pow, (shr_bit _ _).mp q, Bool.true_and, Bool.or_assoc]
    · rw [if_neg q]
      have : h.testBit (w - 1 - p) = false := by
        cases z : h.testBit (w - 1 - p) with
        | false => rfl
        | true => exact absurd ((shr_bit _ _).mpr z) q
      rw [this]; simp
theorem kvec_tb {tb : List Nat} {w p b : Nat} (H : ∀ h ∈ tb, h ≠ 0 ∧ h < 2 ^ w) : (kvec tb w p).testBit b = (decide (w - 1 - p = b) || tb.any fun h => h.testBit (w - 1 - p) && decide (h.log2 = b)) := by
  unfold kvec
  rw [kvec_bit tb _ H, one_shl, Nat.testBit_two_pow]
section
variable {tb : List Nat} {w : Nat}
structure Tb (tb : List Nat) (w : Nat) : Prop where
  rd : Rd tb
  lt : ∀ h ∈ tb, h < 2 ^ w
theorem Tb.H (T : Tb tb w) : ∀ h ∈ tb, h ≠ 0 ∧ h < 2 ^ w := fun h hh => ⟨T.rd.nz h hh, T.lt h hh⟩
theorem Tb.log (T : Tb tb w) {h : Nat} (hh : h ∈ tb) : h.log2 < w := (Nat.log2_lt (T.rd.nz h hh)).mpr (T.lt h hh)
theorem mem_free (T : Tb tb w) {p : Nat} : p ∈ freeP tb w ↔ p < w ∧ ∀ h ∈ tb, h.log2 ≠ w - 1 - p := by
  unfold freeP pvt
  rw [List.mem_filter, List.mem_range]
  simp only [Bool.not_eq_true', decide_eq_false_iff_not, List.mem_map, not_exists, not_and]
  constructor
  · rintro ⟨h1, h2⟩
    refine ⟨h1, fun h hh e => h2 h hh ?_⟩
    have := T.log hh
    rw [bl_pos (T.rd.nz h hh)]; omega
  · rintro ⟨h1, h2⟩
    refine ⟨h1, fun h hh e => h2 h hh ?_⟩
    have := T.log hh
    rw [bl_pos (T.rd.nz h hh)] at e; omega
/-- a leading bit stands in its own row alone -/
theorem Rd.only {tb : List Nat} (R : Rd tb) : ∀ {a b : Nat}, a ∈ tb → b ∈ tb → a.testBit b.log2 = true → a = b := by
  induction tb with
  | nil => intro a b h; simp at h
  | cons c t ih =>
    intro a b ha hb e
    have hp := List.pairwise_cons.mp R.ap
    rcases List.mem_cons.mp ha with h1 | h1 <;> rcases List.mem_cons.mp hb with h2 | h2
    · rw [h1, h2]
    · rw [h1, (hp.1 b h2).1] at e; cases e
    · rw [h2, (hp.1 a h1).2] at e; cases e
    · exact ih R.tail h1 h2 e
/-- at free places -/
theorem kvec_free (T : Tb tb w) {p q : Nat} (hp : p < w) (hq : q ∈ freeP tb w) : (kvec tb w p).testBit (w - 1 - q) = decide (p = q) := by
  obtain ⟨q1, q2⟩ := (mem_free T).mp hq
  rw [kvec_tb T.H]
  have h1 : (tb.any fun h => h.testBit (w - 1 - p) && decide (h.log2 = w - 1 - q)) = false := by
    rw [List.any_eq_false]
    intro h hh z
    simp only [Bool.and_eq_true, decide_eq_true_eq] at z
    exact q2 h hh z.2
  rw [h1, Bool.or_false]
  by_cases e : p = q
  · subst e; simp
  · rw [decide_eq_false e, decide_eq_false (by omega)]
theorem kvec_perp (T : Tb tb w) {p h : Nat} (hp : p ∈ freeP tb w) (hh : h ∈ tb) : dot h (kvec tb w p) = false := by
  obtain ⟨p1, p2⟩ := (mem_free T).mp hp
  have nz := T.rd.nz h hh
  unfold dot
  cases e : h.testBit (w - 1 - p) with
  | true =>
    have : h &&& kvec tb w p = 2 ^ (w - 1 - p) ^^^ 2 ^ h.log2 := by
      apply Nat.eq_of_testBit_eq
      intro b
      rw [Nat.testBit_and, Nat.testBit_xor, Nat.testBit_two_pow, Nat.testBit_two_pow, kvec_tb T.H]
      by_cases b1 : w - 1 - p = b
      · subst b1
        rw [e, decide_eq_false (p2 h hh)]; simp
      · rw [decide_eq_false b1]
        by_cases b2 : h.log2 = b
        · subst b2
          rw [Nat.testBit_log2 nz]
          have : (tb.any fun h' => h'.testBit (w - 1 - p) && decide (h'.log2 = h.log2)) = true := List.any_eq_true.mpr ⟨h, hh, by rw [e]; simp⟩
          rw [this]; simp
        · rw [decide_eq_false b2]
          simp only [Bool.false_or, Bool.xor_false, Bool.and_eq_false_iff]
          cases z : h.testBit b with
          | false => exact .inl rfl
          | true =>
            right
            rw [List.any_eq_false]
            intro h' hh' q
            simp only [Bool.and_eq_true, decide_eq_true_eq] at q
            have := T.rd.only hh hh' (by rw [q.2]; exact z)
            subst this
            exact b2 q.2
    rw [this, par_xor, par_pow, par_pow]; rfl
  | false =>
    have : h &&& kvec tb w p = 0 := by
      apply Nat.eq_of_testBit_eq
      intro b
      rw [Nat.testBit_and, kvec_tb T.H, Nat.zero_testBit]
      cases z : h.testBit b with
      | false => rfl
      | true =>
        rw [Bool.true_and, Bool.or_eq_false_iff]
        refine ⟨decide_eq_false fun q => ?_, ?_⟩
        · subst q; rw [e] at z; cases z
        · rw [List.any_eq_false]
          intro h' hh' q
          simp only [Bool.and_eq_true, decide_eq_true_eq] at q
          have := T.rd.only hh hh' (by rw [q.2]; exact z)
          subst this
          rw [e] at q; exact absurd q.1 (by decide)
    rw [this, par_zero]
theorem kvec_lt (T : Tb tb w) {p : Nat} (hp : p < w) : kvec tb w p < 2 ^ w := by
  apply Nat.lt_pow_two_of_testBit
  intro b hb
  rw [kvec_tb T.H, Bool.or_eq_false_iff]
  refine ⟨decide_eq_false (by omega), ?_⟩
  rw [List.any_eq_false]
  intro h hh q
  simp only [Bool.and_eq_true, decide_eq_true_eq] at q
  have := T.log hh
  omega
def comb (tb : List Nat) (w v : Nat) : List Nat → Nat
  | [] => 0
  | p :: t => (if v.testBit (w - 1 - p) then kvec tb w p else 0) ^^^ comb tb w v t
theorem comb_sp (v : Nat) : ∀ l : List Nat, Spn (l.map (kvec tb w)) (comb tb w v l)
  | [] => .zero
  | p :: t => by
    refine Spn.xor ?_ ((comb_sp v t).mono fun x hx => List.mem_cons_of_mem _ hx)
    split
    · exact .one List.mem_cons_self
    · exact .zero
theorem comb_bit (T : Tb tb w) (v : Nat) {q : Nat} (hq : q ∈ freeP tb w) : ∀ l : List Nat, l.Nodup → (∀ p ∈ l, p < w) → (comb tb w v l).testBit (w - 1 - q) = (decide (q ∈ l) && v.testBit (w - 1 - q))
  | [], _, _ => by simp [comb]
  | p :: t, nd, hl => by
    have hn := List.nodup_cons.mp nd
    show ((if v.testBit (w - 1 - p) then kvec tb w p else 0) ^^^ comb tb w v t).testBit _ = _
    rw [Nat.testBit_xor, comb_bit T v hq t hn.2 fun x hx => hl x (List.mem_cons_of_mem _ hx)]
    by_cases e : p = q
    · subst e
      rw [decide_eq_false hn.1, Bool.false_and, Bool.xor_false]
      have : p ∈ p :: t := List.mem_cons_self
      rw [decide_eq_true this, Bool.true_and]
      cases z : v.testBit (w - 1 - p) with
      | true => rw [if_pos rfl, kvec_free T (hl p List.mem_cons_self) hq]; simp
      | false => simp
    · have h1 : (if v.testBit (w - 1 - p) then kvec tb w p else 0).testBit (w - 1 - q) = false := by
        split
        · rw [kvec_free T (hl p List.mem_cons_self) hq, decide_eq_false e]
        · simp
      rw [h1, Bool.false_xor]
      congr 1
      by_cases m : q ∈ t
      · rw [decide_eq_true m, decide_eq_true (List.mem_cons_of_mem _ m)]
      · rw [decide_eq_false m, decide_eq_false fun z => (List.mem_cons.mp z).elim (fun z => e z.symm) m]
theorem free_nodup : (freeP tb w).Nodup := List.Pairwise.filter _ List.nodup_range
theorem ker_sp (T : Tb tb w) (v : Nat) : Spn ((freeP tb w).map (kvec tb w)) v ↔ v < 2 ^ w ∧ ∀ h ∈ tb, dot h v = false := by
  constructor
  · intro hv
    refine ⟨hv.lt fun a ha => ?_, fun h hh => ?_⟩
    · obtain ⟨p, hp, rfl⟩ := List.mem_map.mp ha
      exact kvec_lt T ((mem_free T).mp hp).1
    · have : ∀ u, Spn ((freeP tb w).map (kvec tb w)) u → dot h u = false := by
        intro u hu
        induction hu with
        | zero => exact dot_zero_right h
        | add _ ha ih =>
          obtain ⟨p, hp, rfl⟩ := List.mem_map.mp ha
          rw [dot_xor_right, ih, kvec_perp T hp hh]; rfl
      exact this v hv
  · rintro ⟨hlt, hp⟩
    have hx := comb_sp (tb := tb) (w := w) v (freeP tb w)
    have key : v ^^^ comb tb w v (freeP tb w) = 0 := by
      have ult : v ^^^ comb tb w v (freeP tb w) < 2 ^ w := Nat.xor_lt_two_pow hlt (hx.lt fun a ha => by
        obtain ⟨p, hp, rfl⟩ := List.mem_map.mp ha
        exact kvec_lt T ((mem_free T).mp hp).1)
      have uperp : ∀ h ∈ tb, dot h (v ^^^ comb tb w v (freeP tb w)) = false := by
        intro h hh
        have : ∀ u, Spn ((freeP tb w).map (kvec tb w)) u → dot h u = false := by
          intro u hu
          induction hu with
          | zero => exact dot_zero_right h
          | add _ ha ih =>
            obtain ⟨p, hp, rfl⟩ := List.mem_map.mp ha
            rw [dot_xor_right, ih, kvec_perp T hp hh]; rfl
        rw [dot_xor_right, hp h hh, this _ hx]; rfl
      have ufree : ∀ q ∈ freeP tb w, (v ^^^ comb tb w v (freeP tb w)).testBit (w - 1 - q) = false := by
        intro q hq
        rw [Nat.testBit_xor, comb_bit T v hq _ free_nodup fun p hp => ((mem_free T).mp hp).1, decide_eq_true hq]; simp
      generalize v ^^^ comb tb w v (freeP tb w) = u at *
      -- no bit at all
      have bits : ∀ b, u.testBit b = true → ∃ h ∈ tb, h.log2 = b := by
        intro b hb
        have bw : b < w := by
          by_cases z : b < w
          · exact z
          · rw [Nat.testBit_lt_two_pow (Nat.lt_of_lt_of_le ult (Nat.pow_le_pow_right (by decide) (by omega)))] at hb; cases hb
        by_cases f : w - 1 - b ∈ freeP tb w
        · have := ufree _ f
          rw [show w - 1 - (w - 1 - b) = b by omega, hb] at this; cases this
        · by_cases ex : ∃ h ∈ tb, h.log2 = b
          · exact ex
          · refine absurd ((mem_free T).mpr ⟨by omega, fun h hh e => ex ⟨h, hh, ?_⟩⟩) f
            omega
      apply Nat.eq_of_testBit_eq
      intro b
      rw [Nat.zero_testBit]
      cases hb : u.testBit b with
      | false => rfl
      | true =>
        obtain ⟨h, hh, rfl⟩ := bits b hb
        have e : h &&& u = 2 ^ h.log2 := by
          apply Nat.eq_of_testBit_eq
          intro c
          rw [Nat.testBit_and, Nat.testBit_two_pow]
          by_cases c1 : h.log2 = c
          · subst c1; rw [hb, Nat.testBit_log2 (T.rd.nz h hh)]; simp
          · rw [decide_eq_false c1, Bool.and_eq_false_iff]
            cases z : u.testBit c with
            | false => exact .inr rfl
            | true =>
              left
              obtain ⟨h', hh', rfl⟩ := bits c z
              cases y : h.testBit h'.log2 with
              | false => rfl
              | true => exact absurd (congrArg Nat.log2 (T.rd.only hh hh' y)) c1
        have := uperp h hh
        unfold dot at this
        rw [e, par_pow] at this; cases this
    rw [xor_eq_zero key]
    exact hx
/-- a place taken away -/
theorem filter_drop {f : Nat → Bool} {p : Nat} (hf : f p = true) : ∀ {l : List Nat}, l.Nodup → p ∈ l → (l.filter fun x => f x && !decide (x = p)).length + 1 = (l.filter f).length
  | [], _, h => by simp at h
  | a :: t, nd, h => by
    have hn := List.nodup_cons.mp nd
    by_cases e : a = p
    · subst e
      have : (t.filter fun x => f x && !decide (x = a)) = t.filter f := List.filter_congr fun x hx => by
        have : x ≠ a := fun z => hn.1 (z ▸ hx)
        rw [decide_eq_false this]; simp
      simp only [List.filter_cons, hf, decide_true, Bool.not_true, Bool.and_false, Bool.false_eq_true, if_false, if_true, this, List.length_cons]
    · have ht : p ∈ t := (List.mem_cons.mp h).elim (fun z => absurd z.symm e) id
      have ih := filter_drop hf hn.2 ht
      simp only [List.filter_cons, decide_eq_false e, Bool.not_false, Bool.and_true]
      split
      · simp only [List.length_cons]; omega
      · exact ih
theorem filter_out {l : List Nat} (nd : l.Nodup) : ∀ {ps : List Nat}, ps.Nodup → (∀ p ∈ ps, p ∈ l) → (l.filter fun x => !decide (x ∈ ps)).length + ps.length = l.length
  | [], _, _ => by simp
  | p :: ps, np, h => by
    have hn := List.nodup_cons.mp np
    have ih := filter_out nd hn.2 fun x hx => h x (List.mem_cons_of_mem _ hx)
    have q := filter_drop (f := fun x => !decide (x ∈ ps)) (p := p) (by simp [hn.1]) nd (h p List.mem_cons_self)
    have e : (l.filter fun x => !decide (x ∈ p :: ps)) = l.filter fun x => (!decide (x ∈ ps)) && !decide (x = p) := List.filter_congr fun x _ => by
      by_cases a : x = p <;> by_cases b : x ∈ ps <;> simp [a, b]
    rw [e, List.length_cons]
    omega
theorem free_len (T : Tb tb w) : (freeP tb w).length + tb.length = w := by
  have nd : (pvt tb w).Nodup := by
    unfold pvt List.Nodup
    rw [List.pairwise_map]
    refine T.rd.ap.imp_of_mem fun {a b} ha hb hab e => ?_
    have h1 := T.log ha
    have h2 := T.log hb
    rw [bl_pos (T.rd.nz a ha), bl_pos (T.rd.nz b hb)] at e
    have e2 : a.log2 = b.log2 := by omega
    have := hab.1
    rw [← e2, Nat.testBit_log2 (T.rd.nz a ha)] at this
    cases this
  have := filter_out (List.nodup_range (n := w)) nd fun p hp => by
    obtain ⟨h, hh, rfl⟩ := List.mem_map.mp hp
    have := T.log hh
    rw [List.mem_range, bl_pos (T.rd.nz h hh)]; omega
  rw [List.length_range] at this
  have l2 : (pvt tb w).length = tb.length := by unfold pvt; rw [List.length_map]
  unfold freeP
  omega
end
/-! ### the kernel of a list -/
section
variable {L : List Nat} {w : Nat}
theorem tb_of (h : ∀ a ∈ L, a < 2 ^ w) : Tb (redNums L) w := ⟨redNums_rd L, redNums_lt h⟩
theorem kern_rd : Rd (kern L w) := redNums_rd _
theorem kern_sorted : (kern L w).Pairwise (fun a b => b ≤ a) := redNums_sorted _
theorem kern_sp (h : ∀ a ∈ L, a < 2 ^ w) (v : Nat) : Spn (kern L w) v ↔ v < 2 ^ w ∧ ∀ a ∈ L, dot a v = false := by
  unfold kern
  rw [redNums_sp, ker_sp (tb_of h)]
  constructor
  · rintro ⟨h1, h2⟩
    exact ⟨h1, fun a ha => ((redNums_sp L a).mpr (.one ha)).dot h2⟩
  · rintro ⟨h1, h2⟩
    exact ⟨h1, fun a ha => ((redNums_sp L a).mp (.one ha)).dot h2⟩
theorem kern_len (h : ∀ a ∈ L, a < 2 ^ w) : (kern L w).length + (redNums L).length = w := by
  have T := tb_of h
  have fl := free_len T
  suffices z : (kern L w).length = (freeP (redNums L) w).length by omega
  unfold kern
  rw [redNums_len_bits ?_, List.length_map]
  intro i a e
  rw [List.getElem?_map] at e
  cases q : (freeP (redNums L) w)[i]? with
  | none => rw [q] at e; cases e
  | some p =>
    rw [q] at e
    have ea : a = kvec (redNums L) w p := (Option.some.inj e).symm
    subst ea
    have hp := List.mem_of_getElem? q
    have pw := ((mem_free T).mp hp).1
    refine ⟨w - 1 - p, by rw [kvec_free T pw hp]; simp, fun j b hj e' => ?_⟩
    rw [List.getElem?_map] at e'
    cases q' : (freeP (redNums L) w)[j]? with
    | none => rw [q'] at e'; cases e'
    | some p' =>
      rw [q'] at e'
      have eb : b = kvec (redNums L) w p' := (Option.some.inj e').symm
      subst eb
      rw [kvec_free T ((mem_free T).mp (List.mem_of_getElem? q')).1 hp]
      refine decide_eq_false fun z => ?_
      subst z
      obtain ⟨i1, i2⟩ := List.getElem?_eq_some_iff.mp q
      obtain ⟨j1, j2⟩ := List.getElem?_eq_some_iff.mp q'
      have := (List.getElem_inj (free_nodup (tb := redNums L) (w := w)) (h₀ := j1) (h₁ := i1)).mp (j2.trans i2.symm)
      omega
end
end Kp
end
section
set_option maxHeartbeats 200000
/-! numbers by their bits -/
namespace Kp
theorem bit_eq (x k : Nat) : x >>> k &&& 1 = x / 2 ^ k % 2 := by rw [Nat.shiftRight_eq_div_pow, Nat.and_one_is_mod]
/-- the powers at the places of p, summed -/
def bsum (p : Nat → Bool) (n : Nat) : Nat := (((List.range n).filter p).map fun i => 1 <<< i).sum
theorem bsum_succ (p : Nat → Bool) (n : Nat) : bsum p (n + 1) = bsum p n + if p n then 2 ^ n else 0 := by
  unfold bsum
  rw [List.range_succ, List.filter_append, List.map_append, List.sum_append]
  cases h : p n with
  | true => simp [h, Nat.shiftLeft_eq]
  | false => simp [h]
theorem bsum_of (x n : Nat) : bsum (fun i => x >>> i &&& 1 != 0) n = x % 2 ^ n := by
  induction n with
  | zero => rw [Nat.pow_zero, Nat.mod_one]; rfl
  | succ n ih =>
    rw [bsum_succ, ih, Nat.mod_pow_succ, bit_eq]
    have h : x / 2 ^ n % 2 = 0 ∨ x / 2 ^ n % 2 = 1 := by omega
    rcases h with h | h <;> simp [h]
theorem bsum_congr {p q : Nat → Bool} {n : Nat} (h : ∀ i, i < n → p i = q i) : bsum p n = bsum q n := by
  unfold bsum
  rw [List.filter_congr fun i hi => h i (List.mem_range.mp hi)]
theorem bsum_lt (p : Nat → Bool) (n : Nat) : bsum p n < 2 ^ n := by
  induction n with
  | zero => exact Nat.one_pos
  | succ n ih =>
    rw [bsum_succ, Nat.pow_succ]
    split <;> omega
theorem bsum_bit (p : Nat → Bool) (n : Nat) : ∀ k, k < n → (bsum p n >>> k &&& 1) = if p k then 1 else 0 := by
  induction n with
  | zero => intro k h; omega
  | succ n ih =>
    intro k hk
    rw [bsum_succ, bit_eq]
    have hlt := bsum_lt p n
    by_cases e : k = n
    · subst e
      have : (bsum p k + if p k = true then 2 ^ k else 0) / 2 ^ k = if p k = true then 1 else 0 := by
        split
        · rw [Nat.add_div_right _ (Nat.two_pow_pos k), Nat.div_eq_of_lt hlt]
        · rw [Nat.add_zero, Nat.div_eq_of_lt hlt]
      rw [this]
      split <;> rfl
    · have hk' : k < n := by omega
      rw [← ih k hk', bit_eq]
      split
      · have e2 : 2 ^ n = 2 ^ k * (2 * 2 ^ (n - k - 1)) := by
          rw [← Nat.mul_assoc, ← Nat.pow_succ, ← Nat.pow_add]; congr 1; omega
        rw [e2, Nat.add_mul_div_left _ _ (Nat.two_pow_pos k), Nat.add_mul_mod_self_left]
      · rw [Nat.add_zero]
end Kp
end
section
set_option maxHeartbeats 200000
/-! the table of rows, reduced place by place (mirror of the text) -/
namespace Kp
def rw0 : Row := ⟨0, 0, 0⟩
/-- which rows from p on bear column c -/
def fnd (l : List Row) (p n c : Nat) : List Nat := ((List.range (l.length - p)).filter fun i => col (l.getD (p + i) rw0) n c != 0).map (p + ·)
def swp (l : List Row) (p f : Nat) : List Row := (l.set p (l.getD f rw0)).set f (l.getD p rw0)
def cl1 (p n c : Nat) (h : Row) (k : Nat) (r : Row) : Row := if k ≠ p ∧ col r n c ≠ 0 then mul r h else r
def clrTo (l : List Row) (p n c : Nat) (h : Row) (j : Nat) : List Row := l.mapIdx fun k r => if k < j then cl1 p n c h k r else r
def clr (l : List Row) (p n c : Nat) (h : Row) : List Row := l.mapIdx (cl1 p n c h)
def colStep (n : Nat) (st : List Row × Nat) (c : Nat) : List Row × Nat :=
  match fnd st.1 st.2 n c with
  | [] => st
  | f :: _ => (clr (swp st.1 st.2 f) st.2 n c ((swp st.1 st.2 f).getD st.2 rw0), st.2 + 1)
def redSt (l : List Row) (n m : Nat) : List Row × Nat := (List.range m).foldl (colStep n) (l, 0)
def redRows (l : List Row) (n : Nat) : List Row := (redSt l n (2 * n)).1.take (redSt l n (2 * n)).2
theorem redSt_succ (l : List Row) (n m : Nat) : redSt l n (m + 1) = colStep n (redSt l n m) m := by unfold redSt; rw [List.range_succ, List.foldl_append]; rfl
theorem swp_len (l : List Row) (p f : Nat) : (swp l p f).length = l.length := by unfold swp; rw [List.length_set, List.length_set]
theorem clr_len (l : List Row) (p n c : Nat) (h : Row) : (clr l p n c h).length = l.length := by unfold clr; rw [List.length_mapIdx]
theorem clrTo_len (l : List Row) (p n c : Nat) (h : Row) (j : Nat) : (clrTo l p n c h j).length = l.length := by unfold clrTo; rw [List.length_mapIdx]
theorem clrTo_zero (l : List Row) (p n c : Nat) (h : Row) : clrTo l p n c h 0 = l := by
  unfold clrTo
  apply List.ext_getElem (by rw [List.length_mapIdx])
  intro i h1 h2
  rw [List.getElem_mapIdx, if_neg (by omega)]
theorem clrTo_all (l : List Row) (p n c : Nat) (h : Row) : clrTo l p n c h l.length = clr l p n c h := by
  unfold clrTo clr
  apply List.ext_getElem (by rw [List.length_mapIdx, List.length_mapIdx])
  intro i h1 h2
  rw [List.length_mapIdx] at h1
  rw [List.getElem_mapIdx, List.getElem_mapIdx, if_pos h1]
theorem clrTo_at {l : List Row} {p n c : Nat} {h : Row} {j : Nat} {r : Row} (e : l[j]? = some r) : (clrTo l p n c h j)[j]? = some r := by
  unfold clrTo
  rw [List.getElem?_mapIdx, e]
  simp
theorem clrTo_succ {l : List Row} {p n c : Nat} {h : Row} {j : Nat} {r : Row} (e : l[j]? = some r) : clrTo l p n c h (j + 1) = (clrTo l p n c h j).set j (cl1 p n c h j r) := by
  apply List.ext_getElem?
  intro i
  rw [List.getElem?_set]
  unfold clrTo
  rw [List.getElem?_mapIdx, List.getElem?_mapIdx, List.length_mapIdx]
  by_cases q : j = i
  · subst q
    rw [if_pos rfl, e, if_pos (List.getElem?_eq_some_iff.mp e).1]
    simp
  · rw [if_neg q]
    have : (i < j + 1) = (i < j) := by
      apply propext; omega
    simp only [this]
theorem clrTo_same {l : List Row} {p n c : Nat} {h : Row} {j : Nat} {r : Row} (e : l[j]? = some r) (s : cl1 p n c h j r = r) : clrTo l p n c h (j + 1) = clrTo l p n c h j := by
  rw [clrTo_succ e, s]
  have := clrTo_at (p := p) (n := n) (c := c) (h := h) e
  apply List.ext_getElem?
  intro i
  rw [List.getElem?_set]
  by_cases q : j = i
  · subst q
    rw [if_pos rfl, this, if_pos (List.getElem?_eq_some_iff.mp this).1]
  · rw [if_neg q]
theorem fnd_mem {l : List Row} {p n c f : Nat} (h : f ∈ fnd l p n c) : p ≤ f ∧ f < l.length ∧ col (l.getD f rw0) n c ≠ 0 := by
  unfold fnd at h
  obtain ⟨i, hi, rfl⟩ := List.mem_map.mp h
  obtain ⟨h1, h2⟩ := List.mem_filter.mp hi
  have := List.mem_range.mp h1
  exact ⟨by omega, by omega, by simpa using h2⟩
theorem fnd_nil {l : List Row} {p n c : Nat} (h : fnd l p n c = []) : ∀ k, p ≤ k → k < l.length → col (l.getD k rw0) n c = 0 := by
  intro k h1 h2
  unfold fnd at h
  rw [List.map_eq_nil_iff, List.filter_eq_nil_iff] at h
  have := h (k - p) (List.mem_range.mpr (by omega))
  rw [show p + (k - p) = k by omega] at this
  simpa using this
theorem colStep_len (n : Nat) (st : List Row × Nat) (c : Nat) : (colStep n st c).1.length = st.1.length := by
  unfold colStep
  split
  · rfl
  · rw [clr_len, swp_len]
theorem colStep_le {n : Nat} {st : List Row × Nat} {c : Nat} (h : st.2 ≤ st.1.length) : (colStep n st c).2 ≤ (colStep n st c).1.length := by
  rw [colStep_len]
  unfold colStep
  split
  · exact h
  · rename_i f r e
    have := fnd_mem (l := st.1) (p := st.2) (n := n) (c := c) (f := f) (by rw [e]; exact List.mem_cons_self)
    show st.2 + 1 ≤ _
    omega
theorem redSt_len (l : List Row) (n m : Nat) : (redSt l n m).1.length = l.length := by
  induction m with
  | zero => rfl
  | succ m ih => rw [redSt_succ, colStep_len, ih]
theorem redSt_le (l : List Row) (n m : Nat) : (redSt l n m).2 ≤ (redSt l n m).1.length := by
  induction m with
  | zero => exact Nat.zero_le _
  | succ m ih => rw [redSt_succ]; exact colStep_le ih
def firstCol (r : Row) (n : Nat) : Option Nat := (List.range (2 * n)).find? fun c => col r n c != 0
theorem firstCol_some {r : Row} {n c : Nat} (h : c < 2 * n) (h1 : col r n c ≠ 0) (h2 : ∀ d, d < c → col r n d = 0) : firstCol r n = some c := by
  unfold firstCol
  rw [List.find?_range_eq_some]
  refine ⟨by simpa using h1, List.mem_range.mpr h, fun d hd => ?_⟩
  simp [h2 d hd]
theorem firstCol_none {r : Row} {n : Nat} (h : ∀ c, c < 2 * n → col r n c = 0) : firstCol r n = none := by
  unfold firstCol
  rw [List.find?_range_eq_none]
  intro c hc
  simp [h c hc]
theorem firstCol_iff {r : Row} {n c : Nat} (h : firstCol r n = some c) : c < 2 * n ∧ col r n c ≠ 0 ∧ ∀ d, d < c → col r n d = 0 := by
  unfold firstCol at h
  rw [List.find?_range_eq_some] at h
  obtain ⟨h1, h2, h3⟩ := h
  refine ⟨List.mem_range.mp h2, by simpa using h1, fun d hd => ?_⟩
  have := h3 d hd
  simpa using this
theorem firstCol_no {r : Row} {n : Nat} (h : firstCol r n = none) : ∀ c, c < 2 * n → col r n c = 0 := by
  unfold firstCol at h
  rw [List.find?_range_eq_none] at h
  intro c hc
  have := h c hc
  simpa using this
theorem bit_xor (a b k : Nat) : (a ^^^ b) >>> k &&& 1 = (a >>> k &&& 1) ^^^ (b >>> k &&& 1) := by
  rw [Nat.shiftRight_xor_distrib, Nat.and_xor_distrib_right]
theorem col_mul (a b : Row) (n c : Nat) : col (mul a b) n c = col a n c ^^^ col b n c := by
  unfold col mul
  split <;> exact bit_xor _ _ _
theorem col_le (r : Row) (n c : Nat) : col r n c ≤ 1 := by
  unfold col
  split <;> exact Nat.and_le_right
theorem col_01 (r : Row) (n c : Nat) : col r n c = 0 ∨ col r n c = 1 := by have := col_le r n c; omega
/-- the heads found so far: column, row, mask -/
abbrev Hds := List (Nat × Row × Nat)
def look (hs : Hds) (c : Nat) : Option (Row × Nat) := (hs.find? fun q => decide (q.1 = c)).map (·.2)
theorem look_mem {hs : Hds} {c : Nat} {h : Row} {o : Nat} (e : look hs c = some (h, o)) : (c, h, o) ∈ hs := by
  unfold look at e
  cases q : hs.find? (fun q => decide (q.1 = c)) with
  | none => rw [q] at e; cases e
  | some t =>
    rw [q] at e
    have h1 := List.mem_of_find?_eq_some q
    have h2 := List.find?_some q
    obtain ⟨a, b, d⟩ := t
    have : a = c := of_decide_eq_true h2
    subst this
    have e2 : (b, d) = (h, o) := Option.some.inj e
    injection e2 with e3 e4
    subst e3 e4
    exact h1
theorem look_none {hs : Hds} {c : Nat} (e : look hs c = none) : ∀ q ∈ hs, q.1 ≠ c := by
  unfold look at e
  rw [Option.map_eq_none_iff, List.find?_eq_none] at e
  intro q hq z
  exact e q hq (decide_eq_true z)
inductive RedTo (hs : Hds) (n : Nat) (r : Row) : Row → Nat → Prop
  | refl : RedTo hs n r r 0
  | step {r' : Row} {m c : Nat} {h : Row} {o : Nat} : RedTo hs n r r' m → firstCol r' n = some c → look hs c = some (h, o) → RedTo hs n r (mul r' h) (m ^^^ o)
inductive IndTo (rows : List Row) (n : Nat) : Nat → List Row → Hds → Prop
  | nil : IndTo rows n 0 [] []
  | keep {i : Nat} {kept : List Row} {hs : Hds} {row left : Row} {made c : Nat} : IndTo rows n i kept hs → rows[i]? = some row → RedTo hs n row left made → firstCol left n = some c → look hs c = none → IndTo rows n (i + 1) (kept ++ [row]) (hs ++ [(c, left, made ^^^ 1 <<< i)])
  | drop {i : Nat} {kept : List Row} {hs : Hds} {row left : Row} {made : Nat} : IndTo rows n i kept hs → rows[i]? = some row → RedTo hs n row left made → firstCol left n = none → left.s ≠ 1 → IndTo rows n (i + 1) kept hs
def IndOk (rows : List Row) (n : Nat) (kept : List Row) : Prop := ∃ hs, IndTo rows n rows.length kept hs
def IndFail (rows : List Row) (n : Nat) (ks : List Nat) : Prop := ∃ i kept hs row left made, IndTo rows n i kept hs ∧ rows[i]? = some row ∧ RedTo hs n row left made ∧ firstCol left n = none ∧ left.s = 1 ∧ ks = ((List.range i).filter fun k => made >>> k &&& 1 != 0) ++ [i]
def HsOk (n : Nat) (hs : Hds) : Prop := ∀ q ∈ hs, firstCol q.2.1 n = some q.1
theorem IndTo.hsok {rows : List Row} {n i : Nat} {kept : List Row} {hs : Hds} (h : IndTo rows n i kept hs) : HsOk n hs := by
  induction h with
  | nil => intro q hq; simp at hq
  | keep _ _ _ f _ ih =>
    intro q hq
    rcases List.mem_append.mp hq with h | h
    · exact ih q h
    · rw [List.mem_singleton.mp h]; exact f
  | drop _ _ _ _ _ ih => exact ih
theorem IndTo.len {rows : List Row} {n i : Nat} {kept : List Row} {hs : Hds} (h : IndTo rows n i kept hs) : kept.length = hs.length ∧ kept.length ≤ i := by
  induction h with
  | nil => exact ⟨rfl, Nat.le_refl _⟩
  | keep _ _ _ f _ ih => simp only [List.length_append, List.length_cons, List.length_nil]; omega
  | drop _ _ _ _ _ ih => omega
/-- a step moves the first column on -/
theorem firstCol_step {n : Nat} {hs : Hds} (ok : HsOk n hs) {r h : Row} {c o : Nat} (f : firstCol r n = some c) (l : look hs c = some (h, o)) : ∀ d, firstCol (mul r h) n = some d → c < d := by
  intro d hd
  have fh : firstCol h n = some c := ok _ (look_mem l)
  obtain ⟨a1, a2, a3⟩ := firstCol_iff f
  obtain ⟨b1, b2, b3⟩ := firstCol_iff fh
  obtain ⟨d1, d2, d3⟩ := firstCol_iff hd
  apply Nat.lt_of_not_le
  intro hle
  apply d2
  rw [col_mul]
  by_cases e : d = c
  · subst e
    have := col_01 r n d
    have := col_01 h n d
    have e1 : col r n d = 1 := by omega
    have e2 : col h n d = 1 := by omega
    rw [e1, e2]; rfl
  · rw [a3 d (by omega), b3 d (by omega)]; rfl
/-- the pair of rows that anticommute first -/
def FirstAnti (l : List Row) (i j : Nat) : Prop := i < j ∧ j < l.length ∧ crs (l.getD i rw0) (l.getD j rw0) ≠ 0 ∧ (∀ j', j' < j → ∀ i', i' < j' → crs (l.getD i' rw0) (l.getD j' rw0) = 0) ∧ ∀ i', i' < i → crs (l.getD i' rw0) (l.getD j rw0) = 0
def Commut (l : List Row) : Prop := ∀ j, j < l.length → ∀ i, i < j → crs (l.getD i rw0) (l.getD j rw0) = 0
/-- a row of n places -/
structure Rw (n : Nat) (r : Row) : Prop where
  x : r.x < 2 ^ n
  z : r.z < 2 ^ n
  s : r.s ≤ 1
theorem xor_lt {a b n : Nat} (ha : a < 2 ^ n) (hb : b < 2 ^ n) : a ^^^ b < 2 ^ n := Nat.xor_lt_two_pow ha hb
theorem mul_s (a b : Row) : (mul a b).s ≤ 1 := by
  show (pw a b / 2 % 2).toNat ≤ 1
  omega
theorem Rw.mul {n : Nat} {a b : Row} (ha : Rw n a) (hb : Rw n b) : Rw n (mul a b) := ⟨xor_lt ha.x hb.x, xor_lt ha.z hb.z, mul_s a b⟩
theorem Rw.id (n : Nat) : Rw n rw0 := ⟨Nat.two_pow_pos n, Nat.two_pow_pos n, Nat.zero_le _⟩
theorem getD_all {p : Row → Prop} {l : List Row} (h : ∀ r ∈ l, p r) (h0 : p rw0) (i : Nat) : p (l.getD i rw0) := by
  rw [List.getD_eq_getElem?_getD]
  cases e : l[i]? with
  | none => exact h0
  | some r => exact h r (List.mem_of_getElem? e)
theorem set_all {p : Row → Prop} {l : List Row} (h : ∀ r ∈ l, p r) {i : Nat} {a : Row} (ha : p a) : ∀ r ∈ l.set i a, p r := by
  intro r hr
  rcases List.mem_or_eq_of_mem_set hr with q | q
  · exact h r q
  · rw [q]; exact ha
theorem colStep_all {n : Nat} {st : List Row × Nat} {c : Nat} (h : ∀ r ∈ st.1, Rw n r) : ∀ r ∈ (colStep n st c).1, Rw n r := by
  unfold colStep
  split
  · exact h
  · rename_i f t e
    have h2 : ∀ r ∈ swp st.1 st.2 f, Rw n r := set_all (set_all h (getD_all h (Rw.id n) _)) (getD_all h (Rw.id n) _)
    intro r hr
    have hr' : r ∈ clr (swp st.1 st.2 f) st.2 n c ((swp st.1 st.2 f).getD st.2 rw0) := hr
    unfold clr at hr'
    obtain ⟨i, hi, e⟩ := List.mem_mapIdx.mp hr'
    rw [← e]
    unfold cl1
    split
    · exact (h2 _ (List.getElem_mem hi)).mul (getD_all h2 (Rw.id n) _)
    · exact h2 _ (List.getElem_mem hi)
theorem redRows_all {n : Nat} {l : List Row} (h : ∀ r ∈ l, Rw n r) : ∀ r ∈ redRows l n, Rw n r := by
  have key : ∀ m, ∀ r ∈ (redSt l n m).1, Rw n r := by
    intro m
    induction m with
    | zero => exact h
    | succ m ih => rw [redSt_succ]; exact colStep_all ih
  intro r hr
  exact key _ r (List.mem_of_mem_take hr)
theorem redRows_len (l : List Row) (n : Nat) : (redRows l n).length ≤ l.length := by
  unfold redRows
  rw [List.length_take, redSt_len]
  exact Nat.min_le_right _ _
theorem IndTo.mem {rows : List Row} {n i : Nat} {kept : List Row} {hs : Hds} (h : IndTo rows n i kept hs) : ∀ r ∈ kept, r ∈ rows := by
  induction h with
  | nil => intro r hr; simp at hr
  | keep _ e _ _ _ ih =>
    intro r hr
    rcases List.mem_append.mp hr with q | q
    · exact ih r q
    · rw [List.mem_singleton.mp q]; exact List.mem_of_getElem? e
  | drop _ _ _ _ _ ih => exact ih
end Kp
end
section
set_option maxHeartbeats 200000
/-! parity of crossings; the law's own forms -/
namespace Kp
theorem par_mod (n : Nat) : pc n % 2 = (par n).toNat := by
  unfold par
  have : pc n % 2 = 0 ∨ pc n % 2 = 1 := by omega
  rcases this with h | h <;> rw [h] <;> rfl
theorem crs_par (a b : Row) : crs a b = (dot a.x b.z ^^ dot a.z b.x).toNat := by
  unfold crs dot
  rw [Nat.and_one_is_mod, Nat.add_mod, par_mod, par_mod]
  cases par (a.x &&& b.z) <;> cases par (a.z &&& b.x) <;> rfl
theorem crs_law (a b : Row) : pc ((a.x &&& b.z) ^^^ (a.z &&& b.x)) % 2 = crs a b := by
  rw [par_mod, par_xor, crs_par]; rfl
theorem crs_le (a b : Row) : crs a b ≤ 1 := Nat.and_le_right
theorem pw_law (a b : Row) : (pw a b % 4 / 2) = pw a b / 2 % 2 := by omega
theorem bit_mod (x k : Nat) : x >>> k % 2 = x >>> k &&& 1 := (Nat.and_one_is_mod _).symm
end Kp
end
section
set_option maxHeartbeats 200000
/-! the gates of the law -/
namespace Kp
inductive Gk | h | s | cx | cz | swap | x | z
deriving DecidableEq
def Gk.two : Gk → Bool
  | .cx => true | .cz => true | .swap => true | _ => false
def bt (v k : Nat) : Nat := v >>> k &&& 1
theorem bt_le (v k : Nat) : bt v k ≤ 1 := Nat.and_le_right
theorem xor_le1 {a b : Nat} (ha : a ≤ 1) (hb : b ≤ 1) : a ^^^ b ≤ 1 := by
  have h1 : a = 0 ∨ a = 1 := by omega
  have h2 : b = 0 ∨ b = 1 := by omega
  rcases h1 with rfl | rfl <;> rcases h2 with rfl | rfl <;> decide
def gate (g : Gk) (a b : Nat) (r : Row) : Row :=
  let one := bt r.x a
  let two := bt r.z a
  let fi := bt r.x b
  let se := bt r.z b
  match g with
  | .x => ⟨r.x, r.z, r.s ^^^ two⟩
  | .z => ⟨r.x, r.z, r.s ^^^ one⟩
  | .h => ⟨r.x ^^^ ((one ^^^ two) <<< a), r.z ^^^ ((one ^^^ two) <<< a), r.s ^^^ one * two⟩
  | .s => ⟨r.x, r.z ^^^ one <<< a, r.s ^^^ one * two⟩
  | .cx => ⟨r.x ^^^ one <<< b, r.z ^^^ se <<< a, r.s ^^^ one * se * (1 - (fi ^^^ two))⟩
  | .cz => ⟨r.x, r.z ^^^ fi <<< a ^^^ one <<< b, r.s ^^^ one * fi * (two ^^^ se)⟩
  | .swap => ⟨r.x ^^^ ((one ^^^ fi) <<< a) ^^^ ((one ^^^ fi) <<< b), r.z ^^^ ((two ^^^ se) <<< a) ^^^ ((two ^^^ se) <<< b), r.s⟩
theorem shl_lt {v a n : Nat} (hv : v ≤ 1) (ha : a < n) : v <<< a < 2 ^ n := by
  rw [Nat.shiftLeft_eq]
  have h1 : 2 ^ a < 2 ^ n := Nat.pow_lt_pow_right (by decide) ha
  have h2 : v * 2 ^ a ≤ 1 * 2 ^ a := Nat.mul_le_mul_right _ hv
  omega
theorem mul_le1 {a b : Nat} (ha : a ≤ 1) (hb : b ≤ 1) : a * b ≤ 1 := by
  have := Nat.mul_le_mul ha hb
  omega
theorem Rw.gate {n a b : Nat} {r : Row} (g : Gk) (h : Rw n r) (ha : a < n) (hb : b < n) : Rw n (gate g a b r) := by
  have l1 := bt_le r.x a
  have l2 := bt_le r.z a
  have l3 := bt_le r.x b
  have l4 := bt_le r.z b
  cases g
  · exact ⟨xor_lt h.x (shl_lt (xor_le1 l1 l2) ha), xor_lt h.z (shl_lt (xor_le1 l1 l2) ha), xor_le1 h.s (mul_le1 l1 l2)⟩
  · exact ⟨h.x, xor_lt h.z (shl_lt l1 ha), xor_le1 h.s (mul_le1 l1 l2)⟩
  · exact ⟨xor_lt h.x (shl_lt l1 hb), xor_lt h.z (shl_lt l4 ha), xor_le1 h.s (mul_le1 (mul_le1 l1 l4) (by omega))⟩
  · exact ⟨h.x, xor_lt (xor_lt h.z (shl_lt l3 ha)) (shl_lt l1 hb), xor_le1 h.s (mul_le1 (mul_le1 l1 l3) (xor_le1 l2 l4))⟩
  · exact ⟨xor_lt (xor_lt h.x (shl_lt (xor_le1 l1 l3) ha)) (shl_lt (xor_le1 l1 l3) hb), xor_lt (xor_lt h.z (shl_lt (xor_le1 l2 l4) ha)) (shl_lt (xor_le1 l2 l4) hb), h.s⟩
  · exact ⟨h.x, h.z, xor_le1 h.s l2⟩
  · exact ⟨h.x, h.z, xor_le1 h.s l1⟩
end Kp
end
section
set_option maxHeartbeats 200000
/-! the drawn code: marks, gates, rows -/
namespace Kp
structure Gt where
  g : Gk
  a : Nat
  b : Nat
def Gt.ok (n : Nat) (t : Gt) : Prop := t.a < n ∧ t.b < n ∧ (t.g.two = true → t.a ≠ t.b)
def appG (gs : List Gt) (r : Row) : Row := gs.foldl (fun r t => gate t.g t.a t.b r) r
theorem appG_snoc (gs : List Gt) (t : Gt) (r : Row) : appG (gs ++ [t]) r = gate t.g t.a t.b (appG gs r) := by unfold appG; rw [List.foldl_append]; rfl
theorem appG_rw {n : Nat} {gs : List Gt} (h : ∀ t ∈ gs, t.ok n) {r : Row} (hr : Rw n r) : Rw n (appG gs r) := by
  unfold appG
  induction gs generalizing r with
  | nil => exact hr
  | cons t gs ih =>
    rw [List.foldl_cons]
    have ht := h t List.mem_cons_self
    exact ih (fun u hu => h u (List.mem_cons_of_mem _ hu)) (hr.gate t.g ht.1 ht.2.1)
def marks0 (rk : Nat) : List Row := (List.range rk).map fun k => ⟨0, 2 ^ k, 0⟩
/-- rows made of the marks, one by one, each times one earlier row at most, its sign drawn -/
inductive Built : List Row → List Row → Prop
  | nil : Built [] []
  | snoc {ms R : List Row} {m o : Row} {s : Nat} : Built ms R → s ≤ 1 → (o = m ∨ ∃ r ∈ R, o = mul m r) → Built (ms ++ [m]) (R ++ [⟨o.x, o.z, s⟩])
theorem Built.len {ms R : List Row} (h : Built ms R) : R.length = ms.length := by
  induction h with
  | nil => rfl
  | snoc _ _ _ ih => rw [List.length_append, List.length_append, ih]; rfl
theorem Built.rw {n : Nat} {ms R : List Row} (h : Built ms R) (hm : ∀ r ∈ ms, Rw n r) : ∀ r ∈ R, Rw n r := by
  induction h with
  | nil => intro r hr; simp at hr
  | @snoc ms R m o s h0 hs ho ih =>
    have i := ih fun r hr => hm r (List.mem_append_left _ hr)
    have hm2 := hm m (List.mem_append_right _ List.mem_cons_self)
    intro r hr
    rcases List.mem_append.mp hr with q | q
    · exact i r q
    · rw [List.mem_singleton.mp q]
      have : Rw n o := by
        rcases ho with rfl | ⟨r', hr', rfl⟩
        · exact hm2
        · exact hm2.mul (i r' hr')
      exact ⟨this.x, this.z, hs⟩
/-- what _law_drawn_code gives as rows -/
def Drawn (n rk : Nat) (L : List Row) : Prop := ∃ gs R, (∀ t ∈ gs, Gt.ok n t) ∧ Built ((marks0 rk).map (appG gs)) R ∧ L.Perm R
theorem marks0_rw {n rk : Nat} (h : rk ≤ n) : ∀ r ∈ marks0 rk, Rw n r := by
  intro r hr
  unfold marks0 at hr
  obtain ⟨k, hk, rfl⟩ := List.mem_map.mp hr
  have := List.mem_range.mp hk
  exact ⟨Nat.two_pow_pos n, Nat.pow_lt_pow_right (by decide) (by omega), Nat.zero_le _⟩
theorem Drawn.rw {n rk : Nat} {L : List Row} (h : Drawn n rk L) (hk : rk ≤ n) : ∀ r ∈ L, Rw n r := by
  obtain ⟨gs, R, h1, h2, h3⟩ := h
  intro r hr
  refine h2.rw (fun r hr => ?_) r (h3.mem_iff.mp hr)
  obtain ⟨m, hm, rfl⟩ := List.mem_map.mp hr
  exact appG_rw h1 (marks0_rw hk m hm)
theorem Drawn.len {n rk : Nat} {L : List Row} (h : Drawn n rk L) : L.length = rk := by
  obtain ⟨gs, R, h1, h2, h3⟩ := h
  rw [h3.length_eq, h2.len, List.length_map]
  unfold marks0
  simp
end Kp
namespace Kp
/-- products of rows of L -/
inductive Pr (L : List Row) : Row → Prop
  | id : Pr L rw0
  | mul {m r : Row} : Pr L m → r ∈ L → Pr L (mul m r)
theorem Pr.rw {n : Nat} {L : List Row} {m : Row} (h : Pr L m) (hL : ∀ r ∈ L, Rw n r) : Rw n m := by
  induction h with
  | id => exact Rw.id n
  | mul _ hr ih => exact ih.mul (hL _ hr)
/-- further rows, made of those there -/
inductive Strs (D : List Row) : List Row → Prop
  | base : Strs D D
  | snoc {L : List Row} {m : Row} : Strs D L → Pr L m → Strs D (L ++ [m])
theorem Strs.rw {n : Nat} {D L : List Row} (h : Strs D L) (hD : ∀ r ∈ D, Rw n r) : ∀ r ∈ L, Rw n r := by
  induction h with
  | base => exact hD
  | snoc _ hm ih =>
    intro r hr
    rcases List.mem_append.mp hr with q | q
    · exact ih r q
    · rw [List.mem_singleton.mp q]; exact hm.rw ih
/-- what _law_strings gives -/
def Strings (n many : Nat) (L : List Row) : Prop := ∃ D L0, Drawn n (min many n) D ∧ Strs D L0 ∧ L0.length ≤ D.length + 3 ∧ L.Perm L0
theorem Strings.rw {n many : Nat} {L : List Row} (h : Strings n many L) : ∀ r ∈ L, Rw n r := by
  obtain ⟨D, L0, h1, h2, h3, h4⟩ := h
  exact fun r hr => h2.rw (h1.rw (Nat.min_le_right _ _)) r (h4.mem_iff.mp hr)
theorem Strings.len {n many : Nat} {L : List Row} (h : Strings n many L) : L.length ≤ min many n + 3 := by
  obtain ⟨D, L0, h1, h2, h3, h4⟩ := h
  rw [h4.length_eq, ← h1.len]; exact h3
end Kp
namespace Kp
/-! the law's own first combination -/
def selm (kept : List Nat) (mask : Nat) : List Nat := ((List.range kept.length).filter fun i => mask >>> i &&& 1 != 0).map fun i => kept.getD i 0
def prodm (rows : List Row) (is : List Nat) : Row := is.foldl (fun m i => mul m (rows.getD i rw0)) rw0
def sameXZ (a b : Row) : Prop := a.x = b.x ∧ a.z = b.z
/-- the first mask that makes row k -/
def FirstMask (rows : List Row) (kept : List Nat) (k mask : Nat) : Prop := mask < 2 ^ kept.length ∧ sameXZ (prodm rows (selm kept mask)) (rows.getD k rw0) ∧ ∀ m, m < mask → ¬ sameXZ (prodm rows (selm kept m)) (rows.getD k rw0)
inductive DueSt (rows : List Row) : Nat → List Nat → Prop
  | nil : DueSt rows 0 []
  | keep {k : Nat} {kept : List Nat} : DueSt rows k kept → (∀ m, m < 2 ^ kept.length → ¬ sameXZ (prodm rows (selm kept m)) (rows.getD k rw0)) → DueSt rows (k + 1) (kept ++ [k])
  | skip {k mask : Nat} {kept : List Nat} : DueSt rows k kept → FirstMask rows kept k mask → (prodm rows (selm kept mask)).s = (rows.getD k rw0).s → DueSt rows (k + 1) kept
def DueMinus (rows : List Row) (ks : List Nat) : Prop := ∃ k kept mask, k < rows.length ∧ DueSt rows k kept ∧ FirstMask rows kept k mask ∧ (prodm rows (selm kept mask)).s ≠ (rows.getD k rw0).s ∧ ks = selm kept mask ++ [k]
theorem DueSt.len {rows : List Row} {k : Nat} {kept : List Nat} (h : DueSt rows k kept) : kept.length ≤ k ∧ ∀ i ∈ kept, i < k := by
  induction h with
  | nil => exact ⟨Nat.le_refl _, fun i h => by simp at h⟩
  | keep _ _ ih =>
    refine ⟨by rw [List.length_append]; show _ + 1 ≤ _; omega, fun i hi => ?_⟩
    rcases List.mem_append.mp hi with q | q
    · have := ih.2 i q; omega
    · rw [List.mem_singleton.mp q]; omega
  | skip _ _ _ ih => exact ⟨by omega, fun i hi => by have := ih.2 i hi; omega⟩
end Kp
end
section
set_option maxHeartbeats 4000000
namespace Kp
open PySem PySem.Spec PyProof.Rows L2
def top (i : Nat) : Stmt := PySem.Challenge.pw_keptqubits_k12_whole_commutants_and_join.main.body.getD i (.Pass ⟨0, 0, 0, 0⟩)
abbrev s_number_of : Stmt := top 2
abbrev s_bits_of : Stmt := top 3
abbrev s_has_lead : Stmt := top 4
abbrev s_rest_by : Stmt := top 5
abbrev s_put_in : Stmt := top 6
abbrev s_reduced_numbers : Stmt := top 7
abbrev s_kernel_bits : Stmt := top 8
abbrev s_BadTextInit : Stmt := inClass (top 11) 0
abbrev s_BadNumberInit : Stmt := inClass (top 12) 0
abbrev s_UnlikeInit : Stmt := inClass (top 13) 0
abbrev s_AnticommuteInit : Stmt := inClass (top 14) 0
abbrev s_MinusOneInit : Stmt := inClass (top 15) 0
abbrev s_is_size : Stmt := top 18
abbrev s_read_string : Stmt := top 19
abbrev s_PauliInit : Stmt := inClass (top 20) 0
abbrev s_PauliEq : Stmt := inClass (top 20) 1
abbrev s_need_equal_size : Stmt := top 21
abbrev s_pauli_text : Stmt := top 22
abbrev s_ones : Stmt := top 24
abbrev s_crossing : Stmt := top 25
abbrev s_row_product : Stmt := top 26
abbrev s_row_of : Stmt := top 27
abbrev s_letters_of : Stmt := top 28
abbrev s_column_of : Stmt := top 29
abbrev s_reduced_rows : Stmt := top 30
abbrev s_told_string : Stmt := top 32
abbrev s_first_column : Stmt := top 33
abbrev s_need_commuting : Stmt := top 34
abbrev s_independent_rows : Stmt := top 35
abbrev s_GroupInit : Stmt := inClass (top 36) 0
abbrev s_GroupEq : Stmt := inClass (top 36) 1
abbrev s_commutant : Stmt := top 37
abbrev s_joined_group : Stmt := top 38
abbrev s_law_pen : Stmt := top 40
abbrev s_law_draw : Stmt := top 41
abbrev s_law_pick : Stmt := top 42
abbrev s_law_shuffled : Stmt := top 43
abbrev s_law_ones : Stmt := top 44
abbrev s_law_crosses : Stmt := top 45
abbrev s_law_product : Stmt := top 46
abbrev s_law_letters : Stmt := top 47
abbrev s_law_text : Stmt := top 48
abbrev s_law_of_text : Stmt := top 49
abbrev s_law_group : Stmt := top 50
abbrev s_law_joined : Stmt := top 51
abbrev s_law_gate : Stmt := top 52
abbrev s_law_drawn_code : Stmt := top 53
abbrev s_law_bits_order : Stmt := top 54
abbrev s_law_reduced : Stmt := top 55
abbrev s_law_pauli : Stmt := top 56
abbrev s_law_why : Stmt := top 57
abbrev s_law_strings : Stmt := top 58
abbrev s_law_every_string : Stmt := top 59
abbrev s_law_is_reduced : Stmt := top 60
abbrev s_law_commutant_right : Stmt := top 61
abbrev s_law_joined_due : Stmt := top 62
abbrev s_law : Stmt := top 63
def d_number_of : He.DefD := ⟨("number_of", none), "number_of", "number_of", defArgs s_number_of, defBody s_number_of, defScope s_number_of, [], []⟩
def d_bits_of : He.DefD := ⟨("bits_of", none), "bits_of", "bits_of", defArgs s_bits_of, defBody s_bits_of, defScope s_bits_of, [], []⟩
def d_has_lead : He.DefD := ⟨("has_lead", none), "has_lead", "has_lead", defArgs s_has_lead, defBody s_has_lead, defScope s_has_lead, [], []⟩
def d_rest_by : He.DefD := ⟨("rest_by", none), "rest_by", "rest_by", defArgs s_rest_by, defBody s_rest_by, defScope s_rest_by, [], []⟩
def d_put_in : He.DefD := ⟨("put_in", none), "put_in", "put_in", defArgs s_put_in, defBody s_put_in, defScope s_put_in, [], []⟩
def d_reduced_numbers : He.DefD := ⟨("reduced_numbers", none), "reduced_numbers", "reduced_numbers", defArgs s_reduced_numbers, defBody s_reduced_numbers, defScope s_reduced_numbers, [], []⟩
def d_kernel_bits : He.DefD := ⟨("kernel_bits", none), "kernel_bits", "kernel_bits", defArgs s_kernel_bits, defBody s_kernel_bits, defScope s_kernel_bits, [], []⟩
def d_BadTextInit : He.DefD := ⟨("BadText", some "__init__"), "__init__", "BadText.__init__", defArgs s_BadTextInit, defBody s_BadTextInit, defScope s_BadTextInit, [], []⟩
def d_BadNumberInit : He.DefD := ⟨("BadNumber", some "__init__"), "__init__", "BadNumber.__init__", defArgs s_BadNumberInit, defBody s_BadNumberInit, defScope s_BadNumberInit, [], []⟩
def d_UnlikeInit : He.DefD := ⟨("Unlike", some "__init__"), "__init__", "Unlike.__init__", defArgs s_UnlikeInit, defBody s_UnlikeInit, defScope s_UnlikeInit, [], []⟩
def d_AnticommuteInit : He.DefD := ⟨("Anticommute", some "__init__"), "__init__", "Anticommute.__init__", defArgs s_AnticommuteInit, defBody s_AnticommuteInit, defScope s_AnticommuteInit, [], []⟩
def d_MinusOneInit : He.DefD := ⟨("MinusOne", some "__init__"), "__init__", "MinusOne.__init__", defArgs s_MinusOneInit, defBody s_MinusOneInit, defScope s_MinusOneInit, [], []⟩
def d_is_size : He.DefD := ⟨("is_size", none), "is_size", "is_size", defArgs s_is_size, defBody s_is_size, defScope s_is_size, [], []⟩
def d_read_string : He.DefD := ⟨("read_string", none), "read_string", "read_string", defArgs s_read_string, defBody s_read_string, defScope s_read_string, [], []⟩
def d_PauliInit : He.DefD := ⟨("Pauli", some "__init__"), "__init__", "Pauli.__init__", defArgs s_PauliInit, defBody s_PauliInit, defScope s_PauliInit, [], []⟩
def d_PauliEq : He.DefD := ⟨("Pauli", some "__eq__"), "__eq__", "Pauli.__eq__", defArgs s_PauliEq, defBody s_PauliEq, defScope s_PauliEq, [], []⟩
def d_need_equal_size : He.DefD := ⟨("need_equal_size", none), "need_equal_size", "need_equal_size", defArgs s_need_equal_size, defBody s_need_equal_size, defScope s_need_equal_size, [], []⟩
def d_pauli_text : He.DefD := ⟨("pauli_text", none), "pauli_text", "pauli_text", defArgs s_pauli_text, defBody s_pauli_text, defScope s_pauli_text, [], []⟩
def d_ones : He.DefD := ⟨("ones", none), "ones", "ones", defArgs s_ones, defBody s_ones, defScope s_ones, [], []⟩
def d_crossing : He.DefD := ⟨("crossing", none), "crossing", "crossing", defArgs s_crossing, defBody s_crossing, defScope s_crossing, [], []⟩
def d_row_product : He.DefD := ⟨("row_product", none), "row_product", "row_product", defArgs s_row_product, defBody s_row_product, defScope s_row_product, [], []⟩
def d_row_of : He.DefD := ⟨("row_of", none), "row_of", "row_of", defArgs s_row_of, defBody s_row_of, defScope s_row_of, [], []⟩
def d_letters_of : He.DefD := ⟨("letters_of", none), "letters_of", "letters_of", defArgs s_letters_of, defBody s_letters_of, defScope s_letters_of, [], []⟩
def d_column_of : He.DefD := ⟨("column_of", none), "column_of", "column_of", defArgs s_column_of, defBody s_column_of, defScope s_column_of, [], []⟩
def d_reduced_rows : He.DefD := ⟨("reduced_rows", none), "reduced_rows", "reduced_rows", defArgs s_reduced_rows, defBody s_reduced_rows, defScope s_reduced_rows, [], []⟩
def d_told_string : He.DefD := ⟨("told_string", none), "told_string", "told_string", defArgs s_told_string, defBody s_told_string, defScope s_told_string, [], []⟩
def d_first_column : He.DefD := ⟨("first_column", none), "first_column", "first_column", defArgs s_first_column, defBody s_first_column, defScope s_first_column, [], []⟩
def d_need_commuting : He.DefD := ⟨("need_commuting", none), "need_commuting", "need_commuting", defArgs s_need_commuting, defBody s_need_commuting, defScope s_need_commuting, [], []⟩
def d_independent_rows : He.DefD := ⟨("independent_rows", none), "independent_rows", "independent_rows", defArgs s_independent_rows, defBody s_independent_rows, defScope s_independent_rows, [], []⟩
def d_GroupInit : He.DefD := ⟨("Group", some "__init__"), "__init__", "Group.__init__", defArgs s_GroupInit, defBody s_GroupInit, defScope s_GroupInit, [], []⟩
def d_GroupEq : He.DefD := ⟨("Group", some "__eq__"), "__eq__", "Group.__eq__", defArgs s_GroupEq, defBody s_GroupEq, defScope s_GroupEq, [], []⟩
def d_commutant : He.DefD := ⟨("commutant", none), "commutant", "commutant", defArgs s_commutant, defBody s_commutant, defScope s_commutant, [], []⟩
def d_joined_group : He.DefD := ⟨("joined_group", none), "joined_group", "joined_group", defArgs s_joined_group, defBody s_joined_group, defScope s_joined_group, [], []⟩
def d_law_pen : He.DefD := ⟨("_law_pen", none), "_law_pen", "_law_pen", defArgs s_law_pen, defBody s_law_pen, defScope s_law_pen, [], []⟩
def d_law_draw : He.DefD := ⟨("_law_draw", none), "_law_draw", "_law_draw", defArgs s_law_draw, defBody s_law_draw, defScope s_law_draw, [], []⟩
def d_law_pick : He.DefD := ⟨("_law_pick", none), "_law_pick", "_law_pick", defArgs s_law_pick, defBody s_law_pick, defScope s_law_pick, [], []⟩
def d_law_shuffled : He.DefD := ⟨("_law_shuffled", none), "_law_shuffled", "_law_shuffled", defArgs s_law_shuffled, defBody s_law_shuffled, defScope s_law_shuffled, [], []⟩
def d_law_ones : He.DefD := ⟨("_law_ones", none), "_law_ones", "_law_ones", defArgs s_law_ones, defBody s_law_ones, defScope s_law_ones, [], []⟩
def d_law_crosses : He.DefD := ⟨("_law_crosses", none), "_law_crosses", "_law_crosses", defArgs s_law_crosses, defBody s_law_crosses, defScope s_law_crosses, [], []⟩
def d_law_product : He.DefD := ⟨("_law_product", none), "_law_product", "_law_product", defArgs s_law_product, defBody s_law_product, defScope s_law_product, [], []⟩
def d_law_letters : He.DefD := ⟨("_law_letters", none), "_law_letters", "_law_letters", defArgs s_law_letters, defBody s_law_letters, defScope s_law_letters, [], []⟩
def d_law_text : He.DefD := ⟨("_law_text", none), "_law_text", "_law_text", defArgs s_law_text, defBody s_law_text, defScope s_law_text, [], []⟩
def d_law_of_text : He.DefD := ⟨("_law_of_text", none), "_law_of_text", "_law_of_text", defArgs s_law_of_text, defBody s_law_of_text, defScope s_law_of_text, [], []⟩
def d_law_group : He.DefD := ⟨("_law_group", none), "_law_group", "_law_group", defArgs s_law_group, defBody s_law_group, defScope s_law_group, [], []⟩
def d_law_joined : He.DefD := ⟨("_law_joined", none), "_law_joined", "_law_joined", defArgs s_law_joined, defBody s_law_joined, defScope s_law_joined, [], []⟩
def d_law_gate : He.DefD := ⟨("_law_gate", none), "_law_gate", "_law_gate", defArgs s_law_gate, defBody s_law_gate, defScope s_law_gate, [], []⟩
def d_law_drawn_code : He.DefD := ⟨("_law_drawn_code", none), "_law_drawn_code", "_law_drawn_code", defArgs s_law_drawn_code, defBody s_law_drawn_code, defScope s_law_drawn_code, [], []⟩
def d_law_bits_order : He.DefD := ⟨("_law_bits_order", none), "_law_bits_order", "_law_bits_order", defArgs s_law_bits_order, defBody s_law_bits_order, defScope s_law_bits_order, [], []⟩
def d_law_reduced : He.DefD := ⟨("_law_reduced", none), "_law_reduced", "_law_reduced", defArgs s_law_reduced, defBody s_law_reduced, defScope s_law_reduced, [], []⟩
def d_law_pauli : He.DefD := ⟨("_law_pauli", none), "_law_pauli", "_law_pauli", defArgs s_law_pauli, defBody s_law_pauli, defScope s_law_pauli, [], []⟩
def d_law_why : He.DefD := ⟨("_law_why", none), "_law_why", "_law_why", defArgs s_law_why, defBody s_law_why, defScope s_law_why, [], []⟩
def d_law_strings : He.DefD := ⟨("_law_strings", none), "_law_strings", "_law_strings", defArgs s_law_strings, defBody s_law_strings, defScope s_law_strings, [], []⟩
def d_law_every_string : He.DefD := ⟨("_law_every_string", none), "_law_every_string", "_law_every_string", defArgs s_law_every_string, defBody s_law_every_string, defScope s_law_every_string, [], []⟩
def d_law_is_reduced : He.DefD := ⟨("_law_is_reduced", none), "_law_is_reduced", "_law_is_reduced", defArgs s_law_is_reduced, defBody s_law_is_reduced, defScope s_law_is_reduced, [], []⟩
def d_law_commutant_right : He.DefD := ⟨("_law_commutant_right", none), "_law_commutant_right", "_law_commutant_right", defArgs s_law_commutant_right, defBody s_law_commutant_right, defScope s_law_commutant_right, [], []⟩
def d_law_joined_due : He.DefD := ⟨("_law_joined_due", none), "_law_joined_due", "_law_joined_due", defArgs s_law_joined_due, defBody s_law_joined_due, defScope s_law_joined_due, [], []⟩
def d_law : He.DefD := ⟨("law", none), "law", "law", defArgs s_law, defBody s_law, defScope s_law, [], []⟩
def fn : List He.DefD := [d_number_of, d_bits_of, d_has_lead, d_rest_by, d_put_in, d_reduced_numbers, d_kernel_bits, d_BadTextInit, d_BadNumberInit, d_UnlikeInit, d_AnticommuteInit, d_MinusOneInit, d_is_size, d_read_string, d_PauliInit, d_PauliEq, d_need_equal_size, d_pauli_text, d_ones, d_crossing, d_row_product, d_row_of, d_letters_of, d_column_of, d_reduced_rows, d_told_string, d_first_column, d_need_commuting, d_independent_rows, d_GroupInit, d_GroupEq, d_commutant, d_joined_group, d_law_pen, d_law_draw, d_law_pick, d_law_shuffled, d_law_ones, d_law_crosses, d_law_product, d_law_letters, d_law_text, d_law_of_text, d_law_group, d_law_joined, d_law_gate, d_law_drawn_code, d_law_bits_order, d_law_reduced, d_law_pauli, d_law_why, d_law_strings, d_law_every_string, d_law_is_reduced, d_law_commutant_right, d_law_joined_due, d_law]
def fa : List He.Fa := [.glo "number_of", .glo "bits_of", .glo "has_lead", .glo "rest_by", .glo "put_in", .glo "reduced_numbers", .glo "kernel_bits", .glo "is_size", .glo "read_string", .glo "need_equal_size", .glo "pauli_text", .glo "ones", .glo "crossing", .glo "row_product", .glo "row_of", .glo "letters_of", .glo "column_of", .glo "reduced_rows", .glo "told_string", .glo "first_column", .glo "need_commuting", .glo "independent_rows", .glo "commutant", .glo "joined_group", .glo "_law_pen", .glo "_law_draw", .glo "_law_pick", .glo "_law_shuffled", .glo "_law_ones", .glo "_law_crosses", .glo "_law_product", .glo "_law_letters", .glo "_law_text", .glo "_law_of_text", .glo "_law_group", .glo "_law_joined", .glo "_law_gate", .glo "_law_drawn_code", .glo "_law_bits_order", .glo "_law_reduced", .glo "_law_pauli", .glo "_law_why", .glo "_law_strings", .glo "_law_every_string", .glo "_law_is_reduced", .glo "_law_commutant_right", .glo "_law_joined_due", .glo "law", .glo "KeptError", .glo "BadText", .glo "BadNumber", .glo "Unlike", .glo "Anticommute", .glo "MinusOne", .glo "Pauli", .glo "Group", .glo "HEADS", .free "len", .free "range", .free "zip", .free "sorted", .free "tuple", .free "list", .free "int", .free "isinstance", .free "sum", .free "enumerate", .free "any", .free "min", .free "dict", .free "str", .free "bool", .free "ValueError", .cls "Pauli", .cls "Group", .mkr "Pauli", .mkr "Group", .meth "Pauli" "__eq__", .meth "Group" "__eq__", .noat "Pauli" "letters", .noat "Pauli" "phase", .noat "Pauli" "size", .noat "Pauli" "weight", .noat "Group" "size", .noat "Group" "rows", .noat "Group" "rank"]
-- names: 58
def nm0 : List PySem.Str := ["_wall", "__name__", "number_of", "bits_of", "has_lead", "rest_by", "put_in", "reduced_numbers", "kernel_bits", "KeptError", "BadText", "BadNumber", "Unlike", "Anticommute", "MinusOne", "HEADS", "is_size", "read_string", "Pauli", "need_equal_size", "pauli_text", "ones", "crossing", "row_product", "row_of", "letters_of", "column_of", "reduced_rows", "told_string", "first_column"]
def nm1 : List PySem.Str := ["need_commuting", "independent_rows", "Group", "commutant", "joined_group", "_law_pen", "_law_draw", "_law_pick", "_law_shuffled", "_law_ones", "_law_crosses", "_law_product", "_law_letters", "_law_text", "_law_of_text", "_law_group", "_law_joined", "_law_gate", "_law_drawn_code", "_law_bits_order", "_law_reduced", "_law_pauli", "_law_why", "_law_strings", "_law_every_string", "_law_is_reduced", "_law_commutant_right", "_law_joined_due"]
def names : List PySem.Str := nm0 ++ nm1
abbrev R : PySem.W.OpenRow := PySem.W.OpenLaw.row PySem.Challenge.rw_keptqubits_k12_whole_commutants_and_join
def lawIx : Nat := 63
end Kp
end
section
set_option maxHeartbeats 4000000
/-! The calculus: what an expression comes to in every larger heap (Evl's Ev, and EvP for new objects), defs as OkF. -/
namespace Kp
open PySem PySem.Spec PyProof.Rows L2 Evl

abbrev FnP (K : PySem.W.Frag) (d : He.DefD) (f : Addr) (fd : FuncData) : Prop := FunD K d.name d.qual d.params d.body d.scope [] [] f fd

/-- own errors that are raised; all that the clauses name -/
def errN : List Str := ["Unlike", "Anticommute", "MinusOne"]
def errC : List Str := ["BadText", "BadNumber", "Unlike", "Anticommute", "MinusOne"]
def errF : List (Str × Str) := [("Unlike", "what"), ("Anticommute", "one"), ("Anticommute", "other"), ("MinusOne", "indices")]
/-- the own errors, isinstance -/
structure EF (K : PySem.W.Frag) : Prop where
  kga : PySem.W.specialIn K (.ref (He.ga K "KeptError")) "__getattribute__" = some (some (.builtin "type.__getattribute__"))
  krd : PySem.W.readsIn K (He.ga K "KeptError") (.type "type") = true
  kin : PySem.W.findCls K (.ref (He.ga K "KeptError")) (.type "type") "__init__" = some (.val (.builtin "ValueError.__init__"))
  oex : ∀ x ∈ errN, OexC K (He.ga K x)
  ini : ∀ x ∈ errN, PySem.W.findIn K (.ref (He.ga K x)) "__init__" = some (some (.ref (He.fAd K (x, some "__init__"))))
  ity : ∀ x ∈ errN, PySem.W.typeIn K (.ref (He.fAd K (x, some "__init__"))) = some (.type "function")
  noa : ∀ p ∈ errF, PySem.W.findIn K (.ref (He.ga K p.1)) p.2 = some none
  exm : ∀ x ∈ errN, ∀ y ∈ errC, PySem.W.exmOne K (.ref (He.ga K x)) (.ref (He.ga K y)) = some (decide (x = y))
  insP : C8.InsC K (He.ga K "Pauli")
  insG : C8.InsC K (He.ga K "Group")
/-- what the top leaves, as the walks use it -/
structure Tx (K : PySem.W.Frag) (mg : Str → Option Value) : Prop where
  fact : ∀ f ∈ fa, He.Fa.ok K f = true
  defs : ∀ d ∈ fn, ∃ fd, FnP K d (He.fAd K d.at_) fd
  glo : ∀ x : Str, He.Fa.glo x ∈ fa → mg x = some (.ref (He.ga K x))
  free : ∀ x : Str, He.Fa.free x ∈ fa → mg x = none
  heads : He.tupB K "HEADS" [.str "", .str "i", .str "-", .str "-i"] = true
  ef : EF K

theorem Tx.m_len {K : PySem.W.Frag} {mg : Str → Option Value} (T : Tx K mg) : mg "len" = none := T.free "len" (List.mem_of_getElem? (i := 57) rfl)
theorem Tx.m_range {K : PySem.W.Frag} {mg : Str → Option Value} (T : Tx K mg) : mg "range" = none := T.free "range" (List.mem_of_getElem? (i := 58) rfl)
theorem Tx.m_zip {K : PySem.W.Frag} {mg : Str → Option Value} (T : Tx K mg) : mg "zip" = none := T.free "zip" (List.mem_of_getElem? (i := 59) rfl)
theorem Tx.m_sorted {K : PySem.W.Frag} {mg : Str → Option Value} (T : Tx K mg) : mg "sorted" = none := T.free "sorted" (List.mem_of_getElem? (i := 60) rfl)
theorem Tx.m_tuple {K : PySem.W.Frag} {mg : Str → Option Value} (T : Tx K mg) : mg "tuple" = none := T.free "tuple" (List.mem_of_getElem? (i := 61) rfl)
theorem Tx.m_list {K : PySem.W.Frag} {mg : Str → Option Value} (T : Tx K mg) : mg "list" = none := T.free "list" (List.mem_of_getElem? (i := 62) rfl)
theorem Tx.m_int {K : PySem.W.Frag} {mg : Str → Option Value} (T : Tx K mg) : mg "int" = none := T.free "int" (List.mem_of_getElem? (i := 63) rfl)
theorem Tx.m_isinstance {K : PySem.W.Frag} {mg : Str → Option Value} (T : Tx K mg) : mg "isinstance" = none := T.free "isinstance" (List.mem_of_getElem? (i := 64) rfl)
theorem Tx.m_sum {K : PySem.W.Frag} {mg : Str → Option Value} (T : Tx K mg) : mg "sum" = none := T.free "sum" (List.mem_of_getElem? (i := 65) rfl)
theorem Tx.m_enumerate {K : PySem.W.Frag} {mg : Str → Option Value} (T : Tx K mg) : mg "enumerate" = none := T.free "enumerate" (List.mem_of_getElem? (i := 66) rfl)
theorem Tx.m_any {K : PySem.W.Frag} {mg : Str → Option Value} (T : Tx K mg) : mg "any" = none := T.free "any" (List.mem_of_getElem? (i := 67) rfl)
theorem Tx.m_min {K : PySem.W.Frag} {mg : Str → Option Value} (T : Tx K mg) : mg "min" = none := T.free "min" (List.mem_of_getElem? (i := 68) rfl)
theorem Tx.m_dict {K : PySem.W.Frag} {mg : Str → Option Value} (T : Tx K mg) : mg "dict" = none := T.free "dict" (List.mem_of_getElem? (i := 69) rfl)
theorem Tx.m_str {K : PySem.W.Frag} {mg : Str → Option Value} (T : Tx K mg) : mg "str" = none := T.free "str" (List.mem_of_getElem? (i := 70) rfl)
theorem Tx.m_bool {K : PySem.W.Frag} {mg : Str → Option Value} (T : Tx K mg) : mg "bool" = none := T.free "bool" (List.mem_of_getElem? (i := 71) rfl)
theorem Tx.m_ValueError {K : PySem.W.Frag} {mg : Str → Option Value} (T : Tx K mg) : mg "ValueError" = none := T.free "ValueError" (List.mem_of_getElem? (i := 72) rfl)
/-- a global def that keeps a promise -/
def OkF (P : Program) (w : World) (K : PySem.W.Frag) (mg : Str → Option Value) (base : Heap) (CX : CXT) (k : Nat) (x : Str) (ps : List Str) (sp : Sp) : Prop :=
  ∃ f fd, FnOk P w K mg base CX k f fd ps sp ∧ Binds K fd ps [] ∧ PySem.W.keepIn K (.ref f) = true ∧ mg x = some (.ref f)

section
variable {X : Cx} {CX : CXT} {k : Nat} {x : Str} {ps : List Str} {sp : Sp} {E : XK} {e : Expr} {es : List Expr} {t : TA} {p pos : Pos}
theorem pe_cl (h : OkF X.prog X.w X.K X.mg X.base CX k x ps sp) (hr : Room k X.A) (hg : Gl X x) (hx : Passes CX X E) (ha : PA X (e :: es) t)
    (hdb : (x == ("__debug__" : Str)) = false := by decide) (he : starEach (e :: es) X.env = (false, eval e X.env) :: starEach es X.env := by rfl) (hpl : (backTo pos (starEach es X.env)).any (·.1) = false := by rfl) :
    PE X (.Call (.Name x p) (e :: es) [] pos) (tCall sp [] E t) := by
  obtain ⟨f, fd, F, b, kp, g⟩ := h
  exact pe_call F hr hg g kp b .nil hx ha hdb he hpl
end
theorem OkF.mono {P : Program} {w : World} {K : PySem.W.Frag} {mg : Str → Option Value} {base : Heap} {CX : CXT} {j k : Nat} {x : Str} {ps : List Str} {sp : Sp} (h : OkF P w K mg base CX j x ps sp) (hj : j ≤ k) : OkF P w K mg base CX k x ps sp := by
  obtain ⟨f, fd, F, b, kp, g⟩ := h
  exact ⟨f, fd, F.mono hj, b, kp, g⟩

/-- how a def of the text keeps its promise: hbind is «fun _ _ _ _ _ _ us hl => match us, hl with | [_, _], _ => rfl» -/
theorem okfX {P : Program} {w : World} {K : PySem.W.Frag} {mg : Str → Option Value} {base : Heap} {CX : CXT} {k : Nat} {N ps : List Str} {sp : Sp} (T : Tx K mg) (d : He.DefD) (x : Str) (i j : Nat) (hd : fn[i]? = some d) (hx : fa[j]? = some (He.Fa.glo x)) (ha : d.at_ = (x, none)) (S : FnScope N ps d.scope)
    (len : ∀ vs H Q E, sp vs H Q E → vs.length = ps.length)
    (hb : ∀ (kV doc pm : Value) (an : Option Addr) (cdv ct : Value) (us : List Value), us.length = ps.length → bindArgs (PySem.W.fnOf d.name d.qual d.params d.body d.scope .none kV doc pm an cdv ct) ⟨us, []⟩ = pure (ps.zip us))
    (hbody : ∀ (f : Addr) (cdv : Value) (A : Around) (outer : List Env) (s : Shared) (H : Hp) (vs : List V) (Q : VK) (E : XK), Room k (A.deeper (envOfC d.qual d.scope s.heap.objs.size f cdv)) → sp vs H Q E →
      ∃ t, PSs (cxOf CX P w K mg base N d.qual d.scope f cdv A outer s H E) d.body t ∧ t { nx := fun _ H' => Q .non H', rt := Q } (L2.start N vs) H) : OkF P w K mg base CX (k + 1) x ps sp := by
  obtain ⟨fd, F⟩ := T.defs d (List.mem_of_getElem? hd)
  have e : He.fAd K d.at_ = He.ga K x := by rw [ha]; rfl
  rw [e] at F
  exact ⟨_, fd, F.ok S len (fun cdv A outer s H vs Q E hr h => hbody _ cdv A outer s H vs Q E hr h), F.bindsN hb, F.kp, T.glo x (List.mem_of_getElem? hx)⟩

/-- how a def of the text keeps its promise: hbind is «fun _ _ _ _ _ _ us hl => match us, hl with | [_, _], _ => rfl» -/
theorem okf {P : Program} {w : World} {K : PySem.W.Frag} {mg : Str → Option Value} {base : Heap} {k : Nat} {N ps : List Str} {sp : Sp} (T : Tx K mg) (d : He.DefD) (x : Str) (i j : Nat) (hd : fn[i]? = some d) (hx : fa[j]? = some (He.Fa.glo x)) (ha : d.at_ = (x, none)) (S : FnScope N ps d.scope)
    (len : ∀ vs H Q E, sp vs H Q E → vs.length = ps.length)
    (hb : ∀ (kV doc pm : Value) (an : Option Addr) (cdv ct : Value) (us : List Value), us.length = ps.length → bindArgs (PySem.W.fnOf d.name d.qual d.params d.body d.scope .none kV doc pm an cdv ct) ⟨us, []⟩ = pure (ps.zip us))
    (hbody : ∀ (f : Addr) (cdv : Value) (A : Around) (outer : List Env) (s : Shared) (H : Hp) (vs : List V) (Q : VK) (E : XK), Room k (A.deeper (envOfC d.qual d.scope s.heap.objs.size f cdv)) → sp vs H Q E →
      ∃ t, PSs (cxOf CX0 P w K mg base N d.qual d.scope f cdv A outer s H E).nox d.body t ∧ t { nx := fun _ H' => Q .non H', rt := Q } (L2.start N vs) H) : OkF P w K mg base CX0 (k + 1) x ps sp := by
  obtain ⟨fd, F⟩ := T.defs d (List.mem_of_getElem? hd)
  have e : He.fAd K d.at_ = He.ga K x := by rw [ha]; rfl
  rw [e] at F
  exact ⟨_, fd, F.ok S len (fun cdv A outer s H vs Q E hr h => let ⟨t, h1, h2⟩ := hbody _ cdv A outer s H vs Q E hr h; ⟨t, PSs.nox h1, h2⟩), F.bindsN hb, F.kp, T.glo x (List.mem_of_getElem? hx)⟩

/-! ### the layer's rules, the written part said (so that a comprehension's block says the same) -/
def rLenV (K : PySem.W.Frag) : List V → Hp → VK → Prop := fun xs H Q => ∃ x n, xs = [x] ∧ LenV K x H n ∧ Q (.int n) H
def rListOf (K : PySem.W.Frag) : List V → Hp → VK → Prop := fun xs H Q => ∃ p ys, xs = [.ref p] ∧ (SqL K H p ys ∨ SqT K H p ys) ∧ ∀ l, H l = none → Q (.ref l) (upd H l (.lst ys))
def rTupOf (K : PySem.W.Frag) : List V → Hp → VK → Prop := fun xs H Q => ∃ p ys, xs = [.ref p] ∧ ((SqL K H p ys ∧ ∀ l, H l = none → Q (.ref l) (upd H l (.tup ys))) ∨ (SqT K H p ys ∧ Q (.ref p) H))
def tTruK (K : PySem.W.Frag) (ta : TE) : TT := fun σ H Q => ta σ H fun x H' => ∃ k, TruV K x H' k ∧ Q k H'
def rInt1 : List V → Hp → VK → Prop := fun xs H Q => (∃ i, xs = [.int i] ∧ Q (.int i) H) ∨ ∃ k, xs = [.bl k] ∧ Q (.int (if k then 1 else 0)) H
def rInSig : R2 := fun x y H Q => ∃ (c : Nat) (z : Str), x = .str ⟨#[c]⟩ ∧ y = .str z ∧ Q (.bl (decide (c ∈ z.cps.toList))) H
def rNinSig : R2 := fun x y H Q => ∃ (c : Nat) (z : Str), x = .str ⟨#[c]⟩ ∧ y = .str z ∧ Q (.bl (!decide (c ∈ z.cps.toList))) H
def rJoin (K : PySem.W.Frag) : V → List V → Hp → VK → Prop := fun x xs H Q => ∃ a p, ∃ ys : List Str, x = .str a ∧ xs = [.ref p] ∧ (SqL K H p (ys.map V.str) ∨ SqT K H p (ys.map V.str)) ∧
      (ys.map (·.length)).sum + ys.length * a.length ≤ 16777216 ∧ Q (.str (Txt.join a ys)) H
section
variable {X : Cx} {e o : Expr} {te to : TE} {f : Str} {pos apos : Pos} {tg : Expr}
theorem ix_listK (K : PySem.W.Frag) (h : X.K = K := by rfl) : IxR X (rIxL K) := h ▸ ix_list
theorem ix_tupK (K : PySem.W.Frag) (h : X.K = K := by rfl) : IxR X (rIxT K) := h ▸ ix_tup
theorem sl_listK (K : PySem.W.Frag) (h : X.K = K := by rfl) : SlR X (rSlL K) := h ▸ sl_list
theorem sl_tupK (K : PySem.W.Frag) (h : X.K = K := by rfl) : SlR X (rSlT K) := h ▸ sl_tup
theorem pe_fldK (K : PySem.W.Frag) (he : PE X e te) (hb : attributeBase e f X.env (eval e X.env) = eval e X.env := by rfl) (h : X.K = K := by rfl) : PE X (.Attribute e f pos) (tFld K te f) := h ▸ pe_fld he hb
theorem ps_fldK (K : PySem.W.Frag) {value : Expr} {tv : TE} {pos' : Pos} (ha : PE X o to) (hv : PE X value tv) (hs : swapsWith value (some (.Attribute o f pos')) pos.line X.env = pure false) (h : X.K = K := by rfl) : PS X (.Assign [.Attribute o f pos'] value pos) (sFld K to tv f) := h ▸ ps_fld ha hv hs
theorem op_in_seqK (K : PySem.W.Frag) (h : X.K = K := by rfl) : OpR X (compareOp .In) (rIn K false) := h ▸ op_in_seq
theorem op_notIn_seqK (K : PySem.W.Frag) (h : X.K = K := by rfl) : OpR X (compareOp .NotIn) (rIn K true) := h ▸ op_notIn_seq
theorem pi_listK (K : PySem.W.Frag) (he : PE X e te) (h : X.K = K := by rfl) : PI X tg e (iList K te) := h ▸ pi_list he
theorem pi_tupK (K : PySem.W.Frag) (he : PE X e te) (h : X.K = K := by rfl) : PI X tg e (iTup K te) := h ▸ pi_tup he
theorem call_lenK (K : PySem.W.Frag) (h : X.K = K := by rfl) : CallR X (.builtin "len") (rLenV K) := h ▸ call_len
theorem cr_sumK (K : PySem.W.Frag) (hc : X.calm = true) (h : X.K = K := by rfl) : CallR X (.builtin "sum") (rSum K) := h ▸ cr_sum hc
theorem cr_anyK (K : PySem.W.Frag) (hc : X.calm = true) (h : X.K = K := by rfl) : CallR X (.builtin "any") (rAny K) := h ▸ cr_any hc
theorem cr_minK (K : PySem.W.Frag) (hc : X.calm = true) (h : X.K = K := by rfl) : CallR X (.builtin "min") (rMin K) := h ▸ cr_min hc
theorem call_list_ofK (K : PySem.W.Frag) (h : X.K = K := by rfl) : CallR X (.type "list") (rListOf K) := h ▸ call_list_of
theorem call_tuple_ofK (K : PySem.W.Frag) (h : X.K = K := by rfl) : CallR X (.type "tuple") (rTupOf K) := h ▸ call_tuple_of
theorem call_intK : CallR X (.type "int") rInt1 := call_int1
theorem op_inSigK : OpR X (compareOp .In) rInSig := op_in_sign
theorem op_ninSigK : OpR X (compareOp .NotIn) rNinSig := op_notIn_sign
theorem op_eqDK (K : PySem.W.Frag) (hu : X.A.units + 64 < cLine) (h : X.K = K := by rfl) : OpR X (compareOp .Eq) (rEqD K) := h ▸ op_eqD hu
theorem op_neDK (K : PySem.W.Frag) (hu : X.A.units + 64 < cLine) (h : X.K = K := by rfl) : OpR X (compareOp .NotEq) (rNeD K) := h ▸ op_neD hu
theorem op_catTK (K : PySem.W.Frag) (h : X.K = K := by rfl) : OpR X (binaryOp .Add) (rCatT K) := h ▸ op_catT
theorem pt_truthK (K : PySem.W.Frag) (ha : PE X e te) (he : ∀ whole, isTrue e X.env whole = (do let v ← whole; standAt e.pos; holding [v] (truthy v)) := by intro _; rfl) (h : X.K = K := by rfl) : PT X e (tTruK K te) := h ▸ pt_truth ha he
theorem pe_joinK (K : PySem.W.Frag) (ho : PE X o to) (he : PE X e te) (hs : starEach [e] X.env = [(false, eval e X.env)] := by rfl) (hbase : attributeBase o "join" X.env (eval o X.env) = eval o X.env := by rfl) (hline : (apos.endLine == pos.line) = true := by rfl) (h : X.K = K := by rfl) :
    PE X (.Call (.Attribute o "join" apos) [e] [] pos) (tM1 (rJoin K) to te) := h ▸ pe_join ho he hs hbase hline
theorem pe_bmK (K : PySem.W.Frag) {T : String} {name : Str} {id : String} {r : V → List V → Hp → VK → Prop} {es : List Expr} {t : TA} {cpos : Pos} (pa : PlainAttrs T) (slot : Slot T name id) (hty : typeOf (.builtin id) = pure (.type "method_descriptor")) (hm : MtR X id r) (ho : PE X o to) (ha : PA X (e :: es) t)
    (hbase : attributeBase o name X.env (eval o X.env) = eval o X.env := by rfl)
    (hfew : ((backTo cpos (starEach (e :: es) X.env)).all (fun x => !x.1) && (backToKw cpos (keywordEach [] X.env)).all (fun x => x.1.isSome)
      && decide ((e :: es).length + ([] : List Keyword).length + (if ([] : List Keyword).isEmpty then 0 else 1) < 30)) = true := by rfl)
    (hline : (apos.endLine == cpos.line) = true := by rfl) (hs : starEach (e :: es) X.env = (false, eval e X.env) :: starEach es X.env := by rfl) (hplain : (backTo cpos (starEach es X.env)).any (·.1) = false := by rfl) (h : X.K = K := by rfl) :
    PE X (.Call (.Attribute o name apos) (e :: es) [] cpos) (tBM K T r to t) := h ▸ pe_bm pa slot hty hm ho ha hbase hfew hline hs hplain
theorem cr_sortedRevK (K : PySem.W.Frag) {b : Bool} (h : X.K = K := by rfl) : CallRK X (.builtin "sorted") [Str.ofString "reverse"] (rSortedKw K b [.bl b]) := h ▸ cr_sortedRev
theorem call_isiU (K : PySem.W.Frag) (h : X.K = K := by rfl) : CallR X (.builtin "isinstance") (rIsi K) := h ▸ call_isi
theorem mt_indexK (K : PySem.W.Frag) (h : X.K = K := by rfl) : MtR X "list.index" (rIndex K) := h ▸ mt_index
/-- a list or a tuple walked -/
def iSeq (K : PySem.W.Frag) (tl : TE) : TI := fun σ H R => iList K tl σ H R ∨ iTup K tl σ H R
theorem pi_seqK (K : PySem.W.Frag) (he : PE X e te) (h : X.K = K := by rfl) : PI X tg e (iSeq K te) :=
  ⟨fun pins s σ H R I q => by
    rcases q with q | q
    · exact (pi_listK K he h).run pins s σ H R I q
    · exact (pi_tupK K he h).run pins s σ H R I q⟩
end
/-! ### EvP -/
def EvP (te : TE) (σ : L2.St) (H : Hp) (P : V → Hp → Prop) : Prop := ∀ H1, Ex H H1 → ∀ Q : VK, (∀ v H2, Ex H1 H2 → P v H2 → Q v H2) → te σ H1 Q
section
variable {K : PySem.W.Frag} {σ : L2.St} {H H' : Hp} {ta tb te tx : TE} {t u : TT} {x y z v : V} {r : R2} {P : V → Hp → Prop} {D : Ends} {tu tw tz : TS} {g : TG}
theorem Ev.p (h : Ev te σ H v) : EvP te σ H (fun v' _ => v' = v) := fun H1 e Q k => h H1 e Q fun H2 e2 => k v H2 e2 rfl
theorem EvP.ev (h : EvP te σ H (fun v' _ => v' = v)) : Ev te σ H v := fun H1 e Q k => h H1 e Q fun v' H2 e2 q => by rw [q]; exact k H2 e2
theorem EvU.p {xs : List V} (h : EvU te σ H xs) : EvP te σ H (fun v H' => ∃ p, v = .ref p ∧ H' p = some (.tup xs)) := fun H1 e Q k => h H1 e Q fun p H2 _ e2 q => k _ H2 e2 ⟨p, rfl, q⟩
theorem EvL.p {xs : List V} (h : EvL te σ H xs) : EvP te σ H (fun v H' => ∃ p, v = .ref p ∧ H' p = some (.lst xs)) := fun H1 e Q k => h H1 e Q fun p H2 _ e2 q => k _ H2 e2 ⟨p, rfl, q⟩
theorem EvP.mono (e : Ex H H') (h : EvP te σ H P) : EvP te σ H' P := fun H1 e1 Q k => h H1 (e.trans e1) Q k
theorem EvP.imp {P' : V → Hp → Prop} (h : EvP te σ H P) (hi : ∀ v H1, Ex H H1 → P v H1 → P' v H1) : EvP te σ H P' := fun H1 e Q k => h H1 e Q fun v H2 e2 q => k v H2 e2 (hi v H2 (e.trans e2) q)
/-- a value, its P, in argument lists -/
def EvAP (ta : TA) (σ : L2.St) (H : Hp) (P : List V → Hp → Prop) : Prop := ∀ H1, Ex H H1 → ∀ Q : List V → Hp → Prop, (∀ vs H2, Ex H1 H2 → P vs H2 → Q vs H2) → ta σ H1 Q
theorem eap_nil : EvAP tNil σ H (fun vs _ => vs = []) := fun H1 e Q k => k [] H1 (Ex.refl _) rfl
theorem eap_cons {tr : TA} {Pr : List V → Hp → Prop} {P' : List V → Hp → Prop} (h : EvP te σ H P) (hr : EvAP tr σ H Pr) (hm : ∀ v vs H1 H2, Ex H H1 → P v H1 → Ex H1 H2 → Pr vs H2 → P' (v :: vs) H2) : EvAP (tCons te tr) σ H P' :=
  fun H1 e Q k => h H1 e _ fun v H2 e2 p => hr H2 (e.trans e2) _ fun vs H3 e3 pr => k _ H3 (e2.trans e3) (hm v vs H2 H3 (e.trans e2) p e3 pr)
/-- a call by its promise -/
theorem evp_call {sp : Sp} {E : XK} {ta : TA} {vs : List V} (h : EvA ta σ H vs) (hs : ∀ H1, Ex H H1 → ∀ Q : VK, (∀ v H2, Ex H1 H2 → P v H2 → Q v H2) → sp vs H1 Q E) : EvP (tCall sp [] E ta) σ H P := fun H1 e Q k => by
  refine h H1 e _ fun H2 e2 => ?_
  rw [List.append_nil]
  exact hs H2 (e.trans e2) Q fun v H3 e3 q => k v H3 (e2.trans e3) q
theorem ev_callv {sp : Sp} {E : XK} {ta : TA} {vs : List V} (h : EvA ta σ H vs) (hs : ∀ H1, Ex H H1 → ∀ Q : VK, (∀ H2, Ex H1 H2 → Q z H2) → sp vs H1 Q E) : Ev (tCall sp [] E ta) σ H z := fun H1 e Q k => by
  refine h H1 e _ fun H2 e2 => ?_
  rw [List.append_nil]
  exact hs H2 (e.trans e2) Q fun H3 e3 => k H3 (e2.trans e3)
/-- statements with EvP -/
theorem s_asgP {i : Nat} (h : EvP te σ H P) (k : ∀ v H1, Ex H H1 → P v H1 → D.nx (σ.set i (some v)) H1) : tAsg te (gName i) D σ H := h H (Ex.refl _) _ fun v H2 e p => k v H2 e p
theorem q_asgP {i : Nat} (h : EvP te σ H P) (k : ∀ v H1, Ex H H1 → P v H1 → tz D (σ.set i (some v)) H1) : tSeq (tAsg te (gName i)) tz D σ H := h H (Ex.refl _) _ fun v H2 e p => k v H2 e p
theorem s_retP (h : EvP te σ H P) (k : ∀ v H1, Ex H H1 → P v H1 → D.rt v H1) : tRet te D σ H := h H (Ex.refl _) _ fun v H2 e p => k v H2 e p
theorem s_dropP (h : EvP te σ H P) (k : ∀ v H1, Ex H H1 → P v H1 → D.nx σ H1) : tDrop te D σ H := h H (Ex.refl _) _ fun v H2 e p => k v H2 e p
theorem q_dropP (h : EvP te σ H P) (k : ∀ v H1, Ex H H1 → P v H1 → tz D σ H1) : tSeq (tDrop te) tz D σ H := h H (Ex.refl _) _ fun v H2 e p => k v H2 e p
/-- xs.append(e) -/
theorem s_appP {l : Addr} {xs : List V} (hl : H l = some (.lst xs)) (ha : Ev ta σ H (.ref l)) (h : EvP te σ H P) (hz : xs.length < 100000) (k : ∀ v H1, Ex H H1 → P v H1 → D.nx σ (upd H1 l (.lst (xs ++ [v])))) :
    tDrop (tBM K "list" rAppend ta (tCons te tNil)) D σ H := by
  refine ha H (Ex.refl _) _ fun H2 e2 => ?_
  refine ⟨.inl ⟨rfl, _, .inl (.inl (e2 _ _ hl))⟩, ?_⟩
  refine h H2 e2 _ fun v H3 e3 p => ?_
  exact ⟨l, xs, v, rfl, rfl, e3 _ _ (e2 _ _ hl), sz_lt hz, k v H3 (e2.trans e3) p⟩
theorem q_appP {l : Addr} {xs : List V} (hl : H l = some (.lst xs)) (ha : Ev ta σ H (.ref l)) (h : EvP te σ H P) (hz : xs.length < 100000) (k : ∀ v H1, Ex H H1 → P v H1 → tz D σ (upd H1 l (.lst (xs ++ [v])))) :
    tSeq (tDrop (tBM K "list" rAppend ta (tCons te tNil))) tz D σ H := s_appP hl ha h hz k
theorem q_par {i j : Nat} {ta : TA} {v w : V} (h : EvA ta σ H [v, w]) (k : ∀ H1, Ex H H1 → tz D ((σ.set i (some v)).set j (some w)) H1) : tSeq (tPar i j ta) tz D σ H := h H (Ex.refl _) _ fun H1 e => ⟨v, w, rfl, k H1 e⟩
theorem s_par {i j : Nat} {ta : TA} {v w : V} (h : EvA ta σ H [v, w]) (k : ∀ H1, Ex H H1 → D.nx ((σ.set i (some v)).set j (some w)) H1) : tPar i j ta D σ H := h H (Ex.refl _) _ fun H1 e => ⟨v, w, rfl, k H1 e⟩
theorem q_par3 {i j l : Nat} {ta : TA} {v w y : V} (h : EvA ta σ H [v, w, y]) (k : ∀ H1, Ex H H1 → tz D (((σ.set i (some v)).set j (some w)).set l (some y)) H1) : tSeq (tPar3 i j l ta) tz D σ H := h H (Ex.refl _) _ fun H1 e => ⟨v, w, y, rfl, k H1 e⟩
/-! ### ints that are not negative -/
theorem ev_n {n : Nat} {i : Int} (e : i = (n : Int)) : Ev (tC (.int i)) σ H (.int (n : Int)) := by rw [e]; exact ev_c
theorem rv_addN {a b : Nat} : RV (rI0 fun i j => .int (i + j)) (.int (a : Int)) (.int (b : Int)) H (.int ((a + b : Nat) : Int)) := by
  have e : ((a + b : Nat) : Int) = (a : Int) + (b : Int) := Int.natCast_add a b
  rw [e]; exact rv_I0
theorem rv_mulN {a b : Nat} (h : a < 2 ^ 64) : RV (rI CMul fun i j => .int (i * j)) (.int (a : Int)) (.int (b : Int)) H (.int ((a * b : Nat) : Int)) := by
  have e : ((a * b : Nat) : Int) = (a : Int) * (b : Int) := Int.natCast_mul a b
  rw [e]
  have h2 : (a : Int) < 2 ^ 64 := by omega
  exact rv_I (.inl ⟨by omega, h2⟩)
theorem rv_mulN' {a b : Nat} (h : b < 2 ^ 64) : RV (rI CMul fun i j => .int (i * j)) (.int (a : Int)) (.int (b : Int)) H (.int ((a * b : Nat) : Int)) := by
  have e : ((a * b : Nat) : Int) = (a : Int) * (b : Int) := Int.natCast_mul a b
  rw [e]
  have h2 : (b : Int) < 2 ^ 64 := by omega
  exact rv_I (.inr ⟨by omega, h2⟩)
theorem bitAndN (a b : Nat) : Builtin.bitAnd (a : Int) (b : Int) = ((a &&& b : Nat) : Int) := by rfl
theorem bitXorN (a b : Nat) : Builtin.bitXor (a : Int) (b : Int) = ((a ^^^ b : Nat) : Int) := by
  have h := Bits.bitXor_pp (x := (a : Int)) (y := (b : Int)) (by omega) (by omega)
  rw [h]; simp
theorem bitOrN (a b : Nat) : Builtin.bitOr (a : Int) (b : Int) = ((a ||| b : Nat) : Int) := by
  have h := Bits.bitOr_pp (x := (a : Int)) (y := (b : Int)) (by omega) (by omega)
  rw [h]; simp
theorem rv_andN {a b : Nat} : RV (rI0 fun i j => .int (Builtin.bitAnd i j)) (.int (a : Int)) (.int (b : Int)) H (.int ((a &&& b : Nat) : Int)) := by
  rw [← bitAndN]; exact rv_I0
theorem rv_xorN {a b : Nat} : RV (rI0 fun i j => .int (Builtin.bitXor i j)) (.int (a : Int)) (.int (b : Int)) H (.int ((a ^^^ b : Nat) : Int)) := by
  rw [← bitXorN]; exact rv_I0
theorem rv_orN {a b : Nat} : RV (rI0 fun i j => .int (Builtin.bitOr i j)) (.int (a : Int)) (.int (b : Int)) H (.int ((a ||| b : Nat) : Int)) := by
  rw [← bitOrN]; exact rv_I0
theorem shrN (a k : Nat) : (a : Int) / 2 ^ ((k : Int).toNat) = ((a >>> k : Nat) : Int) := by
  rw [Nat.shiftRight_eq_div_pow, Int.natCast_ediv, Int.natCast_pow, Int.toNat_natCast]; rfl
theorem rv_shrN {a k : Nat} : RV (rI (fun _ j => 0 ≤ j) fun i j => .int (i / 2 ^ j.toNat)) (.int (a : Int)) (.int (k : Int)) H (.int ((a >>> k : Nat) : Int)) := by
  rw [← shrN]; exact rv_I (by omega)
theorem shlN (a k : Nat) : (a : Int) * 2 ^ ((k : Int).toNat) = ((a <<< k : Nat) : Int) := by
  rw [Nat.shiftLeft_eq, Int.natCast_mul, Int.natCast_pow, Int.toNat_natCast]; rfl
theorem rv_shlN {a k : Nat} (h : k ≤ 1000000) (ha : a < 2 ^ 64) : RV (rI CPow fun i j => .int (i * 2 ^ j.toNat)) (.int (a : Int)) (.int (k : Int)) H (.int ((a <<< k : Nat) : Int)) := by
  rw [← shlN]
  refine rv_I ⟨by omega, by omega, ?_⟩
  rw [Int.natAbs_natCast]; exact ha
theorem rv_subN {a b : Nat} (h : b ≤ a) : RV (rI0 fun i j => .int (i - j)) (.int (a : Int)) (.int (b : Int)) H (.int ((a - b : Nat) : Int)) := by
  rw [Int.ofNat_sub h]; exact rv_I0
theorem rv_eqN {a b : Nat} : RV rEq (.int (a : Int)) (.int (b : Int)) H (.bl (decide (a = b))) := by
  have h := rv_eq (H := H) (x := .int (a : Int)) (y := .int (b : Int)) rfl
  have e : decide (V.int (a : Int) = V.int (b : Int)) = decide (a = b) := by
    by_cases q : a = b
    · subst q; simp
    · rw [decide_eq_false q, decide_eq_false]
      intro z; injection z with z; omega
  rw [e] at h; exact h
theorem rv_neN {a b : Nat} : RV rNe (.int (a : Int)) (.int (b : Int)) H (.bl (!decide (a = b))) := by
  have h := rv_ne (H := H) (x := .int (a : Int)) (y := .int (b : Int)) rfl
  have e : decide (V.int (a : Int) = V.int (b : Int)) = decide (a = b) := by
    by_cases q : a = b
    · subst q; simp
    · rw [decide_eq_false q, decide_eq_false]
      intro z; injection z with z; omega
  rw [e] at h; exact h
theorem rv_ltN {a b : Nat} : RV (rI0 fun i j => .bl (decide (i < j))) (.int (a : Int)) (.int (b : Int)) H (.bl (decide (a < b))) := by
  have e : decide (a < b) = decide ((a : Int) < (b : Int)) := by
    by_cases q : a < b
    · rw [decide_eq_true q, decide_eq_true]; omega
    · rw [decide_eq_false q, decide_eq_false]; omega
  rw [e]; exact rv_I0
/-- a test of an int's truth -/
theorem et_tru {i : Int} (h : Ev te σ H (.int i)) : EvT (tTruK K te) σ H (i != 0) := fun H1 e Q k => h H1 e _ fun H2 e2 => ⟨_, rfl, k H2 e2⟩
theorem et_truN {n : Nat} (h : Ev te σ H (.int (n : Int))) : EvT (tTruK K te) σ H (n != 0) := by
  have e : (n != 0) = ((n : Int) != 0) := by
    cases n with
    | zero => rfl
    | succ m => rfl
  rw [e]; exact et_tru h
end
/-! ### rows in the heap; what stays when a list is written -/
/-- tuples and instances stay -/
def Kx (H H' : Hp) : Prop := (∀ a xs, H a = some (.tup xs) → H' a = some (.tup xs)) ∧ (∀ a C d fs, H a = some (.ins C d fs) → H' a = some (.ins C d fs))
theorem Kx.refl (H : Hp) : Kx H H := ⟨fun _ _ h => h, fun _ _ _ _ h => h⟩
theorem Kx.of {H H' : Hp} (e : Ex H H') : Kx H H' := ⟨fun a xs h => e a _ h, fun a C d fs h => e a _ h⟩
theorem Kx.trans {H H1 H2 : Hp} (a : Kx H H1) (b : Kx H1 H2) : Kx H H2 := ⟨fun p xs h => b.1 p xs (a.1 p xs h), fun p C d fs h => b.2 p C d fs (a.2 p C d fs h)⟩
/-- a list | a dict is written -/
theorem Kx.lst {H : Hp} {l : Addr} {xs : List V} {o : HO} (h : H l = some (.lst xs)) : Kx H (upd H l o) :=
  ⟨fun a ys q => by rw [upd_ne (ne_of q h (by intro z; cases z))]; exact q, fun a C d fs q => by rw [upd_ne (ne_of q h (by intro z; cases z))]; exact q⟩
theorem Kx.dk {H : Hp} {l : Addr} {xs : List (Key × V)} {o : HO} (h : H l = some (.dK xs)) : Kx H (upd H l o) :=
  ⟨fun a ys q => by rw [upd_ne (ne_of q h (by intro z; cases z))]; exact q, fun a C d fs q => by rw [upd_ne (ne_of q h (by intro z; cases z))]; exact q⟩
theorem Kx.dt {H : Hp} {l : Addr} {xs : List (List Key × V)} {o : HO} (h : H l = some (.dT xs)) : Kx H (upd H l o) :=
  ⟨fun a ys q => by rw [upd_ne (ne_of q h (by intro z; cases z))]; exact q, fun a C d fs q => by rw [upd_ne (ne_of q h (by intro z; cases z))]; exact q⟩
theorem Kx.new {H : Hp} {l : Addr} {o : HO} (h : H l = none) : Kx H (upd H l o) := Kx.of (Ex.new h)
/-- a row stands at v -/
def IsRow (H : Hp) (v : V) (r : Row) : Prop := ∃ a, v = .ref a ∧ H a = some (.tup [.int (r.x : Int), .int (r.z : Int), .int (r.s : Int)])
theorem IsRow.kx {H H' : Hp} {v : V} {r : Row} (e : Kx H H') (h : IsRow H v r) : IsRow H' v r := by
  obtain ⟨a, rfl, h⟩ := h
  exact ⟨a, rfl, e.1 _ _ h⟩
theorem IsRow.ex {H H' : Hp} {v : V} {r : Row} (e : Ex H H') (h : IsRow H v r) : IsRow H' v r := h.kx (.of e)
/-- values that stand for rows -/
abbrev Rows (H : Hp) : List V → List Row → Prop := Paired (IsRow H)
theorem Rows.kx {H H' : Hp} (e : Kx H H') : ∀ {vs : List V} {rs : List Row}, Rows H vs rs → Rows H' vs rs
  | _, _, .nil => .nil
  | _, _, .cons r t => .cons (r.kx e) (Rows.kx e t)
theorem Rows.ex {H H' : Hp} (e : Ex H H') {vs : List V} {rs : List Row} (h : Rows H vs rs) : Rows H' vs rs := h.kx (.of e)
theorem paired_len {α β : Type} {F : α → β → Prop} : ∀ {l1 : List α} {l2 : List β}, Paired F l1 l2 → l1.length = l2.length
  | _, _, .nil => rfl
  | _, _, .cons _ t => by simp [paired_len t]
theorem paired_at {α β : Type} {F : α → β → Prop} : ∀ {l1 : List α} {l2 : List β} {i : Nat} {x : α}, Paired F l1 l2 → l1[i]? = some x → ∃ y, l2[i]? = some y ∧ F x y
  | _, _, _, _, .nil, h => by simp at h
  | _, _, 0, x, .cons r _, h => by simp at h; subst h; exact ⟨_, rfl, r⟩
  | _, _, i + 1, x, .cons _ t, h => by
    obtain ⟨y, h1, h2⟩ := paired_at (i := i) (x := x) t (by simpa using h)
    exact ⟨y, by simpa using h1, h2⟩
theorem paired_at2 {α β : Type} {F : α → β → Prop} : ∀ {l1 : List α} {l2 : List β} {i : Nat} {y : β}, Paired F l1 l2 → l2[i]? = some y → ∃ x, l1[i]? = some x ∧ F x y
  | _, _, _, _, .nil, h => by simp at h
  | _, _, 0, y, .cons r _, h => by simp at h; subst h; exact ⟨_, rfl, r⟩
  | _, _, i + 1, y, .cons _ t, h => by
    obtain ⟨x, h1, h2⟩ := paired_at2 (i := i) (y := y) t (by simpa using h)
    exact ⟨x, by simpa using h1, h2⟩
theorem paired_app {α β : Type} {F : α → β → Prop} : ∀ {l1 : List α} {l2 : List β} {m1 : List α} {m2 : List β}, Paired F l1 l2 → Paired F m1 m2 → Paired F (l1 ++ m1) (l2 ++ m2)
  | _, _, _, _, .nil, s => s
  | _, _, _, _, .cons r t, s => .cons r (paired_app t s)
theorem paired_set {α β : Type} {F : α → β → Prop} {x : α} {y : β} (r : F x y) : ∀ {l1 : List α} {l2 : List β} (i : Nat), Paired F l1 l2 → Paired F (l1.set i x) (l2.set i y)
  | _, _, _, .nil => .nil
  | _, _, 0, .cons _ t => .cons r t
  | _, _, i + 1, .cons q t => .cons q (paired_set r i t)
theorem paired_take {α β : Type} {F : α → β → Prop} : ∀ {l1 : List α} {l2 : List β} (n : Nat), Paired F l1 l2 → Paired F (l1.take n) (l2.take n)
  | _, _, 0, _ => .nil
  | _, _, _ + 1, .nil => .nil
  | _, _, n + 1, .cons r t => .cons r (paired_take n t)
theorem paired_of {α β : Type} {F : α → β → Prop} : ∀ {l1 : List α} {l2 : List β}, l1.length = l2.length → (∀ (i : Nat) (x : α) (y : β), l1[i]? = some x → l2[i]? = some y → F x y) → Paired F l1 l2
  | [], [], _, _ => .nil
  | [], _ :: _, h, _ => by simp at h
  | _ :: _, [], h, _ => by simp at h
  | a :: l1, b :: l2, h, f => .cons (f 0 a b rfl rfl) (paired_of (by simpa using h) fun i x y h1 h2 => f (i + 1) x y (by simpa using h1) (by simpa using h2))
/-! ### what further expressions come to -/
section
variable {K : PySem.W.Frag} {σ : L2.St} {H H' : Hp} {ta tb te tx : TE} {t u : TT} {x y z v : V} {r : R2} {P : V → Hp → Prop} {D : Ends} {tu tw tz : TS} {g : TG}
theorem bitAnd_one (y : Int) : Builtin.bitAnd y 1 = y % 2 := by
  have h := Bits.bit_at (x := y) 0
  have e : Int.fdiv y (2 ^ 0) = y := by
    rw [Int.pow_zero, Int.fdiv_one]
  rw [e] at h
  rw [h]
  rw [Int.pow_zero, Int.ediv_one]
theorem rv_odd {i : Int} : RV (rI0 fun i j => .int (Builtin.bitAnd i j)) (.int i) (.int 1) H (.int (i % 2)) := by
  rw [← bitAnd_one]; exact rv_I0
theorem ev_lenS {s : Str} (ha : Ev te σ H (.str s)) (h : s.length ≤ 100000) : Ev (tCB (rLenV K) (tCons te tNil)) σ H (.int (s.length : Int)) :=
  ev_cb (ea_cons ha ea_nil) fun H1 e Q k => ⟨_, _, rfl, ⟨sz_of h, rfl⟩, k H1 (Ex.refl _)⟩
theorem ev_lenL {p : Addr} {xs : List V} (ha : Ev te σ H (.ref p)) (h : SqL K H p xs) : Ev (tCB (rLenV K) (tCons te tNil)) σ H (.int (xs.length : Int)) :=
  ev_cb (ea_cons ha ea_nil) fun H1 e Q k => ⟨_, _, rfl, .inl ⟨xs, ex_l e h, rfl⟩, k H1 (Ex.refl _)⟩
theorem ev_lenT {p : Addr} {xs : List V} (ha : Ev te σ H (.ref p)) (h : SqT K H p xs) : Ev (tCB (rLenV K) (tCons te tNil)) σ H (.int (xs.length : Int)) :=
  ev_cb (ea_cons ha ea_nil) fun H1 e Q k => ⟨_, _, rfl, .inr ⟨xs, ex_t e h, rfl⟩, k H1 (Ex.refl _)⟩
/-- an expression of a comprehension over range(n), all turns -/
theorem el_rng {ta : TA} {j : Nat} {vs : List Nat} {n : Nat} (v : Nat → V) (h : EvA ta σ H [.int (n : Int)]) (hn : n ≤ 40000) (hw : ∀ x, wipe ((wipe σ vs).set j (some x)) vs = wipe σ vs)
    (he : ∀ (i : Nat) H1, Ex H H1 → i < n → Ev te ((wipe σ vs).set j (some (.int (i : Int)))) H1 (v i)) : EvL (tLc (iRng1 ta) (gName j) tYes te vs) σ H ((List.range n).map v) := by
  have q := el_lcR1 (te := te) (t := tYes) (fun _ => true) v h ⟨by omega, by omega⟩ hw (fun i H1 e hi H2 e2 Q k => k H2 (Ex.refl _)) (fun i H1 e hi _ => he i H1 e (by omega))
  have e : given (n : Int).toNat (fun _ => true) v = (List.range n).map v := by
    unfold given
    rw [Int.toNat_natCast, List.filter_eq_self.mpr (by intros; rfl)]
  rw [e] at q
  exact q
/-- tuple(a new list) -/
theorem eu_tupleL {xs : List V} (h : EvL te σ H xs) : EvU (tCB (rTupOf K) (tCons te tNil)) σ H xs := fun H1 e Q k => by
  refine h H1 e _ fun p H2 np e2 hp => ?_
  refine ⟨p, xs, rfl, .inl ⟨sq_of hp, fun l nl => ?_⟩⟩
  exact k l _ (fresh_back e2 nl) (e2.trans (Ex.new nl)) upd_same
/-- a text of signs, joined -/
theorem tl_join1 : ∀ cs : List Nat, TL.tl (Txt.join Str.empty (cs.map fun c => (⟨#[c]⟩ : Str))) = cs := by
  have key : ∀ cs : List Nat, TL.joinL [] (cs.map fun c => [c]) = cs := by
    intro cs
    induction cs with
    | nil => rfl
    | cons c r ih =>
      cases r with
      | nil => rfl
      | cons d r =>
        show [c] ++ ([] ++ TL.joinL [] ((d :: r).map fun c => [c])) = c :: d :: r
        rw [ih]; rfl
  intro cs
  rw [TL.join_eq, TL.tl_join]
  have e : (cs.map fun c => (⟨#[c]⟩ : Str)).map TL.tl = cs.map fun c => [c] := by
    rw [List.map_map]; rfl
  rw [e]
  exact key cs
theorem join1 (cs : List Nat) : Txt.join Str.empty (cs.map fun c => (⟨#[c]⟩ : Str)) = ⟨cs.toArray⟩ := TL.ext_tl (by rw [tl_join1, TL.tl_mk])
theorem ev_join1 {cs : List Nat} (ha : Ev ta σ H (.str Str.empty)) (h : EvL te σ H (cs.map fun c => V.str ⟨#[c]⟩)) (hz : cs.length ≤ 1000) :
    Ev (tM1 (rJoin K) ta te) σ H (.str ⟨cs.toArray⟩) := fun H1 e Q k => by
  refine ha H1 e _ fun H2 e2 => ⟨⟨_, rfl⟩, ?_⟩
  refine h H2 (e.trans e2) _ fun p H3 np e3 hp => ?_
  refine ⟨Str.empty, p, cs.map fun c => (⟨#[c]⟩ : Str), rfl, rfl, .inl (sq_of (by rw [hp, List.map_map]; rfl)), ?_, ?_⟩
  · have e1 : ((cs.map fun c => (⟨#[c]⟩ : Str)).map (·.length)).sum = cs.length := by
      rw [List.map_map]
      have : ∀ l : List Nat, (l.map ((fun s : Str => s.length) ∘ fun c => (⟨#[c]⟩ : Str))).sum = l.length := by
        intro l
        induction l with
        | nil => rfl
        | cons c r ih => rw [List.map_cons, List.sum_cons, ih]; show 1 + r.length = r.length + 1; omega
      exact this cs
    rw [e1]
    show cs.length + _ * 0 ≤ _
    omega
  · rw [join1]
    exact k H3 (e2.trans e3)
/-- a written text's sign -/
theorem rv_signs {w : Str} {n : Nat} {c : Nat} (h : w.length ≤ 100000) (hc : w.cps.toList[n]? = some c) : RV rIxS (.str w) (.int (n : Int)) H (.str ⟨#[c]⟩) := rv_ixS h (atI_nat hc)
/-- a new row -/
theorem evp_row {a b c : Nat} {ta : TA} (h : EvA ta σ H [.int (a : Int), .int (b : Int), .int (c : Int)]) : EvP (tTup ta) σ H (fun v H' => IsRow H' v ⟨a, b, c⟩) :=
  (EvU.p (eu_tup h (by show 3 ≤ 100000; decide))).imp fun v H1 e ⟨p, e1, e2⟩ => ⟨p, e1, e2⟩
end
section
variable {K : PySem.W.Frag} {σ : L2.St} {H H' : Hp} {ta tb te tx : TE}
theorem ev_sl {z : Str} {tl th : TO} {lo hi : Option Int} (h : Ev te σ H (.str z)) (h1 : EvO tl σ H lo) (h2 : EvO th σ H hi) (hz : z.length ≤ 100000) : Ev (tSl rSlS te tl th) σ H (.str (cutS z lo hi)) := fun H1 e Q k =>
  h H1 e _ fun H2 e2 => h1 H2 (e.trans e2) _ fun H3 e3 => h2 H3 ((e.trans e2).trans e3) _ fun H4 e4 => ⟨z, rfl, sz_of hz, k H4 ((e2.trans e3).trans e4)⟩
theorem ev_isi {x c : V} {t u : Value} {b : Bool} (ha : Ev ta σ H x) (hb : Ev tb σ H c) (hc : ClsV c u) (hx : ∀ H1, Ex H H1 → TyX K H1 x t) (hk : PySem.W.kitOne K t u = some b) : Ev (tCB (rIsi K) (tCons ta (tCons tb tNil))) σ H (.bl b) :=
  ev_cb (ea_cons ha (ea_cons hb ea_nil)) fun H1 e Q k => ⟨x, c, t, u, b, rfl, hc, hx H1 e, hk, k H1 (Ex.refl _)⟩
theorem rv_inSig {c : Nat} {z : Str} : RV rInSig (.str ⟨#[c]⟩) (.str z) H (.bl (decide (c ∈ z.cps.toList))) := rv_val fun H1 e Q k => ⟨c, z, rfl, rfl, k⟩
theorem rv_ninSig {c : Nat} {z : Str} : RV rNinSig (.str ⟨#[c]⟩) (.str z) H (.bl (!decide (c ∈ z.cps.toList))) := rv_val fun H1 e Q k => ⟨c, z, rfl, rfl, k⟩
/-- int(..) of a bool, of an int -/
theorem ev_intB {b : Bool} (h : Ev te σ H (.bl b)) : Ev (tCB rInt1 (tCons te tNil)) σ H (.int (if b then 1 else 0)) := ev_cb (ea_cons h ea_nil) fun H1 e Q k => .inr ⟨b, rfl, k H1 (Ex.refl _)⟩
theorem ev_intI {i : Int} (h : Ev te σ H (.int i)) : Ev (tCB rInt1 (tCons te tNil)) σ H (.int i) := ev_cb (ea_cons h ea_nil) fun H1 e Q k => .inl ⟨i, rfl, k H1 (Ex.refl _)⟩
/-- texts by their codes -/
theorem cut_to (cs : List Nat) (n : Nat) : cutS ⟨cs.toArray⟩ none (some (n : Int)) = ⟨(cs.take n).toArray⟩ := by
  unfold cutS
  rw [HT.sIx_none, HT.sIx_nat]
  show (⟨((cs.drop 0).take (min n cs.length - 0)).toArray⟩ : Str) = _
  rw [List.drop_zero, Nat.sub_zero]
  congr 2
  by_cases h : n ≤ cs.length
  · rw [Nat.min_eq_left h]
  · rw [Nat.min_eq_right (by omega), List.take_length, List.take_of_length_le (by omega)]
theorem cut_from (cs : List Nat) (n : Nat) : cutS ⟨cs.toArray⟩ (some (n : Int)) none = ⟨(cs.drop n).toArray⟩ := by
  unfold cutS
  rw [HT.sIx_none, HT.sIx_nat]
  show (⟨((cs.drop (min n cs.length)).take (cs.length - min n cs.length)).toArray⟩ : Str) = _
  congr 2
  by_cases h : n ≤ cs.length
  · rw [Nat.min_eq_left h, List.take_of_length_le (by rw [List.length_drop]; exact Nat.le_refl _)]
  · rw [Nat.min_eq_right (by omega), List.drop_length, List.drop_of_length_le (by omega)]; simp
theorem cut_at (cs : List Nat) (n m : Nat) : cutS ⟨cs.toArray⟩ (some (n : Int)) (some ((n + m : Nat) : Int)) = ⟨((cs.drop n).take m).toArray⟩ := by
  unfold cutS
  rw [HT.sIx_nat, HT.sIx_nat]
  show (⟨((cs.drop (min n cs.length)).take (min (n + m) cs.length - min n cs.length)).toArray⟩ : Str) = _
  congr 2
  by_cases h : n ≤ cs.length
  · rw [Nat.min_eq_left h]
    by_cases h2 : n + m ≤ cs.length
    · rw [Nat.min_eq_left h2, Nat.add_sub_cancel_left]
    · rw [Nat.min_eq_right (by omega), List.take_of_length_le (l := cs.drop n) (by rw [List.length_drop]; exact Nat.le_refl _), List.take_of_length_le (by rw [List.length_drop]; omega)]
  · rw [Nat.min_eq_right (by omega), Nat.min_eq_right (by omega), List.drop_length, List.drop_of_length_le (by omega)]; simp
end
/-- no exception is let out by a call -/
theorem pass0X {X : Cx} : Passes (L2.CX X.prog X.w) X E0 := fun pins σ H s e s' I h => by
  obtain ⟨a, B, H', cls, d, _, _, _, _, _, _, _, q⟩ := h
  exact q.elim
end Kp
end
section
set_option maxHeartbeats 4000000
/-! Comprehensions and loops over anything walked. -/
namespace Kp
open PySem PySem.Spec PyProof.Rows L2 Evl
section
variable {K : PySem.W.Frag} {σ : L2.St} {H H' : Hp} {ta tb te tx : TE} {t u tt : TT} {x y z v : V} {r : R2} {D : Ends} {tu tw tz : TS} {g : TG} {wi : TI} {vs : List Nat}
/-- at the turns below n of what wi walks, from every larger heap: x is bound, R holds -/
def Wks (wi : TI) (σ : L2.St) (H : Hp) (n : Nat) (R : Nat → V → Hp → Prop) : Prop :=
  ∀ H1, Ex H H1 → ∀ R' : It → Hp → Prop, (∀ J H2, Ex H1 H2 → (∃ (G : Hp → Prop) (Y : Nat → Hp → V → Hp → Prop), Walk J n G Y ∧ G H2 ∧ (∀ H3, Ex H2 H3 → G H3) ∧ (∀ i Ha x Hb, i < n → Ex H2 Ha → Y i Ha x Hb → Ex Ha Hb ∧ R i x Hb)) → R' J H2) → wi σ H1 R'
theorem Wks.mono {n : Nat} {R : Nat → V → Hp → Prop} (e : Ex H H') (h : Wks wi σ H n R) : Wks wi σ H' n R := fun H1 e1 R' k => h H1 (e.trans e1) R' k
theorem wk_list {tl : TE} {a : Addr} {xs : List V} (h : Ev tl σ H (.ref a)) (hx : SqL K H a xs) : Wks (iList K tl) σ H xs.length (fun i x _ => xs[i]? = some x) := fun H1 e R' k => by
  refine h H1 e _ fun H2 e2 => ?_
  have q := ex_l (e.trans e2) hx
  exact ⟨a, rfl, ⟨xs, q⟩, k _ H2 e2 ⟨_, _, walk_list (a := a) (xs := xs), q, fun H3 e3 => ex_l e3 q, fun i Ha x Hb hi _ y => by obtain ⟨rfl, y⟩ := y; exact ⟨Ex.refl _, y⟩⟩⟩
theorem wk_tup {tl : TE} {a : Addr} {xs : List V} (h : Ev tl σ H (.ref a)) (hx : SqT K H a xs) : Wks (iTup K tl) σ H xs.length (fun i x _ => xs[i]? = some x) := fun H1 e R' k => by
  refine h H1 e _ fun H2 e2 => ?_
  have q := ex_t (e.trans e2) hx
  exact ⟨a, rfl, ⟨xs, q⟩, k _ H2 e2 ⟨_, _, walk_tup (a := a) (xs := xs), q, fun H3 e3 => ex_t e3 q, fun i Ha x Hb hi _ y => by obtain ⟨rfl, y⟩ := y; exact ⟨Ex.refl _, y⟩⟩⟩
theorem wk_seq {tl : TE} {a : Addr} {xs : List V} (h : Ev tl σ H (.ref a)) (hx : SqL K H a xs ∨ SqT K H a xs) : Wks (iSeq K tl) σ H xs.length (fun i x _ => xs[i]? = some x) := fun H1 e R' k => by
  rcases hx with hx | hx
  · exact .inl (wk_list h hx H1 e R' k)
  · exact .inr (wk_tup h hx H1 e R' k)
theorem wk_rng1 {ta : TA} {n : Nat} (h : EvA ta σ H [.int (n : Int)]) (hn : n ≤ 100000) : Wks (iRng1 ta) σ H n (fun i x _ => x = .int (i : Int)) := fun H1 e R' k => by
  refine h H1 e _ fun H2 e2 => ?_
  refine ⟨(n : Int), rfl, by omega, by omega, ?_⟩
  rw [Int.toNat_natCast]
  refine k _ H2 e2 ⟨_, _, walk_range (lo := 0) (n := n), trivial, fun _ _ => trivial, fun i Ha x Hb hi _ y => ?_⟩
  obtain ⟨rfl, y⟩ := y
  refine ⟨Ex.refl _, ?_⟩
  show x = V.int ((i : Nat) : Int)
  rw [y]
  show V.int ((0 : Int) + ((i : Nat) : Int)) = _
  rw [Int.zero_add]
theorem wk_rng2 {ta : TA} {lo n : Nat} (h : EvA ta σ H [.int (lo : Int), .int (n : Int)]) (hl : lo ≤ 100000) (hn : n ≤ 100000) : Wks (iRng2 ta) σ H (n - lo) (fun i x _ => x = .int ((lo + i : Nat) : Int)) := fun H1 e R' k => by
  refine h H1 e _ fun H2 e2 => ?_
  refine ⟨(lo : Int), (n : Int), rfl, by omega, ?_⟩
  have ez : ((n : Int) - (lo : Int)).toNat = n - lo := by omega
  rw [ez]
  refine k _ H2 e2 ⟨_, _, walk_range (lo := (lo : Int)) (n := n - lo), trivial, fun _ _ => trivial, fun i Ha x Hb hi _ y => ?_⟩
  obtain ⟨rfl, y⟩ := y
  refine ⟨Ex.refl _, ?_⟩
  show x = V.int ((lo + i : Nat) : Int)
  rw [y, Int.natCast_add]
theorem wk_str {te : TE} {z : Str} (h : Ev te σ H (.str z)) : Wks (iStr te) σ H z.cps.size (fun i x _ => ∃ c, z.cps[i]? = some c ∧ x = .str ⟨#[c]⟩) := fun H1 e R' k => by
  refine h H1 e _ fun H2 e2 => ⟨z, rfl, k _ H2 e2 ⟨_, _, walk_str (z := z), trivial, fun _ _ => trivial, fun i Ha x Hb hi _ y => ?_⟩⟩
  obtain ⟨rfl, y⟩ := y
  exact ⟨Ex.refl _, y⟩
/-- enumerate(list), zip(list, list): new pairs -/
theorem wk_enum {ta : TA} {a : Addr} {xs : List V} (h : EvA ta σ H [.ref a]) (hx : SqL K H a xs) : Wks (iEnum K ta) σ H xs.length (fun i x H' => ∃ T y, x = .ref T ∧ H' T = some (.tup [.int (i : Int), y]) ∧ xs[i]? = some y) := fun H1 e R' k => by
  refine h H1 e _ fun H2 e2 => ?_
  have q := ex_l (e.trans e2) hx
  refine ⟨a, xs, rfl, q, k _ H2 e2 ⟨_, _, walk_enum (a := a) (xs := xs), q, fun H3 e3 => ex_l e3 q, fun i Ha x Hb hi _ y => ?_⟩⟩
  obtain ⟨T, x1, x2, rfl, h1, rfl, h2, h3⟩ := y
  refine ⟨Ex.new h1, T, x2, rfl, ?_, h3⟩
  have e1 : x1 = .int (i : Int) := (Option.some.inj h2).symm
  rw [e1]
  exact upd_same
theorem wk_zip {ta : TA} {a b : Addr} {xs ys : List V} (h : EvA ta σ H [.ref a, .ref b]) (hx : SqL K H a xs) (hy : SqL K H b ys) :
    Wks (iZip K ta) σ H (min xs.length ys.length) (fun i x H' => ∃ T p q, x = .ref T ∧ H' T = some (.tup [p, q]) ∧ xs[i]? = some p ∧ ys[i]? = some q) := fun H1 e R' k => by
  refine h H1 e _ fun H2 e2 => ?_
  have q := ex_l (e.trans e2) hx
  have q' := ex_l (e.trans e2) hy
  refine ⟨a, b, xs, ys, rfl, q, q', k _ H2 e2 ⟨_, _, walk_zip (a := a) (b := b) (xs := xs) (ys := ys) rfl, ⟨q, q'⟩, fun H3 e3 => ⟨ex_l e3 q, ex_l e3 q'⟩, fun i Ha x Hb hi _ y => ?_⟩⟩
  obtain ⟨T, x1, x2, rfl, h1, rfl, h2, h3⟩ := y
  exact ⟨Ex.new h1, T, x1, x2, rfl, upd_same, h2, h3⟩
/-! ### the same where the loop's own word says that what is walked stands -/
def WkG (wi : TI) (σ : L2.St) (H : Hp) (n : Nat) (G : Hp → Prop) (Y : Nat → Hp → V → Hp → Prop) : Prop :=
  ∀ H1, Ex H H1 → ∀ R' : It → Hp → Prop, (∀ J H2, Ex H1 H2 → Walk J n G Y → R' J H2) → wi σ H1 R'
theorem wg_list {tl : TE} {a : Addr} {xs : List V} (h : Ev tl σ H (.ref a)) (hx : SqL K H a xs) : WkG (iList K tl) σ H xs.length (fun H => SqL K H a xs) (YAt xs) := fun H1 e R' k => by
  refine h H1 e _ fun H2 e2 => ?_
  exact ⟨a, rfl, ⟨xs, ex_l (e.trans e2) hx⟩, k _ H2 e2 walk_list⟩
theorem wg_tup {tl : TE} {a : Addr} {xs : List V} (h : Ev tl σ H (.ref a)) (hx : SqT K H a xs) : WkG (iTup K tl) σ H xs.length (fun H => SqT K H a xs) (YAt xs) := fun H1 e R' k => by
  refine h H1 e _ fun H2 e2 => ?_
  exact ⟨a, rfl, ⟨xs, ex_t (e.trans e2) hx⟩, k _ H2 e2 walk_tup⟩
theorem wg_enum {ta : TA} {a : Addr} {xs : List V} (h : EvA ta σ H [.ref a]) (hx : SqL K H a xs) : WkG (iEnum K ta) σ H xs.length (fun H => SqL K H a xs) (YPair (fun i => some (.int (i : Nat))) (fun i => xs[i]?)) := fun H1 e R' k => by
  refine h H1 e _ fun H2 e2 => ?_
  exact ⟨a, xs, rfl, ex_l (e.trans e2) hx, k _ H2 e2 walk_enum⟩
theorem wg_zip {ta : TA} {a b : Addr} {xs ys : List V} (h : EvA ta σ H [.ref a, .ref b]) (hx : SqL K H a xs) (hy : SqL K H b ys) : WkG (iZip K ta) σ H (min xs.length ys.length) (fun H => SqL K H a xs ∧ SqL K H b ys) (YPair (fun i => xs[i]?) (fun i => ys[i]?)) := fun H1 e R' k => by
  refine h H1 e _ fun H2 e2 => ?_
  exact ⟨a, b, xs, ys, rfl, ex_l (e.trans e2) hx, ex_l (e.trans e2) hy, k _ H2 e2 (walk_zip rfl)⟩
/-- a for -/
theorem s_forG {n : Nat} {G : Hp → Prop} {Y : Nat → Hp → V → Hp → Prop} (hw : WkG wi σ H n G Y) (Pv : Nat → L2.St → Hp → Prop) (h0 : ∀ H1, Ex H H1 → Pv 0 σ H1) (hG : ∀ i σ' H', i ≤ n → Pv i σ' H' → G H')
    (hs : ∀ i x σ' Ha Hb, i < n → Pv i σ' Ha → Y i Ha x Hb → g x σ' Hb fun σ2 H2 => tu { D with nx := Pv (i + 1), ct := Pv (i + 1), bk := D.nx } σ2 H2) (hd : ∀ σ' H', Pv n σ' H' → D.nx σ' H') : tFor wi g tu D σ H := by
  refine hw H (Ex.refl _) _ fun J H2 e2 W => ?_
  exact for_it W Pv (h0 H2 e2) hG hs hd
theorem q_forG {n : Nat} {G : Hp → Prop} {Y : Nat → Hp → V → Hp → Prop} (hw : WkG wi σ H n G Y) (Pv : Nat → L2.St → Hp → Prop) (h0 : ∀ H1, Ex H H1 → Pv 0 σ H1) (hG : ∀ i σ' H', i ≤ n → Pv i σ' H' → G H')
    (hs : ∀ i x σ' Ha Hb, i < n → Pv i σ' Ha → Y i Ha x Hb → g x σ' Hb fun σ2 H2 => tu { D with nx := Pv (i + 1), ct := Pv (i + 1), bk := tz D } σ2 H2) (hd : ∀ σ' H', Pv n σ' H' → tz D σ' H') : tSeq (tFor wi g tu) tz D σ H := s_forG hw Pv h0 hG hs hd
/-- a for in which all that stood at its start (Hs) stands -/
theorem s_forW {n : Nat} {R : Nat → V → Hp → Prop} (hw : Wks wi σ H n R) (Pv : Hp → Nat → L2.St → Hp → Prop) (h0 : ∀ H1, Ex H H1 → Pv H1 0 σ H1) (hE : ∀ Hs i σ' H', Ex H Hs → i ≤ n → Pv Hs i σ' H' → Ex Hs H')
    (hs : ∀ Hs i x σ' Ha Hb, Ex H Hs → i < n → Pv Hs i σ' Ha → Ex Ha Hb → R i x Hb → g x σ' Hb fun σ2 H2 => tu { D with nx := Pv Hs (i + 1), ct := Pv Hs (i + 1), bk := D.nx } σ2 H2) (hd : ∀ Hs σ' H', Ex H Hs → Pv Hs n σ' H' → D.nx σ' H') : tFor wi g tu D σ H := by
  refine hw H (Ex.refl _) _ fun J H2 e2 ⟨G, Y, W, g0, gm, hy⟩ => ?_
  refine for_it W (Pv H2) (h0 H2 e2) (fun i σ' H' hi p => gm H' (hE H2 i σ' H' e2 hi p)) (fun i x σ' Ha Hb hi p y => ?_) (fun σ' H' p => hd H2 σ' H' e2 p)
  obtain ⟨eb, hR⟩ := hy i Ha x Hb hi (hE H2 i σ' Ha e2 (Nat.le_of_lt hi) p) y
  exact hs H2 i x σ' Ha Hb e2 hi p eb hR
theorem q_forW {n : Nat} {R : Nat → V → Hp → Prop} (hw : Wks wi σ H n R) (Pv : Hp → Nat → L2.St → Hp → Prop) (h0 : ∀ H1, Ex H H1 → Pv H1 0 σ H1) (hE : ∀ Hs i σ' H', Ex H Hs → i ≤ n → Pv Hs i σ' H' → Ex Hs H')
    (hs : ∀ Hs i x σ' Ha Hb, Ex H Hs → i < n → Pv Hs i σ' Ha → Ex Ha Hb → R i x Hb → g x σ' Hb fun σ2 H2 => tu { D with nx := Pv Hs (i + 1), ct := Pv Hs (i + 1), bk := tz D } σ2 H2) (hd : ∀ Hs σ' H', Ex H Hs → Pv Hs n σ' H' → tz D σ' H') : tSeq (tFor wi g tu) tz D σ H := s_forW hw Pv h0 hE hs hd
/-- list(..), tuple(..) of a made list, told -/
theorem evp_tupleL {P : List V → Hp → Prop} (hP : ∀ xs H H', Kx H H' → P xs H → P xs H') (h : EvP te σ H (fun v H' => ∃ p xs, v = .ref p ∧ H' p = some (.lst xs) ∧ P xs H')) :
    EvP (tCB (rTupOf K) (tCons te tNil)) σ H (fun v H' => ∃ p xs, v = .ref p ∧ H' p = some (.tup xs) ∧ P xs H') := fun H1 e Q k => by
  refine h H1 e _ fun v H2 e2 ⟨p, xs, ev, hp, q⟩ => ?_
  subst ev
  refine ⟨p, xs, rfl, .inl ⟨sq_of hp, fun l nl => ?_⟩⟩
  exact k _ _ (e2.trans (Ex.new nl)) ⟨l, xs, rfl, upd_same, hP xs _ _ (Kx.new nl) q⟩
theorem filter_all (n : Nat) : (List.range n).filter (fun _ => true) = List.range n := List.filter_eq_self.mpr (by intros; rfl)
theorem et_yes : EvT tYes σ H true := fun H1 e Q k => k H1 (Ex.refl _)
/-! ### comprehensions -/
/-- a comprehension, its elements told by P -/
theorem evp_lc {n : Nat} {R : Nat → V → Hp → Prop} (hw : Wks wi σ H n R) (f : Nat → Bool) (P : Nat → V → Hp → Prop) (hn : n ≤ 100000) (hP : ∀ i v H H', Kx H H' → P i v H → P i v H')
    (ht : ∀ i x Hb, i < n → Ex H Hb → R i x Hb → ∀ Q' : L2.St → Hp → Prop, (∀ σ2 Hc, wipe σ2 vs = wipe σ vs → Ex Hb Hc → EvT tt σ2 Hc (f i) → (f i = true → EvP te σ2 Hc (P i)) → Q' σ2 Hc) → g x (wipe σ vs) Hb Q') :
    EvP (tLc wi g tt te vs) σ H (fun v H' => ∃ p xs, v = .ref p ∧ H' p = some (.lst xs) ∧ Paired (fun x i => P i x H') xs ((List.range n).filter f)) := fun H1 e1 Q k => by
  refine hw H1 e1 _ fun J H2 e2 ⟨G, Y, W, g0, gm, hy⟩ Dl nD => ?_
  refine lc_it W (fun i H' => Ex H2 H' ∧ ∃ xs, H' Dl = some (.lst xs) ∧ Paired (fun x i => P i x H') xs ((List.range i).filter f)) ⟨Ex.new nD, [], upd_same, .nil⟩ (fun i H' _ p => gm H' p.1) ?_ ?_
  · rintro i x Ha Hb hi ⟨ea, xs, hD, pr⟩ y
    obtain ⟨eb, hR⟩ := hy i Ha x Hb hi ea y
    have ah : Ex H Ha := (e1.trans e2).trans ea
    refine ht i x Hb hi (ah.trans eb) hR _ fun σ2 Hc w1 ec tf tp => ?_
    · refine ⟨w1, ?_⟩
      refine tf Hc (Ex.refl _) _ fun H3 e3 => ?_
      have hD3 := e3 _ _ (ec _ _ (eb _ _ hD))
      have k3 : Kx Ha H3 := ((Kx.of eb).trans (.of ec)).trans (.of e3)
      cases hf : f i with
      | false =>
        simp only [Bool.false_eq_true, if_false]
        refine ⟨((ea.trans eb).trans ec).trans e3, xs, hD3, ?_⟩
        rw [List.range_succ, List.filter_append]
        simp only [List.filter_cons, List.filter_nil, hf, Bool.false_eq_true, if_false, List.append_nil]
        exact L2.Paired.mapP pr fun a b q => hP b a _ _ k3 q
      | true =>
        simp only [if_true]
        refine tp hf H3 e3 _ fun v' H4 e4 pv => ?_
        have hD4 := e4 _ _ hD3
        have lz := paired_len pr
        have ll : ((List.range i).filter f).length ≤ i := Nat.le_trans (List.length_filter_le _ _) (by rw [List.length_range]; exact Nat.le_refl _)
        refine ⟨xs, hD4, sz_lt (by omega), ?_⟩
        have kk : Kx H4 (upd H4 Dl (.lst (xs ++ [v']))) := Kx.lst hD4
        have ex4 : Ex H2 H4 := (((ea.trans eb).trans ec).trans e3).trans e4
        refine ⟨Ex.mut ex4 nD, xs ++ [v'], upd_same, ?_⟩
        rw [List.range_succ, List.filter_append]
        simp only [List.filter_cons, List.filter_nil, hf, if_true]
        exact paired_app (L2.Paired.mapP pr fun a b q => hP b a _ _ ((k3.trans (.of e4)).trans kk) q) (.cons (hP i v' _ _ kk pv) .nil)
  · rintro H' ⟨ea, xs, hD, pr⟩
    exact k _ H' (e2.trans ea) ⟨Dl, xs, rfl, hD, pr⟩
theorem given_map {α : Type} (L : List α) (v : α → V) : ∃ f : Nat → V, given L.length (fun _ => true) f = L.map v ∧ ∀ (i : Nat) d, L[i]? = some d → f i = v d := by
  cases L with
  | nil => exact ⟨fun _ => .non, rfl, fun i d h => by simp at h⟩
  | cons a r =>
    refine ⟨fun i => v ((a :: r).getD i a), ?_, fun i d h => ?_⟩
    · unfold given
      rw [List.filter_eq_self.mpr (by intros; rfl)]
      apply List.ext_getElem
      · simp
      · intro i h1 h2
        simp only [List.length_map] at h2
        rw [List.getElem_map, List.getElem_map, List.getElem_range, List.getD_eq_getElem?_getD, List.getElem?_eq_getElem h2]; rfl
    · simp only [List.getD_eq_getElem?_getD, h, Option.getD_some]
/-- over a list whose items are told by data -/
theorem el_map {α : Type} {L : List α} {tl : TE} {a : Addr} {j : Nat} (rep v : α → V) (h : Ev tl σ H (.ref a)) (hx : SqL K H a (L.map rep)) (hz : L.length ≤ 40000) (hw : ∀ x, wipe ((wipe σ vs).set j (some x)) vs = wipe σ vs)
    (he : ∀ d ∈ L, ∀ H1, Ex H H1 → Ev te ((wipe σ vs).set j (some (rep d))) H1 (v d)) : EvL (tLc (iList K tl) (gName j) tYes te vs) σ H (L.map v) := by
  obtain ⟨f, hf, hv⟩ := given_map L v
  have q := el_lcL (te := te) (t := tYes) (vs := vs) (j := j) (fun _ => true) f h hx (by rw [List.length_map]; exact hz) hw (fun i x H1 e hi => et_yes) (fun i x H1 e hi _ => by
    rw [List.getElem?_map] at hi
    cases q : L[i]? with
    | none => rw [q] at hi; cases hi
    | some d =>
      rw [q] at hi
      have ex : x = rep d := (Option.some.inj hi).symm
      subst ex
      rw [hv i d q]
      exact he d (List.mem_of_getElem? q) H1 e)
  rw [List.length_map, hf] at q
  exact q
theorem el_mapN {α : Type} {L : List α} {tl : TE} {j : Nat} (rep v : α → V) (h : EvL tl σ H (L.map rep)) (hz : L.length ≤ 40000) (hw : ∀ x, wipe ((wipe σ vs).set j (some x)) vs = wipe σ vs)
    (he : ∀ d ∈ L, ∀ H1, Ex H H1 → Ev te ((wipe σ vs).set j (some (rep d))) H1 (v d)) : EvL (tLc (iList K tl) (gName j) tYes te vs) σ H (L.map v) := by
  obtain ⟨f, hf, hv⟩ := given_map L v
  have q := el_lcNL (K := K) (te := te) (t := tYes) (vs := vs) (j := j) (fun _ => true) f h (by rw [List.length_map]; exact hz) hw (fun i x H1 e hi => et_yes) (fun i x H1 e hi _ => by
    rw [List.getElem?_map] at hi
    cases q : L[i]? with
    | none => rw [q] at hi; cases hi
    | some d =>
      rw [q] at hi
      have ex : x = rep d := (Option.some.inj hi).symm
      subst ex
      rw [hv i d q]
      exact he d (List.mem_of_getElem? q) H1 e)
  rw [List.length_map, hf] at q
  exact q
/-- a list and a new one, joined -/
theorem el_cat {xs ys : List V} {a : Addr} (ha : Ev ta σ H (.ref a)) (hx : H a = some (.lst xs)) (hb : EvL tb σ H ys) (hz : xs.length + ys.length ≤ 100000) : EvL (tOp rCat ta tb) σ H (xs ++ ys) := fun H1 e Q k => by
  refine ha H1 e _ fun H2 e2 => hb H2 (e.trans e2) _ fun p H3 np e3 hp => ?_
  refine ⟨a, p, xs, ys, rfl, rfl, e3 _ _ (e2 _ _ (e _ _ hx)), hp, sz_of hz, fun q nq => ?_⟩
  exact k q _ (fresh_back (e2.trans e3) nq) ((e2.trans e3).trans (Ex.new nq)) upd_same
theorem el_catN {xs ys : List V} (ha : EvL ta σ H xs) (hb : ∀ H1, Ex H H1 → EvL tb σ H1 ys) (hz : xs.length + ys.length ≤ 100000) : EvL (tOp rCat ta tb) σ H (xs ++ ys) := fun H1 e Q k => by
  refine ha H1 e _ fun p1 H2 np1 e2 hp1 => hb H2 (e.trans e2) H2 (Ex.refl _) _ fun p H3 np e3 hp => ?_
  refine ⟨p1, p, xs, ys, rfl, rfl, e3 _ _ hp1, hp, sz_of hz, fun q nq => ?_⟩
  exact k q _ (fresh_back (e2.trans e3) nq) ((e2.trans e3).trans (Ex.new nq)) upd_same
/-- a new list of no item, of one -/
theorem el_nil : EvL (tLst tNil) σ H [] := el_lst ea_nil (by decide)
theorem el_one (h : Ev te σ H v) : EvL (tLst (tCons te tNil)) σ H [v] := el_lst (ea_cons h ea_nil) (by show 1 ≤ 100000; decide)
/-- statements over a list made on the way, as an EvP -/
theorem el_p {xs : List V} (h : EvL te σ H xs) : EvP te σ H (fun v H' => ∃ p, v = .ref p ∧ H' p = some (.lst xs)) := EvL.p h
/-- over a list whose items are told by data in the heap -/
theorem el_pmap {α : Type} {L : List α} {xs : List V} {tl : TE} {a : Addr} {j : Nat} (F : V → α → Prop) (v : α → V) (h : Ev tl σ H (.ref a)) (hx : SqL K H a xs) (hp : Paired F xs L) (hz : L.length ≤ 40000) (hw : ∀ x, wipe ((wipe σ vs).set j (some x)) vs = wipe σ vs)
    (he : ∀ x d H1, Ex H H1 → F x d → Ev te ((wipe σ vs).set j (some x)) H1 (v d)) : EvL (tLc (iList K tl) (gName j) tYes te vs) σ H (L.map v) := by
  obtain ⟨f, hf, hv⟩ := given_map L v
  have q := el_lcL (te := te) (t := tYes) (vs := vs) (j := j) (fun _ => true) f h hx (by rw [paired_len hp]; exact hz) hw (fun i x H1 e hi => et_yes) (fun i x H1 e hi _ => by
    obtain ⟨d, hd, r⟩ := paired_at hp hi
    rw [hv i d hd]
    exact he x d H1 e r)
  rw [paired_len hp, hf] at q
  exact q
theorem paired_range {α : Type} {L : List α} {β : Type} {xs : List V} {P : Nat → V → Prop} {F : V → β → Prop} {g : α → β} (h : Paired (fun x i => P i x) xs (List.range L.length)) (hi : ∀ (i : Nat) (d : α) x, L[i]? = some d → P i x → F x (g d)) : Paired F xs (L.map g) := by
  have hl : xs.length = L.length := by rw [paired_len h, List.length_range]
  refine paired_of (by rw [hl, List.length_map]) fun i x y h1 h2 => ?_
  obtain ⟨k, hk, p⟩ := paired_at h h1
  have lt : i < L.length := by
    have := (List.getElem?_eq_some_iff.mp h1).1
    omega
  have ek : k = i := by
    rw [List.getElem?_range lt] at hk
    exact (Option.some.inj hk).symm
  subst ek
  rw [List.getElem?_map] at h2
  cases e : L[k]? with
  | none => rw [e] at h2; cases h2
  | some d =>
    rw [e] at h2
    have ey : y = g d := (Option.some.inj h2).symm
    subst ey
    exact hi k d x e p
/-- a list told by P, walked -/
theorem wk_listP {tl : TE} {n : Nat} {P : List V → Hp → Prop} (hl : ∀ xs H, P xs H → xs.length = n) (h : EvP tl σ H (fun v H' => ∃ a xs, v = .ref a ∧ H' a = some (.lst xs) ∧ P xs H')) :
    Wks (iList K tl) σ H n (fun i x H' => ∃ xs H0, Ex H0 H' ∧ P xs H0 ∧ xs[i]? = some x) := fun H1 e R' k => by
  refine h H1 e _ fun v H2 e2 ⟨a, xs, ev, ha, hp⟩ => ?_
  subst ev
  have q : SqL K H2 a xs := sq_of ha
  have hn := hl xs H2 hp
  subst hn
  exact ⟨a, rfl, ⟨xs, q⟩, k _ H2 e2 ⟨_, _, walk_list (a := a) (xs := xs), q, fun H3 e3 => ex_l e3 q, fun i Ha x Hb hi ea y => by obtain ⟨rfl, y⟩ := y; exact ⟨Ex.refl _, xs, H2, ea, hp, y⟩⟩⟩
/-- a name as the target of a comprehension -/
theorem tg_name {j i : Nat} {f : Bool} {x : V} {Hb : Hp} {P : V → Hp → Prop} {Q' : L2.St → Hp → Prop} (hw : wipe ((wipe σ vs).set j (some x)) vs = wipe σ vs) (ht : EvT tt ((wipe σ vs).set j (some x)) Hb f) (he : f = true → EvP te ((wipe σ vs).set j (some x)) Hb P)
    (k : ∀ σ2 Hc, wipe σ2 vs = wipe σ vs → Ex Hb Hc → EvT tt σ2 Hc f → (f = true → EvP te σ2 Hc P) → Q' σ2 Hc) : gName j x (wipe σ vs) Hb Q' := k _ Hb hw (Ex.refl _) ht he
end
end Kp
end
section
set_option maxHeartbeats 4000000
/-! enumerate(text) walked. -/
namespace Kp
open PySem PySem.Spec PyProof.Rows L2 Evl
/-- the signs of x, each in a new pair with its place -/
def Itse (x : Str) : It :=
  ⟨fun i _ => i < x.cps.size, fun i H v H' => ∃ T c, v = .ref T ∧ H T = none ∧ H' = upd H T (.tup [.int (i : Nat), .str ⟨#[c]⟩]) ∧ x.cps[i]? = some c, fun i _ => x.cps.size ≤ i⟩
theorem turn_enumS {P : Program} {w : World} {K : PySem.W.Frag} {elts : List Expr} {kk : Nat} {tpos : Pos} (x : Str) (t : Tok) (e it : Addr) (ty : String) (hty : ty = "str_ascii_iterator" ∨ ty = "str_iterator") :
    Turn P w K (.Tuple elts kk tpos) (Itse x) [e, it] e (fun i h => i ≤ x.cps.size ∧ (∃ old, IsEnum h e it ((i : Nat) : Int) old) ∧ h.IsStrIter it ty x t i ∧ e ≠ it) where
  mem := by simp
  obj := fun i h st b hb => by
    obtain ⟨_, ⟨old, he⟩, ⟨o, ho, hc, hd⟩, _⟩ := st
    have e' : b = e ∨ b = it := by simpa using hb
    rcases e' with z | z
    · rw [z]; exact ⟨_, he, fun v q => nomatch q⟩
    · rw [z]; exact ⟨o, ho, fun v q => by rw [hd] at q; cases q⟩
  keep := fun i h h' st k => let ⟨hi', ⟨old, he⟩, ⟨o, ho, r⟩, hne⟩ := st; ⟨hi', ⟨old, k e (by simp) _ he⟩, ⟨o, k it (by simp) o ho, r⟩, hne⟩
  item := by
    intro X hP hw hK hc i pins s σ H E I hf st hg
    subst hP hw hK
    obtain ⟨_, ⟨old, he⟩, hit, hne⟩ := st
    have hel : e < s.heap.objs.size := Heap.lt_size he
    have hil : it < s.heap.objs.size := by obtain ⟨_, q, _⟩ := id hit; exact Heap.lt_size q
    have D : Draws X.prog X.w X.A.in1 it [it] x.cps.size (fun i v => ∃ c u, x.cps[i]? = some c ∧ v = Value.str ⟨#[c]⟩ u) (fun i h => h.IsStrIter it ty x t i) := by
      rcases hty with z | z
      · rw [z]; exact Draws.strAscii (A := X.A.in1) (I.ok.hd hc) it x t
      · rw [z]; exact Draws.strWide (A := X.A.in1) (I.ok.hd hc) it x t
    refine wpAny_pyNext_enum_itemD D he hit hg hne (by simpa using hne) fun u h' tk hu ho hit' hT hsz hk => ?_
    obtain ⟨c, tu, hcx, rfl⟩ := hu
    refine ⟨_, rfl, wpAny_letOwnedTupleGo_enum (s := { s with heap := h', toks := tk + 1 }) ho fun h'' he' sb => ?_⟩
    have hT2 : h''.get? s.heap.objs.size = some { cls := .type "tuple", data := .seq #[.int i tk, .str ⟨#[c]⟩ tu] } := (sb.2 _ (Nat.ne_of_gt hel)).trans hT
    have new : ObjOk X.prog X.w (upd H s.heap.objs.size (.tup [.int (i : Nat), .str ⟨#[c]⟩])) h'' s.heap.objs.size (.tup [.int (i : Nat), .str ⟨#[c]⟩]) :=
      ⟨by show 2 ≤ sizeLine; decide, [.int i tk, .str ⟨#[c]⟩ tu], .cons ⟨_, rfl⟩ (.cons ⟨_, rfl⟩ .nil), ⟨_, hT2, rfl, _, rfl⟩⟩
    have I1 : Inv X pins σ (upd H s.heap.objs.size (.tup [.int (i : Nat), .str ⟨#[c]⟩])) { s with heap := h'', toks := tk + 1 } :=
      I.turnedNew (ch := [e, it]) (fun b ob hb q => (sb.2 b (fun z => hb (by simp [z]))).trans (hk b ob (fun z => hb (by simp [z])) (fun z => hb (by simp [z])) q)) hf (Nat.le_refl _) new
    have hit2 : h''.IsStrIter it ty x t (i + 1) := by
      obtain ⟨o, ho2, r⟩ := hit'
      exact ⟨o, (sb.2 it (Ne.symm hne)).trans ho2, r⟩
    refine ⟨.ref s.heap.objs.size, _, I1, rfl, ⟨_, c, rfl, I.hok.fresh (Nat.le_refl _), rfl, hcx⟩, ⟨hg, ⟨Value.str ⟨#[c]⟩ tu, ?_⟩, hit2, hne⟩, fun b hb => ?_⟩
    · have e1 : ((i + 1 : Nat) : Int) = (i : Int) + 1 := by omega
      rw [e1]; exact he'
    · have hb' : b < s.heap.objs.size := by
        have e' : b = e ∨ b = it := by simpa using hb
        rcases e' with z | z
        · rw [z]; exact hel
        · rw [z]; exact hil
      rw [upd_ne (Nat.ne_of_lt hb')]
      exact (hf b hb).1
  done := by
    intro X hP hw hK hc i pins s σ H E I hf st hg
    subst hP hw hK
    obtain ⟨hle, ⟨old, he⟩, hit, hne⟩ := st
    obtain ⟨f0, f1, f2, f3, f4, f5⟩ := hf it (by simp)
    have ei : i = x.cps.size := Nat.le_antisymm hle hg
    subst ei
    have D : Draws X.prog X.w X.A.in1 it [it] x.cps.size (fun i v => ∃ c u, x.cps[i]? = some c ∧ v = Value.str ⟨#[c]⟩ u) (fun i h => h.IsStrIter it ty x t i) := by
      rcases hty with z | z
      · rw [z]; exact Draws.strAscii (A := X.A.in1) (I.ok.hd hc) it x t
      · rw [z]; exact Draws.strWide (A := X.A.in1) (I.ok.hd hc) it x t
    exact wpAny_pyNext_enum_endD D he hit fun h' eb => ⟨rfl, I.turned (t' := s.toks) (fun b o hb q => eb b o hb q) f0 f1 f3 f4 f5⟩
  self := fun A i s Q E st h => let ⟨_, ⟨_, he⟩, _⟩ := st; wpAny_pyIter_enum he h
def iEnumS (ta : TA) : TI := fun σ H R => ta σ H fun vs H1 => ∃ x, vs = [.str x] ∧ R (Itse x) H1
theorem pi_enumS {X : Cx} {e : Expr} {ta : TA} {p pos tpos : Pos} {elts : List Expr} {kk : Nat} (hg : Gl X "enumerate") (hm : X.mg "enumerate" = none) (ha : PA X [e] ta) (hs : starEach [e] X.env = [(false, eval e X.env)] := by rfl) :
    PI X (.Tuple elts kk tpos) (.Call (.Name "enumerate" p) [e] [] pos) (iEnumS ta) := by
  refine ⟨fun pins s σ H R I h => ?_⟩
  refine Call_ (ld_blt I hg hm boot_enumerate (PyProof.Rows.callWith_type1 (thn (ha.run pos pins s σ H _ I h) fun us s1 ⟨vs, H1, I1, r1, q1⟩ => ?_) hs rfl))
  obtain ⟨x, ex, q⟩ := q1
  subst ex
  cases r1 with
  | cons r rr =>
    cases rr
    obtain ⟨t, rfl⟩ := r
    refine call_enumerate_str fun h' he hit hsz hk => wpAny_pyIter_enum he ?_
    have I2 : Inv X pins σ H1 { s1 with heap := h' } := I1.kept (t' := s1.toks) hk
    have ty : strIterType x = "str_ascii_iterator" ∨ strIterType x = "str_iterator" := by
      unfold strIterType
      split
      · exact .inl rfl
      · exact .inr rfl
    refine ⟨s1.heap.objs.size + 1, [s1.heap.objs.size + 1, s1.heap.objs.size], _, _, H1, rfl, I2, turn_enumS x t (s1.heap.objs.size + 1) s1.heap.objs.size _ ty, ⟨Nat.zero_le _, ⟨.none, he⟩, hit, Nat.succ_ne_self _⟩, fun b hb => ?_, q⟩
    have e' : b = s1.heap.objs.size + 1 ∨ b = s1.heap.objs.size := by simpa using hb
    have hle : s1.heap.objs.size ≤ b := by
      rcases e' with z | z
      · rw [z]; exact Nat.le_add_right _ _
      · rw [z]; exact Nat.le_refl _
    exact I1.fpOk hle (I1.hok.fresh hle)
theorem walk_enumS {x : Str} : Walk (Itse x) x.cps.size (fun _ => True) (fun i H v H' => ∃ T c, v = .ref T ∧ H T = none ∧ H' = upd H T (.tup [.int (i : Nat), .str ⟨#[c]⟩]) ∧ x.cps[i]? = some c) :=
  ⟨fun _ _ hi _ => hi, fun _ _ => Nat.le_refl _, fun _ _ _ _ _ _ y => y⟩
theorem wk_enumS {σ : L2.St} {H : Hp} {ta : TA} {x : Str} (h : EvA ta σ H [.str x]) : Wks (iEnumS ta) σ H x.cps.size (fun i v H' => ∃ T c, v = .ref T ∧ H' T = some (.tup [.int (i : Int), .str ⟨#[c]⟩]) ∧ x.cps[i]? = some c) := fun H1 e R' k => by
  refine h H1 e _ fun H2 e2 => ⟨x, rfl, k _ H2 e2 ⟨_, _, walk_enumS (x := x), trivial, fun _ _ => trivial, fun i Ha v Hb hi _ y => ?_⟩⟩
  obtain ⟨T, c, rfl, h1, rfl, h2⟩ := y
  exact ⟨Ex.new h1, T, c, rfl, upd_same, h2⟩
/-- a tuple as a target, the written part said -/
theorem pg_tupK {X : Cx} (K : PySem.W.Frag) {pos : Pos} {es : List Expr} {k : Nat} {t : TGs} {n : Nat} (hc : X.calm = true) (h : PGs X es t) (hK : X.K = K := by rfl)
    (hn : (assignEach es X.env).length = n := by rfl) (hst : (assignEach es X.env).findIdx? (·.1) = none := by rfl) : PG X (.Tuple es k pos) (gTup K n t) := hK ▸ pg_tup hc h hn hst
end Kp
end
section
set_option maxHeartbeats 4000000
namespace Kp
open PySem PySem.Spec PyProof.Rows L2 Evl
local macro_rules | `(tactic| walk_at "ht") => `(tactic| first | assumption | solve_by_elim (config := { maxDepth := 12 }))
local macro_rules | `(tactic| walk_at "ev") => `(tactic| repeat' (first
  | exact ea_nil
  | exact ev_var rfl
  | exact ev_n (n := 0) rfl | exact ev_n (n := 1) rfl | exact ev_n (n := 2) rfl
  | exact rv_andN | exact rv_xorN | exact rv_orN | exact rv_addN | exact rv_shrN | (exact rv_mulN (by decide)) | exact rv_eqN | exact rv_neN | exact rv_ltN
  | (refine' rv_ixT (st_of (by walk_at "ht")) (by rfl))
  | walk_at "evx"
  | refine' ev_op ?_ ?_ ?_
  | refine' ea_cons ?_ ?_))
section
variable {P : Program} {w : World} {K : PySem.W.Frag} {mg : Str → Option Value} {base : Heap}
/-! ### ones -/
def sp_ones : Sp := fun vs H Q _ => ∃ n : Nat, vs = [.int (n : Int)] ∧ ∀ H', Ex H H' → Q (.int (pc n : Int)) H'
abbrev N_ones : List Str := ["number", "count"]
theorem sc_ones : FnScope N_ones ["number"] (defScope s_ones) := ⟨rfl, rfl, rfl, by decide +kernel, rfl, by decide +kernel, by decide +kernel⟩
theorem o_ones (T : Tx K mg) : OkF P w K mg base CX0 1 "ones" ["number"] sp_ones := by
  refine okf T d_ones "ones" 18 11 rfl rfl rfl sc_ones (fun vs H Q E h => ?_) (fun _ _ _ _ _ _ us hl => match us, hl with | [_], _ => rfl) (fun f cdv A outer s H vs Q E hr h => ?_)
  · (obtain ⟨_, rfl, _⟩ := h; rfl)
  obtain ⟨n, rfl, k⟩ := h
  refine ⟨_, (pss_cons (ps_set (i := 1) sc_ones.nd rfl (Or.inl rfl) pe_int)
      (pss_cons (ps_while PassesOwn.never (pt_truthK K (pv 0))
        (pss_one (ps_par (i := 0) (j := 1) rfl sc_ones.nd rfl rfl (by decide) rfl rfl (pa_cons (pe_op op_and (pv 0) (pe_op op_sub (pv 0) pe_int)) (pa_cons (pe_op op_add (pv 1) pe_int) pa_nil)) (by rfl))))
      (pss_one (ps_ret (pv 1))))), ?_⟩
  refine q_asg (ev_n (n := 0) rfl) fun H1 e1 => ?_
  refine q_while (fun m σ H' => ∃ (a b : Nat), σ = [some (.int (a : Int)), some (.int (b : Int))] ∧ a = m ∧ b + pc a = pc n ∧ Ex H H') n ⟨n, 0, rfl, rfl, by omega, e1⟩ ?_
  rintro m σ' H' ⟨a, b, rfl, rfl, hb, e2⟩
  refine ⟨_, et_truN (n := a) (ev_var rfl), fun hn H3 e3 => ?_, fun hn H3 e3 => ?_⟩
  · have ha : a ≠ 0 := by simpa using hn
    refine ⟨fun σ H' => ∃ (a' b' : Nat), σ = [some (.int (a' : Int)), some (.int (b' : Int))] ∧ a' < a ∧ b' + pc a' = pc n ∧ Ex H H', fun σ2 H2 hh => ?_, ?_⟩
    · obtain ⟨a', b', rfl, h1, h2, h3⟩ := hh
      exact ⟨a', h1, a', b', rfl, rfl, h2, h3⟩
    · refine s_par (v := .int ((a &&& (a - 1) : Nat) : Int)) (w := .int ((b + 1 : Nat) : Int)) ?_ fun H4 e4 => ⟨_, _, rfl, and_pred_lt ha, ?_, (e2.trans e3).trans e4⟩
      · walk_at "ev"
        exact rv_subN (by omega)
      · have := and_pred a ha
        omega
  · have ha : a = 0 := by simpa using hn
    subst ha
    refine s_ret (ev_var rfl) fun H4 e4 => ?_
    rw [pc_zero] at hb
    have eb : b = pc n := hb
    subst eb
    exact k _ ((e2.trans e3).trans e4)
theorem ev_ones {σ : L2.St} {H : Hp} {te : TE} {n : Nat} {E : XK} (h : Ev te σ H (.int (n : Int))) : Ev (tCall sp_ones [] E (tCons te tNil)) σ H (.int (pc n : Int)) :=
  ev_callv (ea_cons h ea_nil) fun H1 e Q kk => ⟨n, rfl, kk⟩
/-! ### crossing -/
def sp_crossing : Sp := fun vs H Q _ => ∃ (v1 v2 : V) (a b : Row), vs = [v1, v2] ∧ IsRow H v1 a ∧ IsRow H v2 b ∧ ∀ H', Ex H H' → Q (.int (crs a b : Int)) H'
abbrev N_crossing : List Str := ["one", "two"]
theorem sc_crossing : FnScope N_crossing ["one", "two"] (defScope s_crossing) := ⟨rfl, rfl, rfl, by decide +kernel, rfl, by decide +kernel, by decide +kernel⟩
theorem o_crossing (T : Tx K mg) : OkF P w K mg base CX0 2 "crossing" ["one", "two"] sp_crossing := by
  have o_ones : OkF P w K mg base CX0 1 "ones" ["number"] sp_ones := o_ones T
  refine okf T d_crossing "crossing" 19 12 rfl rfl rfl sc_crossing (fun vs H Q E h => ?_) (fun _ _ _ _ _ _ us hl => match us, hl with | [_, _], _ => rfl) (fun f cdv A outer s H vs Q E hr h => ?_)
  · (obtain ⟨_, _, _, _, rfl, _⟩ := h; rfl)
  obtain ⟨v1, v2, a, b, rfl, ⟨p1, rfl, h1⟩, ⟨p2, rfl, h2⟩, k⟩ := h
  refine ⟨_, (pss_one (ps_ret (pe_op op_and (pe_op op_add (pe_cl o_ones (hr.mono (by decide)) (by rfl) pass0 (pa_cons (pe_op op_and (pe_ix (ix_tupK K) (pv 0) pe_int (fun _ _ => rfl)) (pe_ix (ix_tupK K) (pv 1) pe_int (fun _ _ => rfl))) pa_nil)) (pe_cl o_ones (hr.mono (by decide)) (by rfl) pass0 (pa_cons (pe_op op_and (pe_ix (ix_tupK K) (pv 0) pe_int (fun _ _ => rfl)) (pe_ix (ix_tupK K) (pv 1) pe_int (fun _ _ => rfl))) pa_nil))) pe_int))), ?_⟩
  refine s_ret (v := .int (crs a b : Int)) ?_ k
  unfold crs
  refine ev_op (ev_op (ev_ones ?_) (ev_ones ?_) rv_addN) (ev_n (n := 1) rfl) rv_andN
  all_goals walk_at "ev"
theorem ev_crossing {σ : L2.St} {H : Hp} {te tf : TE} {v1 v2 : V} {a b : Row} {E : XK} (h : Ev te σ H v1) (h' : Ev tf σ H v2) (r : IsRow H v1 a) (r' : IsRow H v2 b) : Ev (tCall sp_crossing [] E (tCons te (tCons tf tNil))) σ H (.int (crs a b : Int)) :=
  ev_callv (ea_cons h (ea_cons h' ea_nil)) fun H1 e Q kk => ⟨v1, v2, a, b, rfl, r.ex e, r'.ex e, kk⟩
/-! ### row_product -/
def sp_row_product : Sp := fun vs H Q _ => ∃ (v1 v2 : V) (a b : Row), vs = [v1, v2] ∧ IsRow H v1 a ∧ IsRow H v2 b ∧ ∀ v H', Ex H H' → IsRow H' v (mul a b) → Q v H'
abbrev N_row_product : List Str := ["one", "two", "x", "z", "power"]
theorem sc_row_product : FnScope N_row_product ["one", "two"] (defScope s_row_product) := ⟨rfl, rfl, rfl, by decide +kernel, rfl, by decide +kernel, by decide +kernel⟩
theorem o_row_product (T : Tx K mg) : OkF P w K mg base CX0 2 "row_product" ["one", "two"] sp_row_product := by
  have o_ones : OkF P w K mg base CX0 1 "ones" ["number"] sp_ones := o_ones T
  refine okf T d_row_product "row_product" 20 13 rfl rfl rfl sc_row_product (fun vs H Q E h => ?_) (fun _ _ _ _ _ _ us hl => match us, hl with | [_, _], _ => rfl) (fun f cdv A outer s H vs Q E hr h => ?_)
  · (obtain ⟨_, _, _, _, rfl, _⟩ := h; rfl)
  obtain ⟨v1, v2, a, b, rfl, ⟨p1, rfl, h1⟩, ⟨p2, rfl, h2⟩, k⟩ := h
  refine ⟨_, (pss_cons (ps_par (i := 2) (j := 3) rfl sc_row_product.nd rfl rfl (by decide) rfl rfl (pa_cons (pe_op op_xor (pe_ix (ix_tupK K) (pv 0) pe_int (fun _ _ => rfl)) (pe_ix (ix_tupK K) (pv 1) pe_int (fun _ _ => rfl))) (pa_cons (pe_op op_xor (pe_ix (ix_tupK K) (pv 0) pe_int (fun _ _ => rfl)) (pe_ix (ix_tupK K) (pv 1) pe_int (fun _ _ => rfl))) pa_nil)) (by rfl))
      (pss_cons (ps_set (i := 4) sc_row_product.nd rfl (Or.inl rfl) (pe_op op_sub (pe_op op_add (pe_cl o_ones (hr.mono (by decide)) (by rfl) pass0 (pa_cons (pe_op op_and (pe_ix (ix_tupK K) (pv 0) pe_int (fun _ _ => rfl)) (pe_ix (ix_tupK K) (pv 0) pe_int (fun _ _ => rfl))) pa_nil)) (pe_cl o_ones (hr.mono (by decide)) (by rfl) pass0 (pa_cons (pe_op op_and (pe_ix (ix_tupK K) (pv 1) pe_int (fun _ _ => rfl)) (pe_ix (ix_tupK K) (pv 1) pe_int (fun _ _ => rfl))) pa_nil))) (pe_cl o_ones (hr.mono (by decide)) (by rfl) pass0 (pa_cons (pe_op op_and (pv 2) (pv 3)) pa_nil))))
      (pss_cons (ps_aug (i := 4) sc_row_product.nd rfl (Or.inl rfl) (pe_op op_mul pe_int (pe_op op_add (pe_op op_add (pe_cl o_ones (hr.mono (by decide)) (by rfl) pass0 (pa_cons (pe_op op_and (pe_ix (ix_tupK K) (pv 0) pe_int (fun _ _ => rfl)) (pe_ix (ix_tupK K) (pv 1) pe_int (fun _ _ => rfl))) pa_nil)) (pe_ix (ix_tupK K) (pv 0) pe_int (fun _ _ => rfl))) (pe_ix (ix_tupK K) (pv 1) pe_int (fun _ _ => rfl)))) ip_add)
      (pss_one (ps_ret (pe_tup (pa_cons (pv 2) (pa_cons (pv 3) (pa_cons (pe_op op_and (pe_op op_shr (pv 4) pe_int) pe_int) pa_nil))))))))), ?_⟩
  refine q_par (v := .int ((a.x ^^^ b.x : Nat) : Int)) (w := .int ((a.z ^^^ b.z : Nat) : Int)) (by walk_at "ev") fun H1 e1 => ?_
  have g1 := e1 _ _ h1
  have g2 := e1 _ _ h2
  refine q_asg (v := .int ((pc (a.x &&& a.z) + pc (b.x &&& b.z) : Nat) - (pc ((a.x ^^^ b.x) &&& (a.z ^^^ b.z)) : Int))) (ev_op (ev_op (ev_ones ?_) (ev_ones ?_) rv_addN) (ev_ones ?_) rv_I0) fun H2 e2 => ?_
  · walk_at "ev"
  · walk_at "ev"
  · walk_at "ev"
  have g1 := e2 _ _ g1
  have g2 := e2 _ _ g2
  refine q_aug (b := ((2 * (pc (a.z &&& b.x) + a.s + b.s) : Nat) : Int)) rfl (ev_op (ev_n (n := 2) rfl) (ev_op (ev_op (ev_ones ?_) ?_ rv_addN) ?_ rv_addN) (rv_mulN (by decide))) fun H3 e3 => ?_
  · walk_at "ev"
  · walk_at "ev"
  · walk_at "ev"
  have ep : ((pc (a.x &&& a.z) + pc (b.x &&& b.z) : Nat) : Int) - (pc ((a.x ^^^ b.x) &&& (a.z ^^^ b.z)) : Int) + ((2 * (pc (a.z &&& b.x) + a.s + b.s) : Nat) : Int) = pw a b := by
    unfold pw; omega
  rw [ep]
  refine s_retP (evp_row (a := a.x ^^^ b.x) (b := a.z ^^^ b.z) (c := (pw a b / 2 % 2).toNat) (ea_cons (ev_var rfl) (ea_cons (ev_var rfl) (ea_cons ?_ ea_nil)))) fun v H4 e4 hv => ?_
  · have e5 : (((pw a b / 2 % 2).toNat : Nat) : Int) = pw a b / 2 % 2 := Int.toNat_of_nonneg (Int.emod_nonneg _ (by decide))
    rw [e5]
    exact ev_op (ev_op (ev_var rfl) ev_c (rv_I (i := pw a b) (j := 1) (by decide))) ev_c rv_odd
  · exact k v H4 (((e1.trans e2).trans e3).trans e4) hv
theorem evp_row_product {σ : L2.St} {H : Hp} {te tf : TE} {v1 v2 : V} {a b : Row} {E : XK} (h : Ev te σ H v1) (h' : Ev tf σ H v2) (r : IsRow H v1 a) (r' : IsRow H v2 b) :
    EvP (tCall sp_row_product [] E (tCons te (tCons tf tNil))) σ H (fun v H' => IsRow H' v (mul a b)) :=
  evp_call (ea_cons h (ea_cons h' ea_nil)) fun H1 e Q kk => ⟨v1, v2, a, b, rfl, r.ex e, r'.ex e, fun v H' e' q => kk v H' e' q⟩
/-! ### column_of -/
def sp_column_of : Sp := fun vs H Q _ => ∃ (v1 : V) (n c : Nat) (a : Row), vs = [v1, .int (n : Int), .int (c : Int)] ∧ IsRow H v1 a ∧ ∀ H', Ex H H' → Q (.int (col a n c : Int)) H'
abbrev N_column_of : List Str := ["row", "size", "column"]
theorem sc_column_of : FnScope N_column_of ["row", "size", "column"] (defScope s_column_of) := ⟨rfl, rfl, rfl, by decide +kernel, rfl, by decide +kernel, by decide +kernel⟩
theorem o_column_of (T : Tx K mg) : OkF P w K mg base CX0 1 "column_of" ["row", "size", "column"] sp_column_of := by
  refine okf T d_column_of "column_of" 23 16 rfl rfl rfl sc_column_of (fun vs H Q E h => ?_) (fun _ _ _ _ _ _ us hl => match us, hl with | [_, _, _], _ => rfl) (fun f cdv A outer s H vs Q E hr h => ?_)
  · (obtain ⟨_, _, _, _, rfl, _⟩ := h; rfl)
  obtain ⟨v1, n, c, a, rfl, ⟨p1, rfl, h1⟩, k⟩ := h
  refine ⟨_, (pss_one (ps_ret (pe_ifExp (pt_cmpR op_lt (pv 2) (pv 1) (nomark _)) (pe_op op_and (pe_op op_shr (pe_ix (ix_tupK K) (pv 0) pe_int (fun _ _ => rfl)) (pv 2)) pe_int) (pe_op op_and (pe_op op_shr (pe_ix (ix_tupK K) (pv 0) pe_int (fun _ _ => rfl)) (pe_op op_sub (pv 2) (pv 1))) pe_int)))), ?_⟩
  refine s_ret (v := .int (col a n c : Int)) ?_ k
  unfold col
  refine ev_if (b := decide (c < n)) (et_test (by walk_at "ev")) (fun hc => ?_) fun hc => ?_
  · rw [if_pos (of_decide_eq_true hc)]
    walk_at "ev"
  · have hc' := of_decide_eq_false hc
    rw [if_neg hc']
    refine ev_op (ev_op (by walk_at "ev") (ev_op (ev_var rfl) (ev_var rfl) (rv_subN (by omega))) rv_shrN) (ev_n (n := 1) rfl) rv_andN
theorem ev_column_of {σ : L2.St} {H : Hp} {te tf tg : TE} {v1 : V} {n c : Nat} {a : Row} {E : XK} (h : Ev te σ H v1) (h' : Ev tf σ H (.int (n : Int))) (h'' : Ev tg σ H (.int (c : Int))) (r : IsRow H v1 a) :
    Ev (tCall sp_column_of [] E (tCons te (tCons tf (tCons tg tNil)))) σ H (.int (col a n c : Int)) :=
  ev_callv (ea_cons h (ea_cons h' (ea_cons h'' ea_nil))) fun H1 e Q kk => ⟨v1, n, c, a, rfl, r.ex e, kk⟩
/-! ### letters_of -/
/-- the sign of a letter -/
def lc (a b : Nat) : Nat := [73, 88, 90, 89].getD (a + 2 * b) 73
def letN (r : Row) (n : Nat) : List Nat := (List.range n).map fun k => lc (r.x >>> k &&& 1) (r.z >>> k &&& 1)
theorem letN_len (r : Row) (n : Nat) : (letN r n).length = n := by unfold letN; simp
theorem bit_le (x k : Nat) : x >>> k &&& 1 ≤ 1 := Nat.and_le_right
theorem lc_at {a b : Nat} (ha : a ≤ 1) (hb : b ≤ 1) : (PySem.Str.ofString "IXZY").cps.toList[a + 2 * b]? = some (lc a b) := by
  have : a = 0 ∨ a = 1 := by omega
  have : b = 0 ∨ b = 1 := by omega
  rcases ‹a = 0 ∨ a = 1› with rfl | rfl <;> rcases ‹b = 0 ∨ b = 1› with rfl | rfl <;> decide +kernel
def sp_letters_of : Sp := fun vs H Q _ => ∃ (v1 : V) (n : Nat) (a : Row), vs = [v1, .int (n : Int)] ∧ n ≤ 1000 ∧ IsRow H v1 a ∧ ∀ H', Ex H H' → Q (.str ⟨(letN a n).toArray⟩) H'
abbrev N_letters_of : List Str := ["row", "size", "k"]
theorem sc_letters_of : FnScope N_letters_of ["row", "size"] (defScope s_letters_of) := ⟨rfl, rfl, rfl, by decide +kernel, rfl, by decide +kernel, by decide +kernel⟩
theorem o_letters_of (T : Tx K mg) : OkF P w K mg base CX0 1 "letters_of" ["row", "size"] sp_letters_of := by
  refine okf T d_letters_of "letters_of" 22 15 rfl rfl rfl sc_letters_of (fun vs H Q E h => ?_) (fun _ _ _ _ _ _ us hl => match us, hl with | [_, _], _ => rfl) (fun f cdv A outer s H vs Q E hr h => ?_)
  · (obtain ⟨_, _, _, rfl, _⟩ := h; rfl)
  obtain ⟨v1, n, a, rfl, hn, ⟨p1, rfl, h1⟩, k⟩ := h
  refine ⟨_, (pss_one (ps_ret (pe_joinK K pe_str (pe_lc (own := [("k", 2)]) rfl sc_letters_of.nd (pi_range1 (by rfl) T.m_range (pa_cons (pv 1) pa_nil)) (blkOk_by (own := [("k", 2)]) (N := N_letters_of) (sc := defScope s_letters_of) (by decide +kernel)) (fun _ _ _ _ _ => (pg_name (i := 2) sc_letters_of.nd rfl (Or.inl rfl))) (fun _ _ _ _ _ => pts_nil) (fun _ _ _ _ _ => (pe_ix ix_str pe_str (pe_op op_add (pe_op op_and (pe_op op_shr (pe_ix (ix_tupK K) (pv 0) pe_int (fun _ _ => rfl)) (pv 2)) pe_int) (pe_op op_mul pe_int (pe_op op_and (pe_op op_shr (pe_ix (ix_tupK K) (pv 0) pe_int (fun _ _ => rfl)) (pv 2)) pe_int))) (fun _ _ => rfl))))))), ?_⟩
  refine s_ret (ev_join1 (cs := letN a n) ev_c ?_ (by rw [letN_len]; exact hn)) k
  have e : (letN a n).map (fun c => V.str ⟨#[c]⟩) = (List.range n).map fun k => V.str ⟨#[lc (a.x >>> k &&& 1) (a.z >>> k &&& 1)]⟩ := by
    unfold letN; rw [List.map_map]; rfl
  rw [e]
  refine el_rng _ (ea_cons (ev_var rfl) ea_nil) (by omega) (fun x => rfl) fun i H1 e1 hi => ?_
  have g1 := e1 _ _ h1
  refine ev_op (y := .int (((a.x >>> i &&& 1) + 2 * (a.z >>> i &&& 1) : Nat) : Int)) ev_c (by walk_at "ev") (rv_signs (by decide +kernel) (lc_at (bit_le _ _) (bit_le _ _)))
end
end Kp
end
section
set_option maxHeartbeats 4000000
namespace Kp
open PySem PySem.Spec PyProof.Rows L2 Evl
local macro_rules | `(tactic| walk_at "ht") => `(tactic| first | assumption | solve_by_elim (config := { maxDepth := 12 }))
local macro_rules | `(tactic| walk_at "ev") => `(tactic| repeat' (first
  | exact ea_nil
  | exact ev_var rfl
  | exact ev_n (n := 0) rfl | exact ev_n (n := 1) rfl | exact ev_n (n := 2) rfl
  | exact rv_andN | exact rv_xorN | exact rv_orN | exact rv_addN | exact rv_shrN | (exact rv_mulN (by decide)) | exact rv_eqN | exact rv_neN | exact rv_ltN
  | (refine' rv_ixT (st_of (by walk_at "ht")) (by rfl))
  | walk_at "evx"
  | refine' ev_op ?_ ?_ ?_
  | refine' ea_cons ?_ ?_))
section
variable {P : Program} {w : World} {K : PySem.W.Frag} {mg : Str → Option Value} {base : Heap}
/-- ints as values -/
abbrev nv (n : Nat) : V := .int (n : Int)
/-! ### first_column -/
def optV : Option Nat → V
  | none => .non
  | some c => .int (c : Int)
def sp_first_column : Sp := fun vs H Q _ => ∃ (v1 : V) (n : Nat) (r : Row), vs = [v1, nv n] ∧ n ≤ 1000 ∧ IsRow H v1 r ∧ ∀ H', Ex H H' → Q (optV (firstCol r n)) H'
abbrev N_first_column : List Str := ["row", "size", "column"]
theorem sc_first_column : FnScope N_first_column ["row", "size"] (defScope s_first_column) := ⟨rfl, rfl, rfl, by decide +kernel, rfl, by decide +kernel, by decide +kernel⟩
theorem o_first_column (T : Tx K mg) : OkF P w K mg base CX0 2 "first_column" ["row", "size"] sp_first_column := by
  have o_column_of : OkF P w K mg base CX0 1 "column_of" ["row", "size", "column"] sp_column_of := o_column_of T
  refine okf T d_first_column "first_column" 26 19 rfl rfl rfl sc_first_column (fun vs H Q E h => ?_) (fun _ _ _ _ _ _ us hl => match us, hl with | [_, _], _ => rfl) (fun f cdv A outer s H vs Q E hr h => ?_)
  · (obtain ⟨_, _, _, rfl, _⟩ := h; rfl)
  obtain ⟨v1, n, r, rfl, hn, hr1, k⟩ := h
  refine ⟨_, (pss_cons (ps_for PassesOwn.never rfl (pi_range1 (by rfl) T.m_range (pa_cons (pe_op op_mul pe_int (pv 1)) pa_nil)) (pg_name (i := 2) sc_first_column.nd rfl (Or.inl rfl))
        (pss_one (ps_if (pt_truthK K (pe_cl o_column_of (hr.mono (by decide)) (by rfl) pass0 (pa_cons (pv 0) (pa_cons (pv 1) (pa_cons (pv 2) pa_nil))))) (pss_one (ps_ret (pv 2))) pss_nil)))
      (pss_one (ps_ret pe_non))), ?_⟩
  refine q_forW (wk_rng1 (n := 2 * n) (ea_cons (ev_op (ev_n (n := 2) rfl) (ev_var rfl) (rv_mulN (by decide))) ea_nil) (by omega)) (fun Hs i σ' H' => ∃ y, σ' = [some v1, some (nv n), y] ∧ Ex H H' ∧ Ex Hs H' ∧ ∀ d, d < i → col r n d = 0)
    (fun H1 e1 => ⟨none, rfl, e1, Ex.refl _, fun d hd => absurd hd (by omega)⟩) (fun Hs i σ' H' _ _ p => by obtain ⟨y, _, _, p, _⟩ := p; exact p) ?_ ?_
  · rintro Hs i x σ' Ha Hb e0 hi ⟨y, rfl, ea, ex, hd⟩ eb rfl
    refine s_when (b := col r n i != 0) (et_truN (ev_column_of (ev_var rfl) (ev_var rfl) (ev_var rfl) (hr1.ex (ea.trans eb)))) (fun hc H1 e1 => ?_) fun hc H1 e1 => ?_
    · refine s_ret (ev_var rfl) fun H2 e2 => ?_
      have q := k H2 (((ea.trans eb).trans e1).trans e2)
      rw [firstCol_some hi (by simpa using hc) hd] at q
      exact q
    · refine ⟨_, rfl, (ea.trans eb).trans e1, (ex.trans eb).trans e1, fun d hd' => ?_⟩
      by_cases q : d = i
      · subst q; simpa using hc
      · exact hd d (by omega)
  · rintro Hs σ' H' e0 ⟨y, rfl, ea, ex, hd⟩
    refine s_ret ev_c fun H2 e2 => ?_
    have q := k H2 (ea.trans e2)
    rw [firstCol_none hd] at q
    exact q
theorem ev_first_column {σ : L2.St} {H : Hp} {te tf : TE} {v1 : V} {n : Nat} {r : Row} {E : XK} (h : Ev te σ H v1) (h' : Ev tf σ H (nv n)) (hn : n ≤ 1000) (q : IsRow H v1 r) :
    Ev (tCall sp_first_column [] E (tCons te (tCons tf tNil))) σ H (optV (firstCol r n)) :=
  ev_callv (ea_cons h (ea_cons h' ea_nil)) fun H1 e Q kk => ⟨v1, n, r, rfl, hn, q.ex e, kk⟩
/-! ### number_of -/
def numOf (bs : List Nat) : Nat := bs.foldl (fun n b => 2 * n + b) 0
theorem numOf_snoc (bs : List Nat) (b : Nat) : numOf (bs ++ [b]) = 2 * numOf bs + b := by unfold numOf; rw [List.foldl_append]; rfl
/-- a tuple of ints -/
def IsNs (H : Hp) (v : V) (ns : List Nat) : Prop := ∃ a, v = .ref a ∧ H a = some (.tup (ns.map nv))
theorem IsNs.kx {H H' : Hp} {v : V} {r : List Nat} (e : Kx H H') (h : IsNs H v r) : IsNs H' v r := by
  obtain ⟨a, rfl, h⟩ := h
  exact ⟨a, rfl, e.1 _ _ h⟩
theorem IsNs.ex {H H' : Hp} {v : V} {r : List Nat} (e : Ex H H') (h : IsNs H v r) : IsNs H' v r := h.kx (.of e)
theorem map_at {α β : Type} {f : α → β} {l : List α} {i : Nat} {y : β} (h : (l.map f)[i]? = some y) : ∃ x, l[i]? = some x ∧ y = f x := by
  rw [List.getElem?_map] at h
  cases e : l[i]? with
  | none => rw [e] at h; cases h
  | some x => rw [e] at h; exact ⟨x, rfl, (Option.some.inj h).symm⟩
theorem take_succ_of {α : Type} {l : List α} {i : Nat} {x : α} (h : l[i]? = some x) : l.take (i + 1) = l.take i ++ [x] := by
  rw [List.take_add_one, h]; rfl
def sp_number_of : Sp := fun vs H Q _ => ∃ (v1 : V) (ns : List Nat), vs = [v1] ∧ IsNs H v1 ns ∧ ∀ H', Ex H H' → Q (nv (numOf ns)) H'
abbrev N_number_of : List Str := ["row", "number", "bit"]
theorem sc_number_of : FnScope N_number_of ["row"] (defScope s_number_of) := ⟨rfl, rfl, rfl, by decide +kernel, rfl, by decide +kernel, by decide +kernel⟩
theorem o_number_of (T : Tx K mg) : OkF P w K mg base CX0 1 "number_of" ["row"] sp_number_of := by
  refine okf T d_number_of "number_of" 0 0 rfl rfl rfl sc_number_of (fun vs H Q E h => ?_) (fun _ _ _ _ _ _ us hl => match us, hl with | [_], _ => rfl) (fun f cdv A outer s H vs Q E hr h => ?_)
  · (obtain ⟨_, _, rfl, _⟩ := h; rfl)
  obtain ⟨v1, ns, rfl, ⟨a, rfl, ha⟩, k⟩ := h
  refine ⟨_, (pss_cons (ps_set (i := 1) sc_number_of.nd rfl (Or.inl rfl) pe_int)
      (pss_cons (ps_for PassesOwn.never rfl (pi_tupK K (pv 0)) (pg_name (i := 2) sc_number_of.nd rfl (Or.inl rfl))
        (pss_one (ps_set (i := 1) sc_number_of.nd rfl (Or.inl rfl) (pe_op op_add (pe_op op_mul pe_int (pv 1)) (pv 2)))))
      (pss_one (ps_ret (pv 1))))), ?_⟩
  refine q_asg (ev_n (n := 0) rfl) fun H1 e1 => ?_
  refine q_forW (wk_tup (ev_var rfl) (st_of (e1 _ _ ha))) (fun Hs i σ' H' => ∃ y, σ' = [some (.ref a), some (nv (numOf (ns.take i))), y] ∧ Ex H H' ∧ Ex Hs H') (fun H2 e2 => ⟨none, rfl, e1.trans e2, Ex.refl _⟩)
    (fun Hs i σ' H' _ _ p => by obtain ⟨y, _, _, p⟩ := p; exact p) ?_ ?_
  · rintro Hs i x σ' Ha Hb e0 hi ⟨y, rfl, ea, ex⟩ eb hx
    obtain ⟨b, hb, rfl⟩ := map_at hx
    refine s_asg (v := nv (2 * numOf (ns.take i) + b)) (by walk_at "ev") fun H3 e3 => ?_
    refine ⟨some (nv b), ?_, (ea.trans eb).trans e3, (ex.trans eb).trans e3⟩
    rw [take_succ_of hb, numOf_snoc]; rfl
  · rintro Hs σ' H' e0 ⟨y, rfl, ea, ex⟩
    rw [List.length_map, List.take_length]
    exact s_ret (ev_var rfl) fun H2 e2 => k H2 (ea.trans e2)
theorem ev_number_of {σ : L2.St} {H : Hp} {te : TE} {v1 : V} {ns : List Nat} {E : XK} (h : Ev te σ H v1) (q : IsNs H v1 ns) : Ev (tCall sp_number_of [] E (tCons te tNil)) σ H (nv (numOf ns)) :=
  ev_callv (ea_cons h ea_nil) fun H1 e Q kk => ⟨v1, ns, rfl, q.ex e, kk⟩
/-! ### bits_of -/
def bitsOf (m w : Nat) : List Nat := (List.range w).map fun p => m >>> (w - 1 - p) &&& 1
def sp_bits_of : Sp := fun vs H Q _ => ∃ (m w : Nat), vs = [nv m, nv w] ∧ w ≤ 1000 ∧ ∀ v H', Ex H H' → IsNs H' v (bitsOf m w) → Q v H'
abbrev N_bits_of : List Str := ["number", "width", "place"]
theorem sc_bits_of : FnScope N_bits_of ["number", "width"] (defScope s_bits_of) := ⟨rfl, rfl, rfl, by decide +kernel, rfl, by decide +kernel, by decide +kernel⟩
theorem o_bits_of (T : Tx K mg) : OkF P w K mg base CX0 1 "bits_of" ["number", "width"] sp_bits_of := by
  refine okf T d_bits_of "bits_of" 1 1 rfl rfl rfl sc_bits_of (fun vs H Q E h => ?_) (fun _ _ _ _ _ _ us hl => match us, hl with | [_, _], _ => rfl) (fun f cdv A outer s H vs Q E hr h => ?_)
  · (obtain ⟨_, _, rfl, _⟩ := h; rfl)
  obtain ⟨m, w, rfl, hw, k⟩ := h
  refine ⟨_, (pss_one (ps_ret (pe_callTy (call_tuple_ofK K) (by rfl) T.m_tuple (by decide +kernel) (pa_cons (pe_lc (own := [("place", 2)]) rfl sc_bits_of.nd (pi_range1 (by rfl) T.m_range (pa_cons (pv 1) pa_nil)) (blkOk_by (own := [("place", 2)]) (N := N_bits_of) (sc := defScope s_bits_of) (by decide +kernel)) (fun _ _ _ _ _ => (pg_name (i := 2) sc_bits_of.nd rfl (Or.inl rfl))) (fun _ _ _ _ _ => pts_nil) (fun _ _ _ _ _ => (pe_op op_and (pe_op op_shr (pv 0) (pe_op op_sub (pe_op op_sub (pv 1) pe_int) (pv 2))) pe_int))) pa_nil)))), ?_⟩
  refine s_retP (EvU.p (xs := (List.range w).map fun p => nv (m >>> (w - 1 - p) &&& 1)) (eu_tupleL (el_rng _ (ea_cons (ev_var rfl) ea_nil) (by omega) (fun x => rfl) fun i H1 e1 hi => ?_))) fun v H1 e1 ⟨p, ep, hp⟩ => k v H1 e1 ⟨p, ep, ?_⟩
  · exact ev_op (ev_op (ev_var rfl) (ev_op (ev_op (ev_var rfl) (ev_n (n := 1) rfl) (rv_subN (by omega))) (ev_var rfl) (rv_subN (by omega))) rv_shrN) (ev_n (n := 1) rfl) rv_andN
  rw [hp]
  unfold bitsOf
  rw [List.map_map]; rfl
theorem evp_bits_of {σ : L2.St} {H : Hp} {te tf : TE} {m w : Nat} {E : XK} (h : Ev te σ H (nv m)) (h' : Ev tf σ H (nv w)) (hw : w ≤ 1000) : EvP (tCall sp_bits_of [] E (tCons te (tCons tf tNil))) σ H (fun v H' => IsNs H' v (bitsOf m w)) :=
  evp_call (ea_cons h (ea_cons h' ea_nil)) fun H1 e Q kk => ⟨m, w, rfl, hw, fun v H' e' q => kk v H' e' q⟩
/-! ### has_lead -/
theorem intBits_bl (n : Nat) : Builtin.Int.intBits (n : Int) = bl n := by
  unfold Builtin.Int.intBits bl
  by_cases h : n = 0
  · subst h; rfl
  · rw [if_neg h, if_neg (by simp; exact h), Int.natAbs_natCast]
def sp_has_lead : Sp := fun vs H Q _ => ∃ (m h : Nat), vs = [nv m, nv h] ∧ h ≠ 0 ∧ ∀ H', Ex H H' → Q (nv (lead m h)) H'
abbrev N_has_lead : List Str := ["number", "other"]
theorem sc_has_lead : FnScope N_has_lead ["number", "other"] (defScope s_has_lead) := ⟨rfl, rfl, rfl, by decide +kernel, rfl, by decide +kernel, by decide +kernel⟩
theorem o_has_lead (T : Tx K mg) : OkF P w K mg base CX0 1 "has_lead" ["number", "other"] sp_has_lead := by
  refine okf T d_has_lead "has_lead" 2 2 rfl rfl rfl sc_has_lead (fun vs H Q E h => ?_) (fun _ _ _ _ _ _ us hl => match us, hl with | [_, _], _ => rfl) (fun f cdv A outer s H vs Q E hr h => ?_)
  · (obtain ⟨_, _, rfl, _⟩ := h; rfl)
  obtain ⟨m, h, rfl, hh, k⟩ := h
  refine ⟨_, (pss_one (ps_ret (pe_op op_and (pe_op op_shr (pv 0) (pe_op op_sub (pe_bits (pv 1)) pe_int)) pe_int))), ?_⟩
  refine s_ret (v := nv (lead m h)) ?_ k
  have eb : Ev (tBits (tVar 1)) (L2.start N_has_lead [nv m, nv h]) H (nv (bl h)) := fun H1 e Q kk => ev_var (i := 1) (v := nv h) rfl H1 e _ fun H2 e2 => ⟨(h : Int), rfl, by rw [intBits_bl]; exact kk H2 e2⟩
  have p := bl_pos hh
  exact ev_op (ev_op (ev_var rfl) (ev_op eb (ev_n (n := 1) rfl) (rv_subN (by omega))) rv_shrN) (ev_n (n := 1) rfl) rv_andN
theorem ev_has_lead {σ : L2.St} {H : Hp} {te tf : TE} {m h : Nat} {E : XK} (h1 : Ev te σ H (nv m)) (h2 : Ev tf σ H (nv h)) (hh : h ≠ 0) : Ev (tCall sp_has_lead [] E (tCons te (tCons tf tNil))) σ H (nv (lead m h)) :=
  ev_callv (ea_cons h1 (ea_cons h2 ea_nil)) fun H1 e Q kk => ⟨m, h, rfl, hh, kk⟩
/-! ### rest_by -/
/-- a list of ints -/
def IsLs (H : Hp) (v : V) (ns : List Nat) : Prop := ∃ a, v = .ref a ∧ H a = some (.lst (ns.map nv))
theorem IsLs.ex {H H' : Hp} {v : V} {r : List Nat} (e : Ex H H') (h : IsLs H v r) : IsLs H' v r := by
  obtain ⟨a, rfl, h⟩ := h
  exact ⟨a, rfl, e _ _ h⟩
theorem restBy_snoc (tb : List Nat) (h m : Nat) : restBy (tb ++ [h]) m = if lead (restBy tb m) h ≠ 0 then restBy tb m ^^^ h else restBy tb m := by
  unfold restBy; rw [List.foldl_append]; rfl
def sp_rest_by : Sp := fun vs H Q _ => ∃ (v1 : V) (tb : List Nat) (m : Nat), vs = [v1, nv m] ∧ IsLs H v1 tb ∧ (∀ h ∈ tb, h ≠ 0) ∧ ∀ H', Ex H H' → Q (nv (restBy tb m)) H'
abbrev N_rest_by : List Str := ["table", "number", "head"]
theorem sc_rest_by : FnScope N_rest_by ["table", "number"] (defScope s_rest_by) := ⟨rfl, rfl, rfl, by decide +kernel, rfl, by decide +kernel, by decide +kernel⟩
theorem o_rest_by (T : Tx K mg) : OkF P w K mg base CX0 2 "rest_by" ["table", "number"] sp_rest_by := by
  have o_has_lead : OkF P w K mg base CX0 1 "has_lead" ["number", "other"] sp_has_lead := o_has_lead T
  refine okf T d_rest_by "rest_by" 3 3 rfl rfl rfl sc_rest_by (fun vs H Q E h => ?_) (fun _ _ _ _ _ _ us hl => match us, hl with | [_, _], _ => rfl) (fun f cdv A outer s H vs Q E hr h => ?_)
  · (obtain ⟨_, _, _, rfl, _⟩ := h; rfl)
  obtain ⟨v1, tb, m, rfl, ⟨a, rfl, ha⟩, hz, k⟩ := h
  refine ⟨_, (pss_cons (ps_for PassesOwn.never rfl (pi_listK K (pv 0)) (pg_name (i := 2) sc_rest_by.nd rfl (Or.inl rfl))
        (pss_one (ps_if (pt_truthK K (pe_cl o_has_lead (hr.mono (by decide)) (by rfl) pass0 (pa_cons (pv 1) (pa_cons (pv 2) pa_nil)))) (pss_one (ps_set (i := 1) sc_rest_by.nd rfl (Or.inl rfl) (pe_op op_xor (pv 1) (pv 2)))) pss_nil)))
      (pss_one (ps_ret (pv 1)))), ?_⟩
  refine q_forW (wk_list (ev_var rfl) (sq_of ha)) (fun Hs i σ' H' => ∃ y, σ' = [some (.ref a), some (nv (restBy (tb.take i) m)), y] ∧ Ex H H' ∧ Ex Hs H') (fun H2 e2 => ⟨none, rfl, e2, Ex.refl _⟩)
    (fun Hs i σ' H' _ _ p => by obtain ⟨y, _, _, p⟩ := p; exact p) ?_ ?_
  · rintro Hs i x σ' Ha Hb e0 hi ⟨y, rfl, ea, ex⟩ eb hx
    obtain ⟨h, hh, rfl⟩ := map_at hx
    have hne : h ≠ 0 := hz h (List.mem_of_getElem? hh)
    refine s_when (b := lead (restBy (tb.take i) m) h != 0) (et_truN (ev_has_lead (ev_var rfl) (ev_var rfl) hne)) (fun hc H1 e1 => ?_) fun hc H1 e1 => ?_
    · refine s_asg (v := nv (restBy (tb.take i) m ^^^ h)) (by walk_at "ev") fun H3 e3 => ?_
      refine ⟨some (nv h), ?_, ((ea.trans eb).trans e1).trans e3, ((ex.trans eb).trans e1).trans e3⟩
      rw [take_succ_of hh, restBy_snoc, if_pos (by simpa using hc)]; rfl
    · refine ⟨some (nv h), ?_, (ea.trans eb).trans e1, (ex.trans eb).trans e1⟩
      rw [take_succ_of hh, restBy_snoc, if_neg (by simpa using hc)]; rfl
  · rintro Hs σ' H' e0 ⟨y, rfl, ea, ex⟩
    rw [List.length_map, List.take_length]
    exact s_ret (ev_var rfl) fun H2 e2 => k H2 (ea.trans e2)
theorem ev_rest_by {σ : L2.St} {H : Hp} {te tf : TE} {v1 : V} {tb : List Nat} {m : Nat} {E : XK} (h1 : Ev te σ H v1) (h2 : Ev tf σ H (nv m)) (q : IsLs H v1 tb) (hz : ∀ h ∈ tb, h ≠ 0) :
    Ev (tCall sp_rest_by [] E (tCons te (tCons tf tNil))) σ H (nv (restBy tb m)) :=
  ev_callv (ea_cons h1 (ea_cons h2 ea_nil)) fun H1 e Q kk => ⟨v1, tb, m, rfl, q.ex e, hz, kk⟩
end
end Kp
end
section
set_option maxHeartbeats 4000000
namespace Kp
open PySem PySem.Spec PyProof.Rows L2 Evl
local macro_rules | `(tactic| walk_at "ht") => `(tactic| first | assumption | solve_by_elim (config := { maxDepth := 12 }))
local macro_rules | `(tactic| walk_at "ev") => `(tactic| repeat' (first
  | exact ea_nil
  | exact ev_var rfl
  | exact ev_n (n := 0) rfl | exact ev_n (n := 1) rfl | exact ev_n (n := 2) rfl
  | exact rv_andN | exact rv_xorN | exact rv_orN | exact rv_addN | exact rv_shrN | (exact rv_mulN (by decide)) | exact rv_eqN | exact rv_neN | exact rv_ltN
  | (refine' rv_ixT (st_of (by walk_at "ht")) (by rfl))
  | walk_at "evx"
  | refine' ev_op ?_ ?_ ?_
  | refine' ea_cons ?_ ?_))
section
variable {P : Program} {w : World} {K : PySem.W.Frag} {mg : Str → Option Value} {base : Heap}
/-! ### put_in -/
theorem ints_srt {L : List Nat} {ns : List Int} (p : ns.Perm (L.map fun n : Nat => (n : Int))) (s : ns.Pairwise (fun a b => a ≥ b)) : ns = (srt L).map fun n : Nat => (n : Int) := by
  refine List.Perm.eq_of_pairwise (le := fun a b : Int => a ≥ b) (fun a b _ _ h1 h2 => by omega) s ?_ (p.trans ((srt_perm L).map _).symm)
  rw [List.pairwise_map]
  exact (srt_sorted L).imp fun h => by omega
theorem map_nv (L : List Nat) : L.map nv = (L.map fun n : Nat => (n : Int)).map V.int := by rw [List.map_map]; rfl
theorem evp_sortedRev {σ : L2.St} {H : Hp} {te : TE} {L : List Nat} (h : EvL te σ H (L.map nv)) : EvP (tCKw (rSortedKw K true [.bl true]) (tCons te tNil) (tCons (tC (.bl true)) tNil)) σ H (fun v H' => IsLs H' v (srt L)) := fun H1 e Q k => by
  refine h H1 e _ fun p H2 np e2 hp => ?_
  refine ⟨p, L.map fun n : Nat => (n : Int), rfl, rfl, sq_of (by rw [hp, map_nv]), fun ns' q pm so nq => ?_⟩
  refine k _ _ (e2.trans (Ex.new nq)) ⟨q, rfl, ?_⟩
  rw [upd_same, ints_srt pm so, ← map_nv]
def sp_put_in : Sp := fun vs H Q _ => ∃ (v1 : V) (tb : List Nat) (m : Nat), vs = [v1, nv m] ∧ IsLs H v1 tb ∧ (∀ h ∈ tb, h ≠ 0) ∧ tb.length ≤ 1000 ∧ ∀ v H', Ex H H' → IsLs H' v (putIn tb m) → Q v H'
abbrev N_put_in : List Str := ["table", "number", "cleared", "head"]
theorem sc_put_in : FnScope N_put_in ["table", "number"] (defScope s_put_in) := ⟨rfl, rfl, rfl, by decide +kernel, rfl, by decide +kernel, by decide +kernel⟩
theorem o_put_in (T : Tx K mg) : OkF P w K mg base CX0 3 "put_in" ["table", "number"] sp_put_in := by
  have o_has_lead : OkF P w K mg base CX0 1 "has_lead" ["number", "other"] sp_has_lead := o_has_lead T
  have o_rest_by : OkF P w K mg base CX0 2 "rest_by" ["table", "number"] sp_rest_by := o_rest_by T
  refine okf T d_put_in "put_in" 4 4 rfl rfl rfl sc_put_in (fun vs H Q E h => ?_) (fun _ _ _ _ _ _ us hl => match us, hl with | [_, _], _ => rfl) (fun f cdv A outer s H vs Q E hr h => ?_)
  · (obtain ⟨_, _, _, rfl, _⟩ := h; rfl)
  obtain ⟨v1, tb, m, rfl, ⟨a, rfl, ha⟩, hz, hl, k⟩ := h
  refine ⟨_, (pss_cons (ps_set (i := 1) sc_put_in.nd rfl (Or.inr rfl) (pe_cl o_rest_by (hr.mono (by decide)) (by rfl) pass0 (pa_cons (pv 0) (pa_cons (pv 1) pa_nil))))
      (pss_cons (ps_if (pt_cmpR op_eq (pv 1) pe_int (nomark _)) (pss_one (ps_ret (pv 0))) pss_nil)
      (pss_cons (ps_setLc (i := 2) (own := [("head", 3)]) rfl sc_put_in.nd rfl rfl (sw_true rfl rfl rfl (by decide +kernel)) (pi_listK K (pv 0)) (blkOk_by (own := [("head", 3)]) (N := N_put_in) (sc := defScope s_put_in) (by decide +kernel)) (fun _ _ _ _ _ => (pg_name (i := 3) sc_put_in.nd rfl (Or.inl rfl))) (fun _ _ _ _ _ => pts_nil) (fun _ _ _ _ _ => (pe_ifExp (pt_truthK K (pe_cl o_has_lead (hr.mono (by decide)) (by rfl) pass0 (pa_cons (pv 3) (pa_cons (pv 1) pa_nil)))) (pe_op op_xor (pv 3) (pv 1)) (pv 3))))
      (pss_one (ps_ret (pe_callBK (cr_sortedRevK K (b := true)) (by rfl) T.m_sorted (by decide +kernel) (pa_cons (pe_op op_cat (pv 2) (pe_lst (pa_cons (pv 1) pa_nil))) pa_nil) (pk_cons pe_bl pk_nil))))))), ?_⟩
  refine q_asg (ev_rest_by (ev_var rfl) (ev_var rfl) ⟨a, rfl, ha⟩ hz) fun H1 e1 => ?_
  refine q_when (b := decide (restBy tb m = 0)) (et_test (by walk_at "ev")) (fun hc H2 e2 => ?_) fun hc H2 e2 => ?_
  · refine s_ret (ev_var rfl) fun H3 e3 => k _ _ ((e1.trans e2).trans e3) ⟨a, rfl, ?_⟩
    unfold putIn
    rw [if_pos (of_decide_eq_true hc)]
    exact e3 _ _ (e2 _ _ (e1 _ _ ha))
  have hc' := of_decide_eq_false hc
  have ha2 := e2 _ _ (e1 _ _ ha)
  refine q_asgL (el_map nv (fun h => nv (if lead h (restBy tb m) ≠ 0 then h ^^^ restBy tb m else h)) (ev_var rfl) (sq_of ha2) (by omega) (fun x => rfl) fun d hd H3 e3 => ?_) fun p H3 np e3 hp => ?_
  · refine ev_if (b := lead d (restBy tb m) != 0) (et_truN (ev_has_lead (ev_var rfl) (ev_var rfl) hc')) (fun q => ?_) fun q => ?_
    · rw [if_pos (by simpa using q)]
      walk_at "ev"
    · rw [if_neg (by simpa using q)]
      exact ev_var rfl
  refine s_retP (evp_sortedRev (L := tb.map (fun h => if lead h (restBy tb m) ≠ 0 then h ^^^ restBy tb m else h) ++ [restBy tb m]) ?_) fun v H4 e4 hv => k v H4 (((e1.trans e2).trans e3).trans e4) ?_
  · rw [List.map_append, List.map_map]
    exact el_cat (ev_var rfl) hp (el_one (ev_var rfl)) (by rw [List.length_map]; show tb.length + 1 ≤ 100000; omega)
  · unfold putIn
    rw [if_neg hc']
    exact hv
theorem evp_put_in {σ : L2.St} {H : Hp} {te tf : TE} {v1 : V} {tb : List Nat} {m : Nat} {E : XK} (h1 : Ev te σ H v1) (h2 : Ev tf σ H (nv m)) (q : IsLs H v1 tb) (hz : ∀ h ∈ tb, h ≠ 0) (hl : tb.length ≤ 1000) :
    EvP (tCall sp_put_in [] E (tCons te (tCons tf tNil))) σ H (fun v H' => IsLs H' v (putIn tb m)) :=
  evp_call (ea_cons h1 (ea_cons h2 ea_nil)) fun H1 e Q kk => ⟨v1, tb, m, rfl, q.ex e, hz, hl, fun v H' e' q => kk v H' e' q⟩
/-! ### reduced_numbers -/
theorem redNums_snoc (l : List Nat) (m : Nat) : redNums (l ++ [m]) = putIn (redNums l) m := by unfold redNums; rw [List.foldl_append]; rfl
def sp_reduced_numbers : Sp := fun vs H Q _ => ∃ (v1 : V) (l : List Nat), vs = [v1] ∧ IsLs H v1 l ∧ l.length ≤ 1000 ∧ ∀ v H', Ex H H' → IsLs H' v (redNums l) → Q v H'
abbrev N_reduced_numbers : List Str := ["numbers", "table", "number"]
theorem sc_reduced_numbers : FnScope N_reduced_numbers ["numbers"] (defScope s_reduced_numbers) := ⟨rfl, rfl, rfl, by decide +kernel, rfl, by decide +kernel, by decide +kernel⟩
theorem o_reduced_numbers (T : Tx K mg) : OkF P w K mg base CX0 4 "reduced_numbers" ["numbers"] sp_reduced_numbers := by
  have o_put_in : OkF P w K mg base CX0 3 "put_in" ["table", "number"] sp_put_in := o_put_in T
  refine okf T d_reduced_numbers "reduced_numbers" 5 5 rfl rfl rfl sc_reduced_numbers (fun vs H Q E h => ?_) (fun _ _ _ _ _ _ us hl => match us, hl with | [_], _ => rfl) (fun f cdv A outer s H vs Q E hr h => ?_)
  · (obtain ⟨_, _, rfl, _⟩ := h; rfl)
  obtain ⟨v1, l, rfl, ⟨a, rfl, ha⟩, hl, k⟩ := h
  refine ⟨_, (pss_cons (ps_set (i := 1) sc_reduced_numbers.nd rfl (Or.inl rfl) (pe_lst pa_nil))
      (pss_cons (ps_for PassesOwn.never rfl (pi_listK K (pv 0)) (pg_name (i := 2) sc_reduced_numbers.nd rfl (Or.inl rfl))
        (pss_one (ps_set (i := 1) sc_reduced_numbers.nd rfl (Or.inl rfl) (pe_cl o_put_in (hr.mono (by decide)) (by rfl) pass0 (pa_cons (pv 1) (pa_cons (pv 2) pa_nil))))))
      (pss_one (ps_ret (pv 1))))), ?_⟩
  refine q_asgL el_nil fun p0 H1 np e1 hp => ?_
  refine q_forW (wk_list (ev_var rfl) (sq_of (e1 _ _ ha))) (fun Hs i σ' H' => ∃ v y, σ' = [some (.ref a), some v, y] ∧ IsLs H' v (redNums (l.take i)) ∧ Ex H H' ∧ Ex Hs H') (fun H2 e2 => ⟨.ref p0, none, rfl, ⟨p0, rfl, e2 _ _ hp⟩, e1.trans e2, Ex.refl _⟩)
    (fun Hs i σ' H' _ _ p => by obtain ⟨_, y, _, _, _, p⟩ := p; exact p) ?_ ?_
  · rintro Hs i x σ' Ha Hb e0 hi ⟨v, y, rfl, hv, ea, ex⟩ eb hx
    obtain ⟨m, hm, rfl⟩ := map_at hx
    have hn := redNums_len_le (l.take i)
    have hn2 : (l.take i).length ≤ l.length := by rw [List.length_take]; omega
    refine s_asgP (evp_put_in (m := m) (ev_var rfl) (ev_var rfl) (hv.ex eb) (redNums_rd _).nz (by omega)) fun v' H3 e3 hv' => ?_
    refine ⟨v', some (nv m), rfl, ?_, (ea.trans eb).trans e3, (ex.trans eb).trans e3⟩
    rw [take_succ_of hm, redNums_snoc]
    exact hv'
  · rintro Hs σ' H' e0 ⟨v, y, rfl, hv, ea, ex⟩
    rw [List.length_map, List.take_length] at hv
    exact s_ret (ev_var rfl) fun H2 e2 => k _ H2 (ea.trans e2) (hv.ex e2)
theorem evp_reduced_numbers {σ : L2.St} {H : Hp} {te : TE} {l : List Nat} {E : XK} (h1 : EvL te σ H (l.map nv)) (hl : l.length ≤ 1000) :
    EvP (tCall sp_reduced_numbers [] E (tCons te tNil)) σ H (fun v H' => IsLs H' v (redNums l)) := fun H1 e Q k => by
  refine h1 H1 e _ fun p H2 np e2 hp => ?_
  exact ⟨.ref p, l, rfl, ⟨p, rfl, hp⟩, hl, fun v H' e' q => k v H' (e2.trans e') q⟩
end
end Kp
end
section
set_option maxHeartbeats 4000000
namespace Kp
open PySem PySem.Spec PyProof.Rows L2 Evl
local macro_rules | `(tactic| walk_at "ht") => `(tactic| first | assumption | solve_by_elim (config := { maxDepth := 12 }))
local macro_rules | `(tactic| walk_at "ev") => `(tactic| repeat' (first
  | exact ea_nil
  | exact ev_var rfl
  | exact ev_n (n := 0) rfl | exact ev_n (n := 1) rfl | exact ev_n (n := 2) rfl
  | exact rv_andN | exact rv_xorN | exact rv_orN | exact rv_addN | exact rv_shrN | (exact rv_mulN (by decide)) | exact rv_eqN | exact rv_neN | exact rv_ltN
  | (refine' rv_ixT (st_of (by walk_at "ht")) (by rfl))
  | walk_at "evx"
  | refine' ev_op ?_ ?_ ?_
  | refine' ea_cons ?_ ?_))
section
variable {P : Program} {w : World} {K : PySem.W.Frag} {mg : Str → Option Value} {base : Heap}
/-! ### kernel_bits -/
theorem inV_nv (i : Nat) (l : List Nat) : inV (nv i) (l.map nv) = decide (i ∈ l) := by
  induction l with
  | nil => rfl
  | cons a r ih =>
    have e : inV (nv i) ((a :: r).map nv) = (eqV (nv a) (nv i) || inV (nv i) (r.map nv)) := rfl
    rw [e, ih]
    have e2 : eqV (nv a) (nv i) = decide (i = a) := by
      show ((a : Int) == (i : Int)) = _
      by_cases q : i = a
      · subst q; simp
      · rw [decide_eq_false q, beq_eq_false_iff_ne]; omega
    rw [e2]
    by_cases q : i = a <;> by_cases q2 : i ∈ r <;> simp [List.mem_cons, q, q2]
theorem flat_nv (l : List Nat) : (l.map nv).all flatV = true := by rw [List.all_map]; exact List.all_eq_true.mpr fun _ _ => rfl
def kernBits (rows : List (List Nat)) (w : Nat) : List (List Nat) := (kern (rows.map numOf) w).map fun m => bitsOf m w
def sp_kernel_bits : Sp := fun vs H Q _ => ∃ (a : Addr) (xs : List V) (rows : List (List Nat)) (w : Nat), vs = [.ref a, nv w] ∧ H a = some (.lst xs) ∧ Paired (IsNs H) xs rows ∧ rows.length ≤ 1000 ∧ w ≤ 1000 ∧ (∀ r ∈ rows, numOf r < 2 ^ w) ∧
  ∀ v H', Ex H H' → (∃ p ys, v = .ref p ∧ H' p = some (.tup ys) ∧ Paired (IsNs H') ys (kernBits rows w)) → Q v H'
abbrev N_kernel_bits : List Str := ["rows", "width", "table", "pivots", "found", "place", "number", "head", "pivot", "row"]
theorem sc_kernel_bits : FnScope N_kernel_bits ["rows", "width"] (defScope s_kernel_bits) := ⟨rfl, rfl, rfl, by decide +kernel, rfl, by decide +kernel, by decide +kernel⟩
theorem o_kernel_bits (T : Tx K mg) : OkF P w K mg base CX0 5 "kernel_bits" ["rows", "width"] sp_kernel_bits := by
  have o_bits_of : OkF P w K mg base CX0 1 "bits_of" ["number", "width"] sp_bits_of := o_bits_of T
  have o_number_of : OkF P w K mg base CX0 1 "number_of" ["row"] sp_number_of := o_number_of T
  have o_reduced_numbers : OkF P w K mg base CX0 4 "reduced_numbers" ["numbers"] sp_reduced_numbers := o_reduced_numbers T
  refine okf T d_kernel_bits "kernel_bits" 6 6 rfl rfl rfl sc_kernel_bits (fun vs H Q E h => ?_) (fun _ _ _ _ _ _ us hl => match us, hl with | [_, _], _ => rfl) (fun f cdv A outer s H vs Q E hr h => ?_)
  · (obtain ⟨_, _, _, _, rfl, _⟩ := h; rfl)
  obtain ⟨a, xs, rows, w, rfl, ha, hp, hl, hw, hlt, k⟩ := h
  refine ⟨_, (pss_cons (ps_set (i := 2) sc_kernel_bits.nd rfl (Or.inl rfl) (pe_cl o_reduced_numbers (hr.mono (by decide)) (by rfl) pass0 (pa_cons (pe_lc (own := [("row", 9)]) rfl sc_kernel_bits.nd (pi_listK K (pv 0)) (blkOk_by (own := [("row", 9)]) (N := N_kernel_bits) (sc := defScope s_kernel_bits) (by decide +kernel)) (fun _ _ _ _ _ => (pg_name (i := 9) sc_kernel_bits.nd rfl (Or.inl rfl))) (fun _ _ _ _ _ => pts_nil) (fun _ _ _ _ _ => (pe_cl o_number_of (hr.mono (by decide)) (by rfl) pass0 (pa_cons (pv 9) pa_nil)))) pa_nil)))
      (pss_cons (ps_setLc (i := 3) (own := [("head", 7)]) rfl sc_kernel_bits.nd rfl rfl (sw_true rfl rfl rfl (by decide +kernel)) (pi_listK K (pv 2)) (blkOk_by (own := [("head", 7)]) (N := N_kernel_bits) (sc := defScope s_kernel_bits) (by decide +kernel)) (fun _ _ _ _ _ => (pg_name (i := 7) sc_kernel_bits.nd rfl (Or.inl rfl))) (fun _ _ _ _ _ => pts_nil) (fun _ _ _ _ _ => (pe_op op_sub (pv 1) (pe_bits (pv 7)))))
      (pss_cons (ps_set (i := 4) sc_kernel_bits.nd rfl (Or.inl rfl) (pe_lst pa_nil))
      (pss_cons (ps_for PassesOwn.never rfl (pi_range1 (by rfl) T.m_range (pa_cons (pv 1) pa_nil)) (pg_name (i := 5) sc_kernel_bits.nd rfl (Or.inl rfl))
        (pss_one (ps_if (pt_cmpR (op_notIn_seqK K) (pv 5) (pv 3) (by rfl)) (pss_cons (ps_set (i := 6) sc_kernel_bits.nd rfl (Or.inl rfl) (pe_op op_shl pe_int (pe_op op_sub (pe_op op_sub (pv 1) pe_int) (pv 5))))
          (pss_cons (ps_for PassesOwn.never rfl (pi_zip (by rfl) T.m_zip (pa_cons (pv 2) (pa_cons (pv 3) pa_nil))) (pg_tup rfl (pgs_cons (pg_name (i := 7) sc_kernel_bits.nd rfl (Or.inl rfl)) (pgs_cons (pg_name (i := 8) sc_kernel_bits.nd rfl (Or.inl rfl)) pgs_nil)))
            (pss_one (ps_if (pt_truthK K (pe_op op_and (pe_op op_shr (pv 7) (pe_op op_sub (pe_op op_sub (pv 1) pe_int) (pv 5))) pe_int)) (pss_one (ps_set (i := 6) sc_kernel_bits.nd rfl (Or.inl rfl) (pe_op op_or (pv 6) (pe_op op_shl pe_int (pe_op op_sub (pe_op op_sub (pv 1) pe_int) (pv 8)))))) pss_nil)))
          (pss_one (ps_expr (pe_bmK K PySem.F.plainAttrs_list PySem.F.slot_list_append PySem.F.type_list_append mt_append (pv 4) (pa_cons (pv 6) pa_nil)))))) pss_nil)))
      (pss_one (ps_ret (pe_callTy (call_tuple_ofK K) (by rfl) T.m_tuple (by decide +kernel) (pa_cons (pe_lc (own := [("number", 6)]) rfl sc_kernel_bits.nd (pi_listK K (pe_cl o_reduced_numbers (hr.mono (by decide)) (by rfl) pass0 (pa_cons (pv 4) pa_nil))) (blkOk_by (own := [("number", 6)]) (N := N_kernel_bits) (sc := defScope s_kernel_bits) (by decide +kernel)) (fun _ _ _ _ _ => (pg_name (i := 6) sc_kernel_bits.nd rfl (Or.inl rfl))) (fun _ _ _ _ _ => pts_nil) (fun _ _ _ _ _ => (pe_cl o_bits_of (hr.mono (by decide)) (by rfl) pass0 (pa_cons (pv 6) (pa_cons (pv 1) pa_nil))))) pa_nil)))))))), ?_⟩
  have T := tb_of (L := rows.map numOf) (w := w) fun m hm => by
    obtain ⟨r, hr, rfl⟩ := List.mem_map.mp hm
    exact hlt r hr
  have tl : (redNums (rows.map numOf)).length ≤ 1000 := Nat.le_trans (redNums_len_le _) (by rw [List.length_map]; exact hl)
  -- table
  refine q_asgP (evp_reduced_numbers (l := rows.map numOf) ?_ (by rw [List.length_map]; exact hl)) fun vt H1 e1 ⟨t, et, ht⟩ => ?_
  · rw [List.map_map]
    exact el_pmap (IsNs H) (nv ∘ numOf) (ev_var rfl) (sq_of ha) hp (by omega) (fun x => rfl) fun x d H1 e1 r => ev_number_of (ev_var rfl) (r.ex e1)
  subst et
  have fl : ∀ h ∈ redNums (rows.map numOf), bl h ≤ w ∧ 1 ≤ bl h := fun h hh => by
    have := T.log hh
    rw [bl_pos (T.rd.nz h hh)]; omega
  unfold kernBits kern at k
  generalize redNums (rows.map numOf) = tb at *
  -- pivots
  refine q_asgL (el_map nv (fun h => nv (w - bl h)) (ev_var rfl) (sq_of ht) (by omega) (fun x => rfl) fun d hd H2 e2 => ?_) fun pv H2 np e2 hpv => ?_
  · have eb : Ev (tBits (tVar 7)) ((wipe ((L2.start N_kernel_bits [V.ref a, nv w]).set 2 (some (V.ref t))) (List.map (fun x => x.snd) [("head", 7)])).set 7 (some (nv d))) H2 (nv (bl d)) := fun H1 e Q kk => ev_var (i := 7) (v := nv d) rfl H1 e _ fun H2 e2 => ⟨(d : Int), rfl, by rw [intBits_bl]; exact kk H2 e2⟩
    exact ev_op (ev_var rfl) eb (rv_subN (fl d hd).1)
  have hpv' : H2 pv = some (.lst ((pvt tb w).map nv)) := by rw [hpv]; unfold pvt; rw [List.map_map]; rfl
  have ht2 := e2 _ _ ht
  -- found
  refine q_asgL el_nil fun fo H3 nf e3 hf => ?_
  refine q_forR1 (n := (w : Int)) (ea_cons (ev_var rfl) ea_nil) ⟨by omega, by omega⟩ (fun i σ' H' => ∃ y5 y6 y7 y8, σ' = [some (.ref a), some (nv w), some (.ref t), some (.ref pv), some (.ref fo), y5, y6, y7, y8, none] ∧ Ex H2 H' ∧ H' fo = some (.lst ((((List.range i).filter fun p => !decide (p ∈ pvt tb w)).map (kvec tb w)).map nv)))
    (fun H4 e4 => ⟨_, _, _, _, rfl, e3.trans e4, e4 _ _ hf⟩) ?_ ?_
  · rintro i σ' H' hi ⟨y5, y6, y7, y8, rfl, ex, hfo⟩
    have hi' : i < w := by omega
    refine s_when (b := !decide (i ∈ pvt tb w)) (et_test (ev_is (ev_op (ev_var rfl) (ev_var rfl) (rv_niL (sq_of (ex _ _ hpv')) rfl (flat_nv _))) (by rw [← inV_nv]))) (fun hc H5 e5 => ?_) fun hc H5 e5 => ?_
    · -- number = 1 << ..
      refine q_asg (v := nv (1 <<< (w - 1 - i))) (ev_op (ev_n (n := 1) rfl) (ev_op (ev_op (ev_var rfl) (ev_n (n := 1) rfl) (rv_subN (by omega))) (ev_var rfl) (rv_subN (by omega))) (rv_shlN (by omega) (by decide))) fun H6 e6 => ?_
      have x6 := (ex.trans e5).trans e6
      refine q_forW (wk_zip (xs := tb.map nv) (ys := (pvt tb w).map nv) (ea_cons (ev_var rfl) (ea_cons (ev_var rfl) ea_nil)) (sq_of (x6 _ _ ht2)) (sq_of (x6 _ _ hpv'))) (fun Hs j σ' Hj => ∃ y7 y8, σ' = [some (.ref a), some (nv w), some (.ref t), some (.ref pv), some (.ref fo), some (nv i), some (nv ((tb.take j).foldl (fun n h => if h >>> (w - 1 - i) &&& 1 ≠ 0 then n ||| 1 <<< (w - 1 - (w - bl h)) else n) (1 <<< (w - 1 - i)))), y7, y8, none] ∧ Ex Hs Hj)
        (fun H7 e7 => ⟨_, _, rfl, Ex.refl _⟩) (fun Hs j σ' H' _ _ p => by obtain ⟨_, _, _, p⟩ := p; exact p) ?_ ?_
      · rintro Hs j x σ' Ha Hb e7 hj ⟨y7, y8, rfl, ea⟩ eb ⟨Tt, p, q, rfl, hT, hp1, hq1⟩
        obtain ⟨h, hh, rfl⟩ := map_at hp1
        obtain ⟨h', hh', rfl⟩ := map_at hq1
        have e9 : h' = w - bl h := by
          unfold pvt at hh'
          rw [List.getElem?_map, hh] at hh'
          exact (Option.some.inj hh').symm
        subst e9
        have fh := fl h (List.mem_of_getElem? hh)
        refine ⟨Tt, [nv h, nv (w - bl h)], rfl, st_of hT, rfl, nv h, [nv (w - bl h)], rfl, nv (w - bl h), [], rfl, rfl, ?_⟩
        refine s_when (b := (h >>> (w - 1 - i) &&& 1) != 0) (et_truN (ev_op (ev_op (ev_var rfl) (ev_op (ev_op (ev_var rfl) (ev_n (n := 1) rfl) (rv_subN (by omega))) (ev_var rfl) (rv_subN (by omega))) rv_shrN) (ev_n (n := 1) rfl) rv_andN)) (fun hc H8 e8 => ?_) fun hc H8 e8 => ?_
        · refine s_asg (v := nv (((tb.take j).foldl (fun n h => if h >>> (w - 1 - i) &&& 1 ≠ 0 then n ||| 1 <<< (w - 1 - (w - bl h)) else n) (1 <<< (w - 1 - i))) ||| 1 <<< (w - 1 - (w - bl h)))) (ev_op (ev_var rfl) (ev_op (ev_n (n := 1) rfl) (ev_op (ev_op (ev_var rfl) (ev_n (n := 1) rfl) (rv_subN (by omega))) (ev_var rfl) (rv_subN (by omega))) (rv_shlN (by omega) (by decide))) rv_orN) fun H9 e9 => ?_
          refine ⟨some (nv h), some (nv (w - bl h)), ?_, ((ea.trans eb).trans e8).trans e9⟩
          rw [take_succ_of hh, List.foldl_append]
          show _ = [_, _, _, _, _, _, some (nv (if h >>> (w - 1 - i) &&& 1 ≠ 0 then _ else _)), _, _, _]
          rw [if_pos (by simpa using hc)]; rfl
        · refine ⟨some (nv h), some (nv (w - bl h)), ?_, (ea.trans eb).trans e8⟩
          rw [take_succ_of hh, List.foldl_append]
          show _ = [_, _, _, _, _, _, some (nv (if h >>> (w - 1 - i) &&& 1 ≠ 0 then _ else _)), _, _, _]
          rw [if_neg (by simpa using hc)]; rfl
      · rintro Hs σ' H7 e7 ⟨y7, y8, rfl, ea⟩
        have hfo7 := ea _ _ (e7 _ _ (e6 _ _ (e5 _ _ hfo)))
        have el : min (tb.map nv).length ((pvt tb w).map nv).length = tb.length := by unfold pvt; simp
        rw [el, List.take_length]
        refine s_app hfo7 (ev_var rfl) (ev_var rfl) ?_ fun H8 e8 => ?_
        · rw [List.length_map, List.length_map]
          have := List.length_filter_le (fun p => !decide (p ∈ pvt tb w)) (List.range i)
          rw [List.length_range] at this
          omega
        · have nf2 : H2 fo = none := nf
          refine ⟨_, _, _, _, rfl, Ex.mut (((x6.trans e7).trans ea).trans e8) nf2, ?_⟩
          rw [upd_same, List.range_succ, List.filter_append]
          simp only [List.filter_cons, List.filter_nil, hc, if_true, List.map_append, List.map_cons, List.map_nil]
          rfl
    · refine ⟨_, _, _, _, rfl, ex.trans e5, ?_⟩
      rw [e5 _ _ hfo, List.range_succ, List.filter_append]
      simp only [List.filter_cons, List.filter_nil, hc, Bool.false_eq_true, if_false, List.append_nil]
  · rintro σ' H' ⟨y5, y6, y7, y8, rfl, ex, hfo⟩
    rw [Int.toNat_natCast] at hfo
    have fln : (((List.range w).filter fun p => !decide (p ∈ pvt tb w)).map (kvec tb w)).length ≤ 1000 := by
      rw [List.length_map]
      have := List.length_filter_le (fun p => !decide (p ∈ pvt tb w)) (List.range w)
      rw [List.length_range] at this
      omega
    have ll := redNums_len_le (((List.range w).filter fun p => !decide (p ∈ pvt tb w)).map (kvec tb w))
    refine s_retP (evp_tupleL (P := fun xs H => Paired (IsNs H) xs ((redNums (((List.range w).filter fun p => !decide (p ∈ pvt tb w)).map (kvec tb w))).map fun m => bitsOf m w)) (fun xs Ha Hb e q => L2.Paired.mapP q fun a b r => r.kx e) ?_) fun v H5 e5 hv => k v H5 (((e1.trans e2).trans ex).trans e5) hv
    refine (evp_lc (wk_listP (n := (redNums (((List.range w).filter fun p => !decide (p ∈ pvt tb w)).map (kvec tb w))).length) (P := fun xs _ => xs = (redNums (((List.range w).filter fun p => !decide (p ∈ pvt tb w)).map (kvec tb w))).map nv) (fun xs _ q => by rw [q, List.length_map]) ((?_ : EvP (tCall sp_reduced_numbers [] E0 (tCons (tVar 4) tNil)) _ H' (fun v H' => IsLs H' v (redNums (((List.range w).filter fun p => !decide (p ∈ pvt tb w)).map (kvec tb w))))).imp fun v H1 e ⟨p, h1, h2⟩ => ⟨p, _, h1, h2, rfl⟩))
      (fun _ => true) (fun i v H => ∃ m, (redNums (((List.range w).filter fun p => !decide (p ∈ pvt tb w)).map (kvec tb w)))[i]? = some m ∧ IsNs H v (bitsOf m w)) (by omega) (fun i v H H' e ⟨m, h1, h2⟩ => ⟨m, h1, h2.kx e⟩) ?_).imp ?_
    · refine evp_call (ea_cons (ev_var rfl) ea_nil) fun H1 e1 Q kk => ⟨.ref fo, _, rfl, ⟨fo, rfl, e1 _ _ hfo⟩, fln, fun v H' e' q => kk v H' e' q⟩
    · rintro i x Hb hi eb ⟨xs, H0, _, rfl, hx⟩ Q' kk
      obtain ⟨m, hm, rfl⟩ := map_at hx
      exact tg_name (i := i) rfl et_yes (fun _ => (evp_bits_of (ev_var rfl) (ev_var rfl) hw).imp fun v H1 e r => ⟨m, hm, r⟩) kk
    · rintro v H1 eH ⟨p, xs, h1, h2, h3⟩
      refine ⟨p, xs, h1, h2, ?_⟩
      rw [filter_all] at h3
      refine paired_range h3 fun i d x hd ⟨m, h4, h5⟩ => ?_
      rw [hd] at h4
      rw [Option.some.inj h4]
      exact h5
end
end Kp
end
section
set_option maxHeartbeats 4000000
namespace Kp
open PySem PySem.Spec PyProof.Rows L2 Evl
local macro_rules | `(tactic| walk_at "ht") => `(tactic| first | assumption | solve_by_elim (config := { maxDepth := 12 }))
local macro_rules | `(tactic| walk_at "ev") => `(tactic| repeat' (first
  | exact ea_nil
  | exact ev_var rfl
  | exact ev_n (n := 0) rfl | exact ev_n (n := 1) rfl | exact ev_n (n := 2) rfl
  | exact rv_andN | exact rv_xorN | exact rv_orN | exact rv_addN | exact rv_shrN | (exact rv_mulN (by decide)) | exact rv_eqN | exact rv_neN | exact rv_ltN
  | (refine' rv_ixT (st_of (by walk_at "ht")) (by rfl))
  | walk_at "evx"
  | refine' ev_op ?_ ?_ ?_
  | refine' ea_cons ?_ ?_))
section
variable {P : Program} {w : World} {K : PySem.W.Frag} {mg : Str → Option Value} {base : Heap}
/-! ### read_string -/
/-- a letter's code -/
def LC (c : Nat) : Prop := c ∈ [73, 88, 89, 90]
def txt (s : Nat) (cs : List Nat) : Str := ⟨((if s = 1 then [45] else []) ++ cs).toArray⟩
def sp_read_string : Sp := fun vs H Q _ => ∃ (s : Nat) (cs : List Nat), vs = [.str (txt s cs)] ∧ s ≤ 1 ∧ cs ≠ [] ∧ cs.length ≤ 1000 ∧ (∀ c ∈ cs, LC c) ∧ ∀ p H', Ex H H' → H' p = some (.tup [.str ⟨cs.toArray⟩, nv (2 * s)]) → Q (.ref p) H'
theorem str_one {c d : Nat} : decide (V.str ⟨#[c]⟩ = V.str ⟨#[d]⟩) = decide (c = d) := by
  by_cases h : c = d
  · subst h; simp
  · rw [decide_eq_false h, decide_eq_false]
    intro z
    injection z with z
    injection z with z
    exact h (by simpa using z)
theorem sign_eq (c : Nat) (d : Nat) (x : Str) (hx : x = ⟨#[d]⟩) : decide (V.str ⟨#[c]⟩ = V.str x) = decide (c = d) := by subst hx; exact str_one
abbrev N_read_string : List Str := ["text", "place", "phase", "at"]
theorem sc_read_string : FnScope N_read_string ["text"] (defScope s_read_string) := ⟨rfl, rfl, rfl, by decide +kernel, rfl, by decide +kernel, by decide +kernel⟩
theorem o_read_string (T : Tx K mg) : OkF P w K mg base CX0 1 "read_string" ["text"] sp_read_string := by
  refine okf T d_read_string "read_string" 13 8 rfl rfl rfl sc_read_string (fun vs H Q E h => ?_) (fun _ _ _ _ _ _ us hl => match us, hl with | [_], _ => rfl) (fun f cdv A outer s H vs Q E hr h => ?_)
  · (obtain ⟨_, _, rfl, _⟩ := h; rfl)
  obtain ⟨s, cs, rfl, hs, hne, hlen, hc, k⟩ := h
  refine ⟨_, (pss_cons (ps_if (pt_not (pt_val (pe_callB (call_isiU K) (by rfl) T.m_isinstance (by decide +kernel) (pa_cons (pv 0) (pa_cons (pe_bltn (v := .ty "str") (by rfl) T.m_str (by decide +kernel) rfl) pa_nil))))) (pss_one ps_never) pss_nil)
      (pss_cons (ps_set (i := 1) sc_read_string.nd rfl (Or.inl rfl) (pe_ifExp (pt_cmpR (op_in_seqK K) (pe_slice sl_str (pv 0) po_none (po_some pe_int)) (pe_tup (pa_cons pe_str (pa_cons pe_str pa_nil))) (by rfl)) pe_int pe_int))
      (pss_cons (ps_set (i := 2) sc_read_string.nd rfl (Or.inl rfl) (pe_ifExp (pt_cmpR op_eq (pe_slice sl_str (pv 0) po_none (po_some pe_int)) pe_str (nomark _)) pe_int pe_int))
      (pss_cons (ps_if (pt_cmpR op_eq (pe_slice sl_str (pv 0) (po_some (pv 1)) (po_some (pe_op op_add (pv 1) pe_int))) pe_str (nomark _)) (pss_one (ps_par (i := 1) (j := 2) rfl sc_read_string.nd rfl rfl (by decide) rfl rfl (pa_cons (pe_op op_add (pv 1) pe_int) (pa_cons (pe_op op_add (pv 2) pe_int) pa_nil)) (by rfl))) pss_nil)
      (pss_cons (ps_for PassesOwn.never rfl (pi_range2 (by rfl) T.m_range (pa_cons (pv 1) (pa_cons (pe_callB (call_lenK K) (by rfl) T.m_len PySem.boot_len (pa_cons (pv 0) pa_nil)) pa_nil))) (pg_name (i := 3) sc_read_string.nd rfl (Or.inl rfl))
        (pss_one (ps_if (pt_cmpR op_ninSigK (pe_ix ix_str (pv 0) (pv 3) (fun _ _ => rfl)) pe_str (by rfl)) (pss_one ps_never) pss_nil)))
      (pss_cons (ps_if (pt_cmpR op_eq (pv 1) (pe_callB (call_lenK K) (by rfl) T.m_len PySem.boot_len (pa_cons (pv 0) pa_nil)) (nomark _)) (pss_one ps_never) pss_nil)
      (pss_one (ps_ret (pe_tup (pa_cons (pe_slice sl_str (pv 0) (po_some (pv 1)) po_none) (pa_cons (pv 2) pa_nil))))))))))), ?_⟩
  obtain ⟨c0, cr, rfl⟩ : ∃ c0 cr, cs = c0 :: cr := by cases cs with
    | nil => exact absurd rfl hne
    | cons a b => exact ⟨a, b, rfl⟩
  have h0 : LC c0 := hc c0 List.mem_cons_self
  have hz : (txt s (c0 :: cr)).length ≤ 100000 := by
    show ((if s = 1 then [45] else []) ++ (c0 :: cr)).length ≤ 100000
    rw [List.length_append]
    split <;> simp only [List.length_cons, List.length_nil] at * <;> omega
  have hzl : (txt s (c0 :: cr)).length = s + (c0 :: cr).length := by
    show ((if s = 1 then [45] else []) ++ (c0 :: cr)).length = _
    rw [List.length_append]
    split
    · rename_i z; rw [z]; rfl
    · have : s = 0 := by omega
      rw [this]; rfl
  -- the first sign
  obtain ⟨d, hd, hd1, hd2⟩ : ∃ d, cutS (txt s (c0 :: cr)) none (some (1 : Int)) = ⟨#[d]⟩ ∧ inV (.str ⟨#[d]⟩) [.str "+", .str "-"] = decide (s = 1) ∧ decide (V.str ⟨#[d]⟩ = V.str "-") = decide (s = 1) := by
    have e := cut_to ((if s = 1 then [45] else []) ++ (c0 :: cr)) 1
    have : s = 0 ∨ s = 1 := by omega
    rcases this with rfl | rfl
    · refine ⟨c0, e, ?_, ?_⟩
      · rcases (by simpa [LC] using h0 : c0 = 73 ∨ c0 = 88 ∨ c0 = 89 ∨ c0 = 90) with rfl | rfl | rfl | rfl <;> decide +kernel
      · rcases (by simpa [LC] using h0 : c0 = 73 ∨ c0 = 88 ∨ c0 = 89 ∨ c0 = 90) with rfl | rfl | rfl | rfl <;> decide +kernel
    · exact ⟨45, e, by decide +kernel, by decide +kernel⟩
  have evd : ∀ {σ : L2.St} {H : Hp} {te : TE}, Ev te σ H (.str (txt s (c0 :: cr))) → Ev (tSl rSlS te tNoPart (tPart (tC (.int 1)))) σ H (.str ⟨#[d]⟩) := fun h => by
    rw [← hd]
    exact ev_sl h eo_none (eo_some ev_c) hz
  -- isinstance
  refine q_when (b := false) (et_not (a := true) (et_B (ev_isi (ev_var rfl) ev_c (.ty "str") (fun H1 e => .base (.str _)) (kit_ty (by decide +kernel))))) (fun hc => by cases hc) fun _ H1 e1 => ?_
  -- place, phase
  refine q_asg (v := nv s) (ev_if (b := decide (s = 1)) (et_test (ev_is (ev_inU (evd (ev_var rfl)) (eu_tup (ea_cons ev_c (ea_cons ev_c ea_nil)) (by show 2 ≤ 100000; decide)) rfl rfl) (by rw [hd1]))) (fun h => by rw [of_decide_eq_true h]; exact ev_n (n := 1) rfl) fun h => ?_) fun H2 e2 => ?_
  · have : s = 0 := by have := of_decide_eq_false h; omega
    rw [this]; exact ev_n (n := 0) rfl
  refine q_asg (v := nv (2 * s)) (ev_if (b := decide (s = 1)) (et_test (ev_is (ev_op (evd (ev_var rfl)) ev_c (rv_eq rfl)) (by rw [hd2]))) (fun h => by rw [of_decide_eq_true h]; exact ev_n (n := 2) rfl) fun h => ?_) fun H3 e3 => ?_
  · have : s = 0 := by have := of_decide_eq_false h; omega
    rw [this]; exact ev_n (n := 0) rfl
  -- no i
  have hi : cutS (txt s (c0 :: cr)) (some ((s : Nat) : Int)) (some ((s + 1 : Nat) : Int)) = ⟨#[c0]⟩ := by
    unfold txt
    rw [cut_at]
    have : s = 0 ∨ s = 1 := by omega
    rcases this with rfl | rfl <;> rfl
  refine q_when (b := false) (et_test (ev_is (ev_op (x := .str ⟨#[c0]⟩) (by rw [← hi]; exact ev_sl (ev_var rfl) (eo_some (ev_var rfl)) (eo_some (ev_op (ev_var rfl) (ev_n (n := 1) rfl) rv_addN)) hz) ev_c (rv_eq rfl)) ?_)) (fun hc => by cases hc) fun _ H4 e4 => ?_
  · rcases (by simpa [LC] using h0 : c0 = 73 ∨ c0 = 88 ∨ c0 = 89 ∨ c0 = 90) with rfl | rfl | rfl | rfl <;> decide +kernel
  -- the loop
  refine q_forW (wk_rng2 (lo := s) (n := (txt s (c0 :: cr)).length) (ea_cons (ev_var rfl) (ea_cons (ev_lenS (ev_var rfl) hz) ea_nil)) (by omega) hz) (fun Hs i σ' H' => ∃ y, σ' = [some (.str (txt s (c0 :: cr))), some (nv s), some (nv (2 * s)), y] ∧ Ex Hs H') (fun H5 e5 => ⟨none, rfl, Ex.refl _⟩)
    (fun Hs i σ' H' _ _ p => by obtain ⟨y, _, p⟩ := p; exact p) ?_ ?_
  · rintro Hs i x σ' Ha Hb e0 hi ⟨y, rfl, ex⟩ eb rfl
    have hi' : i < (c0 :: cr).length := by rw [hzl] at hi; omega
    have g : (txt s (c0 :: cr)).cps.toList[s + i]? = some (c0 :: cr)[i] := by
      show ((if s = 1 then [45] else []) ++ (c0 :: cr))[s + i]? = _
      have : s = 0 ∨ s = 1 := by omega
      rcases this with rfl | rfl
      · rw [Nat.zero_add]; exact List.getElem?_eq_getElem hi'
      · show ([45] ++ (c0 :: cr))[1 + i]? = _
        rw [Nat.add_comm]; exact List.getElem?_eq_getElem hi'
    have hL := hc _ (List.getElem_mem hi')
    refine s_when (b := false) (et_test (ev_is (ev_op (ev_op (ev_var rfl) (ev_var rfl) (rv_signs hz g)) ev_c rv_ninSig) ?_)) (fun hc => by cases hc) fun _ H6 e6 => ⟨_, rfl, (ex.trans eb).trans e6⟩
    generalize (c0 :: cr)[i] = c at *
    rcases (by simpa [LC] using hL : c = 73 ∨ c = 88 ∨ c = 89 ∨ c = 90) with rfl | rfl | rfl | rfl <;> decide +kernel
  · rintro Hs σ' H5 e0 ⟨y, rfl, ex⟩
    refine q_when (b := false) (et_test (ev_is (ev_op (ev_var rfl) (ev_lenS (ev_var rfl) hz) rv_eqN) ?_)) (fun hc => by cases hc) fun _ H6 e6 => ?_
    · rw [decide_eq_false]
      rw [hzl, List.length_cons]; omega
    have hfr : cutS (txt s (c0 :: cr)) (some ((s : Nat) : Int)) none = ⟨(c0 :: cr).toArray⟩ := by
      unfold txt
      rw [cut_from]
      have : s = 0 ∨ s = 1 := by omega
      rcases this with rfl | rfl <;> rfl
    refine s_retU (eu_tup (ea_cons (x := .str ⟨(c0 :: cr).toArray⟩) (by rw [← hfr]; exact ev_sl (ev_var rfl) (eo_some (ev_var rfl)) eo_none hz) (ea_cons (ev_var rfl) ea_nil)) (by show 2 ≤ 100000; decide)) fun p H7 np e7 hp => ?_
    exact k p H7 ((((((((e1.trans e2).trans e3).trans e4).trans e0)).trans ex).trans e6).trans e7) hp
end
end Kp
end
section
set_option maxHeartbeats 4000000
namespace Kp
open PySem PySem.Spec PyProof.Rows L2 Evl
local macro_rules | `(tactic| walk_at "ht") => `(tactic| first | assumption | solve_by_elim (config := { maxDepth := 12 }))
local macro_rules | `(tactic| walk_at "ev") => `(tactic| repeat' (first
  | exact ea_nil
  | exact ev_var rfl
  | exact ev_n (n := 0) rfl | exact ev_n (n := 1) rfl | exact ev_n (n := 2) rfl
  | exact rv_andN | exact rv_xorN | exact rv_orN | exact rv_addN | exact rv_shrN | (exact rv_mulN (by decide)) | exact rv_eqN | exact rv_neN | exact rv_ltN
  | (refine' rv_ixT (st_of (by walk_at "ht")) (by rfl))
  | walk_at "evx"
  | refine' ev_op ?_ ?_ ?_
  | refine' ea_cons ?_ ?_))
/-! ### a.f as one of several targets -/
def gFld (K : PySem.W.Frag) (to : TE) (f : Str) : TG := fun v σ H Q => to σ H fun x H1 => ∃ a C dx fs, x = .ref a ∧ H1 a = some (.ins C dx fs) ∧ Cls K C ∧ NoAttr K C f ∧ fs.length < 1000 ∧ Q σ (upd H1 a (.ins C dx (putF f v fs)))
section
variable {X : Cx} {o : Expr} {to : TE} {f : Str} {pos : Pos}
theorem pg_fldK (K : PySem.W.Frag) (ho : PE X o to) (hK : X.K = K := by rfl) : PG X (.Attribute o f pos) (gFld K to f) := by
  subst hK
  refine ⟨fun pins s σ H v u Q I r h => ?_⟩
  show wpAny _ _ (do
    let ov ← holding [u] (eval o X.env)
    standAt pos.atName
    holding [u, ov] (setAttr ov f u)
    release [u, ov] []) _ _ _
  refine wpAny_bind (wpAny_holding (thn (ho.run pins s σ H _ I h) fun ov s1 ⟨x, H1, I1, r1, q1⟩ => ?_))
  obtain ⟨a, C, dx, fs, rfl, ea, c, n, l, q⟩ := q1
  obtain rfl : ov = Value.ref a := r1
  refine wpAny_bind (wpAny_standAt (wpAny_bind (wpAny_holding (setattr_ok I1 ea c n l r fun s3 I3 => ?_))))
  exact wpAny_release ⟨σ, _, I3, q⟩
end
/-! ### a class's own method, a class called -/
def OkM (P : Program) (w : World) (K : PySem.W.Frag) (mg : Str → Option Value) (base : Heap) (CX : CXT) (k : Nat) (f : Addr) (ps : List Str) (sp : L2.Sp) : Prop :=
  ∃ fd, FnOk P w K mg base CX k f fd ps sp ∧ Binds K fd ps []
theorem okm {P : Program} {w : World} {K : PySem.W.Frag} {mg : Str → Option Value} {base : Heap} {CX : CXT} {k : Nat} {N ps : List Str} {sp : L2.Sp} (T : Tx K mg) (d : He.DefD) (i : Nat) (hd : fn[i]? = some d) (S : FnScope N ps d.scope)
    (len : ∀ vs H Q E, sp vs H Q E → vs.length = ps.length)
    (hb : ∀ (kV doc pm : Value) (an : Option Addr) (cdv ct : Value) (us : List Value), us.length = ps.length → bindArgs (PySem.W.fnOf d.name d.qual d.params d.body d.scope .none kV doc pm an cdv ct) ⟨us, []⟩ = pure (ps.zip us))
    (hbody : ∀ (f : Addr) (cdv : Value) (A : Around) (outer : List Env) (s : Shared) (H : Hp) (vs : List V) (Q : VK) (E : XK), Room k (A.deeper (envOfC d.qual d.scope s.heap.objs.size f cdv)) → sp vs H Q E →
      ∃ t, PSs (cxOf CX P w K mg base N d.qual d.scope f cdv A outer s H E) d.body t ∧ t { nx := fun _ H' => Q .non H', rt := Q } (L2.start N vs) H) : OkM P w K mg base CX (k + 1) (He.fAd K d.at_) ps sp := by
  obtain ⟨fd, F⟩ := T.defs d (List.mem_of_getElem? hd)
  exact ⟨fd, F.ok S len (fun cdv A outer s H vs Q E hr h => hbody _ cdv A outer s H vs Q E hr h), F.bindsN hb⟩
theorem okm0 {P : Program} {w : World} {K : PySem.W.Frag} {mg : Str → Option Value} {base : Heap} {k : Nat} {N ps : List Str} {sp : L2.Sp} (T : Tx K mg) (d : He.DefD) (i : Nat) (hd : fn[i]? = some d) (S : FnScope N ps d.scope)
    (len : ∀ vs H Q E, sp vs H Q E → vs.length = ps.length)
    (hb : ∀ (kV doc pm : Value) (an : Option Addr) (cdv ct : Value) (us : List Value), us.length = ps.length → bindArgs (PySem.W.fnOf d.name d.qual d.params d.body d.scope .none kV doc pm an cdv ct) ⟨us, []⟩ = pure (ps.zip us))
    (hbody : ∀ (f : Addr) (cdv : Value) (A : Around) (outer : List Env) (s : Shared) (H : Hp) (vs : List V) (Q : VK) (E : XK), Room k (A.deeper (envOfC d.qual d.scope s.heap.objs.size f cdv)) → sp vs H Q E →
      ∃ t, PSs (cxOf CX0 P w K mg base N d.qual d.scope f cdv A outer s H E).nox d.body t ∧ t { nx := fun _ H' => Q .non H', rt := Q } (L2.start N vs) H) : OkM P w K mg base CX0 (k + 1) (He.fAd K d.at_) ps sp :=
  okm T d i hd S len hb fun f cdv A outer s H vs Q E hr h => let ⟨t, h1, h2⟩ := hbody f cdv A outer s H vs Q E hr h; ⟨t, PSs.nox h1, h2⟩
theorem pe_mkO {X : Cx} {CX : CXT} {k : Nat} {C f : Addr} {x : Str} {ps : List Str} {sp : L2.Sp} {E : XK} {e : Expr} {es : List Expr} {t : TA} {p pos : Pos} (M : Mk X.K C f) (h : OkM X.prog X.w X.K X.mg X.base CX k f ps sp) (hr : Room (k + 1) X.A) (hg : Gl X x) (hm : X.mg x = some (.ref C)) (hx : Passes CX X E) (ha : PA X (e :: es) t)
    (hdb : (x == ("__debug__" : Str)) = false := by decide) (he : starEach (e :: es) X.env = (false, eval e X.env) :: starEach es X.env := by rfl) (hpl : (backTo pos (starEach es X.env)).any (·.1) = false := by rfl) :
    PE X (.Call (.Name x p) (e :: es) [] pos) (tMake C sp [] E t) := by
  obtain ⟨fd, F, b⟩ := h
  exact pe_make M F hr hg hm b .nil hx ha hdb he hpl
/-! ### Pauli -/
abbrev CP (K : PySem.W.Frag) : Addr := He.ga K "Pauli"
section
variable {P : Program} {w : World} {K : PySem.W.Frag} {mg : Str → Option Value} {base : Heap}
theorem Tx.clsP (T : Tx K mg) : Cls K (CP K) := He.cls_ok (T.fact (.cls "Pauli") (List.mem_of_getElem? (i := 73) rfl))
theorem Tx.mkP (T : Tx K mg) : Mk K (CP K) (He.ma K (CP K) "__init__") := He.mkr_ok (T.fact (.mkr "Pauli") (List.mem_of_getElem? (i := 75) rfl))
theorem Tx.nLet (T : Tx K mg) : NoAttr K (CP K) "letters" := He.noat_ok (T.fact (.noat "Pauli" "letters") (List.mem_of_getElem? (i := 79) rfl))
theorem Tx.nPha (T : Tx K mg) : NoAttr K (CP K) "phase" := He.noat_ok (T.fact (.noat "Pauli" "phase") (List.mem_of_getElem? (i := 80) rfl))
theorem Tx.nSiz (T : Tx K mg) : NoAttr K (CP K) "size" := He.noat_ok (T.fact (.noat "Pauli" "size") (List.mem_of_getElem? (i := 81) rfl))
theorem Tx.nWei (T : Tx K mg) : NoAttr K (CP K) "weight" := He.noat_ok (T.fact (.noat "Pauli" "weight") (List.mem_of_getElem? (i := 82) rfl))
/-- the attributes of a Pauli, as __init__ stores them -/
def pauF (cs : List Nat) (ph : Nat) (wt : V) : List (Str × V) := putF "weight" wt (putF "size" (nv cs.length) (putF "phase" (nv ph) (putF "letters" (.str ⟨cs.toArray⟩) [])))
theorem pauF_let (cs : List Nat) (ph : Nat) (wt : V) : (pauF cs ph wt).lookup ("letters" : Str) = some (.str ⟨cs.toArray⟩) := by
  unfold pauF
  rw [lookup_putF, if_neg (by decide +kernel), lookup_putF, if_neg (by decide +kernel), lookup_putF, if_neg (by decide +kernel), lookup_putF, if_pos rfl]
theorem pauF_pha (cs : List Nat) (ph : Nat) (wt : V) : (pauF cs ph wt).lookup ("phase" : Str) = some (nv ph) := by
  unfold pauF
  rw [lookup_putF, if_neg (by decide +kernel), lookup_putF, if_neg (by decide +kernel), lookup_putF, if_pos rfl]
theorem pauF_siz (cs : List Nat) (ph : Nat) (wt : V) : (pauF cs ph wt).lookup ("size" : Str) = some (nv cs.length) := by
  unfold pauF
  rw [lookup_putF, if_neg (by decide +kernel), lookup_putF, if_pos rfl]
/-- a Pauli stands at v -/
def IsPau (K : PySem.W.Frag) (H : Hp) (v : V) (p : List Nat × Nat) : Prop := ∃ a dx wt, v = .ref a ∧ H a = some (.ins (CP K) dx (pauF p.1 p.2 wt))
theorem IsPau.kx {H H' : Hp} {v : V} {p : List Nat × Nat} (e : Kx H H') (h : IsPau K H v p) : IsPau K H' v p := by
  obtain ⟨a, dx, wt, rfl, h⟩ := h
  exact ⟨a, dx, wt, rfl, e.2 _ _ _ _ h⟩
theorem IsPau.ex {H H' : Hp} {v : V} {p : List Nat × Nat} (e : Ex H H') (h : IsPau K H v p) : IsPau K H' v p := h.kx (.of e)
/-- a field read -/
theorem ev_fld {σ : L2.St} {H : Hp} {te : TE} {a C dx : Addr} {fs : List (Str × V)} {f : Str} {v : V} (h : Ev te σ H (.ref a)) (ha : H a = some (.ins C dx fs)) (c : Cls K C) (n : NoAttr K C f) (l : fs.lookup f = some v) : Ev (tFld K te f) σ H v := fun H1 e Q k =>
  h H1 e _ fun H2 e2 => ⟨a, C, dx, fs, v, rfl, e2 _ _ (e _ _ ha), c, n, l, k H2 e2⟩
theorem ev_pauLet (T : Tx K mg) {σ : L2.St} {H : Hp} {te : TE} {v : V} {p : List Nat × Nat} (h : Ev te σ H v) (q : IsPau K H v p) : Ev (tFld K te "letters") σ H (.str ⟨p.1.toArray⟩) := by
  obtain ⟨a, dx, wt, rfl, ha⟩ := q
  exact ev_fld h ha T.clsP T.nLet (pauF_let _ _ _)
theorem ev_pauPha (T : Tx K mg) {σ : L2.St} {H : Hp} {te : TE} {v : V} {p : List Nat × Nat} (h : Ev te σ H v) (q : IsPau K H v p) : Ev (tFld K te "phase") σ H (nv p.2) := by
  obtain ⟨a, dx, wt, rfl, ha⟩ := q
  exact ev_fld h ha T.clsP T.nPha (pauF_pha _ _ _)
theorem ev_pauSiz (T : Tx K mg) {σ : L2.St} {H : Hp} {te : TE} {v : V} {p : List Nat × Nat} (h : Ev te σ H v) (q : IsPau K H v p) : Ev (tFld K te "size") σ H (nv p.1.length) := by
  obtain ⟨a, dx, wt, rfl, ha⟩ := q
  exact ev_fld h ha T.clsP T.nSiz (pauF_siz _ _ _)
/-- all but x stays -/
def ExB (x : Addr) (H H' : Hp) : Prop := ∀ b o, b ≠ x → H b = some o → H' b = some o
/-- len of a made list, whatever it is -/
theorem evp_lenL {σ : L2.St} {H : Hp} {te : TE} {n : Nat} (h : EvP te σ H (fun v H' => ∃ p xs, v = .ref p ∧ H' p = some (.lst xs) ∧ xs.length ≤ n)) : EvP (tCB (rLenV K) (tCons te tNil)) σ H (fun v _ => ∃ m : Nat, v = nv m) := fun H1 e Q k => by
  refine h H1 e _ fun v H2 e2 ⟨p, xs, ev, hp, _⟩ => ?_
  subst ev
  exact ⟨_, _, rfl, .inl ⟨xs, sq_of hp, rfl⟩, k _ H2 e2 ⟨_, rfl⟩⟩
def sp_PauliInit (K : PySem.W.Frag) : L2.Sp := fun vs H Q _ => ∃ (p dx : Addr) (s : Nat) (cs : List Nat), vs = [.ref p, .str (txt s cs)] ∧ H p = some (.ins (CP K) dx []) ∧ s ≤ 1 ∧ cs ≠ [] ∧ cs.length ≤ 1000 ∧ (∀ c ∈ cs, LC c) ∧
  ∀ wt H', ExB p H H' → H' p = some (.ins (CP K) dx (pauF cs (2 * s) wt)) → Q .non H'
abbrev N_PauliInit : List Str := ["self", "text", "letter"]
theorem sc_PauliInit : FnScope N_PauliInit ["self", "text"] (defScope s_PauliInit) := ⟨rfl, rfl, rfl, by decide +kernel, rfl, by decide +kernel, by decide +kernel⟩
theorem o_PauliInit (T : Tx K mg) : OkM P w K mg base CX0 2 (He.fAd K d_PauliInit.at_) ["self", "text"] (sp_PauliInit K) := by
  have o_read_string : OkF P w K mg base CX0 1 "read_string" ["text"] sp_read_string := o_read_string T
  refine okm0 T d_PauliInit 14 rfl sc_PauliInit (fun vs H Q E h => ?_) (fun _ _ _ _ _ _ us hl => match us, hl with | [_, _], _ => rfl) (fun f cdv A outer s H vs Q E hr h => ?_)
  · (obtain ⟨_, _, _, _, rfl, _⟩ := h; rfl)
  obtain ⟨p, dx, s, cs, rfl, hp, hs, hne, hlen, hc, k⟩ := h
  refine ⟨_, (pss_cons (ps_asg (pe_cl o_read_string (hr.mono (by decide)) (by rfl) pass0 (pa_cons (pv 1) pa_nil)) (pg_tup rfl (pgs_cons (pg_fldK K (pv 0)) (pgs_cons (pg_fldK K (pv 0)) pgs_nil))))
      (pss_cons (ps_fldK K (pv 0) (pe_callB (call_lenK K) (by rfl) T.m_len PySem.boot_len (pa_cons (pe_fldK K (pv 0)) pa_nil)) rfl)
      (pss_one (ps_fldK K (pv 0) (pe_callB (call_lenK K) (by rfl) T.m_len PySem.boot_len (pa_cons (pe_lc (own := [("letter", 2)]) rfl sc_PauliInit.nd (pi_str (pe_fldK K (pv 0))) (blkOk_by (own := [("letter", 2)]) (N := N_PauliInit) (sc := defScope s_PauliInit) (by decide +kernel)) (fun _ _ _ _ _ => (pg_name (i := 2) sc_PauliInit.nd rfl (Or.inl rfl))) (fun _ _ _ _ _ => (pts_one (pt_cmpR op_ne (pv 2) pe_str (nomark _)))) (fun _ _ _ _ _ => (pv 2))) pa_nil)) rfl)))), ?_⟩
  -- letters, phase
  refine (evp_call (P := fun v H' => ∃ t, v = .ref t ∧ H' t = some (.tup [.str ⟨cs.toArray⟩, nv (2 * s)])) (ea_cons (ev_var rfl) ea_nil) fun H1 e Q kk => ⟨s, cs, rfl, hs, hne, hlen, hc, fun t H' e' q => kk _ H' e' ⟨t, rfl, q⟩⟩ : EvP (tCall sp_read_string [] E0 (tCons (tVar 1) tNil)) _ H _) H (Ex.refl _) _ fun v H1 e1 ⟨t, ev, ht⟩ => ?_
  subst ev
  refine ⟨t, _, rfl, st_of ht, rfl, _, _, rfl, ?_⟩
  refine ⟨_, rfl, p, CP K, dx, [], rfl, e1 _ _ hp, T.clsP, T.nLet, by decide, nv (2 * s), [], rfl, ?_⟩
  refine ⟨_, rfl, p, CP K, dx, _, rfl, upd_same, T.clsP, T.nPha, (by show 1 < 1000; decide), rfl, ?_⟩
  rw [upd_upd]
  have b1 : ExB p H (upd H1 p (.ins (CP K) dx (putF "phase" (nv (2 * s)) (putF "letters" (.str ⟨cs.toArray⟩) [])))) := fun b o hb h => by rw [upd_ne hb]; exact e1 _ _ h
  have c1 : (upd H1 p (.ins (CP K) dx (putF "phase" (nv (2 * s)) (putF "letters" (.str ⟨cs.toArray⟩) [])))) p = some (.ins (CP K) dx (putF "phase" (nv (2 * s)) (putF "letters" (.str ⟨cs.toArray⟩) []))) := upd_same
  generalize upd H1 p (.ins (CP K) dx (putF "phase" (nv (2 * s)) (putF "letters" (.str ⟨cs.toArray⟩) []))) = H2 at *
  have l1 : (putF "phase" (nv (2 * s)) (putF "letters" (.str ⟨cs.toArray⟩) ([] : List (Str × V)))).lookup ("letters" : Str) = some (.str ⟨cs.toArray⟩) := by
    rw [lookup_putF, if_neg (by decide +kernel), lookup_putF, if_pos rfl]
  -- size
  refine (ev_lenS (ev_fld (ev_var rfl) c1 T.clsP T.nLet l1) (by show cs.length ≤ 100000; omega)) H2 (Ex.refl _) _ fun H3 e3 => ?_
  refine ⟨_, rfl, p, CP K, dx, _, rfl, e3 _ _ c1, T.clsP, T.nSiz, (by show 2 < 1000; decide), ?_⟩
  have b2 : ExB p H (upd H3 p (.ins (CP K) dx (putF "size" (nv cs.length) (putF "phase" (nv (2 * s)) (putF "letters" (.str ⟨cs.toArray⟩) []))))) := fun b o hb h => by rw [upd_ne hb]; exact e3 _ _ (b1 _ _ hb h)
  have c2 : (upd H3 p (.ins (CP K) dx (putF "size" (nv cs.length) (putF "phase" (nv (2 * s)) (putF "letters" (.str ⟨cs.toArray⟩) []))))) p = some (.ins (CP K) dx (putF "size" (nv cs.length) (putF "phase" (nv (2 * s)) (putF "letters" (.str ⟨cs.toArray⟩) [])))) := upd_same
  have l2 : (putF "size" (nv cs.length) (putF "phase" (nv (2 * s)) (putF "letters" (.str ⟨cs.toArray⟩) ([] : List (Str × V))))).lookup ("letters" : Str) = some (.str ⟨cs.toArray⟩) := by
    rw [lookup_putF, if_neg (by decide +kernel)]; exact l1
  -- weight
  refine (evp_lenL (n := 1000) ((evp_lc (wk_str (ev_fld (ev_var rfl) c2 T.clsP T.nLet l2)) (fun i => !decide (cs[i]? = some 73)) (fun _ _ _ => True) (by show cs.length ≤ 100000; omega) (fun _ _ _ _ _ _ => trivial) ?_).imp ?_)) _ (Ex.refl _) _ fun v H5 e5 ⟨m, em⟩ => ?_
  · rintro i x Hb hi eb ⟨c, hci, rfl⟩ Q' kk
    refine tg_name (i := i) (P := fun _ _ => True) rfl (et_test (ev_is (ev_op (ev_var rfl) ev_c (rv_ne rfl)) ?_)) (fun _ => EvP.imp (Ev.p (ev_var rfl)) fun _ _ _ _ => trivial) kk
    have e6 : cs[i]? = some c := by simpa using hci
    rw [e6, sign_eq c 73 (Str.ofString "I") (by decide +kernel)]
    by_cases q : c = 73 <;> simp [q]
  · rintro v H5 e5 ⟨q, xs, h1, h2, h3⟩
    refine ⟨q, xs, h1, h2, ?_⟩
    rw [paired_len h3]
    refine Nat.le_trans (List.length_filter_le _ _) ?_
    rw [List.length_range]; exact hlen
  · refine ⟨_, rfl, p, CP K, dx, _, rfl, e5 _ _ c2, T.clsP, T.nWei, (by show 3 < 1000; decide), ?_⟩
    exact k v _ (fun b o hb h => by rw [upd_ne hb]; exact e5 _ _ (b2 _ _ hb h)) upd_same
end
end Kp
end
section
set_option maxHeartbeats 4000000
namespace Kp
open PySem PySem.Spec PyProof.Rows L2 Evl
local macro_rules | `(tactic| walk_at "ht") => `(tactic| first | assumption | solve_by_elim (config := { maxDepth := 12 }))
local macro_rules | `(tactic| walk_at "ev") => `(tactic| repeat' (first
  | exact ea_nil
  | exact ev_var rfl
  | exact ev_n (n := 0) rfl | exact ev_n (n := 1) rfl | exact ev_n (n := 2) rfl
  | exact rv_andN | exact rv_xorN | exact rv_orN | exact rv_addN | exact rv_shrN | (exact rv_mulN (by decide)) | exact rv_eqN | exact rv_neN | exact rv_ltN
  | (refine' rv_ixT (st_of (by walk_at "ht")) (by rfl))
  | walk_at "evx"
  | refine' ev_op ?_ ?_ ?_
  | refine' ea_cons ?_ ?_))
section
variable {X : Cx} {o e : Expr} {es : List Expr} {to te : TE} {ta : TA} {f : Str} {p p' p1 p2 pos : Pos}
/-- KeptError.__init__(self, ..) -/
theorem pe_keinit (T : Tx X.K X.mg) {pl : Sem Bool} (ha : PA X (e :: es) ta) (hg : Gl X "KeptError" := by rfl)
    (hc : eval (.Call (.Attribute (.Name "KeptError" p1) "__init__" p2) (e :: es) [] pos) X.env = (do
      let ov ← eval (.Name "KeptError" p1) X.env
      standAt p2.atName
      let (f, first) ← holding [ov] (getMethod ov "__init__" pl)
      callWith pos f first (backTo pos (starEach (e :: es) X.env)) (backToKw pos (keywordEach [] X.env))) := by rfl)
    (he : starEach (e :: es) X.env = (false, eval e X.env) :: starEach es X.env := by rfl) (hpl : (backTo pos (starEach es X.env)).any (·.1) = false := by rfl) :
    PE X (.Call (.Attribute (.Name "KeptError" p1) "__init__" p2) (e :: es) [] pos) (tVeI X.K ta) := by
  refine ⟨fun pins s σ H Q I h => ?_⟩
  refine PySem.W.methodCall_KW (ld_glob I hg (T.glo "KeptError" (List.mem_of_getElem? (i := 48) rfl)) ?_ (by decide)) hc
  refine PySem.W.method_cls I.kIn T.ef.kga ?_
  refine PySem.W.cls_value I.kIn T.ef.krd T.ef.kin (by decide +kernel) ?_
  show wpAny _ _ (callWith pos (Value.builtin "ValueError.__init__") [] (backTo pos (starEach (e :: es) X.env)) []) _ _ _
  refine PyProof.Rows.callWith_method1 (thn (ha.run pos pins _ σ H _ (I.tok _) h) fun us s1 ⟨vs, H1, I1, r1, a, C, ws, ev, hl, T, ea, q⟩ => ?_) he hpl
  subst ev
  cases r1 with
  | @cons _ u0 _ ur ra rw' =>
    obtain rfl : u0 = Value.ref a := ra
    have hlen : ur.length ≤ sizeLine := by
      rw [← Paired.length rw', sizeLine_eq]
      omega
    exact oinit_ok T I1 ea hlen fun s' J => ⟨.non, H1, J, rfl, q⟩
/-- an own error made -/
theorem pmk_E (T : Tx X.K X.mg) {CX : CXT} {x : Str} {k : Nat} {ps : List Str} {sp : L2.Sp} (hx : x ∈ errN) (h : OkM X.prog X.w X.K X.mg X.base CX k (He.fAd X.K (x, some "__init__")) ps sp) (hr : Room (k + 1) X.A) (hg : Gl X x) (hm : X.mg x = some (.ref (He.ga X.K x)))
    (hp : Passes CX X E0) (ha : PA X (e :: es) ta)
    (hdb : (x == ("__debug__" : Str)) = false := by decide) (he : starEach (e :: es) X.env = (false, eval e X.env) :: starEach es X.env := by rfl) (hpl : (backTo pos (starEach es X.env)).any (·.1) = false := by rfl) :
    PMk X (.Call (.Name x p) (e :: es) [] pos) (tMkO (He.ga X.K x) sp [] ta) := by
  obtain ⟨fd, F, b⟩ := h
  exact pmk_oex (T.ef.oex x hx) (T.ef.ini x hx) (T.ef.ity x hx) F hr b .nil hp hg hm ha hdb he hpl
end
section
variable {P : Program} {w : World} {K : PySem.W.Frag} {mg : Str → Option Value} {base : Heap}
/-- what __init__ of an own error promises: its dict fs -/
def spE (K : PySem.W.Frag) (x : Str) (n : Nat) (fs : List V → List (Str × V)) : L2.Sp := fun vs H Q _ => ∃ a ws, vs = .ref a :: ws ∧ ws.length = n ∧ H a = some (exo a (He.ga K x) none) ∧
  ∀ d H', (∀ b u, b ≠ a → H b = some u → H' b = some u) → H d = none → H' a = some (exo a (He.ga K x) (some d)) → H' d = some (exd d (fs ws)) → Q .non H'
/-- an own error is in the air -/
abbrev sp_UnlikeInit (K : PySem.W.Frag) : L2.Sp := spE K "Unlike" 1 fun ws => [("what", ws.getD 0 .non)]
abbrev sp_AnticommuteInit (K : PySem.W.Frag) : L2.Sp := spE K "Anticommute" 2 fun ws => [("other", ws.getD 1 .non), ("one", ws.getD 0 .non)]
abbrev sp_MinusOneInit (K : PySem.W.Frag) : L2.Sp := spE K "MinusOne" 1 fun ws => [("indices", ws.getD 0 .non)]
theorem len1 {α : Type} {l : List α} (h : l.length = 1) : ∃ a, l = [a] := by
  match l, h with
  | [a], _ => exact ⟨a, rfl⟩
theorem len2 {α : Type} {l : List α} (h : l.length = 2) : ∃ a b, l = [a, b] := by
  match l, h with
  | [a, b], _ => exact ⟨a, b, rfl⟩
theorem nst_keinit {σ : L2.St} {H : Hp} {te tf : TE} {a C : Addr} {D : Ends} {tz : TS} {v : V} (h : Ev te σ H (.ref a)) (h' : Ev tf σ H v) (T : OexC K C) (ha : H a = some (exo a C none)) (k : ∀ H1, Ex H H1 → tz D σ H1) :
    tSeq (tDrop (tVeI K (tCons te (tCons tf tNil)))) tz D σ H := by
  unfold tSeq tDrop tVeI
  refine (ea_cons h (ea_cons h' ea_nil) : EvA (tCons te (tCons tf tNil)) σ H _) H (Ex.refl _) _ fun H1 e1 => ?_
  exact ⟨a, C, [v], rfl, (by show 1 ≤ 1000; decide), T, e1 _ _ ha, k H1 e1⟩
theorem q_ost1 {σ : L2.St} {H : Hp} {to te : TE} {a C : Addr} {D : Ends} {tz : TS} {v : V} {f : Str} (h : Ev to σ H (.ref a)) (h' : Ev te σ H v) (T : OexC K C) (no : PySem.W.findIn K (.ref C) f = some none) (ha : H a = some (exo a C none))
    (k : ∀ dx H1, Ex H H1 → H1 dx = none → dx ≠ a → tz D σ (upd (upd H1 dx (exd dx [(f, v)])) a (exo a C (some dx)))) : tSeq (tOst K f to te) tz D σ H := by
  show te σ H _
  refine h' H (Ex.refl _) _ fun H2 e2 => ?_
  show to σ H2 _
  refine h H2 e2 _ fun H3 e3 => ?_
  exact ⟨a, _, rfl, T, no, .inl ⟨(e2.trans e3) _ _ ha, fun dx n ne => k dx H3 (e2.trans e3) n ne⟩⟩
theorem s_ost1 {σ : L2.St} {H : Hp} {to te : TE} {a C : Addr} {D : Ends} {v : V} {f : Str} (h : Ev to σ H (.ref a)) (h' : Ev te σ H v) (T : OexC K C) (no : PySem.W.findIn K (.ref C) f = some none) (ha : H a = some (exo a C none))
    (k : ∀ dx H1, Ex H H1 → H1 dx = none → dx ≠ a → D.nx σ (upd (upd H1 dx (exd dx [(f, v)])) a (exo a C (some dx)))) : tOst K f to te D σ H := by
  show te σ H _
  refine h' H (Ex.refl _) _ fun H2 e2 => ?_
  show to σ H2 _
  refine h H2 e2 _ fun H3 e3 => ?_
  exact ⟨a, _, rfl, T, no, .inl ⟨(e2.trans e3) _ _ ha, fun dx n ne => k dx H3 (e2.trans e3) n ne⟩⟩
theorem s_ost2 {σ : L2.St} {H : Hp} {to te : TE} {a C dx : Addr} {D : Ends} {v : V} {f : Str} {fs : List (Str × V)} (h : Ev to σ H (.ref a)) (h' : Ev te σ H v) (T : OexC K C) (no : PySem.W.findIn K (.ref C) f = some none) (ha : H a = some (exo a C (some dx))) (hd : H dx = some (exd dx fs)) (hl : fs.length ≤ 900)
    (k : ∀ H1, Ex H H1 → D.nx σ (upd H1 dx (exd dx ((f, v) :: fs)))) : tOst K f to te D σ H := by
  show te σ H _
  refine h' H (Ex.refl _) _ fun H2 e2 => ?_
  show to σ H2 _
  refine h H2 e2 _ fun H3 e3 => ?_
  exact ⟨a, _, rfl, T, no, .inr ⟨dx, fs, (e2.trans e3) _ _ ha, (e2.trans e3) _ _ hd, hl, k H3 (e2.trans e3)⟩⟩
abbrev N_UnlikeInit : List Str := ["self", "what"]
theorem sc_UnlikeInit : FnScope N_UnlikeInit ["self", "what"] (defScope s_UnlikeInit) := ⟨rfl, rfl, rfl, by decide +kernel, rfl, by decide +kernel, by decide +kernel⟩
theorem o_UnlikeInit (T : Tx K mg) : OkM P w K mg base CX0 2 (He.fAd K d_UnlikeInit.at_) ["self", "what"] (sp_UnlikeInit K) := by
  refine okm0 T d_UnlikeInit 9 rfl sc_UnlikeInit (fun vs H Q E h => ?_) (fun _ _ _ _ _ _ us hl => match us, hl with | [_, _], _ => rfl) (fun f cdv A outer s H vs Q E hr h => ?_)
  · obtain ⟨a, ws, rfl, hl, _⟩ := h
    obtain ⟨v, rfl⟩ := len1 hl
    rfl
  obtain ⟨a, ws, rfl, hl, ha, k⟩ := h
  obtain ⟨v, rfl⟩ := len1 hl
  refine ⟨_, (pss_cons (ps_expr (pe_keinit T (pa_cons (pv 0) (pa_cons pe_str pa_nil))))
      (pss_one (ps_ost (pv 0) (pv 1)))), ?_⟩
  have O := T.ef.oex "Unlike" (by decide)
  refine nst_keinit (ev_var rfl) ev_c O ha fun H1 e1 => ?_
  refine s_ost1 (ev_var rfl) (ev_var rfl) O (T.ef.noa ("Unlike", "what") (by decide)) (e1 _ _ ha) fun dx H3 e3 n ne => ?_
  have x3 := e1.trans e3
  refine k dx _ (fun b u hb h => ?_) (by cases q : H dx with | none => rfl | some u => rw [x3 _ _ q] at n; cases n) upd_same ?_
  · rw [upd_ne hb, upd_ne]
    · exact x3 _ _ h
    · rintro rfl; rw [x3 _ _ h] at n; cases n
  · rw [upd_ne ne, upd_same]; rfl
abbrev N_MinusOneInit : List Str := ["self", "indices"]
theorem sc_MinusOneInit : FnScope N_MinusOneInit ["self", "indices"] (defScope s_MinusOneInit) := ⟨rfl, rfl, rfl, by decide +kernel, rfl, by decide +kernel, by decide +kernel⟩
theorem o_MinusOneInit (T : Tx K mg) : OkM P w K mg base CX0 2 (He.fAd K d_MinusOneInit.at_) ["self", "indices"] (sp_MinusOneInit K) := by
  refine okm0 T d_MinusOneInit 11 rfl sc_MinusOneInit (fun vs H Q E h => ?_) (fun _ _ _ _ _ _ us hl => match us, hl with | [_, _], _ => rfl) (fun f cdv A outer s H vs Q E hr h => ?_)
  · obtain ⟨a, ws, rfl, hl, _⟩ := h
    obtain ⟨v, rfl⟩ := len1 hl
    rfl
  obtain ⟨a, ws, rfl, hl, ha, k⟩ := h
  obtain ⟨v, rfl⟩ := len1 hl
  refine ⟨_, (pss_cons (ps_expr (pe_keinit T (pa_cons (pv 0) (pa_cons pe_str pa_nil))))
      (pss_one (ps_ost (pv 0) (pv 1)))), ?_⟩
  have O := T.ef.oex "MinusOne" (by decide)
  refine nst_keinit (ev_var rfl) ev_c O ha fun H1 e1 => ?_
  refine s_ost1 (ev_var rfl) (ev_var rfl) O (T.ef.noa ("MinusOne", "indices") (by decide)) (e1 _ _ ha) fun dx H3 e3 n ne => ?_
  have x3 := e1.trans e3
  refine k dx _ (fun b u hb h => ?_) (by cases q : H dx with | none => rfl | some u => rw [x3 _ _ q] at n; cases n) upd_same ?_
  · rw [upd_ne hb, upd_ne]
    · exact x3 _ _ h
    · rintro rfl; rw [x3 _ _ h] at n; cases n
  · rw [upd_ne ne, upd_same]; rfl
abbrev N_AnticommuteInit : List Str := ["self", "one", "other"]
theorem sc_AnticommuteInit : FnScope N_AnticommuteInit ["self", "one", "other"] (defScope s_AnticommuteInit) := ⟨rfl, rfl, rfl, by decide +kernel, rfl, by decide +kernel, by decide +kernel⟩
theorem o_AnticommuteInit (T : Tx K mg) : OkM P w K mg base CX0 2 (He.fAd K d_AnticommuteInit.at_) ["self", "one", "other"] (sp_AnticommuteInit K) := by
  refine okm0 T d_AnticommuteInit 10 rfl sc_AnticommuteInit (fun vs H Q E h => ?_) (fun _ _ _ _ _ _ us hl => match us, hl with | [_, _, _], _ => rfl) (fun f cdv A outer s H vs Q E hr h => ?_)
  · obtain ⟨a, ws, rfl, hl, _⟩ := h
    obtain ⟨v, v', rfl⟩ := len2 hl
    rfl
  obtain ⟨a, ws, rfl, hl, ha, k⟩ := h
  obtain ⟨v, v', rfl⟩ := len2 hl
  refine ⟨_, (pss_cons (ps_expr (pe_keinit T (pa_cons (pv 0) (pa_cons pe_str pa_nil))))
      (pss_cons (ps_ost (pv 0) (pv 1))
      (pss_one (ps_ost (pv 0) (pv 2))))), ?_⟩
  have O := T.ef.oex "Anticommute" (by decide)
  refine nst_keinit (ev_var rfl) ev_c O ha fun H1 e1 => ?_
  refine q_ost1 (ev_var rfl) (ev_var rfl) O (T.ef.noa ("Anticommute", "one") (by decide)) (e1 _ _ ha) fun dx H3 e3 n ne => ?_
  have x3 := e1.trans e3
  refine s_ost2 (ev_var rfl) (ev_var rfl) O (T.ef.noa ("Anticommute", "other") (by decide)) upd_same (by rw [upd_ne ne, upd_same]) (by show 1 ≤ 900; decide) fun H5 x5 => ?_
  refine k dx _ (fun b u hb h => ?_) (by cases q : H dx with | none => rfl | some u => rw [x3 _ _ q] at n; cases n) ?_ upd_same
  · have hd : b ≠ dx := by rintro rfl; rw [x3 _ _ h] at n; cases n
    rw [upd_ne hd]
    refine x5 _ _ ?_
    rw [upd_ne hb, upd_ne hd]
    exact x3 _ _ h
  · rw [upd_ne (Ne.symm ne)]
    exact x5 _ _ upd_same
/-- an own error is raised -/
theorem st_raise {σ : L2.St} {H : Hp} {ta : TA} {ws : List V} {x : Str} {n : Nat} {fs : List V → List (Str × V)} {R : XK} (h : EvA ta σ H ws) (hl : ws.length = n) (hn : n ≤ 1000)
    (k : ∀ d H', Ex H H' → H' d = some (.xd (fs ws)) → R (.ref (He.ga K x)) (some d) H') : tMkO (He.ga K x) (spE K x n fs) [] ta σ H R := by
  refine h H (Ex.refl _) _ fun H1 e1 => ⟨by omega, fun a na => ?_⟩
  rw [List.append_nil]
  refine ⟨a, ws, rfl, hl, upd_same, fun d H2 hk nd ha hd => ⟨rfl, d, fs ws, ha, hd, ?_, ?_⟩⟩
  · by_cases q : d = a
    · rw [q]; exact na
    · rw [upd_ne q] at nd; exact nd
  · have nd1 : H1 d = none := by
      by_cases q : d = a
      · rw [q]; exact na
      · rw [upd_ne q] at nd; exact nd
    refine k d _ (e1.trans fun b u hb => ?_) upd_same
    have hba : b ≠ a := by rintro rfl; rw [na] at hb; cases hb
    have hbd : b ≠ d := by rintro rfl; rw [nd1] at hb; cases hb
    rw [upd_ne hbd, del_ne hba]
    exact hk b u hba (by rw [upd_ne hba]; exact hb)
/-- the same, its arguments told -/
theorem st_raiseP {σ : L2.St} {H : Hp} {ta : TA} {P : List V → Hp → Prop} {x : Str} {n : Nat} {fs : List V → List (Str × V)} {R : XK} (h : EvAP ta σ H P) (hl : ∀ ws H1, P ws H1 → ws.length = n) (hn : n ≤ 1000)
    (k : ∀ ws d H1 H', Ex H H1 → P ws H1 → Ex H1 H' → H' d = some (.xd (fs ws)) → R (.ref (He.ga K x)) (some d) H') : tMkO (He.ga K x) (spE K x n fs) [] ta σ H R := by
  refine h H (Ex.refl _) _ fun ws H1 e1 pw => ⟨by have := hl ws H1 pw; omega, fun a na => ?_⟩
  rw [List.append_nil]
  refine ⟨a, ws, rfl, hl ws H1 pw, upd_same, fun d H2 hk nd ha hd => ⟨rfl, d, fs ws, ha, hd, ?_, ?_⟩⟩
  · by_cases q : d = a
    · rw [q]; exact na
    · rw [upd_ne q] at nd; exact nd
  · have nd1 : H1 d = none := by
      by_cases q : d = a
      · rw [q]; exact na
      · rw [upd_ne q] at nd; exact nd
    refine k ws d H1 _ e1 pw (fun b u hb => ?_) upd_same
    have hba : b ≠ a := by rintro rfl; rw [na] at hb; cases hb
    have hbd : b ≠ d := by rintro rfl; rw [nd1] at hb; cases hb
    rw [upd_ne hbd, del_ne hba]
    exact hk b u hba (by rw [upd_ne hba]; exact hb)
end
end Kp
end
section
set_option maxHeartbeats 4000000
namespace Kp
open PySem PySem.Spec PyProof.Rows L2 Evl
local macro_rules | `(tactic| walk_at "ht") => `(tactic| first | assumption | solve_by_elim (config := { maxDepth := 12 }))
local macro_rules | `(tactic| walk_at "ev") => `(tactic| repeat' (first
  | exact ea_nil
  | exact ev_var rfl
  | exact ev_n (n := 0) rfl | exact ev_n (n := 1) rfl | exact ev_n (n := 2) rfl
  | exact rv_andN | exact rv_xorN | exact rv_orN | exact rv_addN | exact rv_shrN | (exact rv_mulN (by decide)) | exact rv_eqN | exact rv_neN | exact rv_ltN
  | (refine' rv_ixT (st_of (by walk_at "ht")) (by rfl))
  | walk_at "evx"
  | refine' ev_op ?_ ?_ ?_
  | refine' ea_cons ?_ ?_))
section
variable {P : Program} {w : World} {K : PySem.W.Frag} {mg : Str → Option Value} {base : Heap}
/-- a new Pauli -/
theorem evp_mkPauli {σ : L2.St} {H : Hp} {te : TE} {s : Nat} {cs : List Nat} {E : XK} (h : Ev te σ H (.str (txt s cs))) (hs : s ≤ 1) (hne : cs ≠ []) (hlen : cs.length ≤ 1000) (hc : ∀ c ∈ cs, LC c) :
    EvP (tMake (CP K) (sp_PauliInit K) [] E (tCons te tNil)) σ H (fun v H' => IsPau K H' v (cs, 2 * s)) := fun H1 e Q k => by
  unfold tMake
  refine (ea_cons h ea_nil : EvA (tCons te tNil) σ H _) H1 e _ fun H2 e2 => ?_
  intro x dx nx ndx hne'
  refine ⟨x, dx, s, cs, rfl, upd_same, hs, hne, hlen, hc, fun wt H' eb hx => ⟨rfl, ?_⟩⟩
  refine k _ H' (e2.trans fun b o hb => eb b o ?_ ?_) ⟨x, dx, wt, rfl, hx⟩
  · rintro rfl; rw [nx] at hb; cases hb
  · rw [upd_ne, upd_ne]
    · exact hb
    · rintro rfl; rw [ndx] at hb; cases hb
    · rintro rfl; rw [nx] at hb; cases hb
theorem lc_LC {a b : Nat} (ha : a ≤ 1) (hb : b ≤ 1) : LC (lc a b) := by
  have : a = 0 ∨ a = 1 := by omega
  have : b = 0 ∨ b = 1 := by omega
  rcases ‹a = 0 ∨ a = 1› with rfl | rfl <;> rcases ‹b = 0 ∨ b = 1› with rfl | rfl <;> (unfold LC lc; decide)
theorem letN_LC (r : Row) (n : Nat) : ∀ c ∈ letN r n, LC c := fun c hc => by
  unfold letN at hc
  obtain ⟨k, _, rfl⟩ := List.mem_map.mp hc
  exact lc_LC (bit_le _ _) (bit_le _ _)
theorem letN_ne {r : Row} {n : Nat} (h : 1 ≤ n) : letN r n ≠ [] := fun e => by
  have := letN_len r n
  rw [e] at this
  simp at this; omega
/-- a text by its sign and its letters -/
theorem txt_add (s : Nat) (cs : List Nat) (z : Str) (hz : z = ⟨(if s = 1 then [45] else []).toArray⟩) : z ++ (⟨cs.toArray⟩ : Str) = txt s cs := by
  subst hz
  refine TL.ext_tl ?_
  rw [TL.tl_append]
  rfl
theorem ev_addS {σ : L2.St} {H : Hp} {ta tb : TE} {a b c : Str} (ha : Ev ta σ H (.str a)) (hb : Ev tb σ H (.str b)) (hz : a.length + b.length ≤ 100000) (e : a ++ b = c) : Ev (tOp (fun x y H Q => ∃ i j, x = .str i ∧ y = .str j ∧ i.length + j.length ≤ sizeLine ∧ Q (.str (i ++ j)) H) ta tb) σ H (.str c) :=
  ev_op ha hb (rv_val fun H1 e1 Q k => ⟨a, b, rfl, rfl, sz_of hz, by rw [e]; exact k⟩)
/-! ### told_string -/
def sp_told_string (K : PySem.W.Frag) : L2.Sp := fun vs H Q _ => ∃ (v1 : V) (n : Nat) (a : Row), vs = [v1, nv n] ∧ 1 ≤ n ∧ n ≤ 1000 ∧ a.s ≤ 1 ∧ IsRow H v1 a ∧ ∀ v H', Ex H H' → IsPau K H' v (letN a n, 2 * a.s) → Q v H'
abbrev N_told_string : List Str := ["row", "size"]
theorem sc_told_string : FnScope N_told_string ["row", "size"] (defScope s_told_string) := ⟨rfl, rfl, rfl, by decide +kernel, rfl, by decide +kernel, by decide +kernel⟩
theorem o_told_string (T : Tx K mg) : OkF P w K mg base CX0 5 "told_string" ["row", "size"] (sp_told_string K) := by
  have o_PauliInit := o_PauliInit (P := P) (w := w) (K := K) (mg := mg) (base := base) T
  have o_letters_of : OkF P w K mg base CX0 1 "letters_of" ["row", "size"] sp_letters_of := o_letters_of T
  refine okf T d_told_string "told_string" 25 18 rfl rfl rfl sc_told_string (fun vs H Q E h => ?_) (fun _ _ _ _ _ _ us hl => match us, hl with | [_, _], _ => rfl) (fun f cdv A outer s H vs Q E hr h => ?_)
  · (obtain ⟨_, _, _, rfl, _⟩ := h; rfl)
  obtain ⟨v1, n, a, rfl, hn1, hn, hs, ⟨p1, rfl, h1⟩, k⟩ := h
  refine ⟨_, (pss_one (ps_ret (pe_mkO T.mkP o_PauliInit (hr.mono (by decide)) (by rfl) (T.glo "Pauli" (List.mem_of_getElem? (i := 54) rfl)) pass0 (pa_cons (pe_op op_add_str (pe_ifExp (pt_cmpR op_eq (pe_ix (ix_tupK K) (pv 0) pe_int (fun _ _ => rfl)) pe_int (nomark _)) pe_str pe_str) (pe_cl o_letters_of (hr.mono (by decide)) (by rfl) pass0 (pa_cons (pv 0) (pa_cons (pv 1) pa_nil)))) pa_nil)))), ?_⟩
  refine s_retP (evp_mkPauli (s := a.s) (cs := letN a n) (ev_addS (a := ⟨(if a.s = 1 then [45] else []).toArray⟩) (b := ⟨(letN a n).toArray⟩) ?_ ?_ ?_ (txt_add _ _ _ rfl)) hs (letN_ne hn1) (by rw [letN_len]; exact hn) (letN_LC _ _)) fun v H1 e1 hv => k v H1 e1 hv
  · refine ev_if (b := decide (a.s = 1)) (et_test (ev_op (x := nv a.s) (by walk_at "ev") (ev_n (n := 1) rfl) rv_eqN)) (fun q => ?_) fun q => ?_
    · rw [if_pos (of_decide_eq_true q)]; exact ev_c
    · rw [if_neg (of_decide_eq_false q)]; exact ev_c
  · exact ev_callv (ea_cons (ev_var rfl) (ea_cons (ev_var rfl) ea_nil)) fun H1 e Q kk => ⟨_, n, a, rfl, hn, ⟨p1, rfl, e _ _ h1⟩, kk⟩
  · show (if a.s = 1 then [45] else []).length + (letN a n).length ≤ 100000
    rw [letN_len]
    split <;> simp <;> omega
theorem evp_told_string {σ : L2.St} {H : Hp} {te tf : TE} {v1 : V} {n : Nat} {a : Row} {E : XK} (h : Ev te σ H v1) (h' : Ev tf σ H (nv n)) (hn1 : 1 ≤ n) (hn : n ≤ 1000) (hs : a.s ≤ 1) (r : IsRow H v1 a) :
    EvP (tCall (sp_told_string K) [] E (tCons te (tCons tf tNil))) σ H (fun v H' => IsPau K H' v (letN a n, 2 * a.s)) :=
  evp_call (ea_cons h (ea_cons h' ea_nil)) fun H1 e Q kk => ⟨v1, n, a, rfl, hn1, hn, hs, r.ex e, fun v H' e' q => kk v H' e' q⟩
/-! ### pauli_text -/
theorem Tx.hds (T : Tx K mg) (H : Hp) : SqT K H (He.ga K "HEADS") [.str "", .str "i", .str "-", .str "-i"] := He.tupB_ok T.heads H
def sp_pauli_text (K : PySem.W.Frag) : L2.Sp := fun vs H Q _ => ∃ (v1 : V) (s : Nat) (cs : List Nat), vs = [v1] ∧ s ≤ 1 ∧ cs.length ≤ 1000 ∧ IsPau K H v1 (cs, 2 * s) ∧ ∀ H', Ex H H' → Q (.str (txt s cs)) H'
abbrev N_pauli_text : List Str := ["string"]
theorem sc_pauli_text : FnScope N_pauli_text ["string"] (defScope s_pauli_text) := ⟨rfl, rfl, rfl, by decide +kernel, rfl, by decide +kernel, by decide +kernel⟩
theorem o_pauli_text (T : Tx K mg) : OkF P w K mg base CX0 1 "pauli_text" ["string"] (sp_pauli_text K) := by
  refine okf T d_pauli_text "pauli_text" 17 10 rfl rfl rfl sc_pauli_text (fun vs H Q E h => ?_) (fun _ _ _ _ _ _ us hl => match us, hl with | [_], _ => rfl) (fun f cdv A outer s H vs Q E hr h => ?_)
  · (obtain ⟨_, _, _, rfl, _⟩ := h; rfl)
  obtain ⟨v1, s, cs, rfl, hs, hl, hp, k⟩ := h
  refine ⟨_, (pss_one (ps_ret (pe_op op_add_str (pe_ix (ix_tupK K) (pe_glob (v := .ref (He.ga K "HEADS")) (by rfl) (T.glo "HEADS" (List.mem_of_getElem? (i := 56) rfl)) rfl) (pe_fldK K (pv 0)) (fun _ _ => rfl)) (pe_fldK K (pv 0))))), ?_⟩
  have hp' := hp
  obtain ⟨a, dx, wt, rfl, ha⟩ := hp'
  refine s_ret (ev_addS (a := ⟨(if s = 1 then [45] else []).toArray⟩) (b := ⟨cs.toArray⟩) ?_ ?_ ?_ (txt_add _ _ _ rfl)) k
  · refine ev_op (y := nv (2 * s)) ev_c (ev_pauPha (p := (cs, 2 * s)) T (ev_var rfl) hp) ?_
    have e : ([V.str "", V.str "i", V.str "-", V.str "-i"] : List V)[2 * s]? = some (.str ⟨(if s = 1 then [45] else []).toArray⟩) := by
      have : s = 0 ∨ s = 1 := by omega
      rcases this with rfl | rfl <;> rfl
    exact rv_ixT (T.hds _) (atI_nat e)
  · exact ev_pauLet (p := (cs, 2 * s)) T (ev_var rfl) hp
  · show (if s = 1 then [45] else []).length + cs.length ≤ 100000
    split <;> simp <;> omega
theorem ev_pauli_text {σ : L2.St} {H : Hp} {te : TE} {v1 : V} {s : Nat} {cs : List Nat} {E : XK} (h : Ev te σ H v1) (hs : s ≤ 1) (hl : cs.length ≤ 1000) (r : IsPau K H v1 (cs, 2 * s)) :
    Ev (tCall (sp_pauli_text K) [] E (tCons te tNil)) σ H (.str (txt s cs)) :=
  ev_callv (ea_cons h ea_nil) fun H1 e Q kk => ⟨v1, s, cs, rfl, hs, hl, r.ex e, kk⟩
/-! ### need_equal_size -/
def sp_need_equal_size (K : PySem.W.Frag) : L2.Sp := fun vs H Q E => ∃ a b : Nat, vs = [nv a, nv b] ∧ (a = b → ∀ H', Ex H H' → Q .non H') ∧ (a ≠ b → ∀ d H', Ex H H' → H' d = some (.xd [("what", .str "size")]) → E (.ref (He.ga K "Unlike")) (some d) H')
abbrev N_need_equal_size : List Str := ["one", "other"]
theorem sc_need_equal_size : FnScope N_need_equal_size ["one", "other"] (defScope s_need_equal_size) := ⟨rfl, rfl, rfl, by decide +kernel, rfl, by decide +kernel, by decide +kernel⟩
theorem o_need_equal_size (T : Tx K mg) : OkF P w K mg base (L2.CX P w) 4 "need_equal_size" ["one", "other"] (sp_need_equal_size K) := by
  have o_UnlikeInit := o_UnlikeInit (P := P) (w := w) (K := K) (mg := mg) (base := base) T
  refine okfX T d_need_equal_size "need_equal_size" 16 9 rfl rfl rfl sc_need_equal_size (fun vs H Q E h => ?_) (fun _ _ _ _ _ _ us hl => match us, hl with | [_, _], _ => rfl) (fun f cdv A outer s H vs Q E hr h => ?_)
  · (obtain ⟨_, _, rfl, _⟩ := h; rfl)
  obtain ⟨a, b, rfl, k1, k2⟩ := h
  refine ⟨_, (pss_one (ps_if (pt_cmpR op_ne (pv 0) (pv 1) (nomark _)) (pss_one (ps_raise rfl (takes_of rfl rfl rfl rfl) (pmk_E T (by decide) o_UnlikeInit (hr.mono (by decide)) (by rfl) (T.glo "Unlike" (List.mem_of_getElem? (i := 51) rfl)) pass0 (pa_cons pe_str pa_nil)))) pss_nil)), ?_⟩
  refine s_when (b := !decide (a = b)) (et_test (by walk_at "ev")) (fun hc H1 e1 => ?_) fun hc H1 e1 => k1 (by simpa using hc) H1 e1
  exact st_raise (ea_cons ev_c ea_nil) rfl (by decide) fun d H' e' hd => k2 (by simpa using hc) d H' (e1.trans e') hd
end
end Kp
end
section
set_option maxHeartbeats 4000000
namespace Kp
open PySem PySem.Spec PyProof.Rows L2 Evl
local macro_rules | `(tactic| walk_at "ht") => `(tactic| first | assumption | solve_by_elim (config := { maxDepth := 12 }))
local macro_rules | `(tactic| walk_at "ev") => `(tactic| repeat' (first
  | exact ea_nil
  | exact ev_var rfl
  | exact ev_n (n := 0) rfl | exact ev_n (n := 1) rfl | exact ev_n (n := 2) rfl
  | exact rv_andN | exact rv_xorN | exact rv_orN | exact rv_addN | exact rv_shrN | (exact rv_mulN (by decide)) | exact rv_eqN | exact rv_neN | exact rv_ltN
  | (refine' rv_ixT (st_of (by walk_at "ht")) (by rfl))
  | walk_at "evx"
  | refine' ev_op ?_ ?_ ?_
  | refine' ea_cons ?_ ?_))
section
variable {P : Program} {w : World} {K : PySem.W.Frag} {mg : Str → Option Value} {base : Heap}
/-! ### row_of -/
theorem sum_cast (L : List Nat) : (L.map fun n : Nat => (n : Int)).sum = ((L.sum : Nat) : Int) := by
  induction L with
  | nil => rfl
  | cons a r ih => rw [List.map_cons, List.sum_cons, ih, List.sum_cons, Int.natCast_add]
theorem ev_sumP {σ : L2.St} {H : Hp} {te : TE} {L : List Nat} (h : EvP te σ H (fun v H' => ∃ p xs, v = .ref p ∧ H' p = some (.lst xs) ∧ xs = L.map nv)) : Ev (tCB (rSum K) (tCons te tNil)) σ H (nv L.sum) := fun H1 e Q k => by
  refine h H1 e _ fun v H2 e2 ⟨p, xs, ev, hp, ex⟩ => ?_
  subst ev ex
  refine ⟨p, L.map fun n : Nat => (n : Int), rfl, sq_of (by rw [hp, map_nv]), ?_⟩
  rw [sum_cast]
  exact k H2 e2
theorem paired_eq {α : Type} {xs : List V} {L : List α} {g : α → V} {P : α → V → Prop} (h : Paired (fun x i => P i x) xs L) (hp : ∀ i x, P i x → x = g i) : xs = L.map g := by
  induction h with
  | nil => rfl
  | cons a _ ih => rw [List.map_cons, ih, hp _ _ a]
theorem lc_XY {a b : Nat} (ha : a ≤ 1) (hb : b ≤ 1) : decide (lc a b ∈ (PySem.Str.ofString "XY").cps.toList) = (a != 0) := by
  have : a = 0 ∨ a = 1 := by omega
  have : b = 0 ∨ b = 1 := by omega
  rcases ‹a = 0 ∨ a = 1› with rfl | rfl <;> rcases ‹b = 0 ∨ b = 1› with rfl | rfl <;> decide +kernel
theorem lc_ZY {a b : Nat} (ha : a ≤ 1) (hb : b ≤ 1) : decide (lc a b ∈ (PySem.Str.ofString "ZY").cps.toList) = (b != 0) := by
  have : a = 0 ∨ a = 1 := by omega
  have : b = 0 ∨ b = 1 := by omega
  rcases ‹a = 0 ∨ a = 1› with rfl | rfl <;> rcases ‹b = 0 ∨ b = 1› with rfl | rfl <;> decide +kernel
theorem letN_at {r : Row} {n i c : Nat} (h : (letN r n)[i]? = some c) : i < n ∧ c = lc (r.x >>> i &&& 1) (r.z >>> i &&& 1) := by
  have hl : i < n := by
    have := (List.getElem?_eq_some_iff.mp h).1
    rwa [letN_len] at this
  refine ⟨hl, ?_⟩
  unfold letN at h
  rw [List.getElem?_map, List.getElem?_range hl] at h
  exact (Option.some.inj h).symm
def sp_row_of (K : PySem.W.Frag) : L2.Sp := fun vs H Q _ => ∃ (v1 : V) (n : Nat) (r : Row), vs = [v1] ∧ n ≤ 1000 ∧ Rw n r ∧ IsPau K H v1 (letN r n, 2 * r.s) ∧ ∀ v H', Ex H H' → IsRow H' v r → Q v H'
/-- the numbers of a string's letters -/
theorem cells_of (T : Tx K mg) {σ : L2.St} {H : Hp} {te : TE} {v1 : V} {n : Nat} {r : Row} {zs : Str} {vs : List Nat} {j k : Nat} (x : Nat) (hn : n ≤ 1000) (h : Ev te σ H v1) (hp : IsPau K H v1 (letN r n, 2 * r.s))
    (hz : ∀ i, i < n → decide (lc (r.x >>> i &&& 1) (r.z >>> i &&& 1) ∈ zs.cps.toList) = (x >>> i &&& 1 != 0))
    (hw : ∀ a b, wipe (((wipe σ vs).set j a).set k b) vs = wipe σ vs) (hj : ∀ a b, (((wipe σ vs).set j a).set k b)[j]? = some a) (hk : ∀ a b, (((wipe σ vs).set j a).set k b)[k]? = some b) (hx : x < 2 ^ n) :
    Ev (tCB (rSum K) (tCons (tLc (iEnumS (tCons (tFld K te "letters") tNil)) (gTup K 2 (gCons (gName j) (gCons (gName k) gNil))) (tTest (tOp rInSig (tVar k) (tC (.str zs)))) (tOp (rI CPow fun i j => .int (i * 2 ^ j.toNat)) (tC (.int 1)) (tVar j)) vs) tNil)) σ H (nv x) := by
  have e : x = (((List.range n).filter fun i => x >>> i &&& 1 != 0).map fun i => 1 <<< i).sum := by
    have := bsum_of x n
    rw [Nat.mod_eq_of_lt hx] at this
    exact this.symm
  rw [e]
  refine ev_sumP (K := K) ((evp_lc (vs := vs) (wk_enumS (ea_cons (ev_pauLet T h hp) ea_nil)) (fun i => x >>> i &&& 1 != 0) (fun i v _ => v = nv (1 <<< i)) ?_ (fun _ _ _ _ _ q => q) ?_).imp ?_)
  · show (letN r n).length ≤ 100000
    rw [letN_len]; omega
  · rintro i xx Hb hi eb ⟨Tt, c, rfl, hT, hc⟩ Q' kk
    have hc' : (letN r n)[i]? = some c := by simpa using hc
    obtain ⟨hi', rfl⟩ := letN_at hc'
    refine ⟨Tt, _, rfl, st_of hT, rfl, _, _, rfl, _, _, rfl, rfl, ?_⟩
    refine kk _ Hb (hw _ _) (Ex.refl _) (et_test (ev_is (ev_op (ev_var (hk _ _)) ev_c rv_inSig) (by rw [hz i hi']))) fun _ => ?_
    exact Ev.p (ev_op (ev_n (n := 1) rfl) (ev_var (hj _ _)) (rv_shlN (by omega) (by decide)))
  · rintro v H1 e1 ⟨p, xs, h1, h2, h3⟩
    refine ⟨p, xs, h1, h2, ?_⟩
    have el : (letN r n).toArray.size = n := by simp [letN_len]
    rw [show (⟨(letN r n).toArray⟩ : Str).cps.size = n from el] at h3
    rw [List.map_map]
    exact paired_eq h3 fun i x q => q
abbrev N_row_of : List Str := ["string", "x", "z", "k", "letter"]
theorem sc_row_of : FnScope N_row_of ["string"] (defScope s_row_of) := ⟨rfl, rfl, rfl, by decide +kernel, rfl, by decide +kernel, by decide +kernel⟩
theorem o_row_of (T : Tx K mg) : OkF P w K mg base CX0 1 "row_of" ["string"] (sp_row_of K) := by
  refine okf T d_row_of "row_of" 21 14 rfl rfl rfl sc_row_of (fun vs H Q E h => ?_) (fun _ _ _ _ _ _ us hl => match us, hl with | [_], _ => rfl) (fun f cdv A outer s H vs Q E hr h => ?_)
  · (obtain ⟨_, _, _, rfl, _⟩ := h; rfl)
  obtain ⟨v1, n, r, rfl, hn, hr1, hp, k⟩ := h
  refine ⟨_, (pss_cons (ps_set (i := 1) sc_row_of.nd rfl (Or.inl rfl) (pe_callB (cr_sumK K rfl) (by rfl) T.m_sum (by decide +kernel) (pa_cons (pe_lc (own := [("k", 3), ("letter", 4)]) rfl sc_row_of.nd (pi_enumS (by rfl) T.m_enumerate (pa_cons (pe_fldK K (pv 0)) pa_nil)) (blkOk_by (own := [("k", 3), ("letter", 4)]) (N := N_row_of) (sc := defScope s_row_of) (by decide +kernel)) (fun _ _ _ _ _ => (pg_tupK K (n := 2) rfl (pgs_cons (pg_name (i := 3) sc_row_of.nd rfl (Or.inl rfl) (by first | exact .inl rfl | exact .inr rfl)) (pgs_cons (pg_name (i := 4) sc_row_of.nd rfl (Or.inl rfl) (by first | exact .inl rfl | exact .inr rfl)) pgs_nil)))) (fun _ _ _ _ _ => (pts_one (pt_cmpR op_inSigK (pv 4) pe_str (by rfl)))) (fun _ _ _ _ _ => (pe_op op_shl pe_int (pv 3)))) pa_nil)))
      (pss_cons (ps_set (i := 2) sc_row_of.nd rfl (Or.inl rfl) (pe_callB (cr_sumK K rfl) (by rfl) T.m_sum (by decide +kernel) (pa_cons (pe_lc (own := [("k", 3), ("letter", 4)]) rfl sc_row_of.nd (pi_enumS (by rfl) T.m_enumerate (pa_cons (pe_fldK K (pv 0)) pa_nil)) (blkOk_by (own := [("k", 3), ("letter", 4)]) (N := N_row_of) (sc := defScope s_row_of) (by decide +kernel)) (fun _ _ _ _ _ => (pg_tupK K (n := 2) rfl (pgs_cons (pg_name (i := 3) sc_row_of.nd rfl (Or.inl rfl) (by first | exact .inl rfl | exact .inr rfl)) (pgs_cons (pg_name (i := 4) sc_row_of.nd rfl (Or.inl rfl) (by first | exact .inl rfl | exact .inr rfl)) pgs_nil)))) (fun _ _ _ _ _ => (pts_one (pt_cmpR op_inSigK (pv 4) pe_str (by rfl)))) (fun _ _ _ _ _ => (pe_op op_shl pe_int (pv 3)))) pa_nil)))
      (pss_one (ps_ret (pe_tup (pa_cons (pv 1) (pa_cons (pv 2) (pa_cons (pe_op op_shr (pe_fldK K (pv 0)) pe_int) pa_nil)))))))), ?_⟩
  have b1 : ∀ i, i < n → decide (lc (r.x >>> i &&& 1) (r.z >>> i &&& 1) ∈ (PySem.Str.ofString "XY").cps.toList) = (r.x >>> i &&& 1 != 0) := fun i _ => lc_XY (bit_le _ _) (bit_le _ _)
  have b2 : ∀ i, i < n → decide (lc (r.x >>> i &&& 1) (r.z >>> i &&& 1) ∈ (PySem.Str.ofString "ZY").cps.toList) = (r.z >>> i &&& 1 != 0) := fun i _ => lc_ZY (bit_le _ _) (bit_le _ _)
  refine q_asg (v := nv r.x) (cells_of T r.x hn (ev_var rfl) hp b1 (fun _ _ => rfl) (fun _ _ => rfl) (fun _ _ => rfl) hr1.x) fun H1 e1 => ?_
  refine q_asg (v := nv r.z) (cells_of T r.z hn (ev_var rfl) (hp.ex e1) b2 (fun _ _ => rfl) (fun _ _ => rfl) (fun _ _ => rfl) hr1.z) fun H2 e2 => ?_
  refine s_retP (evp_row (a := r.x) (b := r.z) (c := r.s) (ea_cons (ev_var rfl) (ea_cons (ev_var rfl) (ea_cons ?_ ea_nil)))) fun v H3 e3 hv => k v H3 ((e1.trans e2).trans e3) hv
  have e : (2 * r.s) >>> 1 = r.s := by rw [Nat.shiftRight_eq_div_pow]; omega
  rw [← e]
  exact ev_op (ev_pauPha T (ev_var rfl) (hp.ex (e1.trans e2))) (ev_n (n := 1) rfl) rv_shrN
theorem evp_row_of {σ : L2.St} {H : Hp} {te : TE} {v1 : V} {n : Nat} {r : Row} {E : XK} (h : Ev te σ H v1) (hn : n ≤ 1000) (hr : Rw n r) (q : IsPau K H v1 (letN r n, 2 * r.s)) :
    EvP (tCall (sp_row_of K) [] E (tCons te tNil)) σ H (fun v H' => IsRow H' v r) :=
  evp_call (ea_cons h ea_nil) fun H1 e Q kk => ⟨v1, n, r, rfl, hn, hr, q.ex e, fun v H' e' q => kk v H' e' q⟩
end
end Kp
end
section
set_option maxHeartbeats 4000000
/-! data compared: ints, texts, lists, tuples -/
namespace Kp
open PySem PySem.Spec PyProof.Rows L2 Evl
theorem hu_ {k : Nat} {A : Around} (r : Room k A) : A.units + 1 < cLine := by have := r.units; omega
section
variable {K : PySem.W.Frag} {H H' : Hp}
abbrev dInt (n : Nat) : PyData := .int (n : Int)
theorem dp_ints (ns : List Nat) : DpAll K H (ns.map fun n : Nat => V.int (n : Int)) (ns.map dInt) := by
  induction ns with
  | nil => exact .nil
  | cons a r ih => exact .cons (.int _) ih
theorem lay_ints (ns : List Nat) : PyData.canLayAll0 (ns.map dInt) = true := by
  induction ns with
  | nil => simp only [List.map_nil, PyData.canLayAll0]
  | cons a r ih => simp only [List.map_cons, PyData.canLayAll0, PyData.canLay0, ih, Bool.and_self]
theorem depth_ints (ns : List Nat) : PyData.depthAll (ns.map dInt) ≤ 1 := by
  induction ns with
  | nil => simp only [List.map_nil, PyData.depthAll]; omega
  | cons a r ih => simp only [List.map_cons, PyData.depthAll, PyData.depth]; omega
theorem shaped_lst (ns : List Nat) : SeqAt.shaped (.list (ns.map dInt)) = true := by
  unfold SeqAt.shaped
  have := depth_ints ns
  rw [Bool.and_eq_true, decide_eq_true_eq]
  exact ⟨by simp only [PyData.canLay0, lay_ints], by simp only [PyData.depth]; omega⟩
theorem shaped_tup (ns : List Nat) : SeqAt.shaped (.tuple (ns.map dInt)) = true := by
  unfold SeqAt.shaped
  have := depth_ints ns
  rw [Bool.and_eq_true, decide_eq_true_eq]
  exact ⟨by simp only [PyData.canLay0, lay_ints], by simp only [PyData.depth]; omega⟩
theorem eqv_ints (ns ms : List Nat) : PyData.eqvAll (ns.map dInt) (ms.map dInt) = decide (ns = ms) := by
  induction ns generalizing ms with
  | nil => cases ms with
    | nil => simp [PyData.eqvAll]
    | cons b r => simp [PyData.eqvAll]
  | cons a r ih => cases ms with
    | nil => simp [PyData.eqvAll]
    | cons b r' =>
      simp only [List.map_cons, PyData.eqvAll, PyData.eqv, ih]
      by_cases h : a = b
      · subst h; by_cases h2 : r = r' <;> simp [h2]
      · have : ((a : Int) == (b : Int)) = false := by rw [beq_eq_false_iff_ne]; omega
        simp [h, this]
/-- a == b of two lists | tuples of ints -/
theorem rv_eqLs {p q : Addr} {ns ms : List Nat} (h1 : SqL K H p (ns.map fun n : Nat => V.int (n : Int))) (h2 : SqL K H q (ms.map fun n : Nat => V.int (n : Int))) : RV (rEqD K) (.ref p) (.ref q) H (.bl (decide (ns = ms))) :=
  rv_val fun H1 e Q k => ⟨_, _, .lst (ex_l e h1) (dp_ints ns), .lst (ex_l e h2) (dp_ints ms), shaped_lst ns, shaped_lst ms, by rw [show PyData.eqv (.list (ns.map dInt)) (.list (ms.map dInt)) = PyData.eqvAll (ns.map dInt) (ms.map dInt) by simp only [PyData.eqv], eqv_ints]; exact k⟩
theorem rv_neLs {p q : Addr} {ns ms : List Nat} (h1 : SqL K H p (ns.map fun n : Nat => V.int (n : Int))) (h2 : SqL K H q (ms.map fun n : Nat => V.int (n : Int))) : RV (rNeD K) (.ref p) (.ref q) H (.bl (!decide (ns = ms))) :=
  rv_val fun H1 e Q k => ⟨_, _, .lst (ex_l e h1) (dp_ints ns), .lst (ex_l e h2) (dp_ints ms), shaped_lst ns, shaped_lst ms, by rw [show PyData.eqv (.list (ns.map dInt)) (.list (ms.map dInt)) = PyData.eqvAll (ns.map dInt) (ms.map dInt) by simp only [PyData.eqv], eqv_ints]; exact k⟩
theorem rv_eqTs {p q : Addr} {ns ms : List Nat} (h1 : SqT K H p (ns.map fun n : Nat => V.int (n : Int))) (h2 : SqT K H q (ms.map fun n : Nat => V.int (n : Int))) : RV (rEqD K) (.ref p) (.ref q) H (.bl (decide (ns = ms))) :=
  rv_val fun H1 e Q k => ⟨_, _, .tup (ex_t e h1) (dp_ints ns), .tup (ex_t e h2) (dp_ints ms), shaped_tup ns, shaped_tup ms, by rw [show PyData.eqv (.tuple (ns.map dInt)) (.tuple (ms.map dInt)) = PyData.eqvAll (ns.map dInt) (ms.map dInt) by simp only [PyData.eqv], eqv_ints]; exact k⟩
theorem rv_neTs {p q : Addr} {ns ms : List Nat} (h1 : SqT K H p (ns.map fun n : Nat => V.int (n : Int))) (h2 : SqT K H q (ms.map fun n : Nat => V.int (n : Int))) : RV (rNeD K) (.ref p) (.ref q) H (.bl (!decide (ns = ms))) :=
  rv_val fun H1 e Q k => ⟨_, _, .tup (ex_t e h1) (dp_ints ns), .tup (ex_t e h2) (dp_ints ms), shaped_tup ns, shaped_tup ms, by rw [show PyData.eqv (.tuple (ns.map dInt)) (.tuple (ms.map dInt)) = PyData.eqvAll (ns.map dInt) (ms.map dInt) by simp only [PyData.eqv], eqv_ints]; exact k⟩
end
section
variable {K : PySem.W.Frag} {σ : L2.St} {H H' : Hp} {ta tb te tx : TE} {t u : TT} {x y z v : V} {D : Ends} {tz : TS}
/-- two made objects, compared -/
theorem ev_neLL {ns ms : List Nat} {p : Addr} (ha : Ev ta σ H (.ref p)) (h1 : SqL K H p (ns.map fun n : Nat => V.int (n : Int))) (hb : EvL tb σ H (ms.map fun n : Nat => V.int (n : Int))) : Ev (tOp (rNeD K) ta tb) σ H (.bl (!decide (ns = ms))) := fun H1 e Q k => by
  refine ha H1 e _ fun H2 e2 => hb H2 (e.trans e2) _ fun q H3 nq e3 hq => ?_
  exact rv_neLs (H := H3) (ex_l ((e.trans e2).trans e3) h1) (sq_of hq) H3 (Ex.refl _) _ fun H4 e4 => k H4 ((e2.trans e3).trans e4)
theorem ev_eqLL {ns ms : List Nat} {p : Addr} (ha : Ev ta σ H (.ref p)) (h1 : SqL K H p (ns.map fun n : Nat => V.int (n : Int))) (hb : EvL tb σ H (ms.map fun n : Nat => V.int (n : Int))) : Ev (tOp (rEqD K) ta tb) σ H (.bl (decide (ns = ms))) := fun H1 e Q k => by
  refine ha H1 e _ fun H2 e2 => hb H2 (e.trans e2) _ fun q H3 nq e3 hq => ?_
  exact rv_eqLs (H := H3) (ex_l ((e.trans e2).trans e3) h1) (sq_of hq) H3 (Ex.refl _) _ fun H4 e4 => k H4 ((e2.trans e3).trans e4)
end
end Kp
end
section
set_option maxHeartbeats 4000000
namespace Kp
open PySem PySem.Spec PyProof.Rows L2 Evl
local macro_rules | `(tactic| walk_at "ht") => `(tactic| first | assumption | solve_by_elim (config := { maxDepth := 12 }))
local macro_rules | `(tactic| walk_at "ev") => `(tactic| repeat' (first
  | exact ea_nil
  | exact ev_var rfl
  | exact ev_n (n := 0) rfl | exact ev_n (n := 1) rfl | exact ev_n (n := 2) rfl
  | exact rv_andN | exact rv_xorN | exact rv_orN | exact rv_addN | exact rv_shrN | (exact rv_mulN (by decide)) | exact rv_eqN | exact rv_neN | exact rv_ltN
  | (refine' rv_ixT (st_of (by walk_at "ht")) (by rfl))
  | walk_at "evx"
  | refine' ev_op ?_ ?_ ?_
  | refine' ea_cons ?_ ?_))
section
variable {K : PySem.W.Frag} {σ : L2.St} {H H' A : Hp} {ta tb tc td te te' tx : TE} {t u : TT} {x y z v : V} {D : Ends} {tz : TS} {l : Addr} {xs : List V}
theorem ExB.refl : ExB l H H := fun _ _ _ h => h
theorem ExB.trans {H1 H2 : Hp} (a : ExB l H H1) (b : ExB l H1 H2) : ExB l H H2 := fun q o n h => b q o n (a q o n h)
theorem ExB.of (e : Ex H H') : ExB l H H' := fun q o _ h => e q o h
theorem ExB.upd {o : HO} : ExB l H (upd H l o) := fun q u n h => by rw [upd_ne n]; exact h
theorem ExB.ex (a : Ex A H) (n : A l = none) (b : ExB l H H') : Ex A H' := fun q o h => b q o (by rintro rfl; rw [n] at h; cases h) (a q o h)
theorem ExB.kx (h : H l = some (.lst xs)) (b : ExB l H H') : Kx H H' := ⟨fun q ys h1 => b q _ (by rintro rfl; rw [h] at h1; cases h1) h1, fun q C d fs h1 => b q _ (by rintro rfl; rw [h] at h1; cases h1) h1⟩
theorem ExB.kxd {es : List (Key × V)} (h : H l = some (.dK es)) (b : ExB l H H') : Kx H H' := ⟨fun q ys h1 => b q _ (by rintro rfl; rw [h] at h1; cases h1) h1, fun q C d fs h1 => b q _ (by rintro rfl; rw [h] at h1; cases h1) h1⟩
/-- l[i] = e, told -/
theorem s_setP {j : Nat} {P : V → Hp → Prop} (hl : H l = some (.lst xs)) (h : EvP te σ H P) (ho : Ev ta σ H (.ref l)) (hi : Ev tb σ H (.int (j : Int))) (hj : j < xs.length) (k : ∀ v H1 Hf, Ex H H1 → P v H1 → ExB l H1 Hf → Hf l = some (.lst (xs.set j v)) → D.nx σ Hf) :
    tAsg te (gSub ta tb rSetL) D σ H := h H (Ex.refl H) _ fun v H1 e1 p => ho H1 e1 _ fun H2 e2 => hi H2 (e1.trans e2) _ fun H3 e3 =>
  ⟨l, xs, (j : Int), j, rfl, rfl, ((e1.trans e2).trans e3) l _ hl, ixN_nat hj, k v H1 _ e1 p ((ExB.of (e2.trans e3)).trans ExB.upd) upd_same⟩
/-- l[i], l[j] = a, b -/
theorem q_swap {i j : Nat} {a b : V} (hl : H l = some (.lst xs)) (h : EvA (tCons te (tCons te' tNil)) σ H [a, b]) (hi : i < xs.length) (hj : j < xs.length)
    (ho : Ev ta σ H (.ref l)) (hti : Ev tb σ H (.int (i : Int))) (ho2 : ∀ H1, ExB l H H1 → Ev tc σ H1 (.ref l)) (htj : ∀ H1, ExB l H H1 → Ev td σ H1 (.int (j : Int)))
    (k : ∀ Hf, ExB l H Hf → Hf l = some (.lst ((xs.set i a).set j b)) → tz D σ Hf) :
    tSeq (tAsg (tTup (tCons te (tCons te' tNil))) (gTup K 2 (gCons (gSub ta tb rSetL) (gCons (gSub tc td rSetL) gNil)))) tz D σ H := by
  unfold tSeq tAsg
  refine eu_tup h (by show 2 ≤ 100000; decide) H (Ex.refl _) _ fun p H1 np e1 hp => ?_
  refine ⟨p, [a, b], rfl, st_of hp, rfl, a, [b], rfl, ?_⟩
  refine ho H1 e1 _ fun H2 e2 => hti H2 (e1.trans e2) _ fun H3 e3 => ?_
  have x3 := (e1.trans e2).trans e3
  have hl3 := x3 _ _ hl
  refine ⟨l, xs, (i : Int), i, rfl, rfl, hl3, ixN_nat hi, b, [], rfl, ?_⟩
  have kx : ExB l H (upd H3 l (.lst (xs.set i a))) := (ExB.of x3).trans ExB.upd
  refine ho2 _ kx _ (Ex.refl _) _ fun H4 e4 => htj _ kx H4 e4 _ fun H5 e5 => ?_
  refine ⟨l, xs.set i a, (j : Int), j, rfl, rfl, e5 _ _ (e4 _ _ upd_same), ixN_nat (by rw [List.length_set]; exact hj), rfl, ?_⟩
  exact k _ ((kx.trans (.of (e4.trans e5))).trans ExB.upd) upd_same
/-- x, y = e, e' -/
theorem q_two {i j : Nat} {P P' : V → Hp → Prop} (h : EvP te σ H P) (h' : ∀ H1, Ex H H1 → EvP te' σ H1 P') (k : ∀ v w H1 H2 H3, Ex H H1 → P v H1 → Ex H1 H2 → P' w H2 → Ex H2 H3 → tz D ((σ.set i (some v)).set j (some w)) H3) :
    tSeq (tAsg (tTup (tCons te (tCons te' tNil))) (gTup K 2 (gCons (gName i) (gCons (gName j) gNil)))) tz D σ H := by
  unfold tSeq tAsg tTup
  refine h H (Ex.refl _) _ fun v H1 e1 p => h' H1 e1 H1 (Ex.refl _) _ fun w H2 e2 p' => ?_
  refine ⟨sz_of (by show 2 ≤ 100000; decide), fun q nq => ?_⟩
  refine ⟨q, [v, w], rfl, st_of upd_same, rfl, v, [w], rfl, w, [], rfl, rfl, ?_⟩
  exact k v w H1 H2 _ e1 p e2 p' (Ex.new nq)
theorem s_two {i j : Nat} {P P' : V → Hp → Prop} (h : EvP te σ H P) (h' : ∀ H1, Ex H H1 → EvP te' σ H1 P') (k : ∀ v w H1 H2 H3, Ex H H1 → P v H1 → Ex H1 H2 → P' w H2 → Ex H2 H3 → D.nx ((σ.set i (some v)).set j (some w)) H3) :
    tAsg (tTup (tCons te (tCons te' tNil))) (gTup K 2 (gCons (gName i) (gCons (gName j) gNil))) D σ H := q_two (tz := fun D σ H => D.nx σ H) h h' k
/-- list(e) -/
theorem evp_listOf {a : Addr} (h : Ev te σ H (.ref a)) (hx : SqL K H a xs ∨ SqT K H a xs) : EvP (tCB (rListOf K) (tCons te tNil)) σ H (fun v H' => ∃ p, v = .ref p ∧ H p = none ∧ H' p = some (.lst xs)) := fun H1 e Q k => by
  refine h H1 e _ fun H2 e2 => ⟨a, xs, rfl, hx.imp (ex_l (e.trans e2)) (ex_t (e.trans e2)), fun q nq => ?_⟩
  exact k _ _ (e2.trans (Ex.new nq)) ⟨q, rfl, fresh_back (e.trans e2) nq, upd_same⟩
theorem cutV_to (xs : List V) (n : Nat) : cutV xs none (some (n : Int)) = xs.take n := by
  unfold cutV
  rw [HT.sIx_none, HT.sIx_nat, List.drop_zero, Nat.sub_zero]
  by_cases h : n ≤ xs.length
  · rw [Nat.min_eq_left h]
  · rw [Nat.min_eq_right (by omega), List.take_length, List.take_of_length_le (by omega)]
theorem cutV_from (xs : List V) (n : Nat) : cutV xs (some (n : Int)) none = xs.drop n := by
  unfold cutV
  rw [HT.sIx_none, HT.sIx_nat]
  by_cases h : n ≤ xs.length
  · rw [Nat.min_eq_left h, List.take_of_length_le (by rw [List.length_drop]; exact Nat.le_refl _)]
  · rw [Nat.min_eq_right (by omega), List.drop_length, List.drop_of_length_le (by omega)]; simp
theorem getD_of {α : Type} {l : List α} {i : Nat} {d a : α} (h : l[i]? = some a) : l.getD i d = a := by rw [List.getD_eq_getElem?_getD, h]; rfl
end
section
variable {P : Program} {w : World} {K : PySem.W.Frag} {mg : Str → Option Value} {base : Heap}
/-! ### reduced_rows -/
/-- a list of rows -/
def IsRs (H : Hp) (v : V) (l : List Row) : Prop := ∃ p xs, v = .ref p ∧ H p = some (.lst xs) ∧ Rows H xs l
theorem IsRs.ex {H H' : Hp} {v : V} {l : List Row} (e : Ex H H') (h : IsRs H v l) : IsRs H' v l := by
  obtain ⟨p, xs, rfl, h, r⟩ := h
  exact ⟨p, xs, rfl, e _ _ h, r.ex e⟩
theorem rows_getD {H : Hp} {xs : List V} {l : List Row} {i : Nat} (r : Rows H xs l) (h : i < l.length) : ∃ v, xs[i]? = some v ∧ IsRow H v (l.getD i rw0) := by
  obtain ⟨v, h1, h2⟩ := paired_at2 r (i := i) (y := l[i]) (List.getElem?_eq_getElem h)
  exact ⟨v, h1, by rw [getD_of (List.getElem?_eq_getElem h)]; exact h2⟩
def sp_reduced_rows : L2.Sp := fun vs H Q _ => ∃ (v1 : V) (l : List Row) (n : Nat), vs = [v1, nv n] ∧ IsRs H v1 l ∧ l.length ≤ 1000 ∧ n ≤ 1000 ∧ ∀ v H', Ex H H' → IsRs H' v (redRows l n) → Q v H'
abbrev N_reduced_rows : List Str := ["rows", "size", "left", "place", "column", "found", "head", "k"]
theorem sc_reduced_rows : FnScope N_reduced_rows ["rows", "size"] (defScope s_reduced_rows) := ⟨rfl, rfl, rfl, by decide +kernel, rfl, by decide +kernel, by decide +kernel⟩
theorem o_reduced_rows (T : Tx K mg) : OkF P w K mg base CX0 3 "reduced_rows" ["rows", "size"] sp_reduced_rows := by
  have o_column_of : OkF P w K mg base CX0 1 "column_of" ["row", "size", "column"] sp_column_of := o_column_of T
  have o_row_product : OkF P w K mg base CX0 2 "row_product" ["one", "two"] sp_row_product := o_row_product T
  refine okf T d_reduced_rows "reduced_rows" 24 17 rfl rfl rfl sc_reduced_rows (fun vs H Q E h => ?_) (fun _ _ _ _ _ _ us hl => match us, hl with | [_, _], _ => rfl) (fun f cdv A outer s H vs Q E hr h => ?_)
  · (obtain ⟨_, _, _, rfl, _⟩ := h; rfl)
  obtain ⟨v1, l, n, rfl, ⟨a, xs0, rfl, ha, hr0⟩, hlen, hn, k⟩ := h
  refine ⟨_, (pss_cons (ps_asg (pe_tup (pa_cons (pe_callTy (call_list_ofK K) (by rfl) T.m_list (by decide +kernel) (pa_cons (pv 0) pa_nil)) (pa_cons pe_int pa_nil))) (pg_tup rfl (pgs_cons (pg_name (i := 2) sc_reduced_rows.nd rfl (Or.inr rfl)) (pgs_cons (pg_name (i := 3) sc_reduced_rows.nd rfl (Or.inl rfl)) pgs_nil))))
      (pss_cons (ps_for PassesOwn.never rfl (pi_range1 (by rfl) T.m_range (pa_cons (pe_op op_mul pe_int (pv 1)) pa_nil)) (pg_name (i := 4) sc_reduced_rows.nd rfl (Or.inr rfl))
        (pss_cons (ps_setLc (i := 5) (own := [("k", 7)]) rfl sc_reduced_rows.nd rfl rfl (sw_true rfl rfl rfl (by decide +kernel)) (pi_range2 (by rfl) T.m_range (pa_cons (pv 3) (pa_cons (pe_callB (call_lenK K) (by rfl) T.m_len PySem.boot_len (pa_cons (pv 2) pa_nil)) pa_nil))) (blkOk_by (own := [("k", 7)]) (N := N_reduced_rows) (sc := defScope s_reduced_rows) (by decide +kernel)) (fun _ _ _ _ _ => (pg_name (i := 7) sc_reduced_rows.nd rfl (Or.inl rfl))) (fun _ _ _ _ _ => (pts_one (pt_truthK K (pe_cl o_column_of (hr.mono (by decide)) (by rfl) pass0 (pa_cons (pe_ix (ix_listK K) (pv 2) (pv 7) (fun _ _ => rfl)) (pa_cons (pv 1) (pa_cons (pv 4) pa_nil))))))) (fun _ _ _ _ _ => (pv 7)))
        (pss_one (ps_if (pt_cmpR (op_neDK K hr.units) (pv 5) (pe_lst pa_nil) (nomark _)) (pss_cons (ps_asg (pe_tup (pa_cons (pe_ix (ix_listK K) (pv 2) (pe_ix (ix_listK K) (pv 5) pe_int (fun _ _ => rfl)) (fun _ _ => rfl)) (pa_cons (pe_ix (ix_listK K) (pv 2) (pv 3) (fun _ _ => rfl)) pa_nil))) (pg_tup rfl (pgs_cons (pg_sub (pv 2) (pv 3) set_list) (pgs_cons (pg_sub (pv 2) (pe_ix (ix_listK K) (pv 5) pe_int (fun _ _ => rfl)) set_list) pgs_nil))))
          (pss_cons (ps_set (i := 6) sc_reduced_rows.nd rfl (Or.inl rfl) (pe_ix (ix_listK K) (pv 2) (pv 3) (fun _ _ => rfl)))
          (pss_cons (ps_for PassesOwn.never rfl (pi_range1 (by rfl) T.m_range (pa_cons (pe_callB (call_lenK K) (by rfl) T.m_len PySem.boot_len (pa_cons (pv 2) pa_nil)) pa_nil)) (pg_name (i := 7) sc_reduced_rows.nd rfl (Or.inl rfl))
            (pss_one (ps_if (PW.pt (pw_and (pt_cmpR op_ne (pv 7) (pv 3) (nomark _)) (pw_and1 (pt_truthK K (pe_cl o_column_of (hr.mono (by decide)) (by rfl) pass0 (pa_cons (pe_ix (ix_listK K) (pv 2) (pv 7) (fun _ _ => rfl)) (pa_cons (pv 1) (pa_cons (pv 4) pa_nil)))))))) (pss_one (ps_asg (pe_cl o_row_product (hr.mono (by decide)) (by rfl) pass0 (pa_cons (pe_ix (ix_listK K) (pv 2) (pv 7) (fun _ _ => rfl)) (pa_cons (pv 6) pa_nil))) (pg_sub (pv 2) (pv 7) set_list))) pss_nil)))
          (pss_one (ps_aug (i := 3) sc_reduced_rows.nd rfl (Or.inl rfl) pe_int ip_add))))) pss_nil))))
      (pss_one (ps_ret (pe_slice (sl_listK K) (pv 2) po_none (po_some (pv 3))))))), ?_⟩
  refine q_two (evp_listOf (ev_var rfl) (.inl (sq_of ha))) (fun H1 e1 => Ev.p (ev_n (n := 0) rfl)) fun v w H1 H2 H3 e1 ⟨L, ev, nL, hL⟩ e2 ew e3 => ?_
  subst ev ew
  have x3 := (e1.trans e2).trans e3
  refine q_forR1 (n := ((2 * n : Nat) : Int)) (ea_cons (ev_op (ev_n (n := 2) rfl) (ev_var rfl) (rv_mulN (by decide))) ea_nil) ⟨by omega, by omega⟩
    (fun i σ' H' => ∃ xs y4 y5 y6 y7, σ' = [some (.ref a), some (nv n), some (.ref L), some (nv (redSt l n i).2), y4, y5, y6, y7] ∧ Ex H H' ∧ H' L = some (.lst xs) ∧ Rows H' xs (redSt l n i).1)
    (fun H4 e4 => ⟨xs0, _, _, _, _, rfl, x3.trans e4, e4 _ _ (e3 _ _ (e2 _ _ hL)), hr0.ex (x3.trans e4)⟩) ?_ ?_
  · rintro c σ' H' hc ⟨xs, y4, y5, y6, y7, rfl, ex, hL', hr'⟩
    rw [redSt_succ]
    have hll := redSt_len l n c
    have hle := redSt_le l n c
    unfold colStep
    generalize redSt l n c = st at *
    obtain ⟨l1, p⟩ := st
    dsimp only at *
    have hxl := paired_len hr'
    -- found
    refine q_asgP (P := fun v H' => ∃ fo, v = .ref fo ∧ H' fo = some (.lst ((fnd l1 p n c).map nv))) ((evp_lc (wk_rng2 (lo := p) (n := l1.length) (ea_cons (ev_var rfl) (ea_cons (by rw [← hxl]; exact ev_lenL (ev_var rfl) (sq_of hL')) ea_nil)) (by omega) (by omega)) (fun i => col (l1.getD (p + i) rw0) n c != 0) (fun i v _ => v = nv (p + i)) (by omega) (fun _ _ _ _ _ q => q) ?_).imp ?_) fun v H4 e4 ⟨fo, ev, hfo⟩ => ?_
    · rintro i x Hb hi eb rfl Q' kk
      obtain ⟨v, hv, hr⟩ := rows_getD hr' (i := p + i) (by omega)
      exact tg_name (i := p + i) rfl (et_truN (ev_column_of (ev_op (ev_var rfl) (ev_var rfl) (rv_ixL (sq_of (eb _ _ hL')) (atI_nat hv))) (ev_var rfl) (ev_var rfl) (hr.ex eb))) (fun _ => Ev.p (ev_var rfl)) kk
    · rintro v H4 e4 ⟨q, ys, rfl, h1, h2⟩
      refine ⟨q, rfl, ?_⟩
      rw [h1, paired_eq h2 (g := fun i => nv (p + i)) fun i x q => q]
      unfold fnd
      rw [List.map_map]; rfl
    subst ev
    have hL4 := e4 _ _ hL'
    have hr4 := hr'.ex e4
    refine s_when (b := !decide (fnd l1 p n c = [])) (et_test (ev_neLL (ms := []) (ev_var rfl) (sq_of hfo) el_nil)) (fun hne H5 e5 => ?_) fun hne H5 e5 => ?_
    · cases hf : fnd l1 p n c with
      | nil => rw [hf] at hne; cases hne
      | cons f fr =>
        dsimp only
        obtain ⟨f1, f2, f3⟩ := fnd_mem (l := l1) (p := p) (n := n) (c := c) (f := f) (by rw [hf]; exact List.mem_cons_self)
        have hL5 := e5 _ _ hL4
        have hr5 := hr4.ex e5
        have hfo5 := e5 _ _ hfo
        rw [hf] at hfo5
        have hfl : fo ≠ L := by
          rintro rfl
          rw [hL4, hf] at hfo
          have ex0 : xs = (f :: fr).map nv := by injection hfo with z; injection z
          obtain ⟨y, hy, ⟨_, hz, _⟩⟩ := paired_at hr4 (i := 0) (x := nv f) (by rw [ex0]; rfl)
          cases hz
        obtain ⟨vf, hvf, rf⟩ := rows_getD hr5 (i := f) f2
        obtain ⟨vp, hvp, rp⟩ := rows_getD hr5 (i := p) (by omega)
        have ef : ∀ H6, ExB L H5 H6 → Ev (tOp (rIxL K) (tVar 5) (tC (.int 0))) [some (.ref a), some (nv n), some (.ref L), some (nv p), some (nv c), some (.ref fo), y6, y7] H6 (nv f) := fun H6 e6 => ev_op (ev_var rfl) (ev_n (n := 0) rfl) (rv_ixL (sq_of (e6 _ _ hfl hfo5)) (atI_nat rfl))
        refine q_swap (a := vf) (b := vp) (i := p) (j := f) hL5 (ea_cons (ev_op (ev_var rfl) (ef H5 ExB.refl) (rv_ixL (sq_of hL5) (atI_nat hvf))) (ea_cons (ev_op (ev_var rfl) (ev_var rfl) (rv_ixL (sq_of hL5) (atI_nat hvp))) ea_nil)) (by omega) (by omega) (ev_var rfl) (ev_var rfl) (fun _ _ => ev_var rfl) (fun H6 e6 => ef H6 e6) fun H6 b6 hL6 => ?_
        have k6 := b6.kx hL5
        have hr6 : Rows H6 ((xs.set p vf).set f vp) (swp l1 p f) := paired_set (rp.kx k6) f (paired_set (rf.kx k6) p (hr5.kx k6))
        have hsl := swp_len l1 p f
        have x6 : Ex H H6 := b6.ex ((ex.trans e4).trans e5) nL
        generalize swp l1 p f = l2 at *
        generalize (xs.set p vf).set f vp = xs2 at *
        obtain ⟨vh, hvh, rh⟩ := rows_getD hr6 (i := p) (by omega)
        refine q_asg (v := vh) (ev_op (ev_var rfl) (ev_var rfl) (rv_ixL (sq_of hL6) (atI_nat hvh))) fun H7 e7 => ?_
        have hxl2 := paired_len hr6
        refine q_forR1 (n := ((l2.length : Nat) : Int)) (ea_cons (by rw [← hxl2]; exact ev_lenL (ev_var rfl) (sq_of (e7 _ _ hL6))) ea_nil) ⟨by omega, by omega⟩
          (fun j σ' H' => ∃ xs y7, σ' = [some (.ref a), some (nv n), some (.ref L), some (nv p), some (nv c), some (.ref fo), some vh, y7] ∧ Ex H H' ∧ H' L = some (.lst xs) ∧ Rows H' xs (clrTo l2 p n c (l2.getD p rw0) j) ∧ IsRow H' vh (l2.getD p rw0))
          (fun H8 e8 => ⟨xs2, _, rfl, (x6.trans e7).trans e8, e8 _ _ (e7 _ _ hL6), by rw [clrTo_zero]; exact hr6.ex (e7.trans e8), rh.ex (e7.trans e8)⟩) ?_ ?_
        · rintro j σ' H8 hj ⟨xs3, y7, rfl, x8, hL8, hr8, rh8⟩
          have hj' : j < l2.length := by omega
          have hcl := clrTo_len l2 p n c (l2.getD p rw0) j
          have hx3 := paired_len hr8
          have ej := List.getElem?_eq_getElem hj'
          obtain ⟨vj, hvj, rj⟩ := paired_at2 hr8 (clrTo_at ej)
          have ev7 : Ev (tOp (rIxL K) (tVar 2) (tVar 7)) [some (.ref a), some (nv n), some (.ref L), some (nv p), some (nv c), some (.ref fo), some vh, some (nv j)] H8 vj := ev_op (ev_var rfl) (ev_var rfl) (rv_ixL (sq_of hL8) (atI_nat hvj))
          have kc : cl1 p n c (l2.getD p rw0) j l2[j] = if (!decide (j = p) && col l2[j] n c != 0) = true then mul l2[j] (l2.getD p rw0) else l2[j] := by
            unfold cl1
            by_cases q1 : j = p <;> by_cases q2 : col l2[j] n c = 0 <;> simp [q1, q2]
          refine s_when (b := (!decide (j = p) && col l2[j] n c != 0)) (et_and (et_test (ev_op (ev_var rfl) (ev_var rfl) rv_neN)) fun _ => et_truN (ev_column_of ev7 (ev_var rfl) (ev_var rfl) rj)) (fun hc H9 e9 => ?_) fun hc H9 e9 => ?_
          · have rj9 := rj.ex e9
            have ev79 : Ev (tOp (rIxL K) (tVar 2) (tVar 7)) [some (.ref a), some (nv n), some (.ref L), some (nv p), some (nv c), some (.ref fo), some vh, some (nv j)] H9 vj := fun H1 e => ev7 H1 (e9.trans e)
            refine s_setP (e9 _ _ hL8) (evp_row_product ev79 (ev_var rfl) rj9 (rh8.ex e9)) (ev_var rfl) (ev_var rfl) (by omega) fun v Ha Hf ea rv b hLf => ?_
            have kf := b.kx (ea _ _ (e9 _ _ hL8))
            refine ⟨_, _, rfl, b.ex ((x8.trans e9).trans ea) nL, hLf, ?_, (rh8.ex (e9.trans ea)).kx kf⟩
            rw [clrTo_succ ej, kc, if_pos hc]
            exact paired_set (rv.kx kf) j ((hr8.ex (e9.trans ea)).kx kf)
          · refine ⟨xs3, _, rfl, x8.trans e9, e9 _ _ hL8, ?_, rh8.ex e9⟩
            rw [clrTo_same ej (by rw [kc, if_neg (by rw [hc]; decide)])]
            exact hr8.ex e9
        · rintro σ' H8 ⟨xs3, y7, rfl, x8, hL8, hr8, rh8⟩
          rw [Int.toNat_natCast, clrTo_all] at hr8
          refine s_aug (b := ((1 : Nat) : Int)) rfl (ev_n (n := 1) rfl) fun H9 e9 => ?_
          exact ⟨xs3, _, _, _, _, rfl, x8.trans e9, e9 _ _ hL8, hr8.ex e9⟩
    · have hf : fnd l1 p n c = [] := by simpa using hne
      rw [hf]
      exact ⟨xs, _, _, _, _, rfl, (ex.trans e4).trans e5, e5 _ _ hL4, hr4.ex e5⟩
  · rintro σ' H' ⟨xs, y4, y5, y6, y7, rfl, ex, hL', hr'⟩
    rw [Int.toNat_natCast] at hr' ⊢
    refine s_retP (EvL.p (el_sl (ev_var rfl) eo_none (eo_some (ev_var rfl)) (sq_of hL'))) fun v H9 e9 ⟨q, ev, hq⟩ => k v H9 (ex.trans e9) ⟨q, _, ev, hq, ?_⟩
    have ec : cutV xs none (some ((redSt l n (2 * n)).2 : Int)) = xs.take (redSt l n (2 * n)).2 := cutV_to xs _
    rw [ec]
    exact paired_take _ (hr'.ex e9)
theorem evp_reduced_rows {σ : L2.St} {H : Hp} {te tf : TE} {l : List Row} {n : Nat} {E : XK} (h : EvP te σ H (fun v H' => IsRs H' v l)) (h' : Ev tf σ H (nv n)) (hl : l.length ≤ 1000) (hn : n ≤ 1000) :
    EvP (tCall sp_reduced_rows [] E (tCons te (tCons tf tNil))) σ H (fun v H' => IsRs H' v (redRows l n)) := fun H1 e Q k => by
  refine h H1 e _ fun v H2 e2 hv => h' H2 (e.trans e2) _ fun H3 e3 => ?_
  exact ⟨v, l, n, rfl, hv.ex e3, hl, hn, fun v' H' e' q => k v' H' ((e2.trans e3).trans e') q⟩
end
end Kp
end
section
set_option maxHeartbeats 4000000
namespace Kp
open PySem PySem.Spec PyProof.Rows L2 Evl
local macro_rules | `(tactic| walk_at "ht") => `(tactic| first | assumption | solve_by_elim (config := { maxDepth := 12 }))
local macro_rules | `(tactic| walk_at "ev") => `(tactic| repeat' (first
  | exact ea_nil
  | exact ev_var rfl
  | exact ev_n (n := 0) rfl | exact ev_n (n := 1) rfl | exact ev_n (n := 2) rfl
  | exact rv_andN | exact rv_xorN | exact rv_orN | exact rv_addN | exact rv_shrN | (exact rv_mulN (by decide)) | exact rv_eqN | exact rv_neN | exact rv_ltN
  | (refine' rv_ixT (st_of (by walk_at "ht")) (by rfl))
  | walk_at "evx"
  | refine' ev_op ?_ ?_ ?_
  | refine' ea_cons ?_ ?_))
section
variable {P : Program} {w : World} {K : PySem.W.Frag} {mg : Str → Option Value} {base : Heap}
/-! ### need_commuting -/
def sp_need_commuting (K : PySem.W.Frag) : L2.Sp := fun vs H Q E => ∃ (v1 : V) (l : List Row), vs = [v1] ∧ IsRs H v1 l ∧ l.length ≤ 1000 ∧ (Commut l → ∀ H', Ex H H' → Q .non H') ∧
  (∀ i j, FirstAnti l i j → ∀ d H', Ex H H' → H' d = some (.xd [("other", nv j), ("one", nv i)]) → E (.ref (He.ga K "Anticommute")) (some d) H')
abbrev N_need_commuting : List Str := ["rows", "j", "row", "i"]
theorem sc_need_commuting : FnScope N_need_commuting ["rows"] (defScope s_need_commuting) := ⟨rfl, rfl, rfl, by decide +kernel, rfl, by decide +kernel, by decide +kernel⟩
theorem o_need_commuting (T : Tx K mg) : OkF P w K mg base (L2.CX P w) 5 "need_commuting" ["rows"] (sp_need_commuting K) := by
  have o_AnticommuteInit := o_AnticommuteInit (P := P) (w := w) (K := K) (mg := mg) (base := base) T
  have o_crossing : OkF P w K mg base CX0 2 "crossing" ["one", "two"] sp_crossing := o_crossing T
  refine okfX T d_need_commuting "need_commuting" 27 20 rfl rfl rfl sc_need_commuting (fun vs H Q E h => ?_) (fun _ _ _ _ _ _ us hl => match us, hl with | [_], _ => rfl) (fun f cdv A outer s H vs Q E hr h => ?_)
  · (obtain ⟨_, _, rfl, _⟩ := h; rfl)
  obtain ⟨v1, l, rfl, ⟨a, xs, rfl, ha, hrs⟩, hlen, k1, k2⟩ := h
  refine ⟨_, (pss_one (ps_for (passes_of rfl) rfl (pi_enum (by rfl) T.m_enumerate (pa_cons (pv 0) pa_nil)) (pg_tup rfl (pgs_cons (pg_name (i := 1) sc_need_commuting.nd rfl (Or.inl rfl)) (pgs_cons (pg_name (i := 2) sc_need_commuting.nd rfl (Or.inl rfl)) pgs_nil)))
        (pss_one (ps_for (passes_of rfl) rfl (pi_range1 (by rfl) T.m_range (pa_cons (pv 1) pa_nil)) (pg_name (i := 3) sc_need_commuting.nd rfl (Or.inl rfl))
          (pss_one (ps_if (pt_truthK K (pe_cl o_crossing (hr.mono (by decide)) (by rfl) pass0 (pa_cons (pe_ix (ix_listK K) (pv 0) (pv 3) (fun _ _ => rfl)) (pa_cons (pv 2) pa_nil)))) (pss_one (ps_raise rfl (takes_of rfl rfl rfl rfl) (pmk_E T (by decide) o_AnticommuteInit (hr.mono (by decide)) (by rfl) (T.glo "Anticommute" (List.mem_of_getElem? (i := 52) rfl)) pass0 (pa_cons (pv 3) (pa_cons (pv 1) pa_nil))))) pss_nil)))))), ?_⟩
  have hxl := paired_len hrs
  refine s_forW (wk_enum (ea_cons (ev_var rfl) ea_nil) (sq_of ha)) (fun Hs j σ' H' => ∃ y1 y2 y3, σ' = [some (.ref a), y1, y2, y3] ∧ Ex Hs H' ∧ ∀ j', j' < j → ∀ i', i' < j' → crs (l.getD i' rw0) (l.getD j' rw0) = 0)
    (fun H1 e1 => ⟨_, _, _, rfl, Ex.refl _, fun j' h => absurd h (by omega)⟩) (fun Hs j σ' H' _ _ p => by obtain ⟨_, _, _, _, p, _⟩ := p; exact p) ?_ ?_
  · rintro Hs j x σ' Ha Hb e0 hj ⟨y1, y2, y3, rfl, ea, hc⟩ eb ⟨Tt, y, rfl, hT, hy⟩
    have hj' : j < l.length := by omega
    have eall := (e0.trans ea).trans eb
    obtain ⟨vj, hvj, rj⟩ := rows_getD hrs hj'
    have ey : y = vj := by rw [hvj] at hy; exact (Option.some.inj hy).symm
    subst ey
    refine ⟨Tt, _, rfl, st_of hT, rfl, _, _, rfl, _, _, rfl, rfl, ?_⟩
    refine s_forW (wk_rng1 (n := j) (ea_cons (ev_var rfl) ea_nil) (by omega)) (fun Hs' i σ' H' => ∃ y3, σ' = [some (.ref a), some (nv j), some y, y3] ∧ Ex Hs' H' ∧ ∀ i', i' < i → crs (l.getD i' rw0) (l.getD j rw0) = 0)
      (fun H1 e1 => ⟨_, rfl, Ex.refl _, fun i' h => absurd h (by omega)⟩) (fun Hs j σ' H' _ _ p => by obtain ⟨_, _, p, _⟩ := p; exact p) ?_ ?_
    · rintro Hs' i x σ' Ha' Hb' e0' hi ⟨y3, rfl, ea', hc'⟩ eb' rfl
      have eall' := ((eall.trans e0').trans ea').trans eb'
      obtain ⟨vi, hvi, ri⟩ := rows_getD hrs (i := i) (by omega)
      have u1 : Ev (tOp (rIxL K) (tVar 0) (tVar 3)) [some (.ref a), some (nv j), some y, some (nv i)] Hb' vi := ev_op (ev_var rfl) (ev_var rfl) (rv_ixL (sq_of (eall' _ _ ha)) (atI_nat hvi))
      have u2 : Ev (tVar 2) [some (.ref a), some (nv j), some y, some (nv i)] Hb' y := ev_var rfl
      unfold gName
      dsimp only
      refine s_when (b := crs (l.getD i rw0) (l.getD j rw0) != 0) (et_truN (ev_crossing u1 u2 (ri.ex eall') (rj.ex eall'))) (fun hne H1 e1 => ?_) fun hne H1 e1 => ?_
      · exact st_raise (ea_cons (ev_var rfl) (ea_cons (ev_var rfl) ea_nil)) rfl (by decide) fun d H' e' hd => k2 i j ⟨hi, hj', by simpa using hne, hc, hc'⟩ d H' ((eall'.trans e1).trans e') hd
      · refine ⟨_, rfl, (ea'.trans eb').trans e1, fun i' hi' => ?_⟩
        by_cases q : i' = i
        · subst q; simpa using hne
        · exact hc' i' (by omega)
    · rintro Hs' σ' H' e0' ⟨y3, rfl, ea', hc'⟩
      refine ⟨_, _, _, rfl, ((ea.trans eb).trans e0').trans ea', fun j' hj' => ?_⟩
      by_cases q : j' = j
      · subst q; exact hc'
      · exact hc j' (by omega)
  · rintro Hs σ' H' e0 ⟨y1, y2, y3, rfl, ea, hc⟩
    rw [hxl] at hc
    exact k1 hc H' (e0.trans ea)
/-! ### independent_rows -/
/-- the dict of heads -/
def IsHd (H : Hp) (e : Key × V) (q : Nat × Row × Nat) : Prop := e.1 = .inl (q.1 : Int) ∧ ∃ t vh, e.2 = .ref t ∧ H t = some (.tup [vh, nv q.2.2]) ∧ IsRow H vh q.2.1
theorem IsHd.kx {H H' : Hp} {e : Key × V} {q : Nat × Row × Nat} (k : Kx H H') (h : IsHd H e q) : IsHd H' e q := by
  obtain ⟨h1, t, vh, h2, h3, h4⟩ := h
  exact ⟨h1, t, vh, h2, k.1 _ _ h3, h4.kx k⟩
theorem hds_look {H : Hp} {es : List (Key × V)} {hs : Hds} (h : Paired (IsHd H) es hs) (c : Nat) : (valV es (.inl (c : Int)) = none ∧ look hs c = none) ∨ ∃ t vh r o, valV es (.inl (c : Int)) = some (.ref t) ∧ look hs c = some (r, o) ∧ H t = some (.tup [vh, nv o]) ∧ IsRow H vh r := by
  induction h with
  | nil => exact .inl ⟨rfl, rfl⟩
  | @cons e q es hs hd tl ih =>
    obtain ⟨h1, t, vh, h2, h3, h4⟩ := hd
    by_cases hq : q.1 = c
    · right
      refine ⟨t, vh, q.2.1, q.2.2, ?_, ?_, h3, h4⟩
      · rw [valV_pos (by rw [h1, hq]), h2]
      · unfold look
        rw [List.find?_cons_of_pos (by exact decide_eq_true hq)]; rfl
    · have e1 : valV (e :: es) (.inl (c : Int)) = valV es (.inl (c : Int)) := valV_neg (by rw [h1]; intro z; injection z with z; omega)
      have e2 : look (q :: hs) c = look hs c := by
        unfold look
        rw [List.find?_cons_of_neg (by simpa using hq)]
      rw [e1, e2]; exact ih
section
variable {σ : L2.St} {H H' : Hp} {ta tb tc td te te' tv ty tx : TE} {t u : TT} {x y z v : V} {D : Ends} {tz : TS} {l : Addr} {xs : List V} {es : List (Key × V)} {d : Addr}
theorem q_parLD {i j : Nat} (k : ∀ p d H', Ex H H' → H p = none → H d = none → p ≠ d → H' p = some (.lst []) → H' d = some (.dK []) → tz D ((σ.set i (some (.ref p))).set j (some (.ref d))) H') : tSeq (tPar i j (tCons (tLst tNil) (tCons tDNewK tNil))) tz D σ H := by
  unfold tSeq tPar
  refine el_nil H (Ex.refl _) _ fun p H1 np e1 hp => ?_
  intro d nd
  have hpd : p ≠ d := by rintro rfl; rw [hp] at nd; cases nd
  refine ⟨.ref p, .ref d, rfl, k p d _ (e1.trans (Ex.new nd)) np (by cases q : H d with | none => rfl | some u => rw [e1 _ _ q] at nd; cases nd) hpd (by rw [upd_ne hpd]; exact hp) upd_same⟩
def inHd (es : List (Key × V)) : Option Nat → Bool
  | none => false
  | some c => (valV es (.inl (c : Int))).isSome
theorem et_dinN {c : Option Nat} (hy : Ev ty σ H (optV c)) (hd : Ev td σ H (.ref d)) (h : H d = some (.dK es)) : EvT (tB (tDInN ty td)) σ H (inHd es c) := fun H1 e Q k => by
  refine hy H1 e _ fun H2 e2 => hd H2 (e.trans e2) _ fun H3 e3 => ?_
  have h3 := ((e.trans e2).trans e3) _ _ h
  cases c with
  | none => exact .inr ⟨d, es, rfl, rfl, .inl h3, _, rfl, k H3 (e2.trans e3)⟩
  | some c => exact .inl ⟨d, _, rfl, DGet.k (k := .inl (c : Int)) h3, _, rfl, k H3 (e2.trans e3)⟩
theorem ev_dgetK {c : Nat} (hd : Ev td σ H (.ref d)) (hy : Ev ty σ H (nv c)) (h : H d = some (.dK es)) (hv : valV es (.inl (c : Int)) = some v) : Ev (tDGet td ty) σ H v := fun H1 e Q k => by
  refine hd H1 e _ fun H2 e2 => hy H2 (e.trans e2) _ fun H3 e3 => ?_
  have g := DGet.k (k := .inl (c : Int)) (((e.trans e2).trans e3) _ _ h)
  rw [hv] at g
  exact ⟨d, v, rfl, g, k H3 (e2.trans e3)⟩
theorem q_unp2 {i j : Nat} {p : Addr} (h : Ev te σ H (.ref p)) (hp : H p = some (.tup [x, y])) (k : ∀ H1, Ex H H1 → tz D ((σ.set i (some x)).set j (some y)) H1) : tSeq (tAsg te (gTup K 2 (gCons (gName i) (gCons (gName j) gNil)))) tz D σ H := by
  unfold tSeq tAsg
  refine h H (Ex.refl _) _ fun H1 e1 => ?_
  exact ⟨p, [x, y], rfl, st_of (e1 _ _ hp), rfl, x, [y], rfl, y, [], rfl, rfl, k H1 e1⟩
theorem q_three {i j m : Nat} {w : V} {tr : TA} (h : EvA tr σ H [v, w, y]) (k : ∀ H1, Ex H H1 → tz D (((σ.set i (some v)).set j (some w)).set m (some y)) H1) : tSeq (tAsg (tTup tr) (gTup K 3 (gCons (gName i) (gCons (gName j) (gCons (gName m) gNil))))) tz D σ H := by
  unfold tSeq tAsg
  refine eu_tup h (by show 3 ≤ 100000; decide) H (Ex.refl _) _ fun p H1 np e1 hp => ?_
  exact ⟨p, [v, w, y], rfl, st_of hp, rfl, v, [w, y], rfl, w, [y], rfl, y, [], rfl, rfl, k H1 e1⟩
theorem q_dputK {P : V → Hp → Prop} {k : Nat} (hv : EvP tv σ H P) (hd : Ev td σ H (.ref d)) (hy : Ev ty σ H (nv k)) (h : H d = some (.dK es)) (hl : es.length < 100000) (kk : ∀ v H1 Hf, Ex H H1 → P v H1 → ExB d H1 Hf → Hf d = some (.dK (putK es (.inl (k : Int)) v)) → tz D σ Hf) :
    tSeq (sDPut td ty tv) tz D σ H := by
  unfold tSeq sDPut
  refine hv H (Ex.refl _) _ fun v H1 e1 p => hd H1 e1 _ fun H2 e2 => hy H2 (e1.trans e2) _ fun H3 e3 => ?_
  exact ⟨d, _, rfl, DPut.k (k := .inl (k : Int)) (((e1.trans e2).trans e3) _ _ h) (sz_lt hl), kk v H1 _ e1 p ((ExB.of (e2.trans e3)).trans ExB.upd) upd_same⟩
theorem el_rngF {ta : TA} {j : Nat} {vs : List Nat} {n : Nat} (f : Nat → Bool) (v : Nat → V) (h : EvA ta σ H [.int (n : Int)]) (hn : n ≤ 40000) (hw : ∀ x, wipe ((wipe σ vs).set j (some x)) vs = wipe σ vs)
    (ht : ∀ (i : Nat) H1, Ex H H1 → i < n → EvT t ((wipe σ vs).set j (some (.int (i : Int)))) H1 (f i)) (he : ∀ (i : Nat) H1, Ex H H1 → i < n → Ev te ((wipe σ vs).set j (some (.int (i : Int)))) H1 (v i)) :
    EvL (tLc (iRng1 ta) (gName j) t te vs) σ H (((List.range n).filter f).map v) := by
  have q := el_lcR1 (te := te) (t := t) f v h ⟨by omega, by omega⟩ hw (fun i H1 e hi => ht i H1 e (by omega)) (fun i H1 e hi _ => he i H1 e (by omega))
  rw [Int.toNat_natCast] at q
  exact q
theorem rv_notN1 : RV (fun x y H Q => y = .non ∧ Q (.bl (!decide (x = .non))) H) x .non H (.bl (!decide (x = .non))) := rv_val fun H1 e Q k => ⟨rfl, k⟩
end
/-- how far the first column is from the end -/
def msr (r : Row) (n : Nat) : Nat := match firstCol r n with
  | none => 0
  | some c => 2 * n - c
theorem msr_step {n : Nat} {hs : Hds} (ok : HsOk n hs) {r h : Row} {c o : Nat} (f : firstCol r n = some c) (l : look hs c = some (h, o)) : msr (mul r h) n < msr r n := by
  have q := firstCol_step ok f l
  have := (firstCol_iff f).1
  unfold msr
  rw [f]
  cases e : firstCol (mul r h) n with
  | none => dsimp only; omega
  | some d => dsimp only; have := q d e; omega
def sp_independent_rows (K : PySem.W.Frag) : L2.Sp := fun vs H Q E => ∃ (v1 : V) (l : List Row) (n : Nat), vs = [v1, nv n] ∧ IsRs H v1 l ∧ l.length ≤ 1000 ∧ n ≤ 1000 ∧ (∀ kept, IndOk l n kept → ∀ v H', Ex H H' → IsRs H' v kept → Q v H') ∧
  (∀ ks, IndFail l n ks → ∀ d t H', Ex H H' → H' d = some (.xd [("indices", .ref t)]) → H' t = some (.tup (ks.map nv)) → E (.ref (He.ga K "MinusOne")) (some d) H')
abbrev N_independent_rows : List Str := ["rows", "size", "kept", "heads", "index", "row", "left", "made", "column", "head", "other", "k"]
theorem sc_independent_rows : FnScope N_independent_rows ["rows", "size"] (defScope s_independent_rows) := ⟨rfl, rfl, rfl, by decide +kernel, rfl, by decide +kernel, by decide +kernel⟩
theorem o_independent_rows (T : Tx K mg) : OkF P w K mg base (L2.CX P w) 5 "independent_rows" ["rows", "size"] (sp_independent_rows K) := by
  have o_MinusOneInit := o_MinusOneInit (P := P) (w := w) (K := K) (mg := mg) (base := base) T
  have o_first_column : OkF P w K mg base CX0 2 "first_column" ["row", "size"] sp_first_column := o_first_column T
  have o_row_product : OkF P w K mg base CX0 2 "row_product" ["one", "two"] sp_row_product := o_row_product T
  refine okfX T d_independent_rows "independent_rows" 28 21 rfl rfl rfl sc_independent_rows (fun vs H Q E h => ?_) (fun _ _ _ _ _ _ us hl => match us, hl with | [_, _], _ => rfl) (fun f cdv A outer s H vs Q E hr h => ?_)
  · (obtain ⟨_, _, _, rfl, _⟩ := h; rfl)
  obtain ⟨v1, l, n, rfl, ⟨a, xs, rfl, ha, hrs⟩, hlen, hn, k1, k2⟩ := h
  refine ⟨_, (pss_cons (ps_par (i := 2) (j := 3) rfl sc_independent_rows.nd rfl rfl (by decide) rfl rfl (pa_cons (pe_lst pa_nil) (pa_cons pe_dnewK pa_nil)) (by rfl))
      (pss_cons (ps_for (passes_of rfl) rfl (pi_enum (by rfl) T.m_enumerate (pa_cons (pv 0) pa_nil)) (pg_tup rfl (pgs_cons (pg_name (i := 4) sc_independent_rows.nd rfl (Or.inl rfl)) (pgs_cons (pg_name (i := 5) sc_independent_rows.nd rfl (Or.inl rfl)) pgs_nil)))
        (pss_cons (ps_asg (pe_tup (pa_cons (pv 5) (pa_cons pe_int (pa_cons (pe_cl o_first_column (hr.mono (by decide)) (by rfl) pass0 (pa_cons (pv 5) (pa_cons (pv 1) pa_nil))) pa_nil)))) (pg_tup rfl (pgs_cons (pg_name (i := 6) sc_independent_rows.nd rfl (Or.inl rfl)) (pgs_cons (pg_name (i := 7) sc_independent_rows.nd rfl (Or.inr rfl)) (pgs_cons (pg_name (i := 8) sc_independent_rows.nd rfl (Or.inl rfl)) pgs_nil)))))
        (pss_cons (ps_while (passes_of rfl) (pt_cmp (pc_dinN (hu_ hr) (pv 8) (pv 3)))
          (pss_cons (ps_asg (pe_dget (hu_ hr) (pv 3) (pv 8) (fun _ _ => rfl)) (pg_tup rfl (pgs_cons (pg_name (i := 9) sc_independent_rows.nd rfl (Or.inl rfl)) (pgs_cons (pg_name (i := 10) sc_independent_rows.nd rfl (Or.inl rfl)) pgs_nil))))
          (pss_cons (ps_asg (pe_tup (pa_cons (pe_cl o_row_product (hr.mono (by decide)) (by rfl) pass0 (pa_cons (pv 6) (pa_cons (pv 9) pa_nil))) (pa_cons (pe_op op_xor (pv 7) (pv 10)) pa_nil))) (pg_tup rfl (pgs_cons (pg_name (i := 6) sc_independent_rows.nd rfl (Or.inl rfl)) (pgs_cons (pg_name (i := 7) sc_independent_rows.nd rfl (Or.inr rfl)) pgs_nil))))
          (pss_one (ps_set (i := 8) sc_independent_rows.nd rfl (Or.inl rfl) (pe_cl o_first_column (hr.mono (by decide)) (by rfl) pass0 (pa_cons (pv 6) (pa_cons (pv 1) pa_nil))))))))
        (pss_one (ps_if (pt_cmpR op_notN (pv 8) pe_non (nomark _)) (pss_cons (ps_dput (hu_ hr) (pv 3) (pv 8) (pe_tup (pa_cons (pv 6) (pa_cons (pe_op op_xor (pv 7) (pe_op op_shl pe_int (pv 4))) pa_nil))) rfl)
          (pss_one (ps_expr (pe_bmK K PySem.F.plainAttrs_list PySem.F.slot_list_append PySem.F.type_list_append mt_append (pv 2) (pa_cons (pv 5) pa_nil))))) (pss_one (ps_if (pt_cmpR op_eq (pe_ix (ix_tupK K) (pv 6) pe_int (fun _ _ => rfl)) pe_int (nomark _)) (pss_one (ps_raise rfl (takes_of rfl rfl rfl rfl) (pmk_E T (by decide) o_MinusOneInit (hr.mono (by decide)) (by rfl) (T.glo "MinusOne" (List.mem_of_getElem? (i := 53) rfl)) pass0 (pa_cons (pe_callTy (call_tuple_ofK K) (by rfl) T.m_tuple (by decide +kernel) (pa_cons (pe_op op_cat (pe_lc (own := [("k", 11)]) rfl sc_independent_rows.nd (pi_range1 (by rfl) T.m_range (pa_cons (pv 4) pa_nil)) (blkOk_by (own := [("k", 11)]) (N := N_independent_rows) (sc := defScope s_independent_rows) (by decide +kernel)) (fun _ _ _ _ _ => (pg_name (i := 11) sc_independent_rows.nd rfl (Or.inl rfl))) (fun _ _ _ _ _ => (pts_one (pt_truthK K (pe_op op_and (pe_op op_shr (pv 7) (pv 11)) pe_int)))) (fun _ _ _ _ _ => (pv 11))) (pe_lst (pa_cons (pv 4) pa_nil))) pa_nil)) pa_nil)))) pss_nil)))))))
      (pss_one (ps_ret (pv 2))))), ?_⟩
  have hxl := paired_len hrs
  have bl := T.ef
  refine q_parLD fun p D H1 e1 np0 nD0 hpD hp hD => ?_
  refine q_forG (wg_enum (ea_cons (ev_var rfl) ea_nil) (sq_of (e1 _ _ ha))) (fun i σ' H' => ∃ kept ks hs es y4 y5 y6 y7 y8 y9 y10, σ' = [some (.ref a), some (nv n), some (.ref p), some (.ref D), y4, y5, y6, y7, y8, y9, y10, none] ∧ Ex H H' ∧ H' p = some (.lst ks) ∧ Rows H' ks kept ∧ H' D = some (.dK es) ∧ Paired (IsHd H') es hs ∧ IndTo l n i kept hs)
    (fun H2 e2 => ⟨[], [], [], [], _, _, _, _, _, _, _, rfl, e1.trans e2, e2 _ _ hp, .nil, e2 _ _ hD, .nil, .nil⟩) (fun i σ' H' _ ⟨_, _, _, _, _, _, _, _, _, _, _, _, ex, _⟩ => sq_of (ex _ _ ha)) ?_ ?_
  · rintro i x σ' Ha Hb hi ⟨kept, ks, hs, es, y4, y5, y6, y7, y8, y9, y10, rfl, ex, hp, hks, hD, hes, hind⟩ ⟨Tt, x1, x2, rfl, hT, rfl, hx1, hx2⟩
    have ex1 : x1 = nv i := (Option.some.inj hx1).symm
    subst ex1
    have hi' : i < l.length := by omega
    have ei := List.getElem?_eq_getElem hi'
    obtain ⟨vr, hvr, rr⟩ := paired_at2 hrs ei
    dsimp only at hx2
    have ey : x2 = vr := by rw [hvr] at hx2; exact (Option.some.inj hx2).symm
    subst ey
    generalize l[i] = row at *
    have eb : Ex Ha (upd Ha Tt (.tup [nv i, x2])) := Ex.new hT
    refine ⟨Tt, [nv i, x2], rfl, st_of upd_same, rfl, nv i, [x2], rfl, x2, [], rfl, rfl, ?_⟩
    generalize upd Ha Tt (.tup [nv i, x2]) = Hb at *
    have rrb := rr.ex (ex.trans eb)
    refine q_three (v := x2) (w := nv 0) (y := optV (firstCol row n)) (ea_cons (ev_var rfl) (ea_cons (ev_n (n := 0) rfl) (ea_cons (ev_first_column (ev_var rfl) (ev_var rfl) hn rrb) ea_nil))) fun H2 e2 => ?_
    refine q_while (fun m σ' H' => ∃ left made vl y9 y10, σ' = [some (.ref a), some (nv n), some (.ref p), some (.ref D), some (nv i), some x2, some vl, some (nv made), some (optV (firstCol left n)), y9, y10, none] ∧ m = msr left n ∧ IsRow H' vl left ∧ RedTo hs n row left made ∧ Ex H2 H') (msr row n) ⟨row, 0, x2, _, _, rfl, rfl, rrb.ex e2, .refl, Ex.refl _⟩ ?_
    rintro m σ' H' ⟨left, made, vl, y9', y10', rfl, rfl, hl, hred, e3⟩
    have ea3 : Ex Ha H' := (eb.trans e2).trans e3
    have hD3 := ea3 _ _ hD
    have hes3 : Paired (IsHd H') es hs := L2.Paired.mapP hes fun _ _ q => q.kx (.of ea3)
    have elen := paired_len hes
    have ilen := hind.len
    refine ⟨_, et_dinN (c := firstCol left n) (ev_var rfl) (ev_var rfl) hD3, fun hb H4 e4 => ?_, fun hb H4 e4 => ?_⟩
    · cases hf : firstCol left n with
      | none => rw [hf] at hb; cases hb
      | some c =>
        rw [hf] at hb
        rcases hds_look hes3 c with ⟨q1, _⟩ | ⟨t, vh, r, o, q1, q2, q3, q4⟩
        · rw [show inHd es (some c) = (valV es (.inl (c : Int))).isSome from rfl, q1] at hb; cases hb
        · refine ⟨fun σ' H' => ∃ left' made' vl y9 y10, σ' = [some (.ref a), some (nv n), some (.ref p), some (.ref D), some (nv i), some x2, some vl, some (nv made'), some (optV (firstCol left' n)), y9, y10, none] ∧ msr left' n < msr left n ∧ IsRow H' vl left' ∧ RedTo hs n row left' made' ∧ Ex H2 H',
            fun σ2 H2' ⟨left', made', vl, y9, y10, h1, h2, h3, h4, h5⟩ => ⟨_, h2, left', made', vl, y9, y10, h1, rfl, h3, h4, h5⟩, ?_⟩
          refine q_unp2 (ev_dgetK (ev_var rfl) (ev_var rfl) (e4 _ _ hD3) q1) (e4 _ _ q3) fun H5 e5 => ?_
          have e45 := e4.trans e5
          refine q_two (evp_row_product (ev_var rfl) (ev_var rfl) (hl.ex e45) (q4.ex e45)) (fun H6 e6 => Ev.p (v := nv (made ^^^ o)) (ev_op (ev_var rfl) (ev_var rfl) rv_xorN)) fun v w H6 H7 H8 e6 rv e7 ew e8 => ?_
          subst ew
          refine s_asg (ev_first_column (r := mul left r) (ev_var rfl) (ev_var rfl) hn (rv.ex (e7.trans e8))) fun H9 e9 => ?_
          refine ⟨mul left r, made ^^^ o, v, _, _, rfl, ?_, rv.ex ((e7.trans e8).trans e9), hred.step hf q2, ((((e3.trans e45).trans e6).trans e7).trans e8).trans e9⟩
          exact msr_step hind.hsok hf q2
    · refine s_if (b := !decide (firstCol left n = none)) (et_test (ev_is (ev_op (ev_var rfl) ev_c rv_notN1) (by cases firstCol left n <;> rfl))) (fun hc H5 e5 => ?_) fun hc H5 e5 => ?_
      · cases hf : firstCol left n with
        | none => rw [hf] at hc; cases hc
        | some c =>
          rw [hf] at hb
          have q1 : valV es (.inl (c : Int)) = none := by
            cases q : valV es (.inl (c : Int)) with
            | none => rfl
            | some _ => rw [show inHd es (some c) = (valV es (.inl (c : Int))).isSome from rfl, q] at hb; cases hb
          have q2 : look hs c = none := by
            rcases hds_look hes3 c with ⟨_, q⟩ | ⟨t, vh, r, o, q, _⟩
            · exact q
            · rw [q1] at q; cases q
          have e45 := e4.trans e5
          refine q_dputK (k := c) (P := fun v H' => ∃ t, v = .ref t ∧ H' t = some (.tup [vl, nv (made ^^^ 1 <<< i)])) (EvU.p (eu_tup (ea_cons (ev_var rfl) (ea_cons (ev_op (ev_var rfl) (ev_op (ev_n (n := 1) rfl) (ev_var rfl) (rv_shlN (by omega) (by decide))) rv_xorN) ea_nil)) (by show 2 ≤ 100000; decide))) (ev_var rfl) (ev_var rfl) (e45 _ _ hD3) (by omega) fun v H6 Hf e6 ⟨t, ev, ht⟩ bf hDf => ?_
          subst ev
          rw [putK_new _ q1] at hDf
          have ea6 : Ex Ha H6 := (ea3.trans e45).trans e6
          have kf := bf.kxd (ea6 _ _ hD)
          have xf : Ex H Hf := bf.ex (ex.trans ea6) nD0
          have hpf : Hf p = some (.lst ks) := bf _ _ hpD (ea6 _ _ hp)
          refine s_app hpf (ev_var rfl) (ev_var rfl) (by have := paired_len hks; omega) fun H7 e7 => ?_
          have kx7 : Kx H7 (upd H7 p (.lst (ks ++ [x2]))) := Kx.lst (e7 _ _ hpf)
          have kall : Kx H6 (upd H7 p (.lst (ks ++ [x2]))) := (kf.trans (.of e7)).trans kx7
          refine ⟨kept ++ [row], ks ++ [x2], hs ++ [(c, left, made ^^^ 1 <<< i)], _, _, _, _, _, _, _, _, rfl, Ex.mut (xf.trans e7) np0, upd_same, ?_, by rw [upd_ne (Ne.symm hpD)]; exact e7 _ _ hDf, ?_, hind.keep ei hred hf q2⟩
          · exact paired_app ((hks.ex ea6).kx kall) (.cons ((rr.ex (ex.trans ea6)).kx kall) .nil)
          · refine paired_app (L2.Paired.mapP hes fun _ _ q => (q.kx (.of ea6)).kx kall) (.cons ⟨rfl, t, vl, rfl, kall.1 _ _ ht, (hl.ex (e45.trans e6)).kx kall⟩ .nil)
      · have hf : firstCol left n = none := by simpa using hc
        have e45 := e4.trans e5
        obtain ⟨pl, rfl, hpl⟩ := hl
        refine s_when (b := decide (left.s = 1)) (et_test (ev_op (x := nv left.s) (ev_op (ev_var rfl) ev_c (rv_ixT (st_of (e45 _ _ hpl)) (by rfl))) (ev_n (n := 1) rfl) rv_eqN)) (fun hs1 H6 e6 => ?_) fun hs1 H6 e6 => ?_
        · refine st_raiseP (P := fun ws H' => ∃ t, ws = [.ref t] ∧ H' t = some (.tup ((((List.range i).filter fun k => made >>> k &&& 1 != 0) ++ [i]).map nv))) (fun Ho eo Q kk => ?_) (fun ws H1 ⟨t, e, _⟩ => by rw [e]; rfl) (by decide) fun ws d H7 H8 e7 ⟨t, ew, ht⟩ e8 hd => ?_
          · have u : EvU (tCB (rTupOf K) (tCons (tOp rCat (tLc (iRng1 (tCons (tVar 4) tNil)) (gName 11) (tTruK K (tOp (rI0 fun i j => .int (Builtin.bitAnd i j)) (tOp (rI (fun _ j => 0 ≤ j) fun i j => .int (i / 2 ^ j.toNat)) (tVar 7) (tVar 11)) (tC (.int 1)))) (tVar 11) [11]) (tLst (tCons (tVar 4) tNil))) tNil)) [some (.ref a), some (nv n), some (.ref p), some (.ref D), some (nv i), some x2, some (.ref pl), some (nv made), some (optV (firstCol left n)), y9', y10', none] H6 ((((List.range i).filter fun k => made >>> k &&& 1 != 0).map nv) ++ [nv i]) :=
              eu_tupleL (el_catN (el_rngF (fun k => made >>> k &&& 1 != 0) nv (ea_cons (ev_var rfl) ea_nil) (by omega) (fun x => rfl) (fun k H1 e1 hk => et_truN (ev_op (ev_op (ev_var rfl) (ev_var rfl) rv_shrN) (ev_n (n := 1) rfl) rv_andN)) (fun k H1 e1 hk => ev_var rfl)) (fun H1 e1 => el_one (ev_var rfl)) (by
                rw [List.length_map]
                have := List.length_filter_le (fun k => made >>> k &&& 1 != 0) (List.range i)
                rw [List.length_range] at this
                show _ + 1 ≤ 100000
                omega))
            refine (EvU.p u) Ho eo _ fun v H1 e1 ⟨t, ev, ht⟩ => kk _ H1 e1 ⟨t, by rw [ev], ?_⟩
            rw [List.map_append]
            exact ht
          · subst ew
            exact k2 _ ⟨i, kept, hs, row, left, made, hind, ei, hred, hf, of_decide_eq_true hs1, rfl⟩ d t H8 ((((ex.trans ea3).trans e45).trans e6).trans (e7.trans e8)) hd (e8 _ _ ht)
        · have ea6 := (ea3.trans e45).trans e6
          exact ⟨kept, ks, hs, es, _, _, _, _, _, _, _, rfl, ex.trans ea6, ea6 _ _ hp, hks.ex ea6, ea6 _ _ hD, L2.Paired.mapP hes fun _ _ q => q.kx (.of ea6), hind.drop ei hred hf (of_decide_eq_false hs1)⟩
  · rintro σ' H' ⟨kept, ks, hs, es, y4, y5, y6, y7, y8, y9, y10, rfl, ex, hp, hks, hD, hes, hind⟩
    rw [hxl] at hind
    exact s_ret (ev_var rfl) fun H2 e2 => k1 kept ⟨hs, hind⟩ _ H2 (ex.trans e2) ⟨p, ks, rfl, e2 _ _ hp, hks.ex e2⟩
end
end Kp
end
section
set_option maxHeartbeats 4000000
namespace Kp
open PySem PySem.Spec PyProof.Rows L2 Evl
local macro_rules | `(tactic| walk_at "ht") => `(tactic| first | assumption | solve_by_elim (config := { maxDepth := 12 }))
local macro_rules | `(tactic| walk_at "ev") => `(tactic| repeat' (first
  | exact ea_nil
  | exact ev_var rfl
  | exact ev_n (n := 0) rfl | exact ev_n (n := 1) rfl | exact ev_n (n := 2) rfl
  | exact rv_andN | exact rv_xorN | exact rv_orN | exact rv_addN | exact rv_shrN | (exact rv_mulN (by decide)) | exact rv_eqN | exact rv_neN | exact rv_ltN
  | (refine' rv_ixT (st_of (by walk_at "ht")) (by rfl))
  | walk_at "evx"
  | refine' ev_op ?_ ?_ ?_
  | refine' ea_cons ?_ ?_))
section
variable {P : Program} {w : World} {K : PySem.W.Frag} {mg : Str → Option Value} {base : Heap}
/-! ### is_size -/
def sp_is_size (K : PySem.W.Frag) : L2.Sp := fun vs H Q _ => ∃ (n m : Nat), vs = [nv n, nv m] ∧ m ≤ n ∧ ∀ H', Ex H H' → Q (.bl true) H'
abbrev N_is_size : List Str := ["value", "least"]
theorem sc_is_size : FnScope N_is_size ["value", "least"] (defScope s_is_size) := ⟨rfl, rfl, rfl, by decide +kernel, rfl, by decide +kernel, by decide +kernel⟩
theorem o_is_size (T : Tx K mg) : OkF P w K mg base CX0 1 "is_size" ["value", "least"] (sp_is_size K) := by
  refine okf T d_is_size "is_size" 12 7 rfl rfl rfl sc_is_size (fun vs H Q E h => ?_) (fun _ _ _ _ _ _ us hl => match us, hl with | [_, _], _ => rfl) (fun f cdv A outer s H vs Q E hr h => ?_)
  · (obtain ⟨_, _, rfl, _⟩ := h; rfl)
  obtain ⟨n, m, rfl, hm, k⟩ := h
  refine ⟨_, (pss_one (ps_ret (pe_and (pe_callB (call_isiU K) (by rfl) T.m_isinstance (by decide +kernel) (pa_cons (pv 0) (pa_cons (pe_bltn (v := .ty "int") (by rfl) T.m_int (by decide +kernel) rfl) pa_nil))) (pe_and (pe_not (pe_callB (call_isiU K) (by rfl) T.m_isinstance (by decide +kernel) (pa_cons (pv 0) (pa_cons (pe_bltn (v := .ty "bool") (by rfl) T.m_bool (by decide +kernel) rfl) pa_nil)))) (pe_one (pe_cmpR op_ge (pv 0) (pv 1) (nomark _))))))), ?_⟩
  refine s_ret (v := .bl true) ?_ k
  refine ev_is (v := .bl (true && (!false && decide (m ≤ n)))) (ev_andV (ev_isi (ev_var rfl) ev_c (.ty "int") (fun H1 e => .base (.int _)) (kit_ty (by decide +kernel))) fun _ => ev_andV (ev_notV (ev_isi (ev_var rfl) ev_c (.ty "bool") (fun H1 e => .base (.int _)) (kit_ty (by decide +kernel)))) fun _ => ev_is (ev_op (ev_var rfl) (ev_var rfl) rv_I0) ?_) ?_
  · have : decide ((n : Int) ≥ (m : Int)) = decide (m ≤ n) := by
      rw [decide_eq_true hm, decide_eq_true]; omega
    rw [this]
  · rw [decide_eq_true hm]; rfl
/-! ### Group -/
abbrev CG (K : PySem.W.Frag) : Addr := He.ga K "Group"
theorem Tx.clsG (T : Tx K mg) : Cls K (CG K) := He.cls_ok (T.fact (.cls "Group") (List.mem_of_getElem? (i := 74) rfl))
theorem Tx.mkG (T : Tx K mg) : Mk K (CG K) (He.ma K (CG K) "__init__") := He.mkr_ok (T.fact (.mkr "Group") (List.mem_of_getElem? (i := 76) rfl))
theorem Tx.gSiz (T : Tx K mg) : NoAttr K (CG K) "size" := He.noat_ok (T.fact (.noat "Group" "size") (List.mem_of_getElem? (i := 83) rfl))
theorem Tx.gRows (T : Tx K mg) : NoAttr K (CG K) "rows" := He.noat_ok (T.fact (.noat "Group" "rows") (List.mem_of_getElem? (i := 84) rfl))
theorem Tx.gRank (T : Tx K mg) : NoAttr K (CG K) "rank" := He.noat_ok (T.fact (.noat "Group" "rank") (List.mem_of_getElem? (i := 85) rfl))
/-- the string of a row stands at v -/
def IsPR (K : PySem.W.Frag) (n : Nat) (H : Hp) (v : V) (r : Row) : Prop := IsPau K H v (letN r n, 2 * r.s)
theorem IsPR.kx {n : Nat} {H H' : Hp} {v : V} {r : Row} (e : Kx H H') (h : IsPR K n H v r) : IsPR K n H' v r := IsPau.kx e h
theorem IsPR.ex {n : Nat} {H H' : Hp} {v : V} {r : Row} (e : Ex H H') (h : IsPR K n H v r) : IsPR K n H' v r := h.kx (.of e)
abbrev PRs (K : PySem.W.Frag) (n : Nat) (H : Hp) : List V → List Row → Prop := Paired (IsPR K n H)
theorem PRs.kx {n : Nat} {H H' : Hp} (e : Kx H H') {vs : List V} {rs : List Row} (h : PRs K n H vs rs) : PRs K n H' vs rs := L2.Paired.mapP h fun _ _ q => q.kx e
theorem PRs.ex {n : Nat} {H H' : Hp} (e : Ex H H') {vs : List V} {rs : List Row} (h : PRs K n H vs rs) : PRs K n H' vs rs := h.kx (.of e)
def grpF (n m : Nat) (q : Addr) : List (Str × V) := putF "rank" (nv m) (putF "rows" (.ref q) (putF "size" (nv n) []))
theorem grpF_siz (n m : Nat) (q : Addr) : (grpF n m q).lookup ("size" : Str) = some (nv n) := by
  unfold grpF
  rw [lookup_putF, if_neg (by decide +kernel), lookup_putF, if_neg (by decide +kernel), lookup_putF, if_pos rfl]
theorem grpF_rows (n m : Nat) (q : Addr) : (grpF n m q).lookup ("rows" : Str) = some (.ref q) := by
  unfold grpF
  rw [lookup_putF, if_neg (by decide +kernel), lookup_putF, if_pos rfl]
theorem grpF_rank (n m : Nat) (q : Addr) : (grpF n m q).lookup ("rank" : Str) = some (nv m) := by
  unfold grpF
  rw [lookup_putF, if_pos rfl]
/-- a Group of these rows stands at v -/
def IsGrp (K : PySem.W.Frag) (H : Hp) (v : V) (n : Nat) (rows : List Row) : Prop := ∃ a dx q ys, v = .ref a ∧ H a = some (.ins (CG K) dx (grpF n rows.length q)) ∧ H q = some (.tup ys) ∧ PRs K n H ys rows
theorem IsGrp.kx {H H' : Hp} {v : V} {n : Nat} {rows : List Row} (e : Kx H H') (h : IsGrp K H v n rows) : IsGrp K H' v n rows := by
  obtain ⟨a, dx, q, ys, rfl, h1, h2, h3⟩ := h
  exact ⟨a, dx, q, ys, rfl, e.2 _ _ _ _ h1, e.1 _ _ h2, h3.kx e⟩
theorem IsGrp.ex {H H' : Hp} {v : V} {n : Nat} {rows : List Row} (e : Ex H H') (h : IsGrp K H v n rows) : IsGrp K H' v n rows := h.kx (.of e)
section
variable {σ : L2.St} {H H' : Hp} {ta tb tc td te to tv tx : TE} {t u : TT} {x y z v : V} {D : Ends} {tz : TS} {l : Addr} {xs : List V}
theorem q_callX {sp : L2.Sp} {E : XK} {tr : TA} {vs : List V} (h : EvA tr σ H vs) (k : ∀ H1, Ex H H1 → sp vs H1 (fun _ H2 => tz D σ H2) E) : tSeq (tDrop (tCall sp [] E tr)) tz D σ H := by
  unfold tSeq tDrop tCall
  refine h H (Ex.refl _) _ fun H1 e1 => ?_
  rw [List.append_nil]
  exact k H1 e1
theorem q_nest {sp1 sp2 : L2.Sp} {E1 E2 : XK} {tr tq : TA} {vs : List V} {i : Nat} (h : EvA tr σ H vs) (k : ∀ H1, Ex H H1 → sp2 vs H1 (fun v H2 => tq σ H2 fun ws H3 => sp1 (v :: ws) H3 (fun v H4 => tz D (σ.set i (some v)) H4) E1) E2) :
    tSeq (tAsg (tCall sp1 [] E1 (tCons (tCall sp2 [] E2 tr) tq)) (gName i)) tz D σ H := by
  unfold tSeq tAsg tCall tCons gName
  refine h H (Ex.refl _) _ fun H1 e1 => ?_
  simp only [List.append_nil]
  exact k H1 e1
/-- self.f = e -/
theorem q_fldI {a C dx : Addr} {fs : List (Str × V)} {f : Str} {P : V → Hp → Prop} (h : EvP tv σ H P) (ho : Ev to σ H (.ref a)) (ha : H a = some (.ins C dx fs)) (c : Cls K C) (n : NoAttr K C f) (hl : fs.length < 1000)
    (k : ∀ v H1 Hf, Ex H H1 → P v H1 → ExB a H1 Hf → Hf a = some (.ins C dx (putF f v fs)) → tz D σ Hf) : tSeq (sFld K to tv f) tz D σ H := by
  unfold tSeq sFld
  refine h H (Ex.refl _) _ fun v H1 e1 p => ho H1 e1 _ fun H2 e2 => ?_
  exact ⟨a, C, dx, fs, rfl, e2 _ _ (e1 _ _ ha), c, n, hl, k v H1 _ e1 p ((ExB.of e2).trans ExB.upd) upd_same⟩
theorem s_fldI {a C dx : Addr} {fs : List (Str × V)} {f : Str} {P : V → Hp → Prop} (h : EvP tv σ H P) (ho : Ev to σ H (.ref a)) (ha : H a = some (.ins C dx fs)) (c : Cls K C) (n : NoAttr K C f) (hl : fs.length < 1000)
    (k : ∀ v H1 Hf, Ex H H1 → P v H1 → ExB a H1 Hf → Hf a = some (.ins C dx (putF f v fs)) → D.nx σ Hf) : sFld K to tv f D σ H := q_fldI (tz := fun D σ H => D.nx σ H) h ho ha c n hl k
theorem ev_anyF {m : Nat} (h : EvP te σ H (fun v H' => ∃ p xs, v = .ref p ∧ H' p = some (.lst xs) ∧ xs = (List.replicate m false).map V.bl)) : Ev (tCB (rAny K) (tCons te tNil)) σ H (.bl false) := fun H1 e Q k => by
  refine h H1 e _ fun v H2 e2 ⟨p, xs, ev, hp, ex⟩ => ?_
  subst ev ex
  refine ⟨p, List.replicate m false, rfl, sq_of hp, ?_⟩
  have : (List.replicate m false).any id = false := by
    rw [List.any_eq_false]
    intro x hx
    rw [List.eq_of_mem_replicate hx]; simp
  rw [this]
  exact k H2 e2
end
theorem paired_rep {α : Type} {xs : List V} {L : List α} {P : α → V → Prop} {v : V} (h : Paired (fun x i => P i x) xs L) (hp : ∀ i x, P i x → x = v) : xs = List.replicate L.length v := by
  induction h with
  | nil => rfl
  | cons a _ ih => rw [List.length_cons, List.replicate_succ, ← ih, hp _ _ a]
theorem IsRow.exb {H H' : Hp} {v : V} {r : Row} {p C dx : Addr} {fs : List (Str × V)} (h : IsRow H v r) (hp : H p = some (.ins C dx fs)) (b : ExB p H H') : IsRow H' v r := by
  obtain ⟨a, rfl, ha⟩ := h
  exact ⟨a, rfl, b a _ (by rintro rfl; rw [hp] at ha; cases ha) ha⟩
theorem IsPau.exb {H H' : Hp} {v : V} {r : List Nat × Nat} {p C dx : Addr} {fs : List (Str × V)} (h : IsPau K H v r) (hp : H p = some (.ins C dx fs)) (hl : fs.lookup ("letters" : Str) = none) (b : ExB p H H') : IsPau K H' v r := by
  obtain ⟨a, da, wt, rfl, ha⟩ := h
  refine ⟨a, da, wt, rfl, b a _ ?_ ha⟩
  rintro rfl
  rw [hp] at ha
  injection ha with z
  injection z with z1 z2 z3
  rw [z3, pauF_let] at hl
  cases hl
/-- what Group(size, strings) comes to -/
structure GrpRes (K : PySem.W.Frag) (H : Hp) (n : Nat) (rows : List Row) (ok : List Row → Prop) (E : XK) : Prop where
  anti : ∀ i j, FirstAnti rows i j → ∀ d H', Ex H H' → H' d = some (.xd [("other", nv j), ("one", nv i)]) → E (.ref (He.ga K "Anticommute")) (some d) H'
  minus : Commut rows → ∀ ks, IndFail rows n ks → ∀ d t H', Ex H H' → H' d = some (.xd [("indices", .ref t)]) → H' t = some (.tup (ks.map nv)) → E (.ref (He.ga K "MinusOne")) (some d) H'
  good : Commut rows → ∀ kept, IndOk rows n kept → ok (redRows kept n)
def sp_GroupInit (K : PySem.W.Frag) : L2.Sp := fun vs H Q E => ∃ (p dx : Addr) (n : Nat) (q : Addr) (xs : List V) (rows : List Row), vs = [.ref p, nv n, .ref q] ∧ H p = some (.ins (CG K) dx []) ∧ 1 ≤ n ∧ n ≤ 1000 ∧ (SqL K H q xs ∨ SqT K H q xs) ∧ PRs K n H xs rows ∧ (∀ r ∈ rows, Rw n r) ∧ rows.length ≤ 1000 ∧
  GrpRes K H n rows (fun red => ∀ H', ExB p H H' → IsGrp K H' (.ref p) n red → Q .non H') E
abbrev N_GroupInit : List Str := ["self", "size", "strings", "string", "rows", "told", "row"]
theorem sc_GroupInit : FnScope N_GroupInit ["self", "size", "strings"] (defScope s_GroupInit) := ⟨rfl, rfl, rfl, by decide +kernel, rfl, by decide +kernel, by decide +kernel⟩
theorem o_GroupInit (T : Tx K mg) : OkM P w K mg base (L2.CX P w) 7 (He.fAd K d_GroupInit.at_) ["self", "size", "strings"] (sp_GroupInit K) := by
  have o_independent_rows : OkF P w K mg base (L2.CX P w) 5 "independent_rows" ["rows", "size"] (sp_independent_rows K) := o_independent_rows T
  have o_is_size : OkF P w K mg base CX0 1 "is_size" ["value", "least"] (sp_is_size K) := o_is_size T
  have o_need_commuting : OkF P w K mg base (L2.CX P w) 5 "need_commuting" ["rows"] (sp_need_commuting K) := o_need_commuting T
  have o_reduced_rows : OkF P w K mg base CX0 3 "reduced_rows" ["rows", "size"] sp_reduced_rows := o_reduced_rows T
  have o_row_of : OkF P w K mg base CX0 1 "row_of" ["string"] (sp_row_of K) := o_row_of T
  have o_told_string : OkF P w K mg base CX0 5 "told_string" ["row", "size"] (sp_told_string K) := o_told_string T
  refine okm T d_GroupInit 29 rfl sc_GroupInit (fun vs H Q E h => ?_) (fun _ _ _ _ _ _ us hl => match us, hl with | [_, _, _], _ => rfl) (fun f cdv A outer s H vs Q E hr h => ?_)
  · (obtain ⟨_, _, _, _, _, _, rfl, _⟩ := h; rfl)
  obtain ⟨p, dx, n, q, xs, rows, rfl, hp, hn1, hn, hsq, hxs, hrw, hlen, G⟩ := h
  refine ⟨_, (pss_cons (ps_if (pt_not (pt_val (pe_cl o_is_size (hr.mono (by decide)) (by rfl) pass0 (pa_cons (pv 1) (pa_cons pe_int pa_nil))))) (pss_one ps_never) pss_nil)
      (pss_cons (ps_if (pt_val (pe_callB (cr_anyK K rfl) (by rfl) T.m_any (by decide +kernel) (pa_cons (pe_lc (own := [("string", 3)]) rfl sc_GroupInit.nd (pi_seqK K (pv 2)) (blkOk_by (own := [("string", 3)]) (N := N_GroupInit) (sc := defScope s_GroupInit) (by decide +kernel)) (fun _ _ _ _ _ => (pg_name (i := 3) sc_GroupInit.nd rfl (Or.inl rfl))) (fun _ _ _ _ _ => pts_nil) (fun _ _ _ _ _ => (pe_cmpR op_ne (pe_fldK K (pv 3)) (pv 1) (nomark _)))) pa_nil))) (pss_one ps_never) pss_nil)
      (pss_cons (ps_for (passes_of rfl) rfl (pi_seqK K (pv 2)) (pg_name (i := 3) sc_GroupInit.nd rfl (Or.inl rfl))
        (pss_one (ps_if (pt_cmpR op_eq (pe_op op_mod (pe_fldK K (pv 3)) pe_int) pe_int (nomark _)) (pss_one ps_never) pss_nil)))
      (pss_cons (ps_setLc (i := 4) (own := [("string", 3)]) rfl sc_GroupInit.nd rfl rfl (sw_true rfl rfl rfl (by decide +kernel)) (pi_seqK K (pv 2)) (blkOk_by (own := [("string", 3)]) (N := N_GroupInit) (sc := defScope s_GroupInit) (by decide +kernel)) (fun _ _ _ _ _ => (pg_name (i := 3) sc_GroupInit.nd rfl (Or.inl rfl))) (fun _ _ _ _ _ => pts_nil) (fun _ _ _ _ _ => (pe_cl o_row_of (hr.mono (by decide)) (by rfl) pass0 (pa_cons (pv 3) pa_nil))))
      (pss_cons (ps_expr (pe_cl o_need_commuting (hr.mono (by decide)) (by rfl) (passes_call (takes_of rfl rfl rfl rfl) (fun _ _ _ _ h => h)) (pa_cons (pv 4) pa_nil)))
      (pss_cons (ps_set (i := 5) sc_GroupInit.nd rfl (Or.inl rfl) (pe_cl o_reduced_rows (hr.mono (by decide)) (by rfl) pass0 (pa_cons (pe_cl o_independent_rows (hr.mono (by decide)) (by rfl) (passes_call (takes_of rfl rfl rfl rfl) (fun _ _ _ _ h => h)) (pa_cons (pv 4) (pa_cons (pv 1) pa_nil))) (pa_cons (pv 1) pa_nil))))
      (pss_cons (ps_fldK K (pv 0) (pv 1) rfl)
      (pss_cons (ps_fldK K (pv 0) (pe_callTy (call_tuple_ofK K) (by rfl) T.m_tuple (by decide +kernel) (pa_cons (pe_lc (own := [("row", 6)]) rfl sc_GroupInit.nd (pi_listK K (pv 5)) (blkOk_by (own := [("row", 6)]) (N := N_GroupInit) (sc := defScope s_GroupInit) (by decide +kernel)) (fun _ _ _ _ _ => (pg_name (i := 6) sc_GroupInit.nd rfl (Or.inl rfl))) (fun _ _ _ _ _ => pts_nil) (fun _ _ _ _ _ => (pe_cl o_told_string (hr.mono (by decide)) (by rfl) pass0 (pa_cons (pv 6) (pa_cons (pv 1) pa_nil))))) pa_nil)) rfl)
      (pss_one (ps_fldK K (pv 0) (pe_callB (call_lenK K) (by rfl) T.m_len PySem.boot_len (pa_cons (pe_fldK K (pv 0)) pa_nil)) rfl)))))))))), ?_⟩
  have hxl := paired_len hxs
  have hsq' : ∀ {H'}, Ex H H' → (SqL K H' q xs ∨ SqT K H' q xs) := fun e => hsq.imp (ex_l e) (ex_t e)
  -- is_size
  refine q_when (b := false) (et_not (a := true) (et_B (ev_callv (ea_cons (ev_var rfl) (ea_cons (ev_n (n := 1) rfl) ea_nil)) fun H1 e Q kk => ⟨n, 1, rfl, hn1, kk⟩))) (fun hc => by cases hc) fun _ H1 e1 => ?_
  -- any
  refine q_when (b := false) (et_B (ev_anyF (m := xs.length) ((evp_lc (wk_seq (ev_var rfl) (hsq' e1)) (fun _ => true) (fun _ v _ => v = .bl false) (by omega) (fun _ _ _ _ _ q => q) ?_).imp ?_))) (fun hc => by cases hc) fun _ H2 e2 => ?_
  · rintro i x Hb hi eb hx Q' kk
    obtain ⟨r, hr1, hr2⟩ := paired_at hxs hx
    refine tg_name (i := i) rfl et_yes (fun _ => Ev.p (ev_is (ev_op (ev_pauSiz T (ev_var rfl) (hr2.ex (e1.trans eb))) (ev_var rfl) rv_neN) ?_)) kk
    show V.bl (!decide ((letN r n).length = n)) = _
    rw [letN_len, decide_eq_true rfl]; rfl
  · rintro v H2 e2 ⟨q, ys, h1, h2, h3⟩
    refine ⟨q, ys, h1, h2, ?_⟩
    rw [filter_all] at h3
    rw [paired_rep h3 fun _ _ q => q, List.length_range, List.map_replicate]
  -- the signs
  have x2 := e1.trans e2
  refine q_forW (wk_seq (ev_var rfl) (hsq' x2)) (fun Hs i σ' H' => ∃ y3, σ' = [some (.ref p), some (nv n), some (.ref q), y3, none, none, none] ∧ Ex Hs H') (fun H3 e3 => ⟨_, rfl, Ex.refl _⟩) (fun Hs i σ' H' _ _ ⟨_, _, p⟩ => p) ?_ ?_
  · rintro Hs i x σ' Ha Hb e0 hi ⟨y3, rfl, ea⟩ eb hx
    obtain ⟨r, hr1, hr2⟩ := paired_at hxs hx
    have hs := (hrw r (List.mem_of_getElem? hr1)).s
    refine s_when (b := false) (et_test (ev_is (ev_op (ev_op (ev_pauPha T (ev_var rfl) (hr2.ex (((x2.trans e0).trans ea).trans eb))) ev_c (rv_I (i := ((2 * r.s : Nat) : Int)) (j := 2) (by decide))) ev_c (rv_eq rfl)) ?_)) (fun hc => by cases hc) fun _ H4 e4 => ⟨_, rfl, (ea.trans eb).trans e4⟩
    have : r.s = 0 ∨ r.s = 1 := by omega
    rcases this with h | h <;> rw [h] <;> decide +kernel
  rintro Hs σ' H3 e0 ⟨y3, rfl, ea⟩
  have x3 := (x2.trans e0).trans ea
  -- rows
  refine q_asgP (P := fun v H' => IsRs H' v rows) ((evp_lc (wk_seq (ev_var rfl) (hsq' x3)) (fun _ => true) (fun i v H' => ∃ r, rows[i]? = some r ∧ IsRow H' v r) (by omega) (fun i v H H' e ⟨r, h1, h2⟩ => ⟨r, h1, h2.kx e⟩) ?_).imp ?_) fun v H4 e4 hv => ?_
  · rintro i x Hb hi eb hx Q' kk
    obtain ⟨r, hr1, hr2⟩ := paired_at hxs hx
    exact tg_name (i := i) rfl et_yes (fun _ => (evp_row_of (ev_var rfl) hn (hrw r (List.mem_of_getElem? hr1)) (hr2.ex (x3.trans eb))).imp fun v H' _ q => ⟨r, hr1, q⟩) kk
  · rintro v H4 e4 ⟨q, ys, h1, h2, h3⟩
    refine ⟨q, ys, h1, h2, ?_⟩
    rw [filter_all, hxl] at h3
    have := paired_range (g := fun r : Row => r) h3 (F := IsRow H4) fun i d x hd ⟨r, h4, h5⟩ => by rw [hd] at h4; rw [Option.some.inj h4]; exact h5
    rw [List.map_id'] at this
    exact this
  have x4 := x3.trans e4
  -- need_commuting
  refine q_callX (ea_cons (ev_var rfl) ea_nil) fun H5 e5 => ⟨v, rows, rfl, hv.ex e5, hlen, fun hc H6 e6 => ?_, fun i j fa d H' e6 hd => G.anti i j fa d H' ((x4.trans e5).trans e6) hd⟩
  have x6 := (x4.trans e5).trans e6
  refine q_nest (ea_cons (ev_var rfl) (ea_cons (ev_var rfl) ea_nil)) fun H7 e7 => ⟨v, rows, n, rfl, hv.ex ((e5.trans e6).trans e7), hlen, hn, fun kept hk v' H8 e8 hv' => ?_, fun ks hf d t H8 e8 hd ht => G.minus hc ks hf d t H8 ((x6.trans e7).trans e8) hd ht⟩
  have hkl : kept.length ≤ 1000 := by
    obtain ⟨hs, hi⟩ := hk
    have := hi.len
    omega
  have hkm : ∀ r ∈ kept, Rw n r := by
    obtain ⟨hs, hi⟩ := hk
    exact fun r hr => hrw r (hi.mem r hr)
  refine (ea_cons (ev_var rfl) ea_nil : EvA (tCons (tVar 1) tNil) _ H8 [nv n]) H8 (Ex.refl _) _ fun H9 e9 => ⟨v', kept, n, rfl, hv'.ex e9, hkl, hn, fun vt H10 e10 ht => ?_⟩
  have x10 := (((x6.trans e7).trans e8).trans e9).trans e10
  have hra := redRows_all hkm
  have hrl := redRows_len kept n
  have hgood := G.good hc kept hk
  generalize redRows kept n = red at *
  -- the fields
  refine q_fldI (P := fun v _ => v = nv n) (Ev.p (ev_var rfl)) (ev_var rfl) (x10 _ _ hp) T.clsG T.gSiz (by decide) fun v1 H11 H12 e11 ev1 b12 hp12 => ?_
  subst ev1
  have b1 : ExB p H H12 := (ExB.of (x10.trans e11)).trans b12
  obtain ⟨tp, ts, rfl, htp, hts⟩ := ht
  have htp12 : H12 tp = some (.lst ts) := b12 _ _ (by rintro rfl; rw [x10 _ _ hp] at htp; cases htp) (e11 _ _ htp)
  have hts12 : Rows H12 ts red := L2.Paired.mapP hts fun _ _ q => (q.ex e11).exb (e11 _ _ (x10 _ _ hp)) b12
  refine q_fldI (P := fun v H' => ∃ q ys, v = .ref q ∧ H' q = some (.tup ys) ∧ PRs K n H' ys red) (evp_tupleL (P := fun ys H => PRs K n H ys red) (fun _ _ _ e q => q.kx e) ((evp_lc (wk_list (ev_var rfl) (sq_of htp12)) (fun _ => true) (fun i v H' => ∃ r, red[i]? = some r ∧ IsPR K n H' v r) (by have := paired_len hts12; omega) (fun i v H H' e ⟨r, h1, h2⟩ => ⟨r, h1, h2.kx e⟩) ?_).imp ?_)) (ev_var rfl) hp12 T.clsG T.gRows (by show 1 < 1000; decide) fun v2 H13 H14 e13 ⟨qr, ys, ev2, hqr, hys⟩ b14 hp14 => ?_
  · rintro i x Hb hi eb hx Q' kk
    obtain ⟨r, hr1, hr2⟩ := paired_at hts12 hx
    exact tg_name (i := i) rfl et_yes (fun _ => (evp_told_string (ev_var rfl) (ev_var rfl) hn1 hn (hra r (List.mem_of_getElem? hr1)).s (hr2.ex eb)).imp fun v H' _ q => ⟨r, hr1, q⟩) kk
  · rintro v H4 e4 ⟨q, ys, h1, h2, h3⟩
    refine ⟨q, ys, h1, h2, ?_⟩
    rw [filter_all, paired_len hts12] at h3
    have := paired_range (g := fun r : Row => r) h3 (F := IsPR K n H4) fun i d x hd ⟨r, h4, h5⟩ => by rw [hd] at h4; rw [Option.some.inj h4]; exact h5
    rw [List.map_id'] at this
    exact this
  subst ev2
  have hp13 := e13 _ _ hp12
  have hqr14 : H14 qr = some (.tup ys) := b14 _ _ (by rintro rfl; rw [hp13] at hqr; cases hqr) hqr
  have hys14 : PRs K n H14 ys red := L2.Paired.mapP hys fun _ _ q => IsPau.exb q hp13 (by rw [lookup_putF, if_neg (by decide +kernel)]; rfl) b14
  have b2 : ExB p H H14 := b1.trans ((ExB.of e13).trans b14)
  have lrow : (putF "rows" (.ref qr) (putF "size" (nv n) ([] : List (Str × V)))).lookup ("rows" : Str) = some (.ref qr) := by rw [lookup_putF, if_pos rfl]
  refine s_fldI (P := fun v _ => v = nv ys.length) (Ev.p (ev_lenT (ev_fld (ev_var rfl) hp14 T.clsG T.gRows lrow) (st_of hqr14))) (ev_var rfl) hp14 T.clsG T.gRank (by show 2 < 1000; decide) fun v3 H15 H16 e15 ev3 b16 hp16 => ?_
  subst ev3
  have hp15 := e15 _ _ hp14
  refine hgood H16 (b2.trans ((ExB.of e15).trans b16)) ⟨p, dx, qr, ys, rfl, ?_, b16 _ _ (by rintro rfl; rw [hp14] at hqr14; cases hqr14) (e15 _ _ hqr14), ?_⟩
  · rw [hp16, paired_len hys14]; rfl
  · refine L2.Paired.mapP hys14 fun _ _ q => IsPau.exb (q.ex e15) hp15 (by rw [lookup_putF, if_neg (by decide +kernel), lookup_putF, if_neg (by decide +kernel)]; rfl) b16
end
end Kp
end
section
set_option maxHeartbeats 4000000
namespace Kp
open PySem PySem.Spec PyProof.Rows L2 Evl
local macro_rules | `(tactic| walk_at "ht") => `(tactic| first | assumption | solve_by_elim (config := { maxDepth := 12 }))
local macro_rules | `(tactic| walk_at "ev") => `(tactic| repeat' (first
  | exact ea_nil
  | exact ev_var rfl
  | exact ev_n (n := 0) rfl | exact ev_n (n := 1) rfl | exact ev_n (n := 2) rfl
  | exact rv_andN | exact rv_xorN | exact rv_orN | exact rv_addN | exact rv_shrN | (exact rv_mulN (by decide)) | exact rv_eqN | exact rv_neN | exact rv_ltN
  | (refine' rv_ixT (st_of (by walk_at "ht")) (by rfl))
  | walk_at "evx"
  | refine' ev_op ?_ ?_ ?_
  | refine' ea_cons ?_ ?_))
theorem op_catAK {X : Cx} (K : PySem.W.Frag) (h : X.K = K := by rfl) : OpR X (binaryOp .Add) (rCatA K) := h ▸ op_catA
section
variable {P : Program} {w : World} {K : PySem.W.Frag} {mg : Str → Option Value} {base : Heap}
section
variable {σ : L2.St} {H H' : Hp} {ta tb tc td te to tl tv tx : TE} {t u : TT} {x y z v : V} {D : Ends} {tz tu : TS} {g : TG} {l : Addr} {xs ys : List V}
/-- two tuples, joined -/
theorem evp_catA {a b : Addr} (ha : Ev ta σ H (.ref a)) (hb : Ev tb σ H (.ref b)) (h1 : H a = some (.tup xs)) (h2 : H b = some (.tup ys)) (hz : xs.length + ys.length ≤ 100000) :
    EvP (tOp (rCatA K) ta tb) σ H (fun v H' => ∃ q, v = .ref q ∧ H' q = some (.tup (xs ++ ys))) := fun H1 e Q k => by
  refine ha H1 e _ fun H2 e2 => hb H2 (e.trans e2) _ fun H3 e3 => ?_
  have x3 := (e.trans e2).trans e3
  refine ⟨a, b, xs, ys, rfl, rfl, st_of (x3 _ _ h1), st_of (x3 _ _ h2), sz_of hz, fun e0 => ?_, fun n0 e0 => ?_, fun n0 n1 p np => ?_⟩
  · subst e0
    exact k _ H3 (e2.trans e3) ⟨b, rfl, x3 _ _ h2⟩
  · subst e0
    exact k _ H3 (e2.trans e3) ⟨a, rfl, by rw [List.append_nil]; exact x3 _ _ h1⟩
  · exact k _ _ ((e2.trans e3).trans (Ex.new np)) ⟨p, rfl, upd_same⟩
theorem ev_grpSiz (T : Tx K mg) {n : Nat} {rows : List Row} (h : Ev te σ H v) (q : IsGrp K H v n rows) : Ev (tFld K te "size") σ H (nv n) := by
  obtain ⟨a, dx, q, ys, rfl, h1, h2, h3⟩ := q
  exact ev_fld h h1 T.clsG T.gSiz (grpF_siz _ _ _)
theorem ev_grpRank (T : Tx K mg) {n : Nat} {rows : List Row} (h : Ev te σ H v) (q : IsGrp K H v n rows) : Ev (tFld K te "rank") σ H (nv rows.length) := by
  obtain ⟨a, dx, q, ys, rfl, h1, h2, h3⟩ := q
  exact ev_fld h h1 T.clsG T.gRank (grpF_rank _ _ _)
theorem ev_grpRows (T : Tx K mg) {n : Nat} {rows : List Row} (q : IsGrp K H v n rows) : ∃ p ys, H p = some (.tup ys) ∧ PRs K n H ys rows ∧ ∀ te σ H', Ex H H' → Ev te σ H' v → Ev (tFld K te "rows") σ H' (.ref p) := by
  obtain ⟨a, dx, q, ys, rfl, h1, h2, h3⟩ := q
  exact ⟨q, ys, h2, h3, fun te σ H' e h => ev_fld h (e _ _ h1) T.clsG T.gRows (grpF_rows _ _ _)⟩
/-- Group(..) -/
theorem tmake_grp {tr : TA} {n : Nat} {rows : List Row} {E : XK} {Q : VK} {P : List V → Hp → Prop} (h : EvAP tr σ H P) (hP : ∀ vs H', Ex H H' → P vs H' → ∃ q xs, vs = [nv n, .ref q] ∧ (SqL K H' q xs ∨ SqT K H' q xs) ∧ PRs K n H' xs rows) (hn1 : 1 ≤ n) (hn : n ≤ 1000) (hrw : ∀ r ∈ rows, Rw n r) (hlen : rows.length ≤ 1000)
    (G : GrpRes K H n rows (fun red => ∀ v H', Ex H H' → IsGrp K H' v n red → Q v H') E) : tMake (CG K) (sp_GroupInit K) [] E tr σ H Q := by
  unfold tMake
  refine h H (Ex.refl _) _ fun vs H1 e1 hp => ?_
  obtain ⟨q, xs, rfl, hs, hx⟩ := hP vs H1 e1 hp
  intro x dx nx ndx hne
  have e2 : Ex H1 (upd (upd H1 dx (.own x)) x (.ins (CG K) dx [])) := (Ex.new ndx).trans (Ex.new (by rw [upd_ne (Ne.symm hne)]; exact nx))
  refine ⟨x, dx, n, q, xs, rows, rfl, upd_same, hn1, hn, hs.imp (ex_l e2) (ex_t e2), hx.ex e2, hrw, hlen, ⟨fun i j fa d H' e' hd => G.anti i j fa d H' ((e1.trans e2).trans e') hd, fun hc ks hf d t H' e' hd ht => G.minus hc ks hf d t H' ((e1.trans e2).trans e') hd ht, fun hc kept hk H' b hg => ⟨rfl, G.good hc kept hk (.ref x) H' ?_ hg⟩⟩⟩
  refine e1.trans fun b' o hb => b b' o ?_ (e2 _ _ hb)
  rintro rfl; rw [nx] at hb; cases hb
theorem q_forTP {P : List V → Hp → Prop} (h : EvP tl σ H (fun v H' => ∃ a xs, v = .ref a ∧ H' a = some (.tup xs) ∧ P xs H')) (kk : ∀ a xs H1, Ex H H1 → H1 a = some (.tup xs) → P xs H1 → ∃ Pv : Nat → L2.St → Hp → Prop, Pv 0 σ H1 ∧ (∀ i σ' H', i ≤ xs.length → Pv i σ' H' → H' a = some (.tup xs)) ∧
    (∀ i x σ' Ha, xs[i]? = some x → Pv i σ' Ha → g x σ' Ha fun σ2 H2 => tu { D with nx := Pv (i + 1), ct := Pv (i + 1), bk := tz D } σ2 H2) ∧ ∀ σ' H', Pv xs.length σ' H' → tz D σ' H') : tSeq (tFor (iTup K tl) g tu) tz D σ H := by
  refine h H (Ex.refl _) _ fun v H1 e1 ⟨a, xs, ev, ha, hp⟩ => ?_
  subst ev
  obtain ⟨Pv, h0, hG, hs, hd⟩ := kk a xs H1 e1 ha hp
  exact ⟨a, rfl, ⟨xs, st_of ha⟩, for_it (D := { D with nx := tz D }) (walk_tup (K := K) (a := a) (xs := xs)) Pv h0 (fun i σ' H' hi p => st_of (hG i σ' H' hi p)) (fun i x σ' Ha Hb hi p y => by obtain ⟨rfl, y⟩ := y; exact hs i x σ' _ y p) hd⟩
end
theorem not_firstAnti {l : List Row} (h : Commut l) {i j : Nat} (f : FirstAnti l i j) : False := f.2.2.1 (h j f.2.1 i f.1)
/-! ### joined_group -/
def sp_joined_group (K : PySem.W.Frag) : L2.Sp := fun vs H Q E => ∃ (v1 v2 : V) (n m : Nat) (r1 r2 : List Row), vs = [v1, v2] ∧ IsGrp K H v1 n r1 ∧ IsGrp K H v2 m r2 ∧ 1 ≤ n ∧ n ≤ 1000 ∧ (∀ r ∈ r1, Rw n r) ∧ (n = m → ∀ r ∈ r2, Rw n r) ∧ r1.length + r2.length ≤ 1000 ∧
  (n ≠ m → ∀ d H', Ex H H' → H' d = some (.xd [("what", .str "size")]) → E (.ref (He.ga K "Unlike")) (some d) H') ∧ (n = m → GrpRes K H n (r1 ++ r2) (fun red => ∀ v H', Ex H H' → IsGrp K H' v n red → Q v H') E)
abbrev N_joined_group : List Str := ["group", "other"]
theorem sc_joined_group : FnScope N_joined_group ["group", "other"] (defScope s_joined_group) := ⟨rfl, rfl, rfl, by decide +kernel, rfl, by decide +kernel, by decide +kernel⟩
theorem o_joined_group (T : Tx K mg) : OkF P w K mg base (L2.CX P w) 11 "joined_group" ["group", "other"] (sp_joined_group K) := by
  have o_GroupInit := o_GroupInit (P := P) (w := w) (K := K) (mg := mg) (base := base) T
  have o_need_equal_size : OkF P w K mg base (L2.CX P w) 4 "need_equal_size" ["one", "other"] (sp_need_equal_size K) := o_need_equal_size T
  refine okfX T d_joined_group "joined_group" 32 23 rfl rfl rfl sc_joined_group (fun vs H Q E h => ?_) (fun _ _ _ _ _ _ us hl => match us, hl with | [_, _], _ => rfl) (fun f cdv A outer s H vs Q E hr h => ?_)
  · (obtain ⟨_, _, _, _, _, _, rfl, _⟩ := h; rfl)
  obtain ⟨v1, v2, n, m, r1, r2, rfl, h1, h2, hn1, hn, hr1, hr2, hlen, k1, k2⟩ := h
  refine ⟨_, (pss_cons (ps_expr (pe_cl o_need_equal_size (hr.mono (by decide)) (by rfl) (passes_call (takes_of rfl rfl rfl rfl) (fun _ _ _ _ h => h)) (pa_cons (pe_fldK K (pv 0)) (pa_cons (pe_fldK K (pv 1)) pa_nil))))
      (pss_one (ps_ret (pe_mkO T.mkG o_GroupInit (hr.mono (by decide)) (by rfl) (T.glo "Group" (List.mem_of_getElem? (i := 55) rfl)) (passes_call (takes_of rfl rfl rfl rfl) (fun _ _ _ _ h => h)) (pa_cons (pe_fldK K (pv 0)) (pa_cons (pe_op (op_catAK K) (pe_fldK K (pv 0)) (pe_fldK K (pv 1))) pa_nil)))))), ?_⟩
  refine q_callX (ea_cons (ev_grpSiz T (ev_var rfl) h1) (ea_cons (ev_grpSiz T (ev_var rfl) h2) ea_nil)) fun H1 e1 => ⟨n, m, rfl, fun hnm H2 e2 => ?_, fun hnm d H' e' hd => k1 hnm d H' (e1.trans e') hd⟩
  subst hnm
  have e := e1.trans e2
  have G := k2 rfl
  obtain ⟨p1, y1, a1, b1, c1⟩ := ev_grpRows T (h1.ex e)
  obtain ⟨p2, y2, a2, b2, c2⟩ := ev_grpRows T (h2.ex e)
  unfold tRet
  refine tmake_grp (n := n) (rows := r1 ++ r2) (P := fun vs H' => ∃ q, vs = [nv n, .ref q] ∧ H' q = some (.tup (y1 ++ y2)) ∧ PRs K n H' (y1 ++ y2) (r1 ++ r2)) ?_ (fun vs H' e' ⟨q, ev, hq, hp⟩ => ⟨q, y1 ++ y2, ev, .inr (st_of hq), hp⟩) hn1 hn (fun r hr => (List.mem_append.mp hr).elim (hr1 r) (hr2 rfl r)) (by rw [List.length_append]; exact hlen) ⟨fun i j fa d H' e' hd => G.anti i j fa d H' (e.trans e') hd, fun hc ks hf d t H' e' hd ht => G.minus hc ks hf d t H' (e.trans e') hd ht, fun hc kept hk v H' e' hg => G.good hc kept hk v H' (e.trans e') hg⟩
  refine eap_cons (P := fun v _ => v = nv n) (Ev.p (ev_grpSiz T (ev_var rfl) (h1.ex e))) (eap_cons (Pr := fun vs _ => vs = []) (P' := fun vs H' => ∃ q, vs = [.ref q] ∧ H' q = some (.tup (y1 ++ y2)) ∧ PRs K n H' (y1 ++ y2) (r1 ++ r2)) (evp_catA (c1 _ _ _ (Ex.refl _) (ev_var rfl)) (c2 _ _ _ (Ex.refl _) (ev_var rfl)) a1 a2 (by rw [paired_len b1, paired_len b2]; omega)) eap_nil ?_) ?_
  · rintro v vs H3 H4 e3 ⟨q, rfl, hq⟩ e4 rfl
    exact ⟨q, rfl, e4 _ _ hq, PRs.ex (e3.trans e4) (paired_app b1 b2)⟩
  · rintro v vs H3 H4 e3 rfl e4 ⟨q, rfl, hq, hp⟩
    exact ⟨q, rfl, hq, hp⟩
/-! ### commutant -/
/-- a row's bits: what crosses with its x and its z -/
def cbits (n : Nat) (r : Row) : List Nat := ((List.range n).map fun k => r.z >>> k &&& 1) ++ (List.range n).map fun k => r.x >>> k &&& 1
/-- a number's row -/
def rowM (n m : Nat) : Row := ⟨bsum (fun p => m >>> (2 * n - 1 - p) &&& 1 != 0) n, bsum (fun p => m >>> (n - 1 - p) &&& 1 != 0) n, 0⟩
def comRows (n : Nat) (rows : List Row) : List Row := (kern ((rows.map (cbits n)).map numOf) (2 * n)).map (rowM n)
theorem EvL.pf {σ : L2.St} {H : Hp} {te : TE} {xs : List V} (h : EvL te σ H xs) : EvP te σ H (fun v H' => ∃ p, v = .ref p ∧ H p = none ∧ H' p = some (.lst xs)) := fun H1 e Q k => h H1 e Q fun p H2 np e2 q => k _ H2 e2 ⟨p, rfl, fresh_back e np, q⟩
theorem evp_cat {σ : L2.St} {H : Hp} {ta tb : TE} {L1 L2 : List V} (ha : EvP ta σ H (fun v H' => ∃ p xs, v = .ref p ∧ H' p = some (.lst xs) ∧ xs = L1)) (hb : ∀ H1, Ex H H1 → EvP tb σ H1 (fun v H' => ∃ p xs, v = .ref p ∧ H' p = some (.lst xs) ∧ xs = L2)) (hz : L1.length + L2.length ≤ 100000) :
    EvP (tOp rCat ta tb) σ H (fun v H' => ∃ p xs, v = .ref p ∧ H' p = some (.lst xs) ∧ xs = L1 ++ L2) := fun H1 e Q k => by
  refine ha H1 e _ fun v H2 e2 ⟨p, xs, ev, hp, ex⟩ => hb H2 (e.trans e2) H2 (Ex.refl _) _ fun w H3 e3 ⟨q, ys, ew, hq, ey⟩ => ?_
  subst ev ew ex ey
  refine ⟨p, q, _, _, rfl, rfl, e3 _ _ hp, hq, sz_of hz, fun l nl => ?_⟩
  exact k _ _ ((e2.trans e3).trans (Ex.new nl)) ⟨l, _, rfl, upd_same, rfl⟩
theorem numOf_lt (bs : List Nat) (h : ∀ b ∈ bs, b ≤ 1) : numOf bs < 2 ^ bs.length := by
  have key : ∀ (l : List Nat) (a : Nat), (∀ b ∈ l, b ≤ 1) → l.foldl (fun n b => 2 * n + b) a < (a + 1) * 2 ^ l.length := by
    intro l
    induction l with
    | nil => intro a _; simp
    | cons b r ih =>
      intro a hb
      have h1 := hb b List.mem_cons_self
      have h2 := ih (2 * a + b) fun c hc => hb c (List.mem_cons_of_mem _ hc)
      rw [List.foldl_cons, List.length_cons, Nat.pow_succ]
      have h3 : (2 * a + b + 1) * 2 ^ r.length ≤ (a + 1) * (2 ^ r.length * 2) := by
        rw [Nat.mul_comm (2 ^ r.length) 2, ← Nat.mul_assoc]
        exact Nat.mul_le_mul_right _ (by omega)
      exact Nat.lt_of_lt_of_le h2 h3
  have := key bs 0 h
  unfold numOf
  simpa using this
theorem cbits_len (n : Nat) (r : Row) : (cbits n r).length = 2 * n := by unfold cbits; simp; omega
theorem cbits_le (n : Nat) (r : Row) : ∀ b ∈ cbits n r, b ≤ 1 := by
  intro b hb
  unfold cbits at hb
  rcases List.mem_append.mp hb with h | h <;> (obtain ⟨k, _, rfl⟩ := List.mem_map.mp h; exact bit_le _ _)
theorem bit_if (x k : Nat) : (if (x >>> k &&& 1 != 0) = true then 1 else 0) = x >>> k &&& 1 := by
  have := bit_le x k
  have : x >>> k &&& 1 = 0 ∨ x >>> k &&& 1 = 1 := by omega
  rcases this with h | h <;> rw [h] <;> rfl
/-- one half of a row's bits -/
theorem evp_half (T : Tx K mg) {σ : L2.St} {H : Hp} {te : TE} {v1 : V} {n : Nat} {r : Row} {zs : Str} {vs : List Nat} {j : Nat} (x : Nat) (hn : n ≤ 1000) (h : Ev te σ H v1) (hp : IsPR K n H v1 r)
    (hz : ∀ i, i < n → decide (lc (r.x >>> i &&& 1) (r.z >>> i &&& 1) ∈ zs.cps.toList) = (x >>> i &&& 1 != 0))
    (hw : ∀ a, wipe ((wipe σ vs).set j a) vs = wipe σ vs) (hj : ∀ a, ((wipe σ vs).set j a)[j]? = some a) :
    EvP (tLc (iStr (tFld K te "letters")) (gName j) tYes (tCB rInt1 (tCons (tOp rInSig (tVar j) (tC (.str zs))) tNil)) vs) σ H (fun v H' => ∃ p xs, v = .ref p ∧ H' p = some (.lst xs) ∧ xs = ((List.range n).map fun k => x >>> k &&& 1).map nv) := by
  have el : (⟨(letN r n).toArray⟩ : Str).cps.size = n := by simp [letN_len]
  refine (evp_lc (vs := vs) (wk_str (ev_pauLet T h hp)) (fun _ => true) (fun i v _ => v = nv (x >>> i &&& 1)) ?_ (fun _ _ _ _ _ q => q) ?_).imp ?_
  · show (letN r n).length ≤ 100000
    rw [letN_len]; omega
  · rintro i xx Hb hi eb ⟨c, hc, rfl⟩ Q' kk
    have hc' : (letN r n)[i]? = some c := by simpa using hc
    obtain ⟨hi', rfl⟩ := letN_at hc'
    refine tg_name (i := i) (f := true) (hw _) et_yes (fun _ => Ev.p (ev_is (ev_intB (ev_is (ev_op (ev_var (hj _)) ev_c rv_inSig) (by rw [hz i hi']))) ?_)) kk
    rw [← bit_if]
    cases (x >>> i &&& 1 != 0) <;> rfl
  · rintro v H1 e1 ⟨p, xs, h1, h2, h3⟩
    refine ⟨p, xs, h1, h2, ?_⟩
    rw [show (⟨(letN r n, 2 * r.s).fst.toArray⟩ : Str).cps.size = n from el, filter_all] at h3
    rw [List.map_map]
    exact paired_eq h3 fun i x q => q
def sp_commutant (K : PySem.W.Frag) : L2.Sp := fun vs H Q _ => ∃ (v1 : V) (n : Nat) (rows : List Row), vs = [v1] ∧ IsGrp K H v1 n rows ∧ 1 ≤ n ∧ n ≤ 400 ∧ (∀ r ∈ rows, Rw n r) ∧ rows.length ≤ 1000 ∧
  ∀ v H', Ex H H' → (∃ p ys, v = .ref p ∧ H' p = some (.tup ys) ∧ PRs K n H' ys (comRows n rows)) → Q v H'
abbrev N_commutant : List Str := ["group", "size", "rows", "string", "found", "bits", "letter", "place"]
theorem sc_commutant : FnScope N_commutant ["group"] (defScope s_commutant) := ⟨rfl, rfl, rfl, by decide +kernel, rfl, by decide +kernel, by decide +kernel⟩
theorem o_commutant (T : Tx K mg) : OkF P w K mg base CX0 8 "commutant" ["group"] (sp_commutant K) := by
  have o_PauliInit := o_PauliInit (P := P) (w := w) (K := K) (mg := mg) (base := base) T
  have o_kernel_bits : OkF P w K mg base CX0 5 "kernel_bits" ["rows", "width"] sp_kernel_bits := o_kernel_bits T
  refine okf T d_commutant "commutant" 31 22 rfl rfl rfl sc_commutant (fun vs H Q E h => ?_) (fun _ _ _ _ _ _ us hl => match us, hl with | [_], _ => rfl) (fun f cdv A outer s H vs Q E hr h => ?_)
  · (obtain ⟨_, _, _, rfl, _⟩ := h; rfl)
  obtain ⟨v1, n, rows, rfl, hg, hn1, hn, hrw, hlen, k⟩ := h
  refine ⟨_, (pss_cons (ps_asg (pe_tup (pa_cons (pe_fldK K (pv 0)) (pa_cons (pe_lst pa_nil) pa_nil))) (pg_tup rfl (pgs_cons (pg_name (i := 1) sc_commutant.nd rfl (Or.inr rfl)) (pgs_cons (pg_name (i := 2) sc_commutant.nd rfl (Or.inl rfl)) pgs_nil))))
      (pss_cons (ps_for PassesOwn.never rfl (pi_tupK K (pe_fldK K (pv 0))) (pg_name (i := 3) sc_commutant.nd rfl (Or.inl rfl))
        (pss_one (ps_expr (pe_bmK K PySem.F.plainAttrs_list PySem.F.slot_list_append PySem.F.type_list_append mt_append (pv 2) (pa_cons (pe_callTy (call_tuple_ofK K) (by rfl) T.m_tuple (by decide +kernel) (pa_cons (pe_op op_cat (pe_lc (own := [("letter", 6)]) rfl sc_commutant.nd (pi_str (pe_fldK K (pv 3))) (blkOk_by (own := [("letter", 6)]) (N := N_commutant) (sc := defScope s_commutant) (by decide +kernel)) (fun _ _ _ _ _ => (pg_name (i := 6) sc_commutant.nd rfl (Or.inl rfl))) (fun _ _ _ _ _ => pts_nil) (fun _ _ _ _ _ => (pe_callTy call_intK (by rfl) T.m_int (by decide +kernel) (pa_cons (pe_cmpR op_inSigK (pv 6) pe_str (by rfl)) pa_nil)))) (pe_lc (own := [("letter", 6)]) rfl sc_commutant.nd (pi_str (pe_fldK K (pv 3))) (blkOk_by (own := [("letter", 6)]) (N := N_commutant) (sc := defScope s_commutant) (by decide +kernel)) (fun _ _ _ _ _ => (pg_name (i := 6) sc_commutant.nd rfl (Or.inl rfl))) (fun _ _ _ _ _ => pts_nil) (fun _ _ _ _ _ => (pe_callTy call_intK (by rfl) T.m_int (by decide +kernel) (pa_cons (pe_cmpR op_inSigK (pv 6) pe_str (by rfl)) pa_nil))))) pa_nil)) pa_nil)))))
      (pss_cons (ps_set (i := 4) sc_commutant.nd rfl (Or.inl rfl) (pe_lst pa_nil))
      (pss_cons (ps_for PassesOwn.never rfl (pi_tupK K (pe_cl o_kernel_bits (hr.mono (by decide)) (by rfl) pass0 (pa_cons (pv 2) (pa_cons (pe_op op_mul pe_int (pv 1)) pa_nil)))) (pg_name (i := 5) sc_commutant.nd rfl (Or.inr rfl))
        (pss_one (ps_expr (pe_bmK K PySem.F.plainAttrs_list PySem.F.slot_list_append PySem.F.type_list_append mt_append (pv 4) (pa_cons (pe_mkO T.mkP o_PauliInit (hr.mono (by decide)) (by rfl) (T.glo "Pauli" (List.mem_of_getElem? (i := 54) rfl)) pass0 (pa_cons (pe_joinK K pe_str (pe_lc (own := [("place", 7)]) rfl sc_commutant.nd (pi_range1 (by rfl) T.m_range (pa_cons (pv 1) pa_nil)) (blkOk_by (own := [("place", 7)]) (N := N_commutant) (sc := defScope s_commutant) (by decide +kernel)) (fun _ _ _ _ _ => (pg_name (i := 7) sc_commutant.nd rfl (Or.inl rfl))) (fun _ _ _ _ _ => pts_nil) (fun _ _ _ _ _ => (pe_ix ix_str pe_str (pe_op op_add (pe_ix (ix_tupK K) (pv 5) (pv 7) (fun _ _ => rfl)) (pe_op op_mul pe_int (pe_ix (ix_tupK K) (pv 5) (pe_op op_add (pv 1) (pv 7)) (fun _ _ => rfl)))) (fun _ _ => rfl))))) pa_nil)) pa_nil)))))
      (pss_one (ps_ret (pe_callTy (call_tuple_ofK K) (by rfl) T.m_tuple (by decide +kernel) (pa_cons (pv 4) pa_nil)))))))), ?_⟩
  refine q_two (P := fun v _ => v = nv n) (Ev.p (ev_grpSiz T (ev_var rfl) hg)) (P' := fun w H' => ∃ p, w = .ref p ∧ H p = none ∧ H' p = some (.lst [])) (fun H1 e1 => (EvL.pf el_nil).imp fun v H2 e2 ⟨p, q1, q2, q3⟩ => ⟨p, q1, fresh_back e1 q2, q3⟩) fun v w H1 H2 H3 e1 ev e2 ⟨p, ew, np, hp⟩ e3 => ?_
  subst ev ew
  have x3 := (e1.trans e2).trans e3
  obtain ⟨gp, gys, ga, gb, gc⟩ := ev_grpRows T (hg.ex x3)
  refine q_forG (wg_tup (gc _ _ _ (Ex.refl _) (ev_var rfl)) (st_of ga)) (fun i σ' H' => ∃ ks y3, σ' = [some v1, some (nv n), some (.ref p), y3, none, none, none, none] ∧ Ex H H' ∧ H' gp = some (.tup gys) ∧ PRs K n H' gys rows ∧ H' p = some (.lst ks) ∧ Paired (IsNs H') ks ((rows.take i).map (cbits n)))
    (fun H4 e4 => ⟨[], _, rfl, x3.trans e4, e4 _ _ ga, gb.ex e4, e4 _ _ (e3 _ _ hp), .nil⟩) (fun i σ' H' _ ⟨_, _, _, _, h, _⟩ => st_of h) ?_ ?_
  · rintro i x σ' Ha Hb hi ⟨ks, y3, rfl, ex, hga, hgb, hp, hks⟩ ⟨rfl, hx⟩
    obtain ⟨r, hr1, hr2⟩ := paired_at hgb hx
    have b1 : ∀ k, k < n → decide (lc (r.x >>> k &&& 1) (r.z >>> k &&& 1) ∈ (PySem.Str.ofString "XY").cps.toList) = (r.x >>> k &&& 1 != 0) := fun k _ => lc_XY (bit_le _ _) (bit_le _ _)
    have b2 : ∀ k, k < n → decide (lc (r.x >>> k &&& 1) (r.z >>> k &&& 1) ∈ (PySem.Str.ofString "ZY").cps.toList) = (r.z >>> k &&& 1 != 0) := fun k _ => lc_ZY (bit_le _ _) (bit_le _ _)
    have hkl := paired_len hks
    rw [List.length_map, List.length_take] at hkl
    have hi' : i < rows.length := by have := paired_len hgb; omega
    refine s_appP (P := fun v H' => IsNs H' v (cbits n r)) hp (ev_var rfl) ((evp_tupleL (P := fun xs _ => xs = (cbits n r).map nv) (fun _ _ _ _ q => q) ((evp_cat (evp_half T r.z (by omega) (ev_var rfl) hr2 b2 (fun _ => rfl) (fun _ => rfl)) (fun H5 e5 => evp_half T r.x (by omega) (ev_var rfl) (hr2.ex e5) b1 (fun _ => rfl) (fun _ => rfl)) ?_).imp ?_)).imp ?_) (by omega) fun v H5 e5 hv => ?_
    · simp only [List.length_map, List.length_range]; omega
    · rintro v H1 e1 ⟨p, xs, h1, h2, h3⟩
      refine ⟨p, xs, h1, h2, ?_⟩
      rw [h3]
      unfold cbits
      rw [List.map_append]
    · rintro v H1 e1 ⟨p, xs, h1, h2, rfl⟩
      exact ⟨p, h1, h2⟩
    · have kx : Kx H5 (upd H5 p (.lst (ks ++ [v]))) := Kx.lst (e5 _ _ hp)
      refine ⟨ks ++ [v], _, rfl, Ex.mut (ex.trans e5) np, kx.1 _ _ (e5 _ _ hga), (hgb.ex e5).kx kx, upd_same, ?_⟩
      rw [take_succ_of hr1, List.map_append]
      exact paired_app (L2.Paired.mapP hks fun _ _ q => (q.ex e5).kx kx) (.cons (hv.kx kx) .nil)
  · rintro σ' H4 ⟨ks, y3, rfl, ex, hga, hgb, hp, hks⟩
    rw [paired_len hgb, List.take_length] at hks
    refine q_asgP (P := fun w H' => ∃ p, w = .ref p ∧ H4 p = none ∧ H' p = some (.lst [])) (EvL.pf el_nil) fun v H5 e5 ⟨fo, ev, nfo, hfo⟩ => ?_
    subst ev
    have nfo0 : H fo = none := by cases q : H fo with | none => rfl | some u => rw [ex _ _ q] at nfo; cases nfo
    have x5 := ex.trans e5
    refine q_forTP (P := fun ys H' => Paired (IsNs H') ys (kernBits (rows.map (cbits n)) (2 * n))) (fun Ho eo Q kk => ?_) fun a ys H6 e6 ha hys => ?_
    · refine (ea_cons (ev_var rfl) (ea_cons (ev_op (ev_n (n := 2) rfl) (ev_var rfl) (rv_mulN (by decide))) ea_nil) : EvA (tCons (tVar 2) (tCons (tOp (rI CMul fun i j => .int (i * j)) (tC (.int 2)) (tVar 1)) tNil)) _ Ho [.ref p, nv (2 * n)]) Ho (Ex.refl _) _ fun Hp ep => ?_
      have e7 := (e5.trans eo).trans ep
      refine ⟨p, ks, rows.map (cbits n), 2 * n, rfl, e7 _ _ hp, L2.Paired.mapP hks fun _ _ q => q.ex e7, by rw [List.length_map]; exact hlen, by omega, fun b hb => ?_, fun v H' e' ⟨q, ys, h1, h2, h3⟩ => kk v H' (ep.trans e') ⟨q, ys, h1, h2, h3⟩⟩
      obtain ⟨r, _, rfl⟩ := List.mem_map.mp hb
      have := numOf_lt (cbits n r) (cbits_le n r)
      rwa [cbits_len] at this
    · have x6 := x5.trans e6
      unfold kernBits at hys
      have hcom : comRows n rows = (kern ((rows.map (cbits n)).map numOf) (2 * n)).map (rowM n) := rfl
      generalize hL : kern ((rows.map (cbits n)).map numOf) (2 * n) = L at *
      have hyl := paired_len hys
      rw [List.length_map] at hyl
      have hL1 : L.length ≤ 2 * n := by
        have := kern_len (L := (rows.map (cbits n)).map numOf) (w := 2 * n) fun m hm => by
          obtain ⟨b, hb, rfl⟩ := List.mem_map.mp hm
          obtain ⟨r, _, rfl⟩ := List.mem_map.mp hb
          have := numOf_lt (cbits n r) (cbits_le n r)
          rwa [cbits_len] at this
        rw [hL] at this
        omega
      refine ⟨fun i σ' H' => ∃ fs y5, σ' = [some v1, some (nv n), some (.ref p), y3, some (.ref fo), y5, none, none] ∧ Ex H H' ∧ H' a = some (.tup ys) ∧ Paired (IsNs H') ys (L.map fun m => bitsOf m (2 * n)) ∧ H' fo = some (.lst fs) ∧ PRs K n H' fs ((L.take i).map (rowM n)), ⟨[], _, rfl, x6, ha, hys, e6 _ _ hfo, .nil⟩, fun i σ' H' _ ⟨_, _, _, _, h, _⟩ => h, ?_, ?_⟩
      · rintro i x σ' Ha hx ⟨fs, y5, rfl, ex, ha, hys, hfo, hfs⟩
        obtain ⟨b, hb, tq, rfl, htq⟩ := paired_at hys hx
        obtain ⟨m, hm, rfl⟩ := map_at hb
        have hi : i < L.length := (List.getElem?_eq_some_iff.mp hm).1
        have hfl := paired_len hfs
        rw [List.length_map, List.length_take] at hfl
        refine s_appP (P := fun v H' => IsPR K n H' v (rowM n m)) hfo (ev_var rfl) (evp_mkPauli (s := 0) (cs := letN (rowM n m) n) (ev_join1 (cs := letN (rowM n m) n) ev_c ?_ (by rw [letN_len]; omega)) (by omega) (letN_ne hn1) (by rw [letN_len]; omega) (letN_LC _ _)) (by omega) fun v H7 e7 hv => ?_
        · have e : (letN (rowM n m) n).map (fun c => V.str ⟨#[c]⟩) = (List.range n).map fun k => V.str ⟨#[lc ((rowM n m).x >>> k &&& 1) ((rowM n m).z >>> k &&& 1)]⟩ := by
            unfold letN; rw [List.map_map]; rfl
          rw [e]
          refine el_rng _ (ea_cons (ev_var rfl) ea_nil) (by omega) (fun x => rfl) fun k H1 e1 hk => ?_
          have g1 := e1 _ _ htq
          have bx : (rowM n m).x >>> k &&& 1 = m >>> (2 * n - 1 - k) &&& 1 := by
            show bsum _ n >>> k &&& 1 = _
            rw [bsum_bit _ n k hk, bit_if]
          have bz : (rowM n m).z >>> k &&& 1 = m >>> (n - 1 - k) &&& 1 := by
            show bsum _ n >>> k &&& 1 = _
            rw [bsum_bit _ n k hk, bit_if]
          have at1 : ((bitsOf m (2 * n)).map nv)[k]? = some (nv ((rowM n m).x >>> k &&& 1)) := by
            unfold bitsOf
            rw [List.map_map, List.getElem?_map, List.getElem?_range (by omega), bx]; rfl
          have at2 : ((bitsOf m (2 * n)).map nv)[n + k]? = some (nv ((rowM n m).z >>> k &&& 1)) := by
            unfold bitsOf
            rw [List.map_map, List.getElem?_map, List.getElem?_range (by omega), bz, show n - 1 - k = 2 * n - 1 - (n + k) by omega]; rfl
          exact ev_op (y := .int ((((rowM n m).x >>> k &&& 1) + 2 * ((rowM n m).z >>> k &&& 1) : Nat) : Int)) ev_c (ev_op (ev_op (ev_var rfl) (ev_var rfl) (rv_ixT (st_of g1) (atI_nat at1))) (ev_op (ev_n (n := 2) rfl) (ev_op (ev_var rfl) (ev_op (ev_var rfl) (ev_var rfl) rv_addN) (rv_ixT (st_of g1) (atI_nat at2))) (rv_mulN (by decide))) rv_addN) (rv_signs (by decide +kernel) (lc_at (bit_le _ _) (bit_le _ _)))
        · have kx : Kx H7 (upd H7 fo (.lst (fs ++ [v]))) := Kx.lst (e7 _ _ hfo)
          refine ⟨fs ++ [v], _, rfl, Ex.mut (ex.trans e7) nfo0, kx.1 _ _ (e7 _ _ ha), L2.Paired.mapP hys fun _ _ q => (q.ex e7).kx kx, upd_same, ?_⟩
          rw [take_succ_of hm, List.map_append]
          exact paired_app ((hfs.ex e7).kx kx) (.cons (hv.kx kx) .nil)
      · rintro σ' H7 ⟨fs, y5, rfl, ex, ha, hys, hfo, hfs⟩
        rw [hyl, List.take_length] at hfs
        refine s_retP ((evp_tupleL (P := fun xs H => PRs K n H xs (comRows n rows)) (fun _ _ _ e q => q.kx e) (te := tVar 4) fun H8 e8 Q kk => ev_var rfl H8 (Ex.refl _) _ fun H9 e9 => kk _ H9 e9 ⟨fo, fs, rfl, e9 _ _ (e8 _ _ hfo), ?_⟩)) fun v H8 e8 hv => k v H8 (ex.trans e8) hv
        rw [hcom]
        exact hfs.ex (e8.trans e9)
end
end Kp
end
section
set_option maxHeartbeats 4000000
namespace Kp
open PySem PySem.Spec PyProof.Rows L2 Evl
local macro_rules | `(tactic| walk_at "ht") => `(tactic| first | assumption | solve_by_elim (config := { maxDepth := 12 }))
local macro_rules | `(tactic| walk_at "ev") => `(tactic| repeat' (first
  | exact ea_nil
  | exact ev_var rfl
  | exact ev_n (n := 0) rfl | exact ev_n (n := 1) rfl | exact ev_n (n := 2) rfl
  | exact rv_andN | exact rv_xorN | exact rv_orN | exact rv_addN | exact rv_shrN | (exact rv_mulN (by decide)) | exact rv_eqN | exact rv_neN | exact rv_ltN
  | (refine' rv_ixT (st_of (by walk_at "ht")) (by rfl))
  | walk_at "evx"
  | refine' ev_op ?_ ?_ ?_
  | refine' ea_cons ?_ ?_))
/-! ### the pen -/
/-- the pen's dict: cells, at, digits, count, fold -/
structure PenE (H : Hp) (p : Addr) (es : List (Key × V)) (c : Addr) (cs : List Int) (a : Nat) (d : Int) (n f : Nat) : Prop where
  p : H p = some (.dK es)
  len : es.length ≤ 100
  cells : valV es (.inr "cells") = some (.ref c)
  c : H c = some (.lst (cs.map V.int))
  at_ : valV es (.inr "at") = some (nv a)
  digits : valV es (.inr "digits") = some (.int d)
  count : valV es (.inr "count") = some (nv n)
  fold : valV es (.inr "fold") = some (nv f)
theorem putK_len {es : List (Key × V)} {k : Key} {x v : V} (h : valV es k = some x) : (putK es k v).length = es.length := by
  unfold putK
  rw [valV_any, h]
  show (List.map _ es).length = _
  rw [List.length_map]
def PenAt (H : Hp) (p c : Addr) (N : Nat) : Prop := ∃ es cs a d n f, PenE H p es c cs a d n f ∧ 0 ≤ d ∧ n ≤ N ∧ f < 2 ^ 32
theorem PenAt.mono {H : Hp} {p c : Addr} {N M : Nat} (h : PenAt H p c N) (hm : N ≤ M) : PenAt H p c M := by
  obtain ⟨es, cs, a, d, n, f, E, h1, h2, h3⟩ := h
  exact ⟨es, cs, a, d, n, f, E, h1, by omega, h3⟩
theorem PenE.ex {H H' : Hp} {p : Addr} {es : List (Key × V)} {c : Addr} {cs : List Int} {a : Nat} {d : Int} {n f : Nat} (E : PenE H p es c cs a d n f) (e : Ex H H') : PenE H' p es c cs a d n f :=
  ⟨e _ _ E.p, E.len, E.cells, e _ _ E.c, E.at_, E.digits, E.count, E.fold⟩
section
variable {H H' : Hp} {p c q : Addr} {N : Nat} {xs : List V}
theorem PenAt.ex (h : PenAt H p c N) (e : Ex H H') : PenAt H' p c N := by
  obtain ⟨es, cs, a, d, n, f, E, h⟩ := h
  exact ⟨es, cs, a, d, n, f, E.ex e, h⟩
theorem PenAt.ne (h : PenAt H p c N) (hq : H q = some (.lst xs)) : q ≠ p := by
  obtain ⟨es, cs, a, d, n, f, E, h⟩ := h
  rintro rfl
  rw [E.p] at hq; cases hq
theorem PenAt.new (h : PenAt H p c N) (hq : H q = none) : q ≠ p ∧ q ≠ c := by
  obtain ⟨es, cs, a, d, n, f, E, h⟩ := h
  exact ⟨(by rintro rfl; rw [E.p] at hq; cases hq), (by rintro rfl; rw [E.c] at hq; cases hq)⟩
theorem PenAt.kx (h : PenAt H p c N) (b : ExB p H H') : Kx H H' := by
  obtain ⟨es, cs, a, d, n, f, E, h⟩ := h
  exact b.kxd E.p
theorem PenAt.lst (h : PenAt H p c N) (b : ExB p H H') (hq : H q = some (.lst xs)) : H' q = some (.lst xs) := b _ _ (h.ne hq) hq
/-- an other object is written -/
theorem PenAt.upd (h : PenAt H p c N) (b : ExB q H H') (nq : q ≠ p) (nc : q ≠ c) : PenAt H' p c N := by
  obtain ⟨es, cs, a, d, n, f, E, h⟩ := h
  exact ⟨es, cs, a, d, n, f, ⟨b _ _ (Ne.symm nq) E.p, E.len, E.cells, b _ _ (Ne.symm nc) E.c, E.at_, E.digits, E.count, E.fold⟩, h⟩
end
section
variable {P : Program} {w : World} {K : PySem.W.Frag} {mg : Str → Option Value} {base : Heap}
section
variable {σ : L2.St} {H H' : Hp} {ta tb tc td te to tl tv tx : TE} {t u : TT} {x y z v : V} {D : Ends} {tz tu : TS} {g : TG} {p c : Addr} {es : List (Key × V)} {cs : List Int} {a n f : Nat} {d : Int}
theorem ev_dgetS {key : Str} (hd : Ev td σ H (.ref p)) (h : H p = some (.dK es)) (hv : valV es (.inr key) = some v) : Ev (tDGet td (tC (.str key))) σ H v := fun H1 e Q k => by
  refine hd H1 e _ fun H2 e2 => ?_
  have g := DGet.k (k := .inr key) ((e.trans e2) _ _ h)
  rw [hv] at g
  exact ⟨p, v, rfl, g, k H2 e2⟩
theorem q_dputS {key : Str} (hv : Ev tv σ H v) (hd : ∀ H1, Ex H H1 → Ev td σ H1 (.ref p)) (h : H p = some (.dK es)) (hl : es.length < 100000) (kk : ∀ Hf, ExB p H Hf → Hf p = some (.dK (putK es (.inr key) v)) → tz D σ Hf) :
    tSeq (sDPut td (tC (.str key)) tv) tz D σ H := by
  unfold tSeq sDPut
  refine hv H (Ex.refl _) _ fun H1 e1 => hd H1 e1 H1 (Ex.refl _) _ fun H2 e2 => ?_
  exact ⟨p, _, rfl, DPut.k (k := .inr key) ((e1.trans e2) _ _ h) (sz_lt hl), kk _ ((ExB.of (e1.trans e2)).trans ExB.upd) upd_same⟩
theorem s_dputS {key : Str} (hv : Ev tv σ H v) (hd : ∀ H1, Ex H H1 → Ev td σ H1 (.ref p)) (h : H p = some (.dK es)) (hl : es.length < 100000) (kk : ∀ Hf, ExB p H Hf → Hf p = some (.dK (putK es (.inr key) v)) → D.nx σ Hf) :
    sDPut td (tC (.str key)) tv D σ H := q_dputS (tz := fun D σ H => D.nx σ H) hv hd h hl kk

theorem PenE.put_at {y : Nat} (E : PenE H p es c cs a d n f) (b : ExB p H H') (hf : H' p = some (.dK (putK es (.inr "at") (nv y)))) : PenE H' p (putK es (.inr "at") (nv y)) c cs y d n f := by
  refine ⟨hf, by rw [putK_len E.at_]; exact E.len, ?_, b _ _ (by intro z; have := E.c; rw [z, E.p] at this; cases this) E.c, ?_, ?_, ?_, ?_⟩
  · rw [valV_put, if_neg (by decide +kernel)]; exact E.cells
  · rw [valV_put, if_pos rfl]
  · rw [valV_put, if_neg (by decide +kernel)]; exact E.digits
  · rw [valV_put, if_neg (by decide +kernel)]; exact E.count
  · rw [valV_put, if_neg (by decide +kernel)]; exact E.fold
theorem q_pen_at {y : Nat} (E : PenE H p es c cs a d n f) (hv : Ev tv σ H (nv y)) (hd : ∀ H1, Ex H H1 → Ev td σ H1 (.ref p)) (kk : ∀ Hf, ExB p H Hf → PenE Hf p (putK es (.inr "at") (nv y)) c cs y d n f → tz D σ Hf) :
    tSeq (sDPut td (tC (.str "at")) tv) tz D σ H := q_dputS hv hd E.p (by have := E.len; omega) fun Hf b hf => kk Hf b (E.put_at b hf)
theorem s_pen_at {y : Nat} (E : PenE H p es c cs a d n f) (hv : Ev tv σ H (nv y)) (hd : ∀ H1, Ex H H1 → Ev td σ H1 (.ref p)) (kk : ∀ Hf, ExB p H Hf → PenE Hf p (putK es (.inr "at") (nv y)) c cs y d n f → D.nx σ Hf) :
    sDPut td (tC (.str "at")) tv D σ H := s_dputS hv hd E.p (by have := E.len; omega) fun Hf b hf => kk Hf b (E.put_at b hf)
theorem PenE.put_digits {y : Int} (E : PenE H p es c cs a d n f) (b : ExB p H H') (hf : H' p = some (.dK (putK es (.inr "digits") (.int y)))) : PenE H' p (putK es (.inr "digits") (.int y)) c cs a y n f := by
  refine ⟨hf, by rw [putK_len E.digits]; exact E.len, ?_, b _ _ (by intro z; have := E.c; rw [z, E.p] at this; cases this) E.c, ?_, ?_, ?_, ?_⟩
  · rw [valV_put, if_neg (by decide +kernel)]; exact E.cells
  · rw [valV_put, if_neg (by decide +kernel)]; exact E.at_
  · rw [valV_put, if_pos rfl]
  · rw [valV_put, if_neg (by decide +kernel)]; exact E.count
  · rw [valV_put, if_neg (by decide +kernel)]; exact E.fold
theorem q_pen_digits {y : Int} (E : PenE H p es c cs a d n f) (hv : Ev tv σ H (.int y)) (hd : ∀ H1, Ex H H1 → Ev td σ H1 (.ref p)) (kk : ∀ Hf, ExB p H Hf → PenE Hf p (putK es (.inr "digits") (.int y)) c cs a y n f → tz D σ Hf) :
    tSeq (sDPut td (tC (.str "digits")) tv) tz D σ H := q_dputS hv hd E.p (by have := E.len; omega) fun Hf b hf => kk Hf b (E.put_digits b hf)
theorem s_pen_digits {y : Int} (E : PenE H p es c cs a d n f) (hv : Ev tv σ H (.int y)) (hd : ∀ H1, Ex H H1 → Ev td σ H1 (.ref p)) (kk : ∀ Hf, ExB p H Hf → PenE Hf p (putK es (.inr "digits") (.int y)) c cs a y n f → D.nx σ Hf) :
    sDPut td (tC (.str "digits")) tv D σ H := s_dputS hv hd E.p (by have := E.len; omega) fun Hf b hf => kk Hf b (E.put_digits b hf)
theorem PenE.put_count {y : Nat} (E : PenE H p es c cs a d n f) (b : ExB p H H') (hf : H' p = some (.dK (putK es (.inr "count") (nv y)))) : PenE H' p (putK es (.inr "count") (nv y)) c cs a d y f := by
  refine ⟨hf, by rw [putK_len E.count]; exact E.len, ?_, b _ _ (by intro z; have := E.c; rw [z, E.p] at this; cases this) E.c, ?_, ?_, ?_, ?_⟩
  · rw [valV_put, if_neg (by decide +kernel)]; exact E.cells
  · rw [valV_put, if_neg (by decide +kernel)]; exact E.at_
  · rw [valV_put, if_neg (by decide +kernel)]; exact E.digits
  · rw [valV_put, if_pos rfl]
  · rw [valV_put, if_neg (by decide +kernel)]; exact E.fold
theorem q_pen_count {y : Nat} (E : PenE H p es c cs a d n f) (hv : Ev tv σ H (nv y)) (hd : ∀ H1, Ex H H1 → Ev td σ H1 (.ref p)) (kk : ∀ Hf, ExB p H Hf → PenE Hf p (putK es (.inr "count") (nv y)) c cs a d y f → tz D σ Hf) :
    tSeq (sDPut td (tC (.str "count")) tv) tz D σ H := q_dputS hv hd E.p (by have := E.len; omega) fun Hf b hf => kk Hf b (E.put_count b hf)
theorem s_pen_count {y : Nat} (E : PenE H p es c cs a d n f) (hv : Ev tv σ H (nv y)) (hd : ∀ H1, Ex H H1 → Ev td σ H1 (.ref p)) (kk : ∀ Hf, ExB p H Hf → PenE Hf p (putK es (.inr "count") (nv y)) c cs a d y f → D.nx σ Hf) :
    sDPut td (tC (.str "count")) tv D σ H := s_dputS hv hd E.p (by have := E.len; omega) fun Hf b hf => kk Hf b (E.put_count b hf)
theorem PenE.put_fold {y : Nat} (E : PenE H p es c cs a d n f) (b : ExB p H H') (hf : H' p = some (.dK (putK es (.inr "fold") (nv y)))) : PenE H' p (putK es (.inr "fold") (nv y)) c cs a d n y := by
  refine ⟨hf, by rw [putK_len E.fold]; exact E.len, ?_, b _ _ (by intro z; have := E.c; rw [z, E.p] at this; cases this) E.c, ?_, ?_, ?_, ?_⟩
  · rw [valV_put, if_neg (by decide +kernel)]; exact E.cells
  · rw [valV_put, if_neg (by decide +kernel)]; exact E.at_
  · rw [valV_put, if_neg (by decide +kernel)]; exact E.digits
  · rw [valV_put, if_neg (by decide +kernel)]; exact E.count
  · rw [valV_put, if_pos rfl]
theorem q_pen_fold {y : Nat} (E : PenE H p es c cs a d n f) (hv : Ev tv σ H (nv y)) (hd : ∀ H1, Ex H H1 → Ev td σ H1 (.ref p)) (kk : ∀ Hf, ExB p H Hf → PenE Hf p (putK es (.inr "fold") (nv y)) c cs a d n y → tz D σ Hf) :
    tSeq (sDPut td (tC (.str "fold")) tv) tz D σ H := q_dputS hv hd E.p (by have := E.len; omega) fun Hf b hf => kk Hf b (E.put_fold b hf)
theorem s_pen_fold {y : Nat} (E : PenE H p es c cs a d n f) (hv : Ev tv σ H (nv y)) (hd : ∀ H1, Ex H H1 → Ev td σ H1 (.ref p)) (kk : ∀ Hf, ExB p H Hf → PenE Hf p (putK es (.inr "fold") (nv y)) c cs a d n y → D.nx σ Hf) :
    sDPut td (tC (.str "fold")) tv D σ H := s_dputS hv hd E.p (by have := E.len; omega) fun Hf b hf => kk Hf b (E.put_fold b hf)
end
theorem q_parLL {σ : L2.St} {H : Hp} {te : TE} {Dd : Ends} {tz : TS} {i j : Nat} {xs : List V} (h : EvP te σ H (fun v H' => ∃ p, v = .ref p ∧ H p = none ∧ H' p = some (.lst xs))) (k : ∀ p d H', Ex H H' → H p = none → H d = none → p ≠ d → H' p = some (.lst xs) → H' d = some (.lst []) → tz Dd ((σ.set i (some (.ref p))).set j (some (.ref d))) H') : tSeq (tPar i j (tCons te (tCons (tLst tNil) tNil))) tz Dd σ H := by
  unfold tSeq tPar
  refine h H (Ex.refl _) _ fun v H1 e1 ⟨p, ev, np, hp⟩ => ?_
  subst ev
  refine el_nil H1 (Ex.refl _) _ fun d H2 nd e2 hd => ?_
  have hpd : p ≠ d := by rintro rfl; rw [hp] at nd; cases nd
  exact ⟨.ref p, .ref d, rfl, k p d H2 (e1.trans e2) np (by cases q : H d with | none => rfl | some u => rw [e1 _ _ q] at nd; cases nd) hpd (e2 _ _ hp) hd⟩
/-! ### _law_draw -/
def sp_law_draw : L2.Sp := fun vs H Q _ => ∃ (p c : Addr) (m N : Nat), vs = [.ref p, nv m] ∧ 0 < m ∧ m < 1073741824 ∧ PenAt H p c N ∧ N ≤ 1000000000 ∧ ∀ (r : Nat) H', r < m → ExB p H H' → PenAt H' p c (N + 1) → Q (nv r) H'
abbrev N_law_draw : List Str := ["_law_pen_here", "_law_many", "_law_cell", "_law_digit", "_law_mixed"]
theorem sc_law_draw : FnScope N_law_draw ["_law_pen_here", "_law_many"] (defScope s_law_draw) := ⟨rfl, rfl, rfl, by decide +kernel, rfl, by decide +kernel, by decide +kernel⟩
theorem o_law_draw (T : Tx K mg) : OkF P w K mg base CX0 1 "_law_draw" ["_law_pen_here", "_law_many"] sp_law_draw := by
  refine okf T d_law_draw "_law_draw" 34 25 rfl rfl rfl sc_law_draw (fun vs H Q E h => ?_) (fun _ _ _ _ _ _ us hl => match us, hl with | [_, _], _ => rfl) (fun f cdv A outer s H vs Q E hr h => ?_)
  · (obtain ⟨_, _, _, _, rfl, _⟩ := h; rfl)
  obtain ⟨p, c, m, N, rfl, hm, hm2, ⟨es, cs, a, d, n, f, E, hd, hn, hf⟩, hN, k⟩ := h
  refine ⟨_, (pss_cons (ps_dput (hu_ hr) (pv 0) pe_str (pe_op op_add (pe_dget (hu_ hr) (pv 0) pe_str (fun _ _ => rfl)) pe_int) rfl)
      (Evl.pss_cut (ps_if (PW.pt (pw_and (pt_cmpR op_eq (pe_dget (hu_ hr) (pv 0) pe_str (fun _ _ => rfl)) pe_int (nomark _)) (pw_and1 (pt_cmpR op_lt (pe_dget (hu_ hr) (pv 0) pe_str (fun _ _ => rfl)) (pe_callB (call_lenK K) (by rfl) T.m_len PySem.boot_len (pa_cons (pe_dget (hu_ hr) (pv 0) pe_str (fun _ _ => rfl)) pa_nil)) (nomark _))))) (pss_cons (ps_set (i := 2) sc_law_draw.nd rfl (Or.inl rfl) (pe_ix (ix_listK K) (pe_dget (hu_ hr) (pv 0) pe_str (fun _ _ => rfl)) (pe_dget (hu_ hr) (pv 0) pe_str (fun _ _ => rfl)) (fun _ _ => rfl)))
        (pss_cons (ps_dput (hu_ hr) (pv 0) pe_str (pe_op op_add (pe_dget (hu_ hr) (pv 0) pe_str (fun _ _ => rfl)) pe_int) rfl)
        (pss_one (ps_if (pt_cmpR op_ge (pv 2) (pe_op op_pow pe_int pe_int) (nomark _)) (pss_one (ps_dput (hu_ hr) (pv 0) pe_str (pe_op op_sub (pv 2) (pe_op op_pow pe_int pe_int)) rfl)) (pss_one (ps_dput (hu_ hr) (pv 0) pe_str (pe_op op_mod (pe_callTy call_intK (by rfl) T.m_int (by decide +kernel) (pa_cons (pe_op op_add (pe_op op_mul (pe_dget (hu_ hr) (pv 0) pe_str (fun _ _ => rfl)) pe_int) (pv 2)) pa_nil)) pe_int) rfl)))))) pss_nil)
      (pss_cons (ps_if (pt_cmpR op_gt (pe_dget (hu_ hr) (pv 0) pe_str (fun _ _ => rfl)) pe_int (nomark _)) (pss_cons (ps_set (i := 3) sc_law_draw.nd rfl (Or.inl rfl) (pe_op op_mod (pe_callTy call_intK (by rfl) T.m_int (by decide +kernel) (pa_cons (pe_dget (hu_ hr) (pv 0) pe_str (fun _ _ => rfl)) pa_nil)) (pv 1)))
        (pss_cons (ps_dput (hu_ hr) (pv 0) pe_str (pe_op op_fdiv (pe_dget (hu_ hr) (pv 0) pe_str (fun _ _ => rfl)) (pv 1)) rfl)
        (pss_one (ps_ret (pv 3))))) pss_nil)
      (pss_cons (ps_set (i := 4) sc_law_draw.nd rfl (Or.inl rfl) (pe_op op_add (pe_op op_add (pe_dget (hu_ hr) (pv 0) pe_str (fun _ _ => rfl)) (pe_op op_mul (pe_dget (hu_ hr) (pv 0) pe_str (fun _ _ => rfl)) pe_int)) pe_int))
      (pss_one (ps_ret (pe_op op_mod (pe_op op_fdiv (pe_callTy call_intK (by rfl) T.m_int (by decide +kernel) (pa_cons (pe_op op_mod (pe_op op_pow (pv 4) pe_int) pe_int) pa_nil)) pe_int) (pv 1)))))))), ?_⟩
  refine q_pen_count (y := n + 1) E (ev_op (ev_dgetS (ev_var rfl) E.p E.count) (ev_n (n := 1) rfl) rv_addN) (fun _ _ => ev_var rfl) fun H1 b1 E1 => ?_
  generalize putK es (.inr "count") (nv (n + 1)) = es1 at E1
  refine q_cut (M := fun σ' H' => ∃ y2 es2 a2 d2 f2, σ' = [some (.ref p), some (nv m), y2, none, none] ∧ ExB p H H' ∧ PenE H' p es2 c cs a2 d2 (n + 1) f2 ∧ 0 ≤ d2 ∧ f2 < 2 ^ 32) ?_ ?_
  · refine s_when (b := (decide (d = 0) && decide (a < cs.length))) (et_and (et_test (ev_is (ev_op (ev_dgetS (ev_var rfl) E1.p E1.digits) ev_c (rv_eq rfl)) (by
      congr 1
      by_cases q : d = 0
      · subst q; rfl
      · rw [decide_eq_false q, decide_eq_false]
        intro z; injection z with z; exact q z))) fun _ => et_test (ev_op (ev_dgetS (ev_var rfl) E1.p E1.at_) (ev_is (ev_lenL (ev_dgetS (ev_var rfl) E1.p E1.cells) (sq_of E1.c)) (by rw [List.length_map])) rv_ltN)) (fun hc H2 e2 => ?_) fun hc H2 e2 => ⟨_, es1, a, d, f, rfl, b1.trans (.of e2), E1.ex e2, hd, hf⟩
    have ha : a < cs.length := by
      rw [Bool.and_eq_true, decide_eq_true_eq, decide_eq_true_eq] at hc
      exact hc.2
    have E2 := E1.ex e2
    refine q_asg (v := .int cs[a]) (ev_op (ev_dgetS (ev_var rfl) E2.p E2.cells) (ev_dgetS (ev_var rfl) E2.p E2.at_) (rv_ixL (sq_of E2.c) (atI_nat (by rw [List.getElem?_map, List.getElem?_eq_getElem ha]; rfl)))) fun H3 e3 => ?_
    have E3 := E2.ex e3
    refine q_pen_at (y := a + 1) E3 (ev_op (ev_dgetS (ev_var rfl) E3.p E3.at_) (ev_n (n := 1) rfl) rv_addN) (fun _ _ => ev_var rfl) fun H4 b4 E4 => ?_
    generalize putK es1 (.inr "at") (nv (a + 1)) = es4 at E4
    generalize cs[a] = cell at *
    have bb : ExB p H H4 := ((b1.trans (.of e2)).trans (.of e3)).trans b4
    have pw : ∀ {σ : L2.St} {H : Hp}, Ev (tOp (rI CPow fun i j => .int (i ^ j.toNat)) (tC (.int 10)) (tC (.int 18))) σ H (.int (10 ^ 18)) := fun {σ H} => ev_op ev_c ev_c (rv_I (i := 10) (j := 18) ⟨by decide, by decide, by decide⟩)
    refine s_if (b := decide ((10 ^ 18 : Int) ≤ cell)) (et_test (ev_op (ev_var rfl) pw rv_I0)) (fun hc H5 e5 => ?_) fun hc H5 e5 => ?_
    · have E5 := E4.ex e5
      have hge := of_decide_eq_true hc
      refine s_pen_digits (y := cell - 10 ^ 18) E5 (ev_op (ev_var rfl) pw rv_I0) (fun _ _ => ev_var rfl) fun H6 b6 E6 => ?_
      exact ⟨_, _, _, _, _, rfl, (bb.trans (.of e5)).trans b6, E6, by omega, hf⟩
    · have E5 := E4.ex e5
      have hnn : 0 ≤ ((f : Int) * 69069 + cell) % 2147483587 := Int.emod_nonneg _ (by decide)
      have hlt : ((f : Int) * 69069 + cell) % 2147483587 < 2147483587 := Int.emod_lt_of_pos _ (by decide)
      refine s_pen_fold (y := (((f : Int) * 69069 + cell) % 2147483587).toNat) E5 (ev_is (ev_op (ev_intI (ev_op (ev_op (ev_dgetS (ev_var rfl) E5.p E5.fold) ev_c (rv_I (i := (f : Int)) (j := 69069) (.inr (by decide)))) (ev_var rfl) rv_I0)) ev_c (rv_I (j := 2147483587) (by decide))) ?_) (fun _ _ => ev_var rfl) fun H6 b6 E6 => ?_
      · show V.int _ = V.int _
        rw [Int.toNat_of_nonneg hnn]
      · exact ⟨_, _, _, _, _, rfl, (bb.trans (.of e5)).trans b6, E6, hd, by omega⟩
  rintro σ' H2 ⟨y2, es2, a2, d2, f2, rfl, b2, E2, hd2, hf2⟩
  have hmi : (0 : Int) < (m : Int) := by omega
  refine q_when (b := decide (0 < d2)) (et_test (ev_op (ev_dgetS (ev_var rfl) E2.p E2.digits) ev_c rv_I0)) (fun hc H3 e3 => ?_) fun hc H3 e3 => ?_
  · have E3 := E2.ex e3
    refine q_asg (v := .int (d2 % (m : Int))) (ev_op (ev_intI (ev_dgetS (ev_var rfl) E3.p E3.digits)) (ev_var rfl) (rv_I (by omega))) fun H4 e4 => ?_
    have E4 := E3.ex e4
    refine q_pen_digits (y := d2 / (m : Int)) E4 (ev_op (ev_dgetS (ev_var rfl) E4.p E4.digits) (ev_var rfl) (rv_I ⟨hmi, by omega⟩)) (fun _ _ => ev_var rfl) fun H5 b5 E5 => ?_
    have hnn : 0 ≤ d2 % (m : Int) := Int.emod_nonneg _ (by omega)
    have hlt : d2 % (m : Int) < (m : Int) := Int.emod_lt_of_pos _ hmi
    refine s_ret (v := nv (d2 % (m : Int)).toNat) (ev_is (ev_var rfl) (by show V.int _ = V.int _; rw [Int.toNat_of_nonneg hnn])) fun H6 e6 => k _ H6 (by omega) (((b2.trans (.of (e3.trans e4))).trans b5).trans (.of e6)) ⟨_, _, _, _, _, _, E5.ex e6, Int.ediv_nonneg (by omega) (by omega), by omega, hf2⟩
  · have E3 := E2.ex e3
    refine q_asg (v := nv (f2 + (n + 1) * 7907 + 37)) (ev_op (ev_op (ev_dgetS (ev_var rfl) E3.p E3.fold) (ev_op (ev_dgetS (ev_var rfl) E3.p E3.count) (ev_n (n := 7907) rfl) (rv_mulN' (by decide))) rv_addN) (ev_n (n := 37) rfl) rv_addN) fun H4 e4 => ?_
    generalize hM : f2 + (n + 1) * 7907 + 37 = M
    have hM2 : M < 2 ^ 64 := by omega
    have h1 : 0 ≤ ((M : Int) ^ 17) % 2305843009213693951 := Int.emod_nonneg _ (by decide)
    have h2 : 0 ≤ ((M : Int) ^ 17) % 2305843009213693951 / 128 := Int.ediv_nonneg h1 (by decide)
    have hnn : 0 ≤ ((M : Int) ^ 17) % 2305843009213693951 / 128 % (m : Int) := Int.emod_nonneg _ (by omega)
    have hlt : ((M : Int) ^ 17) % 2305843009213693951 / 128 % (m : Int) < (m : Int) := Int.emod_lt_of_pos _ hmi
    refine s_ret (v := nv (((M : Int) ^ 17) % 2305843009213693951 / 128 % (m : Int)).toNat) (ev_is (ev_op (ev_op (ev_intI (ev_op (ev_op (ev_var rfl) ev_c (rv_I (i := (M : Int)) (j := 17) ⟨by decide, by decide, by omega⟩)) ev_c (rv_I (j := 2305843009213693951) (by decide)))) ev_c (rv_I (j := 128) ⟨by decide, by decide⟩)) (ev_var rfl) (rv_I (by omega))) ?_) fun H6 e6 => k _ H6 (by omega) ((b2.trans (.of (e3.trans e4))).trans (.of e6)) ⟨_, _, _, _, _, _, (E3.ex e4).ex e6, hd2, by omega, hf2⟩
    show V.int _ = V.int _
    rw [Int.toNat_of_nonneg hnn]; rfl
/-- an expression that draws -/
def EvD (p : Addr) (te : TE) (σ : L2.St) (H : Hp) (P : V → Hp → Prop) : Prop := ∀ H1, Ex H H1 → ∀ Q : VK, (∀ v H2, ExB p H1 H2 → P v H2 → Q v H2) → te σ H1 Q
section
variable {σ : L2.St} {H H' : Hp} {ta tb tc td te to tl tv tx : TE} {t u : TT} {x y z v : V} {D : Ends} {tz tu : TS} {g : TG} {p c : Addr} {P : V → Hp → Prop} {N : Nat}
theorem q_asgD {i : Nat} (h : EvD p te σ H P) (k : ∀ v H1, ExB p H H1 → P v H1 → tz D (σ.set i (some v)) H1) : tSeq (tAsg te (gName i)) tz D σ H := h H (Ex.refl _) _ fun v H2 b p => k v H2 b p
theorem s_asgD {i : Nat} (h : EvD p te σ H P) (k : ∀ v H1, ExB p H H1 → P v H1 → D.nx (σ.set i (some v)) H1) : tAsg te (gName i) D σ H := h H (Ex.refl _) _ fun v H2 b p => k v H2 b p
theorem s_retD (h : EvD p te σ H P) (k : ∀ v H1, ExB p H H1 → P v H1 → D.rt v H1) : tRet te D σ H := h H (Ex.refl _) _ fun v H2 b p => k v H2 b p
theorem evd_op {r : R2} {P' : V → Hp → Prop} (ha : Ev ta σ H x) (hb : EvD p tb σ H P) (hr : ∀ y H1, ExB p H H1 → P y H1 → ∃ z, RV r x y H1 z ∧ ∀ H2, Ex H1 H2 → P' z H2) : EvD p (tOp r ta tb) σ H P' := fun H1 e Q k => by
  refine ha H1 e _ fun H2 e2 => hb H2 (e.trans e2) _ fun y H3 b3 p3 => ?_
  obtain ⟨z, rv, pz⟩ := hr y H3 ((ExB.of (e.trans e2)).trans b3) p3
  exact rv H3 (Ex.refl _) _ fun H4 e4 => k z H4 (((ExB.of e2).trans b3).trans (.of e4)) (pz H4 e4)
theorem evd_opL {r : R2} {P' : V → Hp → Prop} (ha : EvD p ta σ H P) (hb : ∀ x H1, ExB p H H1 → P x H1 → ∃ y z, Ev tb σ H1 y ∧ (∀ H2, Ex H1 H2 → RV r x y H2 z) ∧ ∀ H2, Ex H1 H2 → P' z H2) : EvD p (tOp r ta tb) σ H P' := fun H1 e Q k => by
  refine ha H1 e _ fun x H3 b3 p3 => ?_
  obtain ⟨y, z, hy, rv, pz⟩ := hb x H3 ((ExB.of e).trans b3) p3
  refine hy H3 (Ex.refl _) _ fun H4 e4 => rv H4 e4 H4 (Ex.refl _) _ fun H5 e5 => k z H5 ((b3.trans (.of e4)).trans (.of e5)) (pz H5 (e4.trans e5))
theorem EvD.imp {P' : V → Hp → Prop} (h : EvD p te σ H P) (hi : ∀ v H1, ExB p H H1 → P v H1 → P' v H1) : EvD p te σ H P' := fun H1 e Q k => h H1 e Q fun v H2 b q => k v H2 b (hi v H2 ((ExB.of e).trans b) q)
theorem evd_draw {E : XK} {m : Nat} (hp : Ev ta σ H (.ref p)) (hm : Ev tb σ H (nv m)) (pn : PenAt H p c N) (h0 : 0 < m) (h1 : m < 1073741824) (hN : N ≤ 1000000000) : EvD p (tCall sp_law_draw [] E (tCons ta (tCons tb tNil))) σ H (fun v H' => PenAt H' p c (N + 1) ∧ ∃ r, r < m ∧ v = nv r) := fun H1 e Q k => by
  refine (ea_cons hp (ea_cons hm ea_nil) : EvA (tCons ta (tCons tb tNil)) σ H _) H1 e _ fun H2 e2 => ?_
  exact ⟨p, c, m, N, rfl, h0, h1, pn.ex (e.trans e2), hN, fun r H' hr b pn' => k _ H' ((ExB.of e2).trans b) ⟨pn', r, hr, rfl⟩⟩
end
/-! ### _law_pick -/
def sp_law_pick : L2.Sp := fun vs H Q _ => ∃ (p c l : Addr) (xs : List V) (N : Nat), vs = [.ref p, .ref l] ∧ H l = some (.lst xs) ∧ xs ≠ [] ∧ xs.length ≤ 1000 ∧ PenAt H p c N ∧ N ≤ 1000000000 ∧ ∀ x H', x ∈ xs → ExB p H H' → PenAt H' p c (N + 1) → Q x H'
abbrev N_law_pick : List Str := ["_law_pen_here", "_law_some"]
theorem sc_law_pick : FnScope N_law_pick ["_law_pen_here", "_law_some"] (defScope s_law_pick) := ⟨rfl, rfl, rfl, by decide +kernel, rfl, by decide +kernel, by decide +kernel⟩
theorem o_law_pick (T : Tx K mg) : OkF P w K mg base CX0 2 "_law_pick" ["_law_pen_here", "_law_some"] sp_law_pick := by
  have o_law_draw : OkF P w K mg base CX0 1 "_law_draw" ["_law_pen_here", "_law_many"] sp_law_draw := o_law_draw T
  refine okf T d_law_pick "_law_pick" 35 26 rfl rfl rfl sc_law_pick (fun vs H Q E h => ?_) (fun _ _ _ _ _ _ us hl => match us, hl with | [_, _], _ => rfl) (fun f cdv A outer s H vs Q E hr h => ?_)
  · (obtain ⟨_, _, _, _, _, rfl, _⟩ := h; rfl)
  obtain ⟨p, c, l, xs, N, rfl, hl, hne, hlen, pn, hN, k⟩ := h
  refine ⟨_, (pss_one (ps_ret (pe_ix (ix_listK K) (pv 1) (pe_cl o_law_draw (hr.mono (by decide)) (by rfl) pass0 (pa_cons (pv 0) (pa_cons (pe_callB (call_lenK K) (by rfl) T.m_len PySem.boot_len (pa_cons (pv 1) pa_nil)) pa_nil))) (fun _ _ => rfl)))), ?_⟩
  have h0 : 0 < xs.length := List.length_pos_iff.mpr hne
  refine s_retD (p := p) (P := fun x H' => x ∈ xs ∧ PenAt H' p c (N + 1)) (evd_op (ev_var rfl) (evd_draw (m := xs.length) (ev_var rfl) (ev_lenL (ev_var rfl) (sq_of hl)) pn h0 (by omega) hN) ?_) fun v H1 b1 ⟨hv, pn1⟩ => k v H1 hv b1 pn1
  rintro y H1 b1 ⟨pn1, r, hr, rfl⟩
  exact ⟨xs[r], rv_ixL (sq_of (pn.lst b1 hl)) (atI_nat (List.getElem?_eq_getElem hr)), fun H2 e2 => ⟨List.getElem_mem hr, pn1.ex e2⟩⟩
/-! ### _law_shuffled -/
theorem erase_perm {α : Type} : ∀ {l : List α} {r : Nat} {y : α}, l[r]? = some y → (y :: l.eraseIdx r).Perm l
  | [], _, _, h => by simp at h
  | a :: l, 0, y, h => by simp at h; subst h; exact List.Perm.refl _
  | a :: l, r + 1, y, h => by
    have := erase_perm (l := l) (r := r) (y := y) (by simpa using h)
    rw [List.eraseIdx_cons_succ]
    exact (List.Perm.swap a y _).trans (this.cons a)
theorem perm_pop {α : Type} {l1 l2 xs : List α} {r : Nat} {y : α} (h : (l2 ++ l1).Perm xs) (hy : l1[r]? = some y) : ((l2 ++ [y]) ++ l1.eraseIdx r).Perm xs := by
  refine List.Perm.trans ?_ h
  rw [List.append_assoc]
  refine List.Perm.append_left l2 ?_
  exact erase_perm hy
def sp_law_shuffled : L2.Sp := fun vs H Q _ => ∃ (p c l : Addr) (xs : List V) (N : Nat), vs = [.ref p, .ref l] ∧ H l = some (.lst xs) ∧ xs.length ≤ 1000 ∧ PenAt H p c N ∧ N ≤ 900000000 ∧ ∀ q ys H', H q = none → ys.Perm xs → H' q = some (.lst ys) → ExB p H H' → PenAt H' p c (N + xs.length) → Q (.ref q) H'
abbrev N_law_shuffled : List Str := ["_law_pen_here", "_law_some", "_law_rest", "_law_found", "_law_lap"]
theorem sc_law_shuffled : FnScope N_law_shuffled ["_law_pen_here", "_law_some"] (defScope s_law_shuffled) := ⟨rfl, rfl, rfl, by decide +kernel, rfl, by decide +kernel, by decide +kernel⟩
theorem o_law_shuffled (T : Tx K mg) : OkF P w K mg base CX0 2 "_law_shuffled" ["_law_pen_here", "_law_some"] sp_law_shuffled := by
  have o_law_draw : OkF P w K mg base CX0 1 "_law_draw" ["_law_pen_here", "_law_many"] sp_law_draw := o_law_draw T
  refine okf T d_law_shuffled "_law_shuffled" 36 27 rfl rfl rfl sc_law_shuffled (fun vs H Q E h => ?_) (fun _ _ _ _ _ _ us hl => match us, hl with | [_, _], _ => rfl) (fun f cdv A outer s H vs Q E hr h => ?_)
  · (obtain ⟨_, _, _, _, _, rfl, _⟩ := h; rfl)
  obtain ⟨p, c, l, xs, N, rfl, hl, hlen, pn, hN, k⟩ := h
  refine ⟨_, (pss_cons (ps_par (i := 2) (j := 3) rfl sc_law_shuffled.nd rfl rfl (by decide) rfl rfl (pa_cons (pe_callTy (call_list_ofK K) (by rfl) T.m_list (by decide +kernel) (pa_cons (pv 1) pa_nil)) (pa_cons (pe_lst pa_nil) pa_nil)) (by rfl))
      (pss_cons (ps_for PassesOwn.never rfl (pi_range1 (by rfl) T.m_range (pa_cons (pe_callB (call_lenK K) (by rfl) T.m_len PySem.boot_len (pa_cons (pv 1) pa_nil)) pa_nil)) (pg_name (i := 4) sc_law_shuffled.nd rfl (Or.inl rfl))
        (pss_one (ps_expr (pe_bmK K PySem.F.plainAttrs_list PySem.F.slot_list_append PySem.F.type_list_append mt_append (pv 3) (pa_cons (pe_bmK K PySem.F.plainAttrs_list PySem.F.slot_list_pop PySem.F.type_list_pop mt_popAt (pv 2) (pa_cons (pe_cl o_law_draw (hr.mono (by decide)) (by rfl) pass0 (pa_cons (pv 0) (pa_cons (pe_callB (call_lenK K) (by rfl) T.m_len PySem.boot_len (pa_cons (pv 2) pa_nil)) pa_nil))) pa_nil)) pa_nil)))))
      (pss_one (ps_ret (pv 3))))), ?_⟩
  refine q_parLL (evp_listOf (ev_var rfl) (.inl (sq_of hl))) fun q1 q2 H1 e1 n1 n2 ne h1 h2 => ?_
  refine q_forR1 (n := ((xs.length : Nat) : Int)) (ea_cons (ev_lenL (ev_var rfl) (sq_of (e1 _ _ hl))) ea_nil) ⟨by omega, by omega⟩
    (fun i σ' H' => ∃ ys1 ys2 y4, σ' = [some (.ref p), some (.ref l), some (.ref q1), some (.ref q2), y4] ∧ H' q1 = some (.lst ys1) ∧ H' q2 = some (.lst ys2) ∧ (ys2 ++ ys1).Perm xs ∧ ys2.length = i ∧ ExB p H H' ∧ PenAt H' p c (N + i))
    (fun H2 e2 => ⟨xs, [], _, rfl, e2 _ _ h1, e2 _ _ h2, List.Perm.refl _, rfl, .of (e1.trans e2), pn.ex (e1.trans e2)⟩) ?_ ?_
  · rintro i σ' H' hi ⟨ys1, ys2, y4, rfl, a1, a2, hperm, hlen2, bx, pn'⟩
    have hpl := hperm.length_eq
    rw [List.length_append] at hpl
    have m1 : q1 ≠ p ∧ q1 ≠ c := pn.new n1
    have m2 : q2 ≠ p ∧ q2 ≠ c := pn.new n2
    unfold tDrop tBM
    refine (ev_var rfl : Ev (tVar 3) _ H' (.ref q2)) H' (Ex.refl _) _ fun H2 e2 => ⟨Or.inl ⟨rfl, _, sq_of (e2 _ _ a2)⟩, ?_⟩
    unfold tCons
    refine (ev_var rfl : Ev (tVar 2) _ H' (.ref q1)) H2 e2 _ fun H3 e3 => ⟨Or.inl ⟨rfl, _, sq_of ((e2.trans e3) _ _ a1)⟩, ?_⟩
    have pn3 := pn'.ex (e2.trans e3)
    have a13 := (e2.trans e3) _ _ a1
    have a23 := (e2.trans e3) _ _ a2
    refine (evd_draw (m := ys1.length) (N := N + i) (ev_var (i := 0) rfl) (ev_lenL (ev_var (i := 2) rfl) (sq_of a13)) pn3 (by omega) (by omega) (by omega)) H3 (Ex.refl _) _ fun v H4 b4 ⟨pn4, r, hr, ev⟩ => ?_
    subst ev
    have a14 := pn3.lst b4 a13
    have a24 := pn3.lst b4 a23
    have hyr := List.getElem?_eq_getElem hr
    refine ⟨q1, ys1, (r : Int), r, ys1[r], rfl, rfl, a14, by omega, by omega, (ixN_seq (ixN_nat hr)).1, hyr, ?_⟩
    refine ⟨q2, ys2, ys1[r], rfl, rfl, by rw [upd_ne (Ne.symm ne)]; exact a24, sz_lt (by omega), ?_⟩
    refine ⟨ys1.eraseIdx r, ys2 ++ [ys1[r]], _, rfl, by rw [upd_ne ne, upd_same], upd_same, perm_pop hperm hyr, by rw [List.length_append, hlen2]; rfl, ?_, ?_⟩
    · intro b o hb ho
      have hb1 : b ≠ q1 := by rintro rfl; rw [n1] at ho; cases ho
      have hb2 : b ≠ q2 := by rintro rfl; rw [n2] at ho; cases ho
      rw [upd_ne hb2, upd_ne hb1]
      exact b4 _ _ hb ((e2.trans e3) _ _ (bx _ _ hb ho))
    · exact (pn4.upd ExB.upd m1.1 m1.2).upd ExB.upd m2.1 m2.2
  · rintro σ' H' ⟨ys1, ys2, y4, rfl, a1, a2, hperm, hlen2, bx, pn'⟩
    rw [Int.toNat_natCast] at hlen2 pn'
    have hpl := hperm.length_eq
    rw [List.length_append] at hpl
    have : ys1 = [] := List.eq_nil_of_length_eq_zero (by omega)
    subst this
    rw [List.append_nil] at hperm
    exact s_ret (ev_var rfl) fun H2 e2 => k q2 ys2 H2 n2 hperm (e2 _ _ a2) (bx.trans (.of e2)) (pn'.ex e2)
theorem paired_perm {α β : Type} {F : α → β → Prop} {ys xs : List α} (hp : ys.Perm xs) : ∀ {l : List β}, Paired F xs l → ∃ l', l'.Perm l ∧ Paired F ys l' := by
  induction hp with
  | nil => intro l h; exact ⟨l, List.Perm.refl _, h⟩
  | cons x _ ih =>
    intro l h
    cases h with
    | cons r t =>
      obtain ⟨l', p1, p2⟩ := ih t
      exact ⟨_ :: l', p1.cons _, .cons r p2⟩
  | swap x y l0 =>
    intro l h
    cases h with
    | cons r t =>
      cases t with
      | cons r2 t2 => exact ⟨_ :: _ :: _, List.Perm.swap _ _ _, .cons r2 (.cons r t2)⟩
  | trans _ _ ih1 ih2 =>
    intro l h
    obtain ⟨l1, p1, q1⟩ := ih2 h
    obtain ⟨l2, p2, q2⟩ := ih1 q1
    exact ⟨l2, p2.trans p1, q2⟩
end
end Kp
end
section
set_option maxHeartbeats 4000000
namespace Kp
open PySem PySem.Spec PyProof.Rows L2 Evl
local macro_rules | `(tactic| walk_at "ht") => `(tactic| first | assumption | solve_by_elim (config := { maxDepth := 12 }))
local macro_rules | `(tactic| walk_at "ev") => `(tactic| repeat' (first
  | exact ea_nil
  | exact ev_var rfl
  | exact ev_n (n := 0) rfl | exact ev_n (n := 1) rfl | exact ev_n (n := 2) rfl
  | exact rv_andN | exact rv_xorN | exact rv_orN | exact rv_addN | exact rv_shrN | (exact rv_mulN (by decide)) | exact rv_eqN | exact rv_neN | exact rv_ltN
  | (refine' rv_ixT (st_of (by walk_at "ht")) (by rfl))
  | walk_at "evx"
  | refine' ev_op ?_ ?_ ?_
  | refine' ea_cons ?_ ?_))
section
variable {P : Program} {w : World} {K : PySem.W.Frag} {mg : Str → Option Value} {base : Heap}
/-! ### _law_pen -/
def sp_law_pen (K : PySem.W.Frag) : L2.Sp := fun vs H Q _ => ∃ (a : Addr) (cs : List Int), vs = [.ref a] ∧ SqL K H a (cs.map V.int) ∧ cs.length ≤ 1000 ∧ ∀ p c H', Ex H H' → H p = none → H c = none → PenAt H' p c 0 → Q (.ref p) H'
abbrev N_law_pen : List Str := ["_law_script", "_law_fold", "_law_cell"]
theorem sc_law_pen : FnScope N_law_pen ["_law_script"] (defScope s_law_pen) := ⟨rfl, rfl, rfl, by decide +kernel, rfl, by decide +kernel, by decide +kernel⟩
theorem o_law_pen (T : Tx K mg) : OkF P w K mg base CX0 1 "_law_pen" ["_law_script"] (sp_law_pen K) := by
  refine okf T d_law_pen "_law_pen" 33 24 rfl rfl rfl sc_law_pen (fun vs H Q E h => ?_) (fun _ _ _ _ _ _ us hl => match us, hl with | [_], _ => rfl) (fun f cdv A outer s H vs Q E hr h => ?_)
  · (obtain ⟨_, _, rfl, _⟩ := h; rfl)
  obtain ⟨a, cs, rfl, ha, hl, k⟩ := h
  refine ⟨_, (pss_cons (ps_set (i := 1) sc_law_pen.nd rfl (Or.inl rfl) pe_int)
      (pss_cons (ps_for PassesOwn.never rfl (pi_listK K (pv 0)) (pg_name (i := 2) sc_law_pen.nd rfl (Or.inl rfl))
        (pss_one (ps_set (i := 1) sc_law_pen.nd rfl (Or.inl rfl) (pe_op op_mod (pe_callTy call_intK (by rfl) T.m_int (by decide +kernel) (pa_cons (pe_op op_add (pe_op op_mul (pv 1) pe_int) (pv 2)) pa_nil)) pe_int))))
      (pss_one (ps_ret (pe_disp (pps_cons pe_str (pe_callTy (call_list_ofK K) (by rfl) T.m_list (by decide +kernel) (pa_cons (pv 0) pa_nil)) (pps_cons pe_str pe_int (pps_cons pe_str pe_int (pps_cons pe_str pe_int (pps_cons pe_str (pv 1) pps_nil))))) (by rfl) (by rfl) (fun z => by cases z) (by decide)))))), ?_⟩
  refine q_asg (v := nv 0) (ev_n (n := 0) rfl) fun H1 e1 => ?_
  refine q_forW (wk_list (ev_var rfl) (ex_l e1 ha)) (fun Hs i σ' H' => ∃ (f : Nat) (y : Option V), σ' = [some (.ref a), some (nv f), y] ∧ f < 2 ^ 32 ∧ Ex Hs H') (fun H2 e2 => ⟨0, _, rfl, by decide, Ex.refl _⟩) (fun Hs i σ' H' _ _ ⟨_, _, _, _, p⟩ => p) ?_ ?_
  · rintro Hs i x σ' Ha Hb e0 hi ⟨f, y, rfl, hf, ea⟩ eb hx
    obtain ⟨cell, _, rfl⟩ := map_at hx
    have hnn : 0 ≤ ((f : Int) * 43 + cell) % 1000000007 := Int.emod_nonneg _ (by decide)
    have hlt : ((f : Int) * 43 + cell) % 1000000007 < 1000000007 := Int.emod_lt_of_pos _ (by decide)
    refine s_asg (v := nv (((f : Int) * 43 + cell) % 1000000007).toNat) (ev_is (ev_op (ev_intI (ev_op (ev_op (ev_var rfl) ev_c (rv_I (i := (f : Int)) (j := 43) (.inr (by decide)))) (ev_var rfl) rv_I0)) ev_c (rv_I (j := 1000000007) (by decide))) ?_) fun H3 e3 => ⟨_, _, rfl, by omega, (ea.trans eb).trans e3⟩
    show V.int _ = V.int _
    rw [Int.toNat_of_nonneg hnn]
  · rintro Hs σ' H2 e0 ⟨f, y, rfl, hf, ea⟩
    unfold tRet tDisp
    have e2 : Ex H H2 := (e1.trans e0).trans ea
    intro p np
    have e3 : Ex H2 (upd H2 p (.dK [])) := Ex.new np
    have ha3 := ex_l (e2.trans e3) ha
    show tCB (rListOf K) (tCons (tVar 0) tNil) _ (upd H2 p (.dK [])) _
    refine (evp_listOf (ev_var rfl) (.inl ha3)) _ (Ex.refl _) _ fun v H4 e4 ⟨c, ev, nc, hc⟩ => ?_
    subst ev
    show tVar 1 _ H4 _
    refine (ev_var rfl : Ev (tVar 1) _ H4 (nv f)) H4 (Ex.refl _) _ fun H5 e5 => ?_
    have e35 := e4.trans e5
    have hp5 : H5 p = some (.dK []) := e35 _ _ upd_same
    have hcp : c ≠ p := by rintro rfl; rw [upd_same] at nc; cases nc
    have np0 : H p = none := by cases q : H p with | none => rfl | some u => rw [e2 _ _ q] at np; cases np
    have nc0 : H c = none := by cases q : H c with | none => rfl | some u => rw [e3 _ _ (e2 _ _ q)] at nc; cases nc
    refine ⟨hp5, [(.inr "cells", .ref c), (.inr "at", nv 0), (.inr "digits", .int 0), (.inr "count", nv 0), (.inr "fold", nv f)], rfl, (by show 5 ≤ 15; decide), ?_⟩
    have em : mergeK [] [(.inr "cells", .ref c), (.inr "at", nv 0), (.inr "digits", .int 0), (.inr "count", nv 0), (.inr "fold", nv f)] = putK (putK (putK (putK (putK [] (.inr "cells") (.ref c)) (.inr "at") (nv 0)) (.inr "digits") (.int 0)) (.inr "count") (nv 0)) (.inr "fold") (nv f) := rfl
    rw [em]
    have l1 := length_putK ([] : List (Key × V)) (.inr "cells" : Key) (.ref c)
    have l2 := length_putK (putK [] (.inr "cells" : Key) (.ref c)) (.inr "at" : Key) (nv 0)
    have l3 := length_putK (putK (putK [] (.inr "cells" : Key) (.ref c)) (.inr "at" : Key) (nv 0)) (.inr "digits" : Key) (.int 0)
    have l4 := length_putK (putK (putK (putK [] (.inr "cells" : Key) (.ref c)) (.inr "at" : Key) (nv 0)) (.inr "digits" : Key) (.int 0)) (.inr "count" : Key) (nv 0)
    have l5 := length_putK (putK (putK (putK (putK [] (.inr "cells" : Key) (.ref c)) (.inr "at" : Key) (nv 0)) (.inr "digits" : Key) (.int 0)) (.inr "count" : Key) (nv 0)) (.inr "fold" : Key) (nv f)
    have l0 : ([] : List (Key × V)).length = 0 := rfl
    refine k p c _ (Ex.mut ((e2.trans e3).trans e35) np0) np0 nc0 ⟨_, cs, 0, 0, 0, f, ⟨upd_same, by omega, ?_, ?_, ?_, ?_, ?_, ?_⟩, by omega, by omega, hf⟩
    · rw [valV_put, if_neg (by decide +kernel), valV_put, if_neg (by decide +kernel), valV_put, if_neg (by decide +kernel), valV_put, if_neg (by decide +kernel), valV_put, if_pos rfl]
    · rw [upd_ne hcp]; exact e5 _ _ hc
    · rw [valV_put, if_neg (by decide +kernel), valV_put, if_neg (by decide +kernel), valV_put, if_neg (by decide +kernel), valV_put, if_pos rfl]
    · rw [valV_put, if_neg (by decide +kernel), valV_put, if_neg (by decide +kernel), valV_put, if_pos rfl]
    · rw [valV_put, if_neg (by decide +kernel), valV_put, if_pos rfl]
    · rw [valV_put, if_pos rfl]
theorem evd_law_pen {σ : L2.St} {H : Hp} {te : TE} {a : Addr} {cs : List Int} {E : XK} (h : Ev te σ H (.ref a)) (ha : SqL K H a (cs.map V.int)) (hl : cs.length ≤ 1000) : EvP (tCall (sp_law_pen K) [] E (tCons te tNil)) σ H (fun v H' => ∃ p c, v = .ref p ∧ H p = none ∧ H c = none ∧ PenAt H' p c 0) :=
  evp_call (ea_cons h ea_nil) fun H1 e Q kk => ⟨a, cs, rfl, ex_l e ha, hl, fun p c H' e' np nc pn => kk _ H' e' ⟨p, c, rfl, fresh_back e np, fresh_back e nc, pn⟩⟩
/-! ### _law_ones -/
theorem pc_le : ∀ {k n : Nat}, n < 2 ^ k → pc n ≤ k
  | 0, n, h => by
    have : n = 0 := by simpa using h
    rw [this, pc_zero]; exact Nat.le_refl _
  | k + 1, n, h => by
    rw [pc_step]
    have := pc_le (k := k) (n := n / 2) (by rw [Nat.pow_succ] at h; omega)
    omega
def sp_law_ones : L2.Sp := fun vs H Q _ => ∃ n : Nat, vs = [nv n] ∧ n < 2 ^ 64 ∧ ∀ H', Ex H H' → Q (nv (pc n)) H'
abbrev N_law_ones : List Str := ["_law_number", "_law_count", "_law_lap"]
theorem sc_law_ones : FnScope N_law_ones ["_law_number"] (defScope s_law_ones) := ⟨rfl, rfl, rfl, by decide +kernel, rfl, by decide +kernel, by decide +kernel⟩
theorem o_law_ones (T : Tx K mg) : OkF P w K mg base CX0 1 "_law_ones" ["_law_number"] sp_law_ones := by
  refine okf T d_law_ones "_law_ones" 37 28 rfl rfl rfl sc_law_ones (fun vs H Q E h => ?_) (fun _ _ _ _ _ _ us hl => match us, hl with | [_], _ => rfl) (fun f cdv A outer s H vs Q E hr h => ?_)
  · (obtain ⟨_, rfl, _⟩ := h; rfl)
  obtain ⟨n, rfl, hn, k⟩ := h
  refine ⟨_, (pss_cons (ps_set (i := 1) sc_law_ones.nd rfl (Or.inl rfl) pe_int)
      (pss_cons (ps_for PassesOwn.never rfl (pi_range1 (by rfl) T.m_range (pa_cons pe_int pa_nil)) (pg_name (i := 2) sc_law_ones.nd rfl (Or.inl rfl))
        (pss_cons (ps_if (pt_cmpR op_eq (pv 0) pe_int (nomark _)) (pss_one ps_break) pss_nil)
        (pss_one (ps_par (i := 0) (j := 1) rfl sc_law_ones.nd rfl rfl (by decide) rfl rfl (pa_cons (pe_op op_and (pv 0) (pe_op op_sub (pv 0) pe_int)) (pa_cons (pe_op op_add (pv 1) pe_int) pa_nil)) (by rfl)))))
      (pss_one (ps_ret (pv 1))))), ?_⟩
  refine q_asg (v := nv 0) (ev_n (n := 0) rfl) fun H1 e1 => ?_
  refine q_forR1 (n := 64) (ea_cons ev_c ea_nil) (by decide) (fun i σ' H' => ∃ (a b : Nat) (y : Option V), σ' = [some (nv a), some (nv b), y] ∧ b + pc a = pc n ∧ a < 2 ^ 64 ∧ (a = 0 ∨ i ≤ b) ∧ Ex H H')
    (fun H2 e2 => ⟨n, 0, _, rfl, by omega, hn, .inr (by omega), e1.trans e2⟩) ?_ ?_
  · rintro i σ' H' hi ⟨a, b, y, rfl, hb, ha, hib, ex⟩
    refine q_when (b := decide (a = 0)) (et_test (by walk_at "ev")) (fun hc H2 e2 => ?_) fun hc H2 e2 => ?_
    · have := of_decide_eq_true hc
      subst this
      rw [pc_zero] at hb
      have hb' : b = pc n := hb
      subst hb'
      exact s_ret (ev_var rfl) fun H3 e3 => k H3 ((ex.trans e2).trans e3)
    · have hne := of_decide_eq_false hc
      refine s_par (v := nv (a &&& (a - 1))) (w := nv (b + 1)) (ea_cons (ev_op (ev_var rfl) (ev_op (ev_var rfl) (ev_n (n := 1) rfl) (rv_subN (by omega))) rv_andN) (ea_cons (ev_op (ev_var rfl) (ev_n (n := 1) rfl) rv_addN) ea_nil)) fun H3 e3 => ?_
      have := and_pred a hne
      have := and_pred_lt hne
      exact ⟨_, _, _, rfl, by omega, by omega, .inr (by omega), (ex.trans e2).trans e3⟩
  · rintro σ' H' ⟨a, b, y, rfl, hb, ha, hib, ex⟩
    have h64 : a = 0 ∨ 64 ≤ b := hib
    have hpn := pc_le hn
    have hb' : b = pc n := by
      rcases h64 with h | h
      · subst h; rw [pc_zero] at hb; exact hb
      · omega
    subst hb'
    exact s_ret (ev_var rfl) fun H3 e3 => k H3 (ex.trans e3)
theorem ev_law_ones {σ : L2.St} {H : Hp} {te : TE} {n : Nat} {E : XK} (h : Ev te σ H (nv n)) (hn : n < 2 ^ 64) : Ev (tCall sp_law_ones [] E (tCons te tNil)) σ H (nv (pc n)) :=
  ev_callv (ea_cons h ea_nil) fun H1 e Q kk => ⟨n, rfl, hn, kk⟩
end
end Kp
end
section
set_option maxHeartbeats 4000000
namespace Kp
open PySem PySem.Spec PyProof.Rows L2 Evl
local macro_rules | `(tactic| walk_at "ht") => `(tactic| first | assumption | solve_by_elim (config := { maxDepth := 12 }))
local macro_rules | `(tactic| walk_at "ev") => `(tactic| repeat' (first
  | exact ea_nil
  | exact ev_var rfl
  | exact ev_n (n := 0) rfl | exact ev_n (n := 1) rfl | exact ev_n (n := 2) rfl
  | exact rv_andN | exact rv_xorN | exact rv_orN | exact rv_addN | exact rv_shrN | (exact rv_mulN (by decide)) | exact rv_eqN | exact rv_neN | exact rv_ltN
  | (refine' rv_ixT (st_of (by walk_at "ht")) (by rfl))
  | walk_at "evx"
  | refine' ev_op ?_ ?_ ?_
  | refine' ea_cons ?_ ?_))
theorem lt64 {n : Nat} (hn : n ≤ 64) {x : Nat} (h : x < 2 ^ n) : x < 2 ^ 64 := Nat.lt_of_lt_of_le h (Nat.pow_le_pow_right (by decide) hn)
theorem and_lt {a b n : Nat} (h : a < 2 ^ n) : a &&& b < 2 ^ n := Nat.lt_of_le_of_lt Nat.and_le_left h
section
variable {P : Program} {w : World} {K : PySem.W.Frag} {mg : Str → Option Value} {base : Heap}
theorem rv_modN {H : Hp} {a b : Nat} (h : 0 < b) : RV (rI (fun _ j => 0 < j) fun i j => .int (i % j)) (nv a) (nv b) H (nv (a % b)) := by
  have e : ((a % b : Nat) : Int) = (a : Int) % (b : Int) := Int.natCast_emod a b
  show RV _ _ _ _ (V.int _)
  rw [e]
  exact rv_I (by omega)
theorem rv_divN {H : Hp} {a b : Nat} (h : 0 < b) (h2 : b < 1073741824) : RV (rI CDiv fun i j => .int (i / j)) (nv a) (nv b) H (nv (a / b)) := by
  have e : ((a / b : Nat) : Int) = (a : Int) / (b : Int) := Int.natCast_ediv a b
  show RV _ _ _ _ (V.int _)
  rw [e]
  exact rv_I ⟨by omega, by omega⟩
/-! ### _law_crosses -/
def sp_law_crosses : L2.Sp := fun vs H Q _ => ∃ (v1 v2 : V) (n : Nat) (a b : Row), vs = [v1, v2] ∧ IsRow H v1 a ∧ IsRow H v2 b ∧ n ≤ 64 ∧ Rw n a ∧ Rw n b ∧ ∀ H', Ex H H' → Q (nv (crs a b)) H'
abbrev N_law_crosses : List Str := ["_law_one", "_law_two"]
theorem sc_law_crosses : FnScope N_law_crosses ["_law_one", "_law_two"] (defScope s_law_crosses) := ⟨rfl, rfl, rfl, by decide +kernel, rfl, by decide +kernel, by decide +kernel⟩
theorem o_law_crosses (T : Tx K mg) : OkF P w K mg base CX0 2 "_law_crosses" ["_law_one", "_law_two"] sp_law_crosses := by
  have o_law_ones : OkF P w K mg base CX0 1 "_law_ones" ["_law_number"] sp_law_ones := o_law_ones T
  refine okf T d_law_crosses "_law_crosses" 38 29 rfl rfl rfl sc_law_crosses (fun vs H Q E h => ?_) (fun _ _ _ _ _ _ us hl => match us, hl with | [_, _], _ => rfl) (fun f cdv A outer s H vs Q E hr h => ?_)
  · (obtain ⟨_, _, _, _, _, rfl, _⟩ := h; rfl)
  obtain ⟨v1, v2, n, a, b, rfl, ⟨p1, rfl, h1⟩, ⟨p2, rfl, h2⟩, hn, ra, rb, k⟩ := h
  refine ⟨_, (pss_one (ps_ret (pe_op op_mod (pe_callTy call_intK (by rfl) T.m_int (by decide +kernel) (pa_cons (pe_cl o_law_ones (hr.mono (by decide)) (by rfl) pass0 (pa_cons (pe_op op_xor (pe_op op_and (pe_ix (ix_tupK K) (pv 0) pe_int (fun _ _ => rfl)) (pe_ix (ix_tupK K) (pv 1) pe_int (fun _ _ => rfl))) (pe_op op_and (pe_ix (ix_tupK K) (pv 0) pe_int (fun _ _ => rfl)) (pe_ix (ix_tupK K) (pv 1) pe_int (fun _ _ => rfl)))) pa_nil)) pa_nil)) pe_int))), ?_⟩
  refine s_ret (v := nv (crs a b)) ?_ k
  rw [← crs_law]
  refine ev_op (ev_intI (ev_law_ones ?_ ?_)) (ev_n (n := 2) rfl) (rv_modN (by decide))
  · walk_at "ev"
  · exact xor_lt (and_lt (lt64 hn ra.x)) (and_lt (lt64 hn ra.z))
theorem ev_law_crosses {σ : L2.St} {H : Hp} {te tf : TE} {v1 v2 : V} {n : Nat} {a b : Row} {E : XK} (h : Ev te σ H v1) (h' : Ev tf σ H v2) (r : IsRow H v1 a) (r' : IsRow H v2 b) (hn : n ≤ 64) (ra : Rw n a) (rb : Rw n b) : Ev (tCall sp_law_crosses [] E (tCons te (tCons tf tNil))) σ H (nv (crs a b)) :=
  ev_callv (ea_cons h (ea_cons h' ea_nil)) fun H1 e Q kk => ⟨v1, v2, n, a, b, rfl, r.ex e, r'.ex e, hn, ra, rb, kk⟩
/-! ### _law_product -/
def sp_law_product : L2.Sp := fun vs H Q _ => ∃ (v1 v2 : V) (n : Nat) (a b : Row), vs = [v1, v2] ∧ IsRow H v1 a ∧ IsRow H v2 b ∧ n ≤ 64 ∧ Rw n a ∧ Rw n b ∧ ∀ v H', Ex H H' → IsRow H' v (mul a b) → Q v H'
abbrev N_law_product : List Str := ["_law_one", "_law_two", "_law_x", "_law_z", "_law_power"]
theorem sc_law_product : FnScope N_law_product ["_law_one", "_law_two"] (defScope s_law_product) := ⟨rfl, rfl, rfl, by decide +kernel, rfl, by decide +kernel, by decide +kernel⟩
theorem o_law_product (T : Tx K mg) : OkF P w K mg base CX0 2 "_law_product" ["_law_one", "_law_two"] sp_law_product := by
  have o_law_ones : OkF P w K mg base CX0 1 "_law_ones" ["_law_number"] sp_law_ones := o_law_ones T
  refine okf T d_law_product "_law_product" 39 30 rfl rfl rfl sc_law_product (fun vs H Q E h => ?_) (fun _ _ _ _ _ _ us hl => match us, hl with | [_, _], _ => rfl) (fun f cdv A outer s H vs Q E hr h => ?_)
  · (obtain ⟨_, _, _, _, _, rfl, _⟩ := h; rfl)
  obtain ⟨v1, v2, n, a, b, rfl, ⟨p1, rfl, h1⟩, ⟨p2, rfl, h2⟩, hn, ra, rb, k⟩ := h
  refine ⟨_, (pss_cons (ps_par (i := 2) (j := 3) rfl sc_law_product.nd rfl rfl (by decide) rfl rfl (pa_cons (pe_op op_xor (pe_ix (ix_tupK K) (pv 0) pe_int (fun _ _ => rfl)) (pe_ix (ix_tupK K) (pv 1) pe_int (fun _ _ => rfl))) (pa_cons (pe_op op_xor (pe_ix (ix_tupK K) (pv 0) pe_int (fun _ _ => rfl)) (pe_ix (ix_tupK K) (pv 1) pe_int (fun _ _ => rfl))) pa_nil)) (by rfl))
      (pss_cons (ps_set (i := 4) sc_law_product.nd rfl (Or.inl rfl) (pe_op op_add (pe_cl o_law_ones (hr.mono (by decide)) (by rfl) pass0 (pa_cons (pe_op op_and (pe_ix (ix_tupK K) (pv 0) pe_int (fun _ _ => rfl)) (pe_ix (ix_tupK K) (pv 0) pe_int (fun _ _ => rfl))) pa_nil)) (pe_cl o_law_ones (hr.mono (by decide)) (by rfl) pass0 (pa_cons (pe_op op_and (pe_ix (ix_tupK K) (pv 1) pe_int (fun _ _ => rfl)) (pe_ix (ix_tupK K) (pv 1) pe_int (fun _ _ => rfl))) pa_nil))))
      (pss_cons (ps_set (i := 4) sc_law_product.nd rfl (Or.inl rfl) (pe_op op_add (pe_op op_sub (pv 4) (pe_cl o_law_ones (hr.mono (by decide)) (by rfl) pass0 (pa_cons (pe_op op_and (pv 2) (pv 3)) pa_nil))) (pe_op op_mul pe_int (pe_cl o_law_ones (hr.mono (by decide)) (by rfl) pass0 (pa_cons (pe_op op_and (pe_ix (ix_tupK K) (pv 0) pe_int (fun _ _ => rfl)) (pe_ix (ix_tupK K) (pv 1) pe_int (fun _ _ => rfl))) pa_nil)))))
      (pss_one (ps_ret (pe_tup (pa_cons (pv 2) (pa_cons (pv 3) (pa_cons (pe_op op_fdiv (pe_op op_mod (pe_callTy call_intK (by rfl) T.m_int (by decide +kernel) (pa_cons (pe_op op_add (pv 4) (pe_op op_mul pe_int (pe_op op_add (pe_ix (ix_tupK K) (pv 0) pe_int (fun _ _ => rfl)) (pe_ix (ix_tupK K) (pv 1) pe_int (fun _ _ => rfl))))) pa_nil)) pe_int) pe_int) pa_nil))))))))), ?_⟩
  have hx := xor_lt (lt64 hn ra.x) (lt64 hn rb.x)
  refine q_par (v := nv (a.x ^^^ b.x)) (w := nv (a.z ^^^ b.z)) (by walk_at "ev") fun H1 e1 => ?_
  have g1 := e1 _ _ h1
  have g2 := e1 _ _ h2
  refine q_asg (v := nv (pc (a.x &&& a.z) + pc (b.x &&& b.z))) (ev_op (ev_law_ones ?_ (and_lt (lt64 hn ra.x))) (ev_law_ones ?_ (and_lt (lt64 hn rb.x))) rv_addN) fun H2 e2 => ?_
  · walk_at "ev"
  · walk_at "ev"
  have g1 := e2 _ _ g1
  have g2 := e2 _ _ g2
  refine q_asg (v := .int (((pc (a.x &&& a.z) + pc (b.x &&& b.z) : Nat) : Int) - (pc ((a.x ^^^ b.x) &&& (a.z ^^^ b.z)) : Int) + ((2 * pc (a.z &&& b.x) : Nat) : Int))) (ev_op (ev_op (ev_var rfl) (ev_law_ones ?_ (and_lt hx)) rv_I0) (ev_op (ev_n (n := 2) rfl) (ev_law_ones ?_ (and_lt (lt64 hn ra.z))) (rv_mulN (by decide))) rv_I0) fun H3 e3 => ?_
  · walk_at "ev"
  · walk_at "ev"
  have g1 := e3 _ _ g1
  have g2 := e3 _ _ g2
  have x3 := (e1.trans e2).trans e3
  have ep : ((pc (a.x &&& a.z) + pc (b.x &&& b.z) : Nat) : Int) - (pc ((a.x ^^^ b.x) &&& (a.z ^^^ b.z)) : Int) + ((2 * pc (a.z &&& b.x) : Nat) : Int) + ((2 * (a.s + b.s) : Nat) : Int) = pw a b := by
    unfold pw; omega
  refine s_retP (evp_row (a := a.x ^^^ b.x) (b := a.z ^^^ b.z) (c := (pw a b / 2 % 2).toNat) (ea_cons (ev_var rfl) (ea_cons (ev_var rfl) (ea_cons ?_ ea_nil)))) fun v H4 e4 hv => k v H4 (x3.trans e4) hv
  have e5 : (((pw a b / 2 % 2).toNat : Nat) : Int) = pw a b / 2 % 2 := Int.toNat_of_nonneg (Int.emod_nonneg _ (by decide))
  rw [e5, ← pw_law, ← ep]
  refine ev_op (ev_op (ev_intI (ev_op (ev_var rfl) ?_ rv_I0)) ev_c (rv_I (j := 4) (by decide))) ev_c (rv_I (j := 2) ⟨by decide, by decide⟩)
  refine ev_op (y := nv (a.s + b.s)) (ev_n (n := 2) rfl) ?_ (rv_mulN (by decide))
  walk_at "ev"
theorem evp_law_product {σ : L2.St} {H : Hp} {te tf : TE} {v1 v2 : V} {n : Nat} {a b : Row} {E : XK} (h : Ev te σ H v1) (h' : Ev tf σ H v2) (r : IsRow H v1 a) (r' : IsRow H v2 b) (hn : n ≤ 64) (ra : Rw n a) (rb : Rw n b) :
    EvP (tCall sp_law_product [] E (tCons te (tCons tf tNil))) σ H (fun v H' => IsRow H' v (mul a b)) :=
  evp_call (ea_cons h (ea_cons h' ea_nil)) fun H1 e Q kk => ⟨v1, v2, n, a, b, rfl, r.ex e, r'.ex e, hn, ra, rb, fun v H' e' q => kk v H' e' q⟩
/-! ### _law_letters -/
def sp_law_letters : L2.Sp := fun vs H Q _ => ∃ (v1 : V) (n : Nat) (a : Row), vs = [v1, nv n] ∧ n ≤ 1000 ∧ IsRow H v1 a ∧ ∀ H', Ex H H' → Q (.str ⟨(letN a n).toArray⟩) H'
theorem letN_succ (r : Row) (n : Nat) : letN r (n + 1) = letN r n ++ [lc (r.x >>> n &&& 1) (r.z >>> n &&& 1)] := by
  unfold letN; rw [List.range_succ, List.map_append]; rfl
abbrev N_law_letters : List Str := ["_law_string", "_law_size", "_law_found", "_law_k"]
theorem sc_law_letters : FnScope N_law_letters ["_law_string", "_law_size"] (defScope s_law_letters) := ⟨rfl, rfl, rfl, by decide +kernel, rfl, by decide +kernel, by decide +kernel⟩
theorem o_law_letters (T : Tx K mg) : OkF P w K mg base CX0 1 "_law_letters" ["_law_string", "_law_size"] sp_law_letters := by
  refine okf T d_law_letters "_law_letters" 40 31 rfl rfl rfl sc_law_letters (fun vs H Q E h => ?_) (fun _ _ _ _ _ _ us hl => match us, hl with | [_, _], _ => rfl) (fun f cdv A outer s H vs Q E hr h => ?_)
  · (obtain ⟨_, _, _, rfl, _⟩ := h; rfl)
  obtain ⟨v1, n, a, rfl, hn, ⟨p1, rfl, h1⟩, k⟩ := h
  refine ⟨_, (pss_cons (ps_set (i := 2) sc_law_letters.nd rfl (Or.inl rfl) pe_str)
      (pss_cons (ps_for PassesOwn.never rfl (pi_range1 (by rfl) T.m_range (pa_cons (pv 1) pa_nil)) (pg_name (i := 3) sc_law_letters.nd rfl (Or.inl rfl))
        (pss_one (ps_set (i := 2) sc_law_letters.nd rfl (Or.inl rfl) (pe_op op_add_str (pv 2) (pe_ix ix_str pe_str (pe_op op_add (pe_op op_mod (pe_callTy call_intK (by rfl) T.m_int (by decide +kernel) (pa_cons (pe_op op_shr (pe_ix (ix_tupK K) (pv 0) pe_int (fun _ _ => rfl)) (pv 3)) pa_nil)) pe_int) (pe_op op_mul pe_int (pe_op op_mod (pe_callTy call_intK (by rfl) T.m_int (by decide +kernel) (pa_cons (pe_op op_shr (pe_ix (ix_tupK K) (pv 0) pe_int (fun _ _ => rfl)) (pv 3)) pa_nil)) pe_int))) (fun _ _ => rfl))))))
      (pss_one (ps_ret (pv 2))))), ?_⟩
  refine q_asg (v := .str ⟨(letN a 0).toArray⟩) (ev_is ev_c rfl) fun H1 e1 => ?_
  refine q_forR1 (n := ((n : Nat) : Int)) (ea_cons (ev_var rfl) ea_nil) ⟨by omega, by omega⟩ (fun i σ' H' => ∃ (y : Option V), σ' = [some (.ref p1), some (nv n), some (.str ⟨(letN a i).toArray⟩), y] ∧ Ex H H') (fun H2 e2 => ⟨_, rfl, e1.trans e2⟩) ?_ ?_
  · rintro i σ' H' hi ⟨y, rfl, ex⟩
    have g1 := ex _ _ h1
    refine s_asg (v := .str ⟨(letN a (i + 1)).toArray⟩) (ev_addS (a := ⟨(letN a i).toArray⟩) (b := ⟨#[lc (a.x >>> i &&& 1) (a.z >>> i &&& 1)]⟩) (ev_var rfl) ?_ ?_ ?_) fun H2 e2 => ⟨_, rfl, ex.trans e2⟩
    · refine ev_op (y := .int (((a.x >>> i &&& 1) + 2 * (a.z >>> i &&& 1) : Nat) : Int)) ev_c ?_ (rv_signs (by decide +kernel) (lc_at (bit_le _ _) (bit_le _ _)))
      rw [← bit_mod, ← bit_mod]
      exact ev_op (ev_op (ev_intI (ev_op (by walk_at "ev") (ev_var rfl) rv_shrN)) (ev_n (n := 2) rfl) (rv_modN (by decide))) (ev_op (ev_n (n := 2) rfl) (ev_op (ev_intI (ev_op (by walk_at "ev") (ev_var rfl) rv_shrN)) (ev_n (n := 2) rfl) (rv_modN (by decide))) (rv_mulN (by decide))) rv_addN
    · show (letN a i).length + 1 ≤ 100000
      rw [letN_len]; omega
    · refine TL.ext_tl ?_
      rw [TL.tl_append, letN_succ]
  · rintro σ' H' ⟨y, rfl, ex⟩
    rw [Int.toNat_natCast]
    exact s_ret (ev_var rfl) fun H2 e2 => k H2 (ex.trans e2)
/-! ### _law_text -/
def sp_law_text : L2.Sp := fun vs H Q _ => ∃ (v1 : V) (n : Nat) (a : Row), vs = [v1, nv n] ∧ n ≤ 1000 ∧ a.s ≤ 1 ∧ IsRow H v1 a ∧ ∀ H', Ex H H' → Q (.str (txt a.s (letN a n))) H'
abbrev N_law_text : List Str := ["_law_string", "_law_size"]
theorem sc_law_text : FnScope N_law_text ["_law_string", "_law_size"] (defScope s_law_text) := ⟨rfl, rfl, rfl, by decide +kernel, rfl, by decide +kernel, by decide +kernel⟩
theorem o_law_text (T : Tx K mg) : OkF P w K mg base CX0 2 "_law_text" ["_law_string", "_law_size"] sp_law_text := by
  have o_law_letters : OkF P w K mg base CX0 1 "_law_letters" ["_law_string", "_law_size"] sp_law_letters := o_law_letters T
  refine okf T d_law_text "_law_text" 41 32 rfl rfl rfl sc_law_text (fun vs H Q E h => ?_) (fun _ _ _ _ _ _ us hl => match us, hl with | [_, _], _ => rfl) (fun f cdv A outer s H vs Q E hr h => ?_)
  · (obtain ⟨_, _, _, rfl, _⟩ := h; rfl)
  obtain ⟨v1, n, a, rfl, hn, hs, ⟨p1, rfl, h1⟩, k⟩ := h
  refine ⟨_, (pss_one (ps_ret (pe_op op_add_str (pe_ifExp (pt_truthK K (pe_ix (ix_tupK K) (pv 0) pe_int (fun _ _ => rfl))) pe_str pe_str) (pe_cl o_law_letters (hr.mono (by decide)) (by rfl) pass0 (pa_cons (pv 0) (pa_cons (pv 1) pa_nil)))))), ?_⟩
  refine s_ret (ev_addS (a := ⟨(if a.s = 1 then [45] else []).toArray⟩) (b := ⟨(letN a n).toArray⟩) ?_ ?_ ?_ (txt_add _ _ _ rfl)) k
  · refine ev_if (b := a.s != 0) (et_truN (by walk_at "ev")) (fun q => ?_) fun q => ?_
    · have : a.s = 1 := by have : a.s ≠ 0 := by simpa using q
                           omega
      rw [if_pos this]; exact ev_c
    · have : a.s = 0 := by simpa using q
      rw [if_neg (by omega)]; exact ev_c
  · exact ev_callv (ea_cons (ev_var rfl) (ea_cons (ev_var rfl) ea_nil)) fun H1 e Q kk => ⟨_, n, a, rfl, hn, ⟨p1, rfl, e _ _ h1⟩, kk⟩
  · show (if a.s = 1 then [45] else []).length + (letN a n).length ≤ 100000
    rw [letN_len]
    split <;> simp <;> omega
/-! ### _law_pauli -/
def sp_law_pauli (K : PySem.W.Frag) : L2.Sp := fun vs H Q _ => ∃ (v1 : V) (n : Nat) (a : Row), vs = [v1, nv n] ∧ 1 ≤ n ∧ n ≤ 1000 ∧ a.s ≤ 1 ∧ IsRow H v1 a ∧ ∀ v H', Ex H H' → IsPR K n H' v a → Q v H'
abbrev N_law_pauli : List Str := ["_law_string", "_law_size"]
theorem sc_law_pauli : FnScope N_law_pauli ["_law_string", "_law_size"] (defScope s_law_pauli) := ⟨rfl, rfl, rfl, by decide +kernel, rfl, by decide +kernel, by decide +kernel⟩
theorem o_law_pauli (T : Tx K mg) : OkF P w K mg base CX0 6 "_law_pauli" ["_law_string", "_law_size"] (sp_law_pauli K) := by
  have o_PauliInit := o_PauliInit (P := P) (w := w) (K := K) (mg := mg) (base := base) T
  have o_law_text : OkF P w K mg base CX0 2 "_law_text" ["_law_string", "_law_size"] sp_law_text := o_law_text T
  refine okf T d_law_pauli "_law_pauli" 49 40 rfl rfl rfl sc_law_pauli (fun vs H Q E h => ?_) (fun _ _ _ _ _ _ us hl => match us, hl with | [_, _], _ => rfl) (fun f cdv A outer s H vs Q E hr h => ?_)
  · (obtain ⟨_, _, _, rfl, _⟩ := h; rfl)
  obtain ⟨v1, n, a, rfl, hn1, hn, hs, ⟨p1, rfl, h1⟩, k⟩ := h
  refine ⟨_, (pss_one (ps_ret (pe_mkO T.mkP o_PauliInit (hr.mono (by decide)) (by rfl) (T.glo "Pauli" (List.mem_of_getElem? (i := 54) rfl)) pass0 (pa_cons (pe_cl o_law_text (hr.mono (by decide)) (by rfl) pass0 (pa_cons (pv 0) (pa_cons (pv 1) pa_nil))) pa_nil)))), ?_⟩
  refine s_retP (evp_mkPauli (s := a.s) (cs := letN a n) (ev_callv (ea_cons (ev_var rfl) (ea_cons (ev_var rfl) ea_nil)) fun H1 e Q kk => ⟨_, n, a, rfl, hn, hs, ⟨p1, rfl, e _ _ h1⟩, kk⟩) hs (letN_ne hn1) (by rw [letN_len]; exact hn) (letN_LC _ _)) fun v H1 e1 hv => k v H1 e1 hv
theorem evp_law_pauli {σ : L2.St} {H : Hp} {te tf : TE} {v1 : V} {n : Nat} {a : Row} {E : XK} (h : Ev te σ H v1) (h' : Ev tf σ H (nv n)) (hn1 : 1 ≤ n) (hn : n ≤ 1000) (hs : a.s ≤ 1) (r : IsRow H v1 a) :
    EvP (tCall (sp_law_pauli K) [] E (tCons te (tCons tf tNil))) σ H (fun v H' => IsPR K n H' v a) :=
  evp_call (ea_cons h (ea_cons h' ea_nil)) fun H1 e Q kk => ⟨v1, n, a, rfl, hn1, hn, hs, r.ex e, fun v H' e' q => kk v H' e' q⟩
/-! ### _law_of_text -/
def rLstrip : V → List V → Hp → VK → Prop := fun x xs H Q => ∃ a b, x = .str a ∧ xs = [.str b] ∧ a.length ≤ sizeLine ∧ Q (.str (Txt.lstripChars a b)) H
theorem mt_lstripR {X : Cx} : MtR X "str.lstrip" rLstrip := mt_lstripChars
theorem lstrip_txt {s : Nat} {cs : List Nat} (hs : s ≤ 1) (hne : cs ≠ []) (hc : ∀ c ∈ cs, LC c) : Txt.lstripChars (txt s cs) "+-" = ⟨cs.toArray⟩ := by
  cases cs with
  | nil => exact absurd rfl hne
  | cons c0 cr =>
    have g : ("+-" : Str).cps.contains c0 = false := by
      rcases (by simpa [LC] using hc c0 List.mem_cons_self : c0 = 73 ∨ c0 = 88 ∨ c0 = 89 ∨ c0 = 90) with rfl | rfl | rfl | rfl <;> decide +kernel
    have g2 : ("+-" : Str).cps.contains 45 = true := by decide +kernel
    unfold Txt.lstripChars Txt.stripBy
    have : s = 0 ∨ s = 1 := by omega
    rcases this with rfl | rfl
    · have lo : stripLo ("+-" : Str).cps.contains true (txt 0 (c0 :: cr)) = 0 := by
        show (List.takeWhile _ (c0 :: cr)).length = 0
        rw [List.takeWhile_cons, g]; rfl
      have hi : stripHi ("+-" : Str).cps.contains false (txt 0 (c0 :: cr)) 0 = (txt 0 (c0 :: cr)).length := rfl
      have : stripSame ("+-" : Str).cps.contains true false (txt 0 (c0 :: cr)) = true := by
        unfold stripSame; rw [lo, hi]; simp
      rw [if_pos this]; rfl
    · have lo : stripLo ("+-" : Str).cps.contains true (txt 1 (c0 :: cr)) = 1 := by
        show (List.takeWhile _ (45 :: c0 :: cr)).length = 1
        rw [List.takeWhile_cons, g2, if_pos rfl, List.takeWhile_cons, g]; rfl
      have hi : stripHi ("+-" : Str).cps.contains false (txt 1 (c0 :: cr)) 1 = (txt 1 (c0 :: cr)).length := rfl
      have : stripSame ("+-" : Str).cps.contains true false (txt 1 (c0 :: cr)) = false := by
        unfold stripSame; rw [lo]; rfl
      rw [this, if_neg (by decide)]
      unfold stripped
      rw [lo, hi]
      refine TL.ext_tl ?_
      show ((45 :: c0 :: cr).toArray.extract 1 (45 :: c0 :: cr).length).toList = c0 :: cr
      simp
def sp_law_of_text (K : PySem.W.Frag) : L2.Sp := fun vs H Q _ => ∃ (n : Nat) (r : Row), vs = [.str (txt r.s (letN r n))] ∧ 1 ≤ n ∧ n ≤ 1000 ∧ Rw n r ∧ ∀ v H', Ex H H' → IsRow H' v r → Q v H'
abbrev N_law_of_text : List Str := ["_law_text_here", "_law_sign", "_law_letters_here", "_law_x", "_law_z", "_law_k"]
theorem sc_law_of_text : FnScope N_law_of_text ["_law_text_here"] (defScope s_law_of_text) := ⟨rfl, rfl, rfl, by decide +kernel, rfl, by decide +kernel, by decide +kernel⟩
theorem o_law_of_text (T : Tx K mg) : OkF P w K mg base CX0 1 "_law_of_text" ["_law_text_here"] (sp_law_of_text K) := by
  refine okf T d_law_of_text "_law_of_text" 42 33 rfl rfl rfl sc_law_of_text (fun vs H Q E h => ?_) (fun _ _ _ _ _ _ us hl => match us, hl with | [_], _ => rfl) (fun f cdv A outer s H vs Q E hr h => ?_)
  · (obtain ⟨_, _, rfl, _⟩ := h; rfl)
  obtain ⟨n, r, rfl, hn1, hn, hr, k⟩ := h
  refine ⟨_, (pss_cons (ps_par (i := 1) (j := 2) rfl sc_law_of_text.nd rfl rfl (by decide) rfl rfl (pa_cons (pe_callTy call_intK (by rfl) T.m_int (by decide +kernel) (pa_cons (pe_cmpR op_eq (pe_slice sl_str (pv 0) po_none (po_some pe_int)) pe_str (nomark _)) pa_nil)) (pa_cons (pe_bmK K PySem.F.plainAttrs_str PySem.F.slot_str_lstrip PySem.F.type_str_lstrip mt_lstripR (pv 0) (pa_cons pe_str pa_nil)) pa_nil)) (by rfl))
      (pss_cons (ps_asg (pe_tup (pa_cons pe_int (pa_cons pe_int pa_nil))) (pg_tup rfl (pgs_cons (pg_name (i := 3) sc_law_of_text.nd rfl (Or.inl rfl)) (pgs_cons (pg_name (i := 4) sc_law_of_text.nd rfl (Or.inl rfl)) pgs_nil))))
      (pss_cons (ps_for PassesOwn.never rfl (pi_range1 (by rfl) T.m_range (pa_cons (pe_callB (call_lenK K) (by rfl) T.m_len PySem.boot_len (pa_cons (pv 2) pa_nil)) pa_nil)) (pg_name (i := 5) sc_law_of_text.nd rfl (Or.inl rfl))
        (pss_cons (ps_set (i := 3) sc_law_of_text.nd rfl (Or.inl rfl) (pe_op op_add (pv 3) (pe_op op_mul (pe_op op_shl pe_int (pv 5)) (pe_callTy call_intK (by rfl) T.m_int (by decide +kernel) (pa_cons (pe_cmpR op_inSigK (pe_ix ix_str (pv 2) (pv 5) (fun _ _ => rfl)) pe_str (by rfl)) pa_nil)))))
        (pss_one (ps_set (i := 4) sc_law_of_text.nd rfl (Or.inl rfl) (pe_op op_add (pv 4) (pe_op op_mul (pe_op op_shl pe_int (pv 5)) (pe_callTy call_intK (by rfl) T.m_int (by decide +kernel) (pa_cons (pe_cmpR op_inSigK (pe_ix ix_str (pv 2) (pv 5) (fun _ _ => rfl)) pe_str (by rfl)) pa_nil))))))))
      (pss_one (ps_ret (pe_tup (pa_cons (pv 3) (pa_cons (pv 4) (pa_cons (pv 1) pa_nil))))))))), ?_⟩
  obtain ⟨d, hd, hd2⟩ : ∃ d, cutS (txt r.s (letN r n)) none (some (1 : Int)) = ⟨#[d]⟩ ∧ decide (V.str ⟨#[d]⟩ = V.str "-") = decide (r.s = 1) := by
    obtain ⟨c0, cr, hcs⟩ : ∃ c0 cr, letN r n = c0 :: cr := by
      cases h : letN r n with
      | nil => exact absurd h (letN_ne hn1)
      | cons a b => exact ⟨a, b, rfl⟩
    have h0 : LC c0 := letN_LC r n c0 (by rw [hcs]; exact List.mem_cons_self)
    rw [hcs]
    have e := cut_to ((if r.s = 1 then [45] else []) ++ (c0 :: cr)) 1
    have hs := hr.s
    generalize r.s = s at *
    have : s = 0 ∨ s = 1 := by omega
    rcases this with rfl | rfl
    · refine ⟨c0, e, ?_⟩
      rcases (by simpa [LC] using h0 : c0 = 73 ∨ c0 = 88 ∨ c0 = 89 ∨ c0 = 90) with rfl | rfl | rfl | rfl <;> decide +kernel
    · exact ⟨45, e, by decide +kernel⟩
  have hz : (txt r.s (letN r n)).length ≤ 100000 := by
    show ((if r.s = 1 then [45] else []) ++ letN r n).length ≤ 100000
    rw [List.length_append, letN_len]
    split <;> simp <;> omega
  refine q_par (v := nv r.s) (w := .str ⟨(letN r n).toArray⟩) (ea_cons (ev_is (ev_intB (b := decide (r.s = 1)) (ev_is (ev_op (x := .str ⟨#[d]⟩) (by rw [← hd]; exact ev_sl (ev_var rfl) eo_none (eo_some ev_c) hz) ev_c (rv_eq rfl)) (by rw [hd2]))) ?_) (ea_cons ?_ ea_nil)) fun H1 e1 => ?_
  · have hs := hr.s
    have : r.s = 0 ∨ r.s = 1 := by omega
    rcases this with h | h <;> rw [h] <;> rfl
  · intro Ho eo Q kk
    unfold tBM
    refine (ev_var rfl : Ev (tVar 0) _ Ho (.str (txt r.s (letN r n)))) Ho (Ex.refl _) _ fun H2 e2 => ⟨rfl, ?_⟩
    refine (ea_cons ev_c ea_nil : EvA (tCons (tC (.str "+-")) tNil) _ H2 [.str "+-"]) H2 (Ex.refl _) _ fun H3 e3 => ?_
    refine ⟨_, _, rfl, rfl, sz_of hz, ?_⟩
    rw [lstrip_txt hr.s (letN_ne hn1) (letN_LC r n)]
    exact kk H3 (e2.trans e3)
  refine q_two (P := fun v _ => v = nv 0) (P' := fun v _ => v = nv 0) (Ev.p (ev_n (n := 0) rfl)) (fun _ _ => Ev.p (ev_n (n := 0) rfl)) fun v w H2 H3 H4 e2 ev e3 ew e4 => ?_
  subst ev ew
  have x4 := ((e1.trans e2).trans e3).trans e4
  have hlz : (⟨(letN r n).toArray⟩ : Str).length = n := letN_len r n
  refine q_forR1 (n := ((n : Nat) : Int)) (ea_cons (ev_is (ev_lenS (ev_var rfl) (by show (letN r n).length ≤ 100000; rw [letN_len]; omega)) (by rw [hlz])) ea_nil) ⟨by omega, by omega⟩ (fun i σ' H' => ∃ (y : Option V), σ' = [some (.str (txt r.s (letN r n))), some (nv r.s), some (.str ⟨(letN r n).toArray⟩), some (nv (r.x % 2 ^ i)), some (nv (r.z % 2 ^ i)), y] ∧ Ex H H')
    (fun H5 e5 => ⟨_, by rw [Nat.pow_zero, Nat.mod_one, Nat.mod_one]; rfl, x4.trans e5⟩) ?_ ?_
  · rintro i σ' H' hi ⟨y, rfl, ex⟩
    have hi' : i < n := by omega
    have hc : (letN r n)[i]? = some (lc (r.x >>> i &&& 1) (r.z >>> i &&& 1)) := by
      unfold letN; rw [List.getElem?_map, List.getElem?_range hi']; rfl
    have at1 : (⟨(letN r n).toArray⟩ : Str).cps.toList[i]? = some (lc (r.x >>> i &&& 1) (r.z >>> i &&& 1)) := hc
    have hz2 : (⟨(letN r n).toArray⟩ : Str).length ≤ 100000 := by show (letN r n).length ≤ 100000; rw [letN_len]; omega
    have bstep : ∀ x : Nat, x % 2 ^ i + 1 <<< i * (x >>> i &&& 1) = x % 2 ^ (i + 1) := fun x => by
      rw [Nat.mod_pow_succ, bit_eq, Nat.shiftLeft_eq, Nat.one_mul]
    have h1 : 1 <<< i < 2 ^ 64 ∨ True := .inr trivial
    refine q_asg (v := nv (r.x % 2 ^ (i + 1))) ?_ fun H5 e5 => s_asg (v := nv (r.z % 2 ^ (i + 1))) ?_ fun H6 e6 => ⟨_, rfl, (ex.trans e5).trans e6⟩
    · rw [← bstep r.x]
      refine ev_op (ev_var rfl) (ev_op (ev_op (ev_n (n := 1) rfl) (ev_var rfl) (rv_shlN (by omega) (by decide))) (ev_is (ev_intB (ev_is (ev_op (ev_op (ev_var rfl) (ev_var rfl) (rv_signs hz2 at1)) ev_c rv_inSig) (by rw [lc_XY (bit_le _ _) (bit_le _ _)]))) ?_) (rv_mulN' (Nat.lt_of_le_of_lt (bit_le r.x i) (by decide)))) rv_addN
      rw [← bit_if]
      cases (r.x >>> i &&& 1 != 0) <;> rfl
    · rw [← bstep r.z]
      refine ev_op (ev_var rfl) (ev_op (ev_op (ev_n (n := 1) rfl) (ev_var rfl) (rv_shlN (by omega) (by decide))) (ev_is (ev_intB (ev_is (ev_op (ev_op (ev_var rfl) (ev_var rfl) (rv_signs hz2 at1)) ev_c rv_inSig) (by rw [lc_ZY (bit_le _ _) (bit_le _ _)]))) ?_) (rv_mulN' (Nat.lt_of_le_of_lt (bit_le r.z i) (by decide)))) rv_addN
      rw [← bit_if]
      cases (r.z >>> i &&& 1 != 0) <;> rfl
  · rintro σ' H' ⟨y, rfl, ex⟩
    rw [Int.toNat_natCast, Nat.mod_eq_of_lt hr.x, Nat.mod_eq_of_lt hr.z]
    exact s_retP (evp_row (a := r.x) (b := r.z) (c := r.s) (ea_cons (ev_var rfl) (ea_cons (ev_var rfl) (ea_cons (ev_var rfl) ea_nil)))) fun v H5 e5 hv => k v H5 (ex.trans e5) hv
theorem evp_law_of_text {σ : L2.St} {H : Hp} {te : TE} {n : Nat} {r : Row} {E : XK} (h : Ev te σ H (.str (txt r.s (letN r n)))) (hn1 : 1 ≤ n) (hn : n ≤ 1000) (hr : Rw n r) :
    EvP (tCall (sp_law_of_text K) [] E (tCons te tNil)) σ H (fun v H' => IsRow H' v r) :=
  evp_call (ea_cons h ea_nil) fun H1 e Q kk => ⟨n, r, rfl, hn1, hn, hr, fun v H' e' q => kk v H' e' q⟩
end
end Kp
end
section
set_option maxHeartbeats 4000000
namespace Kp
open PySem PySem.Spec PyProof.Rows L2 Evl
local macro_rules | `(tactic| walk_at "ht") => `(tactic| first | assumption | solve_by_elim (config := { maxDepth := 12 }))
local macro_rules | `(tactic| walk_at "ev") => `(tactic| repeat' (first
  | exact ea_nil
  | exact ev_var rfl
  | exact ev_n (n := 0) rfl | exact ev_n (n := 1) rfl | exact ev_n (n := 2) rfl
  | exact rv_andN | exact rv_xorN | exact rv_orN | exact rv_addN | exact rv_shrN | (exact rv_mulN (by decide)) | exact rv_eqN | exact rv_neN | exact rv_ltN
  | (refine' rv_ixT (st_of (by walk_at "ht")) (by rfl))
  | walk_at "evx"
  | refine' ev_op ?_ ?_ ?_
  | refine' ea_cons ?_ ?_))
section
variable {P : Program} {w : World} {K : PySem.W.Frag} {mg : Str → Option Value} {base : Heap}
/-! ### _law_bits_order -/
def ptC (n c : Nat) : Nat := if c < n then 0 else 1
def kC (n c : Nat) : Nat := if c < n then c else c - n
/-- the place of column c -/
def IsPc (n : Nat) (H : Hp) (v : V) (c : Nat) : Prop := ∃ t, v = .ref t ∧ H t = some (.tup [nv (ptC n c), nv (kC n c)])
theorem IsPc.kx {n : Nat} {H H' : Hp} {v : V} {c : Nat} (e : Kx H H') (h : IsPc n H v c) : IsPc n H' v c := by
  obtain ⟨t, rfl, h⟩ := h
  exact ⟨t, rfl, e.1 _ _ h⟩
theorem IsPc.ex {n : Nat} {H H' : Hp} {v : V} {c : Nat} (e : Ex H H') (h : IsPc n H v c) : IsPc n H' v c := h.kx (.of e)
def sp_law_bits_order : L2.Sp := fun vs H Q _ => ∃ n : Nat, vs = [nv n] ∧ n ≤ 1000 ∧ ∀ p xs H', Ex H H' → H' p = some (.lst xs) → Paired (IsPc n H') xs (List.range (2 * n)) → Q (.ref p) H'
theorem range2 (n : Nat) : List.range (2 * n) = List.range n ++ (List.range n).map (n + ·) := by
  rw [show 2 * n = n + n by omega, List.range_add]
abbrev N_law_bits_order : List Str := ["_law_size", "_law_k"]
theorem sc_law_bits_order : FnScope N_law_bits_order ["_law_size"] (defScope s_law_bits_order) := ⟨rfl, rfl, rfl, by decide +kernel, rfl, by decide +kernel, by decide +kernel⟩
theorem o_law_bits_order (T : Tx K mg) : OkF P w K mg base CX0 1 "_law_bits_order" ["_law_size"] sp_law_bits_order := by
  refine okf T d_law_bits_order "_law_bits_order" 47 38 rfl rfl rfl sc_law_bits_order (fun vs H Q E h => ?_) (fun _ _ _ _ _ _ us hl => match us, hl with | [_], _ => rfl) (fun f cdv A outer s H vs Q E hr h => ?_)
  · (obtain ⟨_, rfl, _⟩ := h; rfl)
  obtain ⟨n, rfl, hn, k⟩ := h
  refine ⟨_, (pss_one (ps_ret (pe_op op_cat (pe_lc (own := [("_law_k", 1)]) rfl sc_law_bits_order.nd (pi_range1 (by rfl) T.m_range (pa_cons (pv 0) pa_nil)) (blkOk_by (own := [("_law_k", 1)]) (N := N_law_bits_order) (sc := defScope s_law_bits_order) (by decide +kernel)) (fun _ _ _ _ _ => (pg_name (i := 1) sc_law_bits_order.nd rfl (Or.inl rfl))) (fun _ _ _ _ _ => pts_nil) (fun _ _ _ _ _ => (pe_tup (pa_cons pe_int (pa_cons (pv 1) pa_nil))))) (pe_lc (own := [("_law_k", 1)]) rfl sc_law_bits_order.nd (pi_range1 (by rfl) T.m_range (pa_cons (pv 0) pa_nil)) (blkOk_by (own := [("_law_k", 1)]) (N := N_law_bits_order) (sc := defScope s_law_bits_order) (by decide +kernel)) (fun _ _ _ _ _ => (pg_name (i := 1) sc_law_bits_order.nd rfl (Or.inl rfl))) (fun _ _ _ _ _ => pts_nil) (fun _ _ _ _ _ => (pe_tup (pa_cons pe_int (pa_cons (pv 1) pa_nil)))))))), ?_⟩
  have half : ∀ (q : Nat) (H1 : Hp), EvP (tLc (iRng1 (tCons (tVar 0) tNil)) (gName 1) tYes (tTup (tCons (tC (.int (q : Int))) (tCons (tVar 1) tNil))) [1]) (L2.start N_law_bits_order [nv n]) H1 (fun v H' => ∃ p xs, v = .ref p ∧ H' p = some (.lst xs) ∧ Paired (fun x i => ∃ t, x = .ref t ∧ H' t = some (.tup [nv q, nv i])) xs (List.range n)) := fun q H1 => by
    refine (evp_lc (wk_rng1 (n := n) (ea_cons (ev_var rfl) ea_nil) (by omega)) (fun _ => true) (fun i v H' => ∃ t, v = .ref t ∧ H' t = some (.tup [nv q, nv i])) (by omega) (fun i v H H' e ⟨t, h1, h2⟩ => ⟨t, h1, e.1 _ _ h2⟩) ?_).imp ?_
    · rintro i x Hb hi eb rfl Q' kk
      exact tg_name (i := i) rfl et_yes (fun _ => EvU.p (eu_tup (ea_cons ev_c (ea_cons (ev_var rfl) ea_nil)) (by show 2 ≤ 100000; decide))) kk
    · rintro v H2 e2 ⟨p, xs, h1, h2, h3⟩
      rw [filter_all] at h3
      exact ⟨p, xs, h1, h2, h3⟩
  unfold tRet tOp
  refine half 0 H H (Ex.refl _) _ fun v1 H1 e1 ⟨p1, xs1, ev1, hp1, q1⟩ => ?_
  refine half 1 H1 H1 (Ex.refl _) _ fun v2 H2 e2 ⟨p2, xs2, ev2, hp2, q2⟩ => ?_
  subst ev1 ev2
  have l1 := paired_len q1
  have l2 := paired_len q2
  rw [List.length_range] at l1 l2
  refine ⟨p1, p2, xs1, xs2, rfl, rfl, e2 _ _ hp1, hp2, sz_of (by omega), fun l nl => ?_⟩
  have e3 : Ex H2 (upd H2 l (.lst (xs1 ++ xs2))) := Ex.new nl
  refine k l _ _ ((e1.trans e2).trans e3) upd_same ?_
  rw [range2]
  refine paired_app ?_ ?_
  · refine paired_of (by rw [l1, List.length_range]) fun i x y hx hy => ?_
    obtain ⟨j, hj, t, ht, htt⟩ := paired_at q1 hx
    rw [hj] at hy
    have := Option.some.inj hy
    subst this
    have hlt : j < n := by have := List.mem_of_getElem? hj; simpa using this
    refine ⟨t, ht, ?_⟩
    unfold ptC kC
    rw [if_pos hlt, if_pos hlt]
    exact e3 _ _ (e2 _ _ htt)
  · refine paired_of (by rw [l2, List.length_map, List.length_range]) fun i x y hx hy => ?_
    obtain ⟨j, hj, t, ht, htt⟩ := paired_at q2 hx
    rw [List.getElem?_map, hj] at hy
    have ey : y = n + j := (Option.some.inj hy).symm
    subst ey
    refine ⟨t, ht, ?_⟩
    unfold ptC kC
    rw [if_neg (by omega), if_neg (by omega), show n + j - n = j by omega]
    exact e3 _ _ htt
theorem evp_law_bits_order {σ : L2.St} {H : Hp} {te : TE} {n : Nat} {E : XK} (h : Ev te σ H (nv n)) (hn : n ≤ 1000) : EvP (tCall sp_law_bits_order [] E (tCons te tNil)) σ H (fun v H' => ∃ p xs, v = .ref p ∧ H' p = some (.lst xs) ∧ Paired (IsPc n H') xs (List.range (2 * n))) :=
  evp_call (ea_cons h ea_nil) fun H1 e Q kk => ⟨n, rfl, hn, fun p xs H' e' hp q => kk _ H' e' ⟨p, xs, rfl, hp, q⟩⟩
/-! ### a row's bit by the place -/
theorem row_part (r : Row) (n c : Nat) : ([.int (r.x : Int), .int (r.z : Int), .int (r.s : Int)] : List V)[ptC n c]? = some (nv (if c < n then r.x else r.z)) := by
  unfold ptC
  split <;> rfl
theorem col_part (r : Row) (n c : Nat) : (if c < n then r.x else r.z) >>> kC n c % 2 = col r n c := by
  unfold kC col
  split <;> exact bit_mod _ _
theorem ev_colP {σ : L2.St} {H : Hp} {te tp tk : TE} {v : V} {r : Row} {n c : Nat} (h : Ev te σ H v) (hp : Ev tp σ H (nv (ptC n c))) (hk : Ev tk σ H (nv (kC n c))) (q : IsRow H v r) :
    Ev (tOp (rI (fun _ j => 0 < j) fun i j => .int (i % j)) (tCB rInt1 (tCons (tOp (rI (fun _ j => 0 ≤ j) fun i j => .int (i / 2 ^ j.toNat)) (tOp (rIxT K) te tp) tk) tNil)) (tC (.int 2))) σ H (nv (col r n c)) := by
  obtain ⟨a, rfl, ha⟩ := q
  rw [← col_part]
  exact ev_op (ev_intI (ev_op (ev_op h hp (rv_ixT (st_of ha) (atI_nat (row_part r n c)))) hk rv_shrN)) (ev_n (n := 2) rfl) (rv_modN (by decide))
theorem q_forLP {σ : L2.St} {H : Hp} {tl : TE} {D : Ends} {tz tu : TS} {g : TG} {P : List V → Hp → Prop} (h : EvP tl σ H (fun v H' => ∃ a xs, v = .ref a ∧ H' a = some (.lst xs) ∧ P xs H')) (kk : ∀ a xs H1, Ex H H1 → H1 a = some (.lst xs) → P xs H1 → ∃ Pv : Nat → L2.St → Hp → Prop, Pv 0 σ H1 ∧ (∀ i σ' H', i ≤ xs.length → Pv i σ' H' → H' a = some (.lst xs)) ∧
    (∀ i x σ' Ha, xs[i]? = some x → Pv i σ' Ha → g x σ' Ha fun σ2 H2 => tu { D with nx := Pv (i + 1), ct := Pv (i + 1), bk := tz D } σ2 H2) ∧ ∀ σ' H', Pv xs.length σ' H' → tz D σ' H') : tSeq (tFor (iList K tl) g tu) tz D σ H := by
  refine h H (Ex.refl _) _ fun v H1 e1 ⟨a, xs, ev, ha, hp⟩ => ?_
  subst ev
  obtain ⟨Pv, h0, hG, hs, hd⟩ := kk a xs H1 e1 ha hp
  exact ⟨a, rfl, ⟨xs, sq_of ha⟩, for_it (D := { D with nx := tz D }) (walk_list (K := K) (a := a) (xs := xs)) Pv h0 (fun i σ' H' hi p => sq_of (hG i σ' H' hi p)) (fun i x σ' Ha Hb hi p y => by obtain ⟨rfl, y⟩ := y; exact hs i x σ' _ y p) hd⟩
/-! ### _law_reduced -/
def sp_law_reduced : L2.Sp := fun vs H Q _ => ∃ (v1 : V) (l : List Row) (n : Nat), vs = [v1, nv n] ∧ IsRs H v1 l ∧ l.length ≤ 1000 ∧ n ≤ 64 ∧ (∀ r ∈ l, Rw n r) ∧ ∀ v H', Ex H H' → IsRs H' v (redRows l n) → Q v H'
theorem redSt_all {n : Nat} {l : List Row} (h : ∀ r ∈ l, Rw n r) : ∀ m, ∀ r ∈ (redSt l n m).1, Rw n r := by
  intro m
  induction m with
  | zero => exact h
  | succ m ih => rw [redSt_succ]; exact colStep_all ih
theorem clrTo_allR {n p c j : Nat} {l : List Row} (h : ∀ r ∈ l, Rw n r) : ∀ r ∈ clrTo l p n c (l.getD p rw0) j, Rw n r := by
  intro r hr
  unfold clrTo at hr
  obtain ⟨i, hi, e⟩ := List.mem_mapIdx.mp hr
  rw [← e]
  split
  · unfold cl1
    split
    · exact (h _ (List.getElem_mem hi)).mul (getD_all h (Rw.id n) _)
    · exact h _ (List.getElem_mem hi)
  · exact h _ (List.getElem_mem hi)
theorem clrTo_p {n p c j : Nat} {l : List Row} (hp : p < l.length) : (clrTo l p n c (l.getD p rw0) j)[p]? = some (l.getD p rw0) := by
  unfold clrTo
  rw [List.getElem?_mapIdx, List.getElem?_eq_getElem hp]
  have : l.getD p rw0 = l[p] := getD_of (List.getElem?_eq_getElem hp)
  rw [this]
  simp [cl1]
abbrev N_law_reduced : List Str := ["_law_strings_here", "_law_size", "_law_table", "_law_place", "_law_part", "_law_k", "_law_found", "_law_j"]
theorem sc_law_reduced : FnScope N_law_reduced ["_law_strings_here", "_law_size"] (defScope s_law_reduced) := ⟨rfl, rfl, rfl, by decide +kernel, rfl, by decide +kernel, by decide +kernel⟩
theorem o_law_reduced (T : Tx K mg) : OkF P w K mg base CX0 4 "_law_reduced" ["_law_strings_here", "_law_size"] sp_law_reduced := by
  have o_law_bits_order : OkF P w K mg base CX0 1 "_law_bits_order" ["_law_size"] sp_law_bits_order := o_law_bits_order T
  have o_law_product : OkF P w K mg base CX0 2 "_law_product" ["_law_one", "_law_two"] sp_law_product := o_law_product T
  refine okf T d_law_reduced "_law_reduced" 48 39 rfl rfl rfl sc_law_reduced (fun vs H Q E h => ?_) (fun _ _ _ _ _ _ us hl => match us, hl with | [_, _], _ => rfl) (fun f cdv A outer s H vs Q E hr h => ?_)
  · (obtain ⟨_, _, _, rfl, _⟩ := h; rfl)
  obtain ⟨v1, l, n, rfl, ⟨a, xs0, rfl, ha, hr0⟩, hlen, hn, hrw, k⟩ := h
  refine ⟨_, (pss_cons (ps_asg (pe_tup (pa_cons (pe_callTy (call_list_ofK K) (by rfl) T.m_list (by decide +kernel) (pa_cons (pv 0) pa_nil)) (pa_cons pe_int pa_nil))) (pg_tup rfl (pgs_cons (pg_name (i := 2) sc_law_reduced.nd rfl (Or.inr rfl)) (pgs_cons (pg_name (i := 3) sc_law_reduced.nd rfl (Or.inl rfl)) pgs_nil))))
      (pss_cons (ps_for PassesOwn.never rfl (pi_listK K (pe_cl o_law_bits_order (hr.mono (by decide)) (by rfl) pass0 (pa_cons (pv 1) pa_nil))) (pg_tup rfl (pgs_cons (pg_name (i := 4) sc_law_reduced.nd rfl (Or.inr rfl)) (pgs_cons (pg_name (i := 5) sc_law_reduced.nd rfl (Or.inr rfl)) pgs_nil)))
        (pss_cons (ps_setLc (i := 6) (own := [("_law_j", 7)]) rfl sc_law_reduced.nd rfl rfl (sw_true rfl rfl rfl (by decide +kernel)) (pi_range2 (by rfl) T.m_range (pa_cons (pv 3) (pa_cons (pe_callB (call_lenK K) (by rfl) T.m_len PySem.boot_len (pa_cons (pv 2) pa_nil)) pa_nil))) (blkOk_by (own := [("_law_j", 7)]) (N := N_law_reduced) (sc := defScope s_law_reduced) (by decide +kernel)) (fun _ _ _ _ _ => (pg_name (i := 7) sc_law_reduced.nd rfl (Or.inl rfl))) (fun _ _ _ _ _ => (pts_one (pt_cmpR op_eq (pe_op op_mod (pe_callTy call_intK (by rfl) T.m_int (by decide +kernel) (pa_cons (pe_op op_shr (pe_ix (ix_tupK K) (pe_ix (ix_listK K) (pv 2) (pv 7) (fun _ _ => rfl)) (pv 4) (fun _ _ => rfl)) (pv 5)) pa_nil)) pe_int) pe_int (nomark _)))) (fun _ _ _ _ _ => (pv 7)))
        (pss_cons (ps_if (pt_cmpR (op_eqDK K hr.units) (pv 6) (pe_lst pa_nil) (nomark _)) (pss_one ps_continue) pss_nil)
        (pss_cons (ps_asg (pe_tup (pa_cons (pe_ix (ix_listK K) (pv 2) (pe_ix (ix_listK K) (pv 6) pe_int (fun _ _ => rfl)) (fun _ _ => rfl)) (pa_cons (pe_ix (ix_listK K) (pv 2) (pv 3) (fun _ _ => rfl)) pa_nil))) (pg_tup rfl (pgs_cons (pg_sub (pv 2) (pv 3) set_list) (pgs_cons (pg_sub (pv 2) (pe_ix (ix_listK K) (pv 6) pe_int (fun _ _ => rfl)) set_list) pgs_nil))))
        (pss_cons (ps_for PassesOwn.never rfl (pi_range1 (by rfl) T.m_range (pa_cons (pe_callB (call_lenK K) (by rfl) T.m_len PySem.boot_len (pa_cons (pv 2) pa_nil)) pa_nil)) (pg_name (i := 7) sc_law_reduced.nd rfl (Or.inl rfl))
          (pss_one (ps_if (PW.pt (pw_and (pt_cmpR op_ne (pv 7) (pv 3) (nomark _)) (pw_and1 (pt_cmpR op_eq (pe_op op_mod (pe_callTy call_intK (by rfl) T.m_int (by decide +kernel) (pa_cons (pe_op op_shr (pe_ix (ix_tupK K) (pe_ix (ix_listK K) (pv 2) (pv 7) (fun _ _ => rfl)) (pv 4) (fun _ _ => rfl)) (pv 5)) pa_nil)) pe_int) pe_int (nomark _))))) (pss_one (ps_asg (pe_cl o_law_product (hr.mono (by decide)) (by rfl) pass0 (pa_cons (pe_ix (ix_listK K) (pv 2) (pv 7) (fun _ _ => rfl)) (pa_cons (pe_ix (ix_listK K) (pv 2) (pv 3) (fun _ _ => rfl)) pa_nil))) (pg_sub (pv 2) (pv 7) set_list))) pss_nil)))
        (pss_one (ps_set (i := 3) sc_law_reduced.nd rfl (Or.inl rfl) (pe_op op_add (pv 3) pe_int))))))))
      (pss_one (ps_ret (pe_slice (sl_listK K) (pv 2) po_none (po_some (pv 3))))))), ?_⟩
  refine q_two (evp_listOf (ev_var rfl) (.inl (sq_of ha))) (fun H1 e1 => Ev.p (ev_n (n := 0) rfl)) fun v w H1 H2 H3 e1 ⟨L, ev, nL, hL⟩ e2 ew e3 => ?_
  subst ev ew
  have x3 := (e1.trans e2).trans e3
  refine q_forLP (evp_law_bits_order (ev_var rfl) (by omega)) fun ao os H4 e4 hao hos => ⟨fun i σ' H' => ∃ xs y4 y5 y6 y7, σ' = [some (.ref a), some (nv n), some (.ref L), some (nv (redSt l n i).2), y4, y5, y6, y7] ∧ Ex H H' ∧ H' ao = some (.lst os) ∧ Paired (IsPc n H') os (List.range (2 * n)) ∧ H' L = some (.lst xs) ∧ Rows H' xs (redSt l n i).1,
    ⟨xs0, _, _, _, _, rfl, x3.trans e4, hao, hos, e4 _ _ (e3 _ _ (e2 _ _ hL)), hr0.ex (x3.trans e4)⟩, fun i σ' H' _ ⟨_, _, _, _, _, _, _, h, _⟩ => h, ?_, ?_⟩
  · rintro c x σ' H' hx ⟨xs, y4, y5, y6, y7, rfl, ex, hao', hos', hL', hr'⟩
    have haoL : ao ≠ L := by
      rintro rfl
      rw [e4 _ _ (e3 _ _ (e2 _ _ hL))] at hao
      have eo : xs0 = os := by injection hao with z; injection z
      obtain ⟨r, _, b, eb, hb⟩ := paired_at (hr0.ex ex) (by rw [eo]; exact hx)
      obtain ⟨_, _, t, et, ht⟩ := paired_at hos' hx
      rw [eb] at et
      injection et with et
      subst et
      rw [hb] at ht
      injection ht with z
      injection z with z
      have := congrArg List.length z
      simp at this
    obtain ⟨c', hc', t, rfl, ht⟩ := paired_at hos' hx
    have hcl : c < 2 * n := by
      have h1 := (List.getElem?_eq_some_iff.mp hc').1
      simpa using h1
    rw [List.getElem?_range hcl] at hc'
    have := Option.some.inj hc'
    subst this
    refine ⟨t, _, rfl, st_of ht, rfl, _, _, rfl, _, _, rfl, rfl, ?_⟩
    dsimp only
    rw [redSt_succ]
    have hll := redSt_len l n c
    have hle := redSt_le l n c
    have hal := redSt_all hrw c
    unfold colStep
    generalize redSt l n c = st at *
    obtain ⟨l1, p⟩ := st
    dsimp only at *
    have hxl := paired_len hr'
    have b01 : ∀ r : Row, (V.bl (decide (nv (col r n c) = nv 1))) = V.bl (col r n c != 0) := fun r => by
      rcases col_01 r n c with h | h <;> rw [h] <;> decide +kernel
    -- found
    refine q_asgP (P := fun v H' => ∃ fo, v = .ref fo ∧ H' fo = some (.lst ((fnd l1 p n c).map nv))) ((evp_lc (wk_rng2 (lo := p) (n := l1.length) (ea_cons (ev_var rfl) (ea_cons (by rw [← hxl]; exact ev_lenL (ev_var rfl) (sq_of hL')) ea_nil)) (by omega) (by omega)) (fun i => col (l1.getD (p + i) rw0) n c != 0) (fun i v _ => v = nv (p + i)) (by omega) (fun _ _ _ _ _ q => q) ?_).imp ?_) fun v H5 e5 ⟨fo, ev, hfo⟩ => ?_
    · rintro i x Hb hi eb rfl Q' kk
      obtain ⟨v, hv, hr⟩ := rows_getD hr' (i := p + i) (by omega)
      exact tg_name (i := p + i) rfl (et_test (ev_is (ev_op (ev_colP (ev_op (ev_var rfl) (ev_var rfl) (rv_ixL (sq_of (eb _ _ hL')) (atI_nat hv))) (ev_var rfl) (ev_var rfl) (hr.ex eb)) ev_c (rv_eq rfl)) (b01 _))) (fun _ => Ev.p (ev_var rfl)) kk
    · rintro v H4 e4 ⟨q, ys, rfl, h1, h2⟩
      refine ⟨q, rfl, ?_⟩
      rw [h1, paired_eq h2 (g := fun i => nv (p + i)) fun i x q => q]
      unfold fnd
      rw [List.map_map]; rfl
    subst ev
    have hL4 := e5 _ _ hL'
    have hr4 := hr'.ex e5
    have hao4 := e5 _ _ hao'
    refine q_when (b := decide (fnd l1 p n c = [])) (et_test (ev_eqLL (ms := []) (ev_var rfl) (sq_of hfo) el_nil)) (fun hne H6 e6 => ?_) fun hne H6 e6 => ?_
    · have hf : fnd l1 p n c = [] := of_decide_eq_true hne
      rw [hf]
      have e56 := e5.trans e6
      exact ⟨xs, _, _, _, _, rfl, ex.trans e56, e56 _ _ hao', L2.Paired.mapP hos' fun _ _ q => q.ex e56, e56 _ _ hL', hr'.ex e56⟩
    · cases hf : fnd l1 p n c with
      | nil => rw [hf] at hne; cases hne
      | cons f fr =>
        dsimp only
        obtain ⟨f1, f2, f3⟩ := fnd_mem (l := l1) (p := p) (n := n) (c := c) (f := f) (by rw [hf]; exact List.mem_cons_self)
        have hL5 := e6 _ _ hL4
        have hr5 := hr4.ex e6
        have hfo5 := e6 _ _ hfo
        have hao5 := e6 _ _ hao4
        rw [hf] at hfo5
        have hfl : fo ≠ L := by
          rintro rfl
          rw [hL4, hf] at hfo
          have ex0 : xs = (f :: fr).map nv := by injection hfo with z; injection z
          obtain ⟨y, hy, ⟨_, hz, _⟩⟩ := paired_at hr4 (i := 0) (x := nv f) (by rw [ex0]; rfl)
          cases hz
        obtain ⟨vf, hvf, rf⟩ := rows_getD hr5 (i := f) f2
        obtain ⟨vp, hvp, rp⟩ := rows_getD hr5 (i := p) (by omega)
        have ef : ∀ H6, ExB L H6 H6 → H6 fo = some (.lst ((f :: fr).map nv)) → Ev (tOp (rIxL K) (tVar 6) (tC (.int 0))) [some (.ref a), some (nv n), some (.ref L), some (nv p), some (nv (ptC n c)), some (nv (kC n c)), some (.ref fo), y7] H6 (nv f) := fun H6 _ h6 => ev_op (ev_var rfl) (ev_n (n := 0) rfl) (rv_ixL (sq_of h6) (atI_nat rfl))
        refine q_swap (a := vf) (b := vp) (i := p) (j := f) hL5 (ea_cons (ev_op (ev_var rfl) (ef _ ExB.refl hfo5) (rv_ixL (sq_of hL5) (atI_nat hvf))) (ea_cons (ev_op (ev_var rfl) (ev_var rfl) (rv_ixL (sq_of hL5) (atI_nat hvp))) ea_nil)) (by omega) (by omega) (ev_var rfl) (ev_var rfl) (fun _ _ => ev_var rfl) (fun H6 e6 => ef H6 ExB.refl (e6 _ _ hfl hfo5)) fun H7 b7 hL7 => ?_
        have k7 := b7.kx hL5
        have hr7 : Rows H7 ((xs.set p vf).set f vp) (swp l1 p f) := paired_set (rp.kx k7) f (paired_set (rf.kx k7) p (hr5.kx k7))
        have hsl := swp_len l1 p f
        have x7 : Ex H H7 := b7.ex ((ex.trans e5).trans e6) nL
        have hao7 := b7 _ _ haoL hao5
        have hos7 : Paired (IsPc n H7) os (List.range (2 * n)) := L2.Paired.mapP hos' fun _ _ q => (q.ex (e5.trans e6)).kx k7
        have hal2 : ∀ r ∈ swp l1 p f, Rw n r := set_all (set_all hal (getD_all hal (Rw.id n) _)) (getD_all hal (Rw.id n) _)
        generalize swp l1 p f = l2 at *
        generalize (xs.set p vf).set f vp = xs2 at *
        have hxl2 := paired_len hr7
        refine q_forR1 (n := ((l2.length : Nat) : Int)) (ea_cons (by rw [← hxl2]; exact ev_lenL (ev_var rfl) (sq_of hL7)) ea_nil) ⟨by omega, by omega⟩
          (fun j σ' H' => ∃ xs y7, σ' = [some (.ref a), some (nv n), some (.ref L), some (nv p), some (nv (ptC n c)), some (nv (kC n c)), some (.ref fo), y7] ∧ Ex H H' ∧ H' ao = some (.lst os) ∧ Paired (IsPc n H') os (List.range (2 * n)) ∧ H' L = some (.lst xs) ∧ Rows H' xs (clrTo l2 p n c (l2.getD p rw0) j))
          (fun H8 e8 => ⟨xs2, _, rfl, x7.trans e8, e8 _ _ hao7, L2.Paired.mapP hos7 fun _ _ q => q.ex e8, e8 _ _ hL7, by rw [clrTo_zero]; exact hr7.ex e8⟩) ?_ ?_
        · rintro j σ' H8 hj ⟨xs3, y7', rfl, x8, hao8, hos8, hL8, hr8⟩
          have hj' : j < l2.length := by omega
          have hcl := clrTo_len l2 p n c (l2.getD p rw0) j
          have hx3 := paired_len hr8
          have ej := List.getElem?_eq_getElem hj'
          obtain ⟨vj, hvj, rj⟩ := paired_at2 hr8 (clrTo_at ej)
          obtain ⟨vq, hvq, rq⟩ := paired_at2 hr8 (clrTo_p (n := n) (c := c) (j := j) (show p < l2.length by omega))
          have ev7 : Ev (tOp (rIxL K) (tVar 2) (tVar 7)) [some (.ref a), some (nv n), some (.ref L), some (nv p), some (nv (ptC n c)), some (nv (kC n c)), some (.ref fo), some (nv j)] H8 vj := ev_op (ev_var rfl) (ev_var rfl) (rv_ixL (sq_of hL8) (atI_nat hvj))
          have evq : Ev (tOp (rIxL K) (tVar 2) (tVar 3)) [some (.ref a), some (nv n), some (.ref L), some (nv p), some (nv (ptC n c)), some (nv (kC n c)), some (.ref fo), some (nv j)] H8 vq := ev_op (ev_var rfl) (ev_var rfl) (rv_ixL (sq_of hL8) (atI_nat hvq))
          have kc : cl1 p n c (l2.getD p rw0) j l2[j] = if (!decide (j = p) && col l2[j] n c != 0) = true then mul l2[j] (l2.getD p rw0) else l2[j] := by
            unfold cl1
            by_cases q1 : j = p <;> by_cases q2 : col l2[j] n c = 0 <;> simp [q1, q2]
          refine s_when (b := (!decide (j = p) && col l2[j] n c != 0)) (et_and (et_test (ev_op (ev_var rfl) (ev_var rfl) rv_neN)) fun _ => et_test (ev_is (ev_op (ev_colP ev7 (ev_var rfl) (ev_var rfl) rj) ev_c (rv_eq rfl)) (b01 _))) (fun hc H9 e9 => ?_) fun hc H9 e9 => ?_
          · have rj9 := rj.ex e9
            refine s_setP (e9 _ _ hL8) (evp_law_product (fun H1 e => ev7 H1 (e9.trans e)) (fun H1 e => evq H1 (e9.trans e)) rj9 (rq.ex e9) hn (hal2 _ (List.getElem_mem hj')) (getD_all hal2 (Rw.id n) _)) (ev_var rfl) (ev_var rfl) (by omega) fun v Ha Hf ea rv b hLf => ?_
            have kf := b.kx (ea _ _ (e9 _ _ hL8))
            have e9a := e9.trans ea
            refine ⟨_, _, rfl, b.ex (x8.trans e9a) nL, b _ _ haoL (e9a _ _ hao8), L2.Paired.mapP hos8 fun _ _ q => (q.ex e9a).kx kf, hLf, ?_⟩
            rw [clrTo_succ ej, kc, if_pos hc]
            exact paired_set (rv.kx kf) j ((hr8.ex e9a).kx kf)
          · refine ⟨xs3, _, rfl, x8.trans e9, e9 _ _ hao8, L2.Paired.mapP hos8 fun _ _ q => q.ex e9, e9 _ _ hL8, ?_⟩
            rw [clrTo_same ej (by rw [kc, if_neg (by rw [hc]; decide)])]
            exact hr8.ex e9
        · rintro σ' H8 ⟨xs3, y7', rfl, x8, hao8, hos8, hL8, hr8⟩
          rw [Int.toNat_natCast, clrTo_all] at hr8
          refine s_asg (v := nv (p + 1)) (ev_op (ev_var rfl) (ev_n (n := 1) rfl) rv_addN) fun H9 e9 => ?_
          exact ⟨xs3, _, _, _, _, rfl, x8.trans e9, e9 _ _ hao8, L2.Paired.mapP hos8 fun _ _ q => q.ex e9, e9 _ _ hL8, hr8.ex e9⟩
  · rintro σ' H' ⟨xs, y4, y5, y6, y7, rfl, ex, hao', hos', hL', hr'⟩
    have hlo := paired_len hos'
    rw [List.length_range] at hlo
    rw [hlo] at hr' ⊢
    refine s_retP (EvL.p (el_sl (ev_var rfl) eo_none (eo_some (ev_var rfl)) (sq_of hL'))) fun v H9 e9 ⟨q, ev, hq⟩ => k v H9 (ex.trans e9) ⟨q, _, ev, hq, ?_⟩
    have ec : cutV xs none (some ((redSt l n (2 * n)).2 : Int)) = xs.take (redSt l n (2 * n)).2 := cutV_to xs _
    rw [ec]
    exact paired_take _ (hr'.ex e9)
theorem evp_law_reduced {σ : L2.St} {H : Hp} {te tf : TE} {l : List Row} {n : Nat} {v : V} {E : XK} (h : Ev te σ H v) (hv : IsRs H v l) (h' : Ev tf σ H (nv n)) (hl : l.length ≤ 1000) (hn : n ≤ 64) (hrw : ∀ r ∈ l, Rw n r) :
    EvP (tCall sp_law_reduced [] E (tCons te (tCons tf tNil))) σ H (fun v H' => IsRs H' v (redRows l n)) :=
  evp_call (ea_cons h (ea_cons h' ea_nil)) fun H1 e Q kk => ⟨v, l, n, rfl, hv.ex e, hl, hn, hrw, fun v' H' e' q => kk v' H' e' q⟩
end
end Kp
end
section
set_option maxHeartbeats 4000000
namespace Kp
open PySem PySem.Spec PyProof.Rows L2 Evl
local macro_rules | `(tactic| walk_at "ht") => `(tactic| first | assumption | solve_by_elim (config := { maxDepth := 12 }))
local macro_rules | `(tactic| walk_at "ev") => `(tactic| repeat' (first
  | exact ea_nil
  | exact ev_var rfl
  | exact ev_n (n := 0) rfl | exact ev_n (n := 1) rfl | exact ev_n (n := 2) rfl
  | exact rv_andN | exact rv_xorN | exact rv_orN | exact rv_addN | exact rv_shrN | (exact rv_mulN (by decide)) | exact rv_eqN | exact rv_neN | exact rv_ltN
  | (refine' rv_ixT (st_of (by walk_at "ht")) (by rfl))
  | walk_at "evx"
  | refine' ev_op ?_ ?_ ?_
  | refine' ea_cons ?_ ?_))
section
variable {P : Program} {w : World} {K : PySem.W.Frag} {mg : Str → Option Value} {base : Heap}
/-! ### _law_gate -/
def Gk.nm : Gk → Str
  | .h => "h" | .s => "s" | .cx => "cx" | .cz => "cz" | .swap => "swap" | .x => "x" | .z => "z"
theorem ev_inLs {σ : L2.St} {H : Hp} {ta tb : TE} {x : V} {xs : List V} (ha : Ev ta σ H x) (hb : EvL tb σ H xs) (hx : flatV x = true) (hf : xs.all flatV = true) : Ev (tOp (rIn K false) ta tb) σ H (.bl (inV x xs)) := fun H1 e Q k => by
  refine ha H1 e _ fun H2 e2 => hb H2 (e.trans e2) _ fun p H3 np e3 hp => ?_
  exact rv_isL (sq_of hp) hx hf H3 (Ex.refl _) _ fun H4 e4 => k H4 ((e2.trans e3).trans e4)
theorem ev_niLs {σ : L2.St} {H : Hp} {ta tb : TE} {x : V} {xs : List V} (ha : Ev ta σ H x) (hb : EvL tb σ H xs) (hx : flatV x = true) (hf : xs.all flatV = true) : Ev (tOp (rIn K true) ta tb) σ H (.bl (!inV x xs)) := fun H1 e Q k => by
  refine ha H1 e _ fun H2 e2 => hb H2 (e.trans e2) _ fun p H3 np e3 hp => ?_
  exact rv_niL (sq_of hp) hx hf H3 (Ex.refl _) _ fun H4 e4 => k H4 ((e2.trans e3).trans e4)
/-- {'x': .., 'y': .., 'z': ..}[key] -/
theorem ev_disp3 {σ : L2.St} {H : Hp} {t1 t2 t3 tk : TE} {v1 v2 v3 v : V} {key : Str} (h1 : Ev t1 σ H v1) (h2 : Ev t2 σ H v2) (h3 : Ev t3 σ H v3) (hk : Ev tk σ H (.str key)) (hv : (key = "x" ∧ v = v1) ∨ (key = "z" ∧ v = v3)) :
    Ev (tDGet (tDisp [(tC (.str "x"), t1), (tC (.str "y"), t2), (tC (.str "z"), t3)]) tk) σ H v := fun H1 e Q k => by
  unfold tDGet tDisp
  intro p np
  have e0 : Ex H1 (upd H1 p (.dK [])) := Ex.new np
  show t1 σ (upd H1 p (.dK [])) _
  refine h1 _ (e.trans e0) _ fun H2 e2 => ?_
  show t2 σ H2 _
  refine h2 _ ((e.trans e0).trans e2) _ fun H3 e3 => ?_
  show t3 σ H3 _
  refine h3 _ (((e.trans e0).trans e2).trans e3) _ fun H4 e4 => ?_
  have e24 := (e2.trans e3).trans e4
  have hp : H4 p = some (.dK []) := e24 _ _ upd_same
  refine ⟨hp, [(.inr "x", v1), (.inr "y", v2), (.inr "z", v3)], rfl, (by show 3 ≤ 15; decide), ?_⟩
  have em : mergeK [] [(.inr "x", v1), (.inr "y", v2), (.inr "z", v3)] = putK (putK (putK ([] : List (Key × V)) (.inr "x") v1) (.inr "y") v2) (.inr "z") v3 := rfl
  rw [em]
  have ex : Ex H1 (upd H4 p (.dK (putK (putK (putK ([] : List (Key × V)) (.inr "x") v1) (.inr "y") v2) (.inr "z") v3))) := Ex.mut (e0.trans e24) np
  refine hk _ (e.trans ex) _ fun H5 e5 => ?_
  refine ⟨p, v, rfl, ?_, k H5 (ex.trans e5)⟩
  have g := DGet.k (k := .inr key) (e5 _ _ upd_same)
  rcases hv with ⟨rfl, rfl⟩ | ⟨rfl, rfl⟩
  · rw [valV_put, if_neg (by decide +kernel), valV_put, if_neg (by decide +kernel), valV_put, if_pos rfl] at g
    exact g
  · rw [valV_put, if_pos rfl] at g
    exact g
theorem q_unp3 {σ : L2.St} {H : Hp} {te : TE} {Dd : Ends} {tz : TS} {x y z : V} {i j m : Nat} {p : Addr} (h : Ev te σ H (.ref p)) (hp : H p = some (.tup [x, y, z])) (k : ∀ H1, Ex H H1 → tz Dd (((σ.set i (some x)).set j (some y)).set m (some z)) H1) : tSeq (tAsg te (gTup K 3 (gCons (gName i) (gCons (gName j) (gCons (gName m) gNil))))) tz Dd σ H := by
  unfold tSeq tAsg
  refine h H (Ex.refl _) _ fun H1 e1 => ?_
  exact ⟨p, [x, y, z], rfl, st_of (e1 _ _ hp), rfl, x, [y, z], rfl, y, [z], rfl, z, [], rfl, rfl, k H1 e1⟩
theorem evp_ifP {σ : L2.St} {H : Hp} {t : TT} {ta tb : TE} {b : Bool} {P : V → Hp → Prop} (h : EvT t σ H b) (h1 : b = true → EvP ta σ H P) (h2 : b = false → EvP tb σ H P) : EvP (tIf t ta tb) σ H P := fun H1 e Q k => h H1 e _ fun H2 e2 => by
  cases b with
  | true => exact h1 rfl H2 (e.trans e2) _ fun v H3 e3 p => k v H3 (e2.trans e3) p
  | false => exact h2 rfl H2 (e.trans e2) _ fun v H3 e3 p => k v H3 (e2.trans e3) p
def sp_law_gate (K : PySem.W.Frag) : L2.Sp := fun vs H Q _ => ∃ (v1 : V) (g : Gk) (pl : Addr) (ps : List Nat) (a b n : Nat) (r : Row), vs = [v1, .str g.nm, .ref pl] ∧ IsRow H v1 r ∧ H pl = some (.lst (ps.map nv)) ∧ ps[0]? = some a ∧ (g.two = true → ps[1]? = some b) ∧ a < n ∧ b < n ∧ n ≤ 64 ∧ Rw n r ∧ ∀ v H', Ex H H' → IsRow H' v (gate g a b r) → Q v H'
def Gk.g3 : Gk → Bool
  | .x => true | .z => true | _ => false
def Gk.g2 : Gk → Bool
  | .h => true | .s => true | _ => false
abbrev N_law_gate : List Str := ["_law_string", "_law_kind", "_law_places", "_law_x", "_law_z", "_law_sign", "_law_a", "_law_one", "_law_two", "_law_turn", "_law_b", "_law_first", "_law_second", "_law_other"]
theorem sc_law_gate : FnScope N_law_gate ["_law_string", "_law_kind", "_law_places"] (defScope s_law_gate) := ⟨rfl, rfl, rfl, by decide +kernel, rfl, by decide +kernel, by decide +kernel⟩
theorem o_law_gate (T : Tx K mg) : OkF P w K mg base CX0 1 "_law_gate" ["_law_string", "_law_kind", "_law_places"] (sp_law_gate K) := by
  refine okf T d_law_gate "_law_gate" 45 36 rfl rfl rfl sc_law_gate (fun vs H Q E h => ?_) (fun _ _ _ _ _ _ us hl => match us, hl with | [_, _, _], _ => rfl) (fun f cdv A outer s H vs Q E hr h => ?_)
  · (obtain ⟨_, _, _, _, _, _, _, _, rfl, _⟩ := h; rfl)
  obtain ⟨v1, g, pl, ps, a, b, n, r, rfl, ⟨p1, rfl, h1⟩, hpl, hpa, hpb, ha, hb, hn, hrw, k⟩ := h
  refine ⟨_, (pss_cons (ps_asg (pv 0) (pg_tup rfl (pgs_cons (pg_name (i := 3) sc_law_gate.nd rfl (Or.inl rfl)) (pgs_cons (pg_name (i := 4) sc_law_gate.nd rfl (Or.inl rfl)) (pgs_cons (pg_name (i := 5) sc_law_gate.nd rfl (Or.inl rfl)) pgs_nil)))))
      (pss_cons (ps_set (i := 6) sc_law_gate.nd rfl (Or.inl rfl) (pe_ix (ix_listK K) (pv 2) pe_int (fun _ _ => rfl)))
      (pss_cons (ps_par (i := 7) (j := 8) rfl sc_law_gate.nd rfl rfl (by decide) rfl rfl (pa_cons (pe_op op_mod (pe_callTy call_intK (by rfl) T.m_int (by decide +kernel) (pa_cons (pe_op op_shr (pv 3) (pv 6)) pa_nil)) pe_int) (pa_cons (pe_op op_mod (pe_callTy call_intK (by rfl) T.m_int (by decide +kernel) (pa_cons (pe_op op_shr (pv 4) (pv 6)) pa_nil)) pe_int) pa_nil)) (by rfl))
      (pss_cons (ps_if (pt_cmpR (op_in_seqK K) (pv 1) (pe_lst (pa_cons pe_str (pa_cons pe_str (pa_cons pe_str pa_nil)))) (by rfl)) (pss_one (ps_ret (pe_tup (pa_cons (pv 3) (pa_cons (pv 4) (pa_cons (pe_op op_xor (pv 5) (pe_dget (hu_ hr) (pe_disp (pps_cons pe_str (pv 8) (pps_cons pe_str (pe_op op_xor (pv 7) (pv 8)) (pps_cons pe_str (pv 7) pps_nil))) (by rfl) (by rfl) (fun z => by cases z) (by decide)) (pv 1) (fun _ _ => rfl))) pa_nil)))))) pss_nil)
      (pss_cons (ps_if (pt_cmpR (op_in_seqK K) (pv 1) (pe_lst (pa_cons pe_str (pa_cons pe_str pa_nil))) (by rfl)) (pss_cons (ps_set (i := 9) sc_law_gate.nd rfl (Or.inl rfl) (pe_op op_shl (pe_op op_xor (pv 7) (pv 8)) (pv 6)))
        (pss_one (ps_ret (pe_ifExp (pt_cmpR op_eq (pv 1) pe_str (nomark _)) (pe_tup (pa_cons (pe_op op_xor (pv 3) (pv 9)) (pa_cons (pe_op op_xor (pv 4) (pv 9)) (pa_cons (pe_op op_xor (pv 5) (pe_op op_mul (pv 7) (pv 8))) pa_nil)))) (pe_tup (pa_cons (pv 3) (pa_cons (pe_op op_xor (pv 4) (pe_op op_shl (pv 7) (pv 6))) (pa_cons (pe_op op_xor (pv 5) (pe_op op_mul (pv 7) (pv 8))) pa_nil)))))))) pss_nil)
      (pss_cons (ps_set (i := 10) sc_law_gate.nd rfl (Or.inl rfl) (pe_ix (ix_listK K) (pv 2) pe_int (fun _ _ => rfl)))
      (pss_cons (ps_par (i := 11) (j := 12) rfl sc_law_gate.nd rfl rfl (by decide) rfl rfl (pa_cons (pe_op op_mod (pe_callTy call_intK (by rfl) T.m_int (by decide +kernel) (pa_cons (pe_op op_shr (pv 3) (pv 10)) pa_nil)) pe_int) (pa_cons (pe_op op_mod (pe_callTy call_intK (by rfl) T.m_int (by decide +kernel) (pa_cons (pe_op op_shr (pv 4) (pv 10)) pa_nil)) pe_int) pa_nil)) (by rfl))
      (pss_cons (ps_if (pt_cmpR op_eq (pv 1) pe_str (nomark _)) (pss_one (ps_ret (pe_tup (pa_cons (pe_op op_xor (pv 3) (pe_op op_shl (pv 7) (pv 10))) (pa_cons (pe_op op_xor (pv 4) (pe_op op_shl (pv 12) (pv 6))) (pa_cons (pe_op op_xor (pv 5) (pe_op op_mul (pe_op op_mul (pv 7) (pv 12)) (pe_op op_sub pe_int (pe_op op_xor (pv 11) (pv 8))))) pa_nil)))))) pss_nil)
      (pss_cons (ps_if (pt_cmpR op_eq (pv 1) pe_str (nomark _)) (pss_one (ps_ret (pe_tup (pa_cons (pv 3) (pa_cons (pe_op op_xor (pe_op op_xor (pv 4) (pe_op op_shl (pv 11) (pv 6))) (pe_op op_shl (pv 7) (pv 10))) (pa_cons (pe_op op_xor (pv 5) (pe_op op_mul (pe_op op_mul (pv 7) (pv 11)) (pe_op op_xor (pv 8) (pv 12)))) pa_nil)))))) pss_nil)
      (pss_cons (ps_par (i := 9) (j := 13) rfl sc_law_gate.nd rfl rfl (by decide) rfl rfl (pa_cons (pe_op op_xor (pv 7) (pv 11)) (pa_cons (pe_op op_xor (pv 8) (pv 12)) pa_nil)) (by rfl))
      (pss_one (ps_ret (pe_tup (pa_cons (pe_op op_xor (pe_op op_xor (pv 3) (pe_op op_shl (pv 9) (pv 6))) (pe_op op_shl (pv 9) (pv 10))) (pa_cons (pe_op op_xor (pe_op op_xor (pv 4) (pe_op op_shl (pv 13) (pv 6))) (pe_op op_shl (pv 13) (pv 10))) (pa_cons (pv 5) pa_nil)))))))))))))))), ?_⟩
  have l1 := bt_le r.x a
  have l2 := bt_le r.z a
  have l3 := bt_le r.x b
  have l4 := bt_le r.z b
  refine q_unp3 (ev_var rfl) h1 fun H1 e1 => ?_
  have pa : (ps.map nv)[0]? = some (nv a) := by rw [List.getElem?_map, hpa]; rfl
  refine q_asg (v := nv a) (ev_op (ev_var rfl) (ev_n (n := 0) rfl) (rv_ixL (sq_of (e1 _ _ hpl)) (atI_nat pa))) fun H2 e2 => ?_
  have bitE : ∀ {σ : L2.St} {H : Hp} {te tk : TE} {v k : Nat}, Ev te σ H (nv v) → Ev tk σ H (nv k) → Ev (tOp (rI (fun _ j => 0 < j) fun i j => .int (i % j)) (tCB rInt1 (tCons (tOp (rI (fun _ j => 0 ≤ j) fun i j => .int (i / 2 ^ j.toNat)) te tk) tNil)) (tC (.int 2))) σ H (nv (bt v k)) := fun {σ H te tk v k} h h' => by
    unfold bt
    rw [← bit_mod]
    exact ev_op (ev_intI (ev_op h h' rv_shrN)) (ev_n (n := 2) rfl) (rv_modN (by decide))
  have shE : ∀ {σ : L2.St} {H : Hp} {te tk : TE} {v k : Nat}, v ≤ 1 → k < n → Ev te σ H (nv v) → Ev tk σ H (nv k) → Ev (tOp (rI CPow fun i j => .int (i * 2 ^ j.toNat)) te tk) σ H (nv (v <<< k)) := fun {σ H te tk v k} hv hk h h' => ev_op h h' (rv_shlN (by omega) (by omega))
  refine q_par (v := nv (bt r.x a)) (w := nv (bt r.z a)) (ea_cons (bitE (ev_var rfl) (ev_var rfl)) (ea_cons (bitE (ev_var rfl) (ev_var rfl)) ea_nil)) fun H3 e3 => ?_
  have x3 := (e1.trans e2).trans e3
  refine q_when (b := g.g3) (et_test (ev_is (ev_inLs (ev_var rfl) (el_lst (ea_cons ev_c (ea_cons ev_c (ea_cons ev_c ea_nil))) (by show 3 ≤ 100000; decide)) (by cases g <;> rfl) rfl) (by cases g <;> decide +kernel))) (fun hc H4 e4 => ?_) fun hc H4 e4 => ?_
  · have x4 := x3.trans e4
    obtain ⟨y, hy, hg⟩ : ∃ y, ((g.nm = "x" ∧ nv y = nv (bt r.z a)) ∨ (g.nm = "z" ∧ nv y = nv (bt r.x a))) ∧ gate g a b r = ⟨r.x, r.z, r.s ^^^ y⟩ := by
      cases g
      all_goals first | (cases hc; done) | exact ⟨_, .inl ⟨rfl, rfl⟩, rfl⟩ | exact ⟨_, .inr ⟨rfl, rfl⟩, rfl⟩
    refine s_retP (evp_row (a := r.x) (b := r.z) (c := r.s ^^^ y) (ea_cons (ev_var rfl) (ea_cons (ev_var rfl) (ea_cons (ev_op (ev_var rfl) (ev_disp3 (ev_var rfl) (ev_op (ev_var rfl) (ev_var rfl) rv_xorN) (ev_var rfl) (ev_var rfl) hy) rv_xorN) ea_nil)))) fun v H5 e5 hv => k v H5 (x4.trans e5) (by rw [hg]; exact hv)
  have x4 := x3.trans e4
  refine q_when (b := g.g2) (et_test (ev_is (ev_inLs (ev_var rfl) (el_lst (ea_cons ev_c (ea_cons ev_c ea_nil)) (by show 2 ≤ 100000; decide)) (by cases g <;> rfl) rfl) (by cases g <;> decide +kernel))) (fun hc2 H5 e5 => ?_) fun hc2 H5 e5 => ?_
  · refine q_asg (v := nv ((bt r.x a ^^^ bt r.z a) <<< a)) (shE (xor_le1 l1 l2) ha (ev_op (ev_var rfl) (ev_var rfl) rv_xorN) (ev_var rfl)) fun H6 e6 => ?_
    have x6 := (x4.trans e5).trans e6
    have sg : ∀ {σ : L2.St} {H : Hp}, σ[5]? = some (some (nv r.s)) → σ[7]? = some (some (nv (bt r.x a))) → σ[8]? = some (some (nv (bt r.z a))) → Ev (tOp (rI0 fun i j => .int (Builtin.bitXor i j)) (tVar 5) (tOp (rI CMul fun i j => .int (i * j)) (tVar 7) (tVar 8))) σ H (nv (r.s ^^^ bt r.x a * bt r.z a)) := fun {σ H} h5 h7 h8 => ev_op (ev_var h5) (ev_op (ev_var h7) (ev_var h8) (rv_mulN (by omega))) rv_xorN
    cases g
    all_goals first | (cases hc2; done) | skip
    · refine s_retP (evp_ifP (b := true) (et_test (ev_is (ev_op (ev_var rfl) ev_c (rv_eq rfl)) (by decide +kernel))) (fun _ => evp_row (a := r.x ^^^ ((bt r.x a ^^^ bt r.z a) <<< a)) (b := r.z ^^^ ((bt r.x a ^^^ bt r.z a) <<< a)) (c := r.s ^^^ bt r.x a * bt r.z a) (ea_cons (ev_op (ev_var rfl) (ev_var rfl) rv_xorN) (ea_cons (ev_op (ev_var rfl) (ev_var rfl) rv_xorN) (ea_cons (sg rfl rfl rfl) ea_nil)))) (fun h => by cases h)) fun v H7 e7 hv => k v H7 (x6.trans e7) hv
    · refine s_retP (evp_ifP (b := false) (et_test (ev_is (ev_op (ev_var rfl) ev_c (rv_eq rfl)) (by decide +kernel))) (fun h => by cases h) (fun _ => evp_row (a := r.x) (b := r.z ^^^ bt r.x a <<< a) (c := r.s ^^^ bt r.x a * bt r.z a) (ea_cons (ev_var rfl) (ea_cons (ev_op (ev_var rfl) (shE l1 ha (ev_var rfl) (ev_var rfl)) rv_xorN) (ea_cons (sg rfl rfl rfl) ea_nil))))) fun v H7 e7 hv => k v H7 (x6.trans e7) hv
  have x5 := x4.trans e5
  have ht : g.two = true := by cases g <;> first | rfl | (cases hc; done) | (cases hc2; done)
  have pb : (ps.map nv)[1]? = some (nv b) := by rw [List.getElem?_map, hpb ht]; rfl
  refine q_asg (v := nv b) (ev_op (ev_var rfl) (ev_n (n := 1) rfl) (rv_ixL (sq_of (x5 _ _ hpl)) (atI_nat pb))) fun H6 e6 => ?_
  refine q_par (v := nv (bt r.x b)) (w := nv (bt r.z b)) (ea_cons (bitE (ev_var rfl) (ev_var rfl)) (ea_cons (bitE (ev_var rfl) (ev_var rfl)) ea_nil)) fun H7 e7 => ?_
  have x7 := (x5.trans e6).trans e7
  cases g
  all_goals first | (cases hc; done) | (cases hc2; done) | skip
  · refine q_when (b := true) (et_test (ev_is (ev_op (ev_var rfl) ev_c (rv_eq rfl)) (by decide +kernel))) (fun _ H8 e8 => ?_) (fun h => by cases h)
    exact s_retP (evp_row (a := r.x ^^^ bt r.x a <<< b) (b := r.z ^^^ bt r.z b <<< a) (c := r.s ^^^ bt r.x a * bt r.z b * (1 - (bt r.x b ^^^ bt r.z a))) (ea_cons (ev_op (ev_var rfl) (shE l1 hb (ev_var rfl) (ev_var rfl)) rv_xorN) (ea_cons (ev_op (ev_var rfl) (shE l4 ha (ev_var rfl) (ev_var rfl)) rv_xorN) (ea_cons (ev_op (ev_var rfl) (ev_op (ev_op (ev_var rfl) (ev_var rfl) (rv_mulN (by omega))) (ev_op (ev_n (n := 1) rfl) (ev_op (ev_var rfl) (ev_var rfl) rv_xorN) (rv_subN (xor_le1 l3 l2))) (rv_mulN (by have := mul_le1 l1 l4; omega))) rv_xorN) ea_nil)))) fun v H9 e9 hv => k v H9 ((x7.trans e8).trans e9) hv
  · refine q_when (b := false) (et_test (ev_is (ev_op (ev_var rfl) ev_c (rv_eq rfl)) (by decide +kernel))) (fun h => by cases h) (fun _ H8 e8 => ?_)
    refine q_when (b := true) (et_test (ev_is (ev_op (ev_var rfl) ev_c (rv_eq rfl)) (by decide +kernel))) (fun _ H9 e9 => ?_) (fun h => by cases h)
    exact s_retP (evp_row (a := r.x) (b := r.z ^^^ bt r.x b <<< a ^^^ bt r.x a <<< b) (c := r.s ^^^ bt r.x a * bt r.x b * (bt r.z a ^^^ bt r.z b)) (ea_cons (ev_var rfl) (ea_cons (ev_op (ev_op (ev_var rfl) (shE l3 ha (ev_var rfl) (ev_var rfl)) rv_xorN) (shE l1 hb (ev_var rfl) (ev_var rfl)) rv_xorN) (ea_cons (ev_op (ev_var rfl) (ev_op (ev_op (ev_var rfl) (ev_var rfl) (rv_mulN (by omega))) (ev_op (ev_var rfl) (ev_var rfl) rv_xorN) (rv_mulN (by have := mul_le1 l1 l3; omega))) rv_xorN) ea_nil)))) fun v Ha ea hv => k v Ha (((x7.trans e8).trans e9).trans ea) hv
  · refine q_when (b := false) (et_test (ev_is (ev_op (ev_var rfl) ev_c (rv_eq rfl)) (by decide +kernel))) (fun h => by cases h) (fun _ H8 e8 => ?_)
    refine q_when (b := false) (et_test (ev_is (ev_op (ev_var rfl) ev_c (rv_eq rfl)) (by decide +kernel))) (fun h => by cases h) (fun _ H9 e9 => ?_)
    refine q_par (v := nv (bt r.x a ^^^ bt r.x b)) (w := nv (bt r.z a ^^^ bt r.z b)) (ea_cons (ev_op (ev_var rfl) (ev_var rfl) rv_xorN) (ea_cons (ev_op (ev_var rfl) (ev_var rfl) rv_xorN) ea_nil)) fun Ha ea => ?_
    have m1 := xor_le1 l1 l3
    have m2 := xor_le1 l2 l4
    exact s_retP (evp_row (a := r.x ^^^ ((bt r.x a ^^^ bt r.x b) <<< a) ^^^ ((bt r.x a ^^^ bt r.x b) <<< b)) (b := r.z ^^^ ((bt r.z a ^^^ bt r.z b) <<< a) ^^^ ((bt r.z a ^^^ bt r.z b) <<< b)) (c := r.s) (ea_cons (ev_op (ev_op (ev_var rfl) (shE m1 ha (ev_var rfl) (ev_var rfl)) rv_xorN) (shE m1 hb (ev_var rfl) (ev_var rfl)) rv_xorN) (ea_cons (ev_op (ev_op (ev_var rfl) (shE m2 ha (ev_var rfl) (ev_var rfl)) rv_xorN) (shE m2 hb (ev_var rfl) (ev_var rfl)) rv_xorN) (ea_cons (ev_var rfl) ea_nil)))) fun v Hb eb hv => k v Hb ((((x7.trans e8).trans e9).trans ea).trans eb) hv
theorem evp_law_gate {σ : L2.St} {H : Hp} {ta tb tc : TE} {v1 : V} {g : Gk} {pl : Addr} {ps : List Nat} {a b n : Nat} {r : Row} {E : XK} (h1 : Ev ta σ H v1) (h2 : Ev tb σ H (.str g.nm)) (h3 : Ev tc σ H (.ref pl)) (q : IsRow H v1 r) (hp : H pl = some (.lst (ps.map nv))) (ha : ps[0]? = some a) (hb : g.two = true → ps[1]? = some b) (la : a < n) (lb : b < n) (hn : n ≤ 64) (hr : Rw n r) :
    EvP (tCall (sp_law_gate K) [] E (tCons ta (tCons tb (tCons tc tNil)))) σ H (fun v H' => IsRow H' v (gate g a b r)) :=
  evp_call (ea_cons h1 (ea_cons h2 (ea_cons h3 ea_nil))) fun H1 e Q kk => ⟨v1, g, pl, ps, a, b, n, r, rfl, q.ex e, e _ _ hp, ha, hb, la, lb, hn, hr, fun v H' e' q => kk v H' e' q⟩
end
end Kp
end
section
set_option maxHeartbeats 4000000
/-! a text times a number -/
namespace Kp
open PySem PySem.Spec PyProof.Rows L2 Evl
def repS (z : Str) (k : Nat) : Str := ⟨(List.replicate k z.cps).foldl (· ++ ·) #[]⟩
def rMulS : R2 := fun x y H Q => ∃ (z : Str) (k : Nat), x = .str z ∧ y = .int (k : Int) ∧ k ≤ 1000 ∧ z.length ≤ 1000 ∧ Q (.str (repS z k)) H
theorem rep_one (z : Str) : repS z 1 = z := by
  unfold repS
  simp
theorem rep_size (a : Array Nat) (k : Nat) : ∀ b : Array Nat, ((List.replicate k a).foldl (· ++ ·) b).size = b.size + k * a.size := by
  induction k with
  | zero => intro b; simp
  | succ k ih => intro b; rw [List.replicate_succ, List.foldl_cons, ih, Array.size_append, Nat.succ_mul]; omega
theorem op_mulS {X : Cx} : OpR X (binaryOp .Mult) rMulS := by
  intro pins s σ H x y v u Q I rx ry h
  obtain ⟨z, k, rfl, rfl, hk, hz, q⟩ := h
  obtain ⟨t, rfl⟩ := rx
  obtain ⟨t', rfl⟩ := ry
  have hsz : z.length * k ≤ 1000000 := Nat.le_trans (Nat.mul_le_mul hz hk) (by decide)
  have hl2 : ((List.replicate k z.cps).foldl (· ++ ·) #[]).size ≤ 1000000 := by
    rw [rep_size]
    have : z.cps.size = z.length := rfl
    rw [this, Nat.mul_comm k]
    simpa using hsz
  refine P.mul_str (by
      rw [decide_eq_false (by omega), decide_eq_false (by omega)]; rfl) (fun h1 _ => by
      have hk1 : 1 ≤ k := by omega
      have hle : (k : Int) ≤ 1000 := by omega
      have hd : (1000 : Int) ≤ (2 ^ 63 - 1) / (k : Int) := by
        have h2 : (k : Int) * 1000 ≤ 2 ^ 63 - 1 := by omega
        rw [Int.le_ediv_iff_mul_le (by omega)]
        omega
      omega) (fun _ _ => by
      unfold Builtin.Str.tooLong
      rw [Int.toNat_natCast]
      have : ¬ z.length * k > sizeLine := by rw [sizeLine_eq]; omega
      simpa using this) ?_
  split
  · rename_i h0
    have : k = 0 := by omega
    subst this
    exact ⟨by decide, .str Str.empty, H, I.tok _, ⟨_, rfl⟩, q⟩
  · split
    · rename_i h0 h1
      rw [Bool.or_eq_true] at h1
      rcases h1 with h1 | h1
      · have : k = 1 := by have := beq_iff_eq.mp h1; omega
        subst this
        rw [rep_one] at q
        exact ⟨.str z, H, I, ⟨_, rfl⟩, q⟩
      · have hz0 : z.length = 0 := beq_iff_eq.mp h1
        have e : repS z k = z := by
          have h2 : (repS z k).cps.size = 0 := by
            unfold repS
            rw [rep_size]
            have : z.cps.size = 0 := hz0
            simp [this]
          have h3 : z.cps = #[] := Array.eq_empty_of_size_eq_zero hz0
          have h4 : (repS z k).cps = #[] := Array.eq_empty_of_size_eq_zero h2
          cases z with
          | mk c =>
            have h3' : c = #[] := h3
            subst h3'
            show (⟨(repS _ k).cps⟩ : Str) = _
            rw [h4]
        rw [e] at q
        exact ⟨.str z, H, I, ⟨_, rfl⟩, q⟩
    · refine ⟨?_, .str (repS z k), H, I.tok _, ⟨_, rfl⟩, q⟩
      rw [Int.toNat_natCast, sizeLine_eq]
      show ((List.replicate k z.cps).foldl (· ++ ·) #[]).size ≤ _
      omega
end Kp
end
section
set_option maxHeartbeats 4000000
namespace Kp
open PySem PySem.Spec PyProof.Rows L2 Evl
local macro_rules | `(tactic| walk_at "ht") => `(tactic| first | assumption | solve_by_elim (config := { maxDepth := 12 }))
local macro_rules | `(tactic| walk_at "ev") => `(tactic| repeat' (first
  | exact ea_nil
  | exact ev_var rfl
  | exact ev_n (n := 0) rfl | exact ev_n (n := 1) rfl | exact ev_n (n := 2) rfl
  | exact rv_andN | exact rv_xorN | exact rv_orN | exact rv_addN | exact rv_shrN | (exact rv_mulN (by decide)) | exact rv_eqN | exact rv_neN | exact rv_ltN
  | (refine' rv_ixT (st_of (by walk_at "ht")) (by rfl))
  | walk_at "evx"
  | refine' ev_op ?_ ?_ ?_
  | refine' ea_cons ?_ ?_))
section
variable {P : Program} {w : World} {K : PySem.W.Frag} {mg : Str → Option Value} {base : Heap}
section
variable {σ : L2.St} {H H' : Hp} {ta tb tc td te to tl tv tx th : TE} {t u : TT} {x y z v : V} {D : Ends} {tz tu : TS} {g : TG} {p c : Addr} {N : Nat} {xs : List V}
/-- more that draws -/
theorem evd_pick {E : XK} (hp : Ev ta σ H (.ref p)) (hl : EvL tb σ H xs) (pn : PenAt H p c N) (hne : xs ≠ []) (hlen : xs.length ≤ 1000) (hN : N ≤ 1000000000) : EvD p (tCall sp_law_pick [] E (tCons ta (tCons tb tNil))) σ H (fun v H' => PenAt H' p c (N + 1) ∧ v ∈ xs) := fun H1 e Q k => by
  unfold tCall tCons tNil
  refine hp H1 e _ fun H2 e2 => hl H2 (e.trans e2) _ fun l H3 nl e3 hl' => ?_
  exact ⟨p, c, l, xs, N, rfl, hl', hne, hlen, pn.ex ((e.trans e2).trans e3), hN, fun x H' hx b pn' => k x H' ((ExB.of (e2.trans e3)).trans b) ⟨pn', hx⟩⟩
theorem evd_shuffled {E : XK} (hp : Ev ta σ H (.ref p)) (hl : EvP tb σ H (fun v H' => ∃ l, v = .ref l ∧ H' l = some (.lst xs))) (pn : PenAt H p c N) (hlen : xs.length ≤ 1000) (hN : N ≤ 900000000) : EvD p (tCall sp_law_shuffled [] E (tCons ta (tCons tb tNil))) σ H (fun v H' => ∃ q ys, v = .ref q ∧ H q = none ∧ ys.Perm xs ∧ H' q = some (.lst ys) ∧ PenAt H' p c (N + xs.length)) := fun H1 e Q k => by
  unfold tCall tCons tNil
  refine hp H1 e _ fun H2 e2 => hl H2 (e.trans e2) _ fun v H3 e3 ⟨l, ev, hl'⟩ => ?_
  subst ev
  have e13 := e2.trans e3
  exact ⟨p, c, l, xs, N, rfl, hl', hlen, pn.ex (e.trans e13), hN, fun q ys H' nq hp hq b pn' => k _ H' ((ExB.of e13).trans b) ⟨q, ys, rfl, fresh_back (e.trans e13) nq, hp, hq, pn'⟩⟩
/-- l[:e] of a drawn list -/
theorem evd_slTo {P : V → Hp → Prop} {C : List V → Nat → Hp → Prop} (h : EvD p te σ H P) (hs : ∀ v H1, ExB p H H1 → P v H1 → ∃ q ys, v = .ref q ∧ H1 q = some (.lst ys) ∧ (∀ Q : VK, (∀ m H2, ExB p H1 H2 → H2 q = some (.lst ys) → C ys m H2 → Q (nv m) H2) → th σ H1 Q)) (hC : ∀ ys m H1 H2, Ex H1 H2 → C ys m H1 → C ys m H2) :
    EvD p (tSl (rSlL K) te tNoPart (tPart th)) σ H (fun v H' => ∃ q ys m, v = .ref q ∧ H' q = some (.lst (ys.take m)) ∧ C ys m H' ∧ ∀ b o, b ≠ p → H b = some o → q ≠ b) := fun H1 e Q k => by
  unfold tSl tNoPart tPart
  refine h H1 e _ fun v H2 b2 pv => ?_
  obtain ⟨q, ys, ev, hq, hth⟩ := hs v H2 ((ExB.of e).trans b2) pv
  subst ev
  refine hth _ fun m H3 b3 hq3 hc => ⟨_, rfl, q, ys, rfl, sq_of hq3, fun l nl => ?_⟩
  have ec : cutV ys none (some (m : Int)) = ys.take m := cutV_to ys m
  rw [ec]
  exact k _ _ ((b2.trans b3).trans (.of (Ex.new nl))) ⟨l, ys, m, rfl, upd_same, hC _ _ _ _ (Ex.new nl) hc, fun b o hb ho => by
    rintro rfl
    rw [b3 _ _ hb (b2 _ _ hb (e _ _ ho))] at nl; cases nl⟩
/-- for .. in a drawn list -/
theorem q_forLD {P : List V → Hp → Prop} (h : EvD p tl σ H (fun v H' => ∃ a xs, v = .ref a ∧ H' a = some (.lst xs) ∧ P xs H')) (kk : ∀ a xs H1, ExB p H H1 → H1 a = some (.lst xs) → P xs H1 → ∃ Pv : Nat → L2.St → Hp → Prop, Pv 0 σ H1 ∧ (∀ i σ' H', i ≤ xs.length → Pv i σ' H' → H' a = some (.lst xs)) ∧
    (∀ i x σ' Ha, xs[i]? = some x → Pv i σ' Ha → g x σ' Ha fun σ2 H2 => tu { D with nx := Pv (i + 1), ct := Pv (i + 1), bk := tz D } σ2 H2) ∧ ∀ σ' H', Pv xs.length σ' H' → tz D σ' H') : tSeq (tFor (iList K tl) g tu) tz D σ H := by
  refine h H (Ex.refl _) _ fun v H1 b1 ⟨a, xs, ev, ha, hp⟩ => ?_
  subst ev
  obtain ⟨Pv, h0, hG, hs, hd⟩ := kk a xs H1 b1 ha hp
  exact ⟨a, rfl, ⟨xs, sq_of ha⟩, for_it (D := { D with nx := tz D }) (walk_list (K := K) (a := a) (xs := xs)) Pv h0 (fun i σ' H' hi p => sq_of (hG i σ' H' hi p)) (fun i x σ' Ha Hb hi p y => by obtain ⟨rfl, y⟩ := y; exact hs i x σ' _ y p) hd⟩
/-- for .. in range(e), e draws -/
theorem q_forRD {j B : Nat} {C : Nat → Hp → Prop} (h : EvD p te σ H (fun v H' => ∃ m, v = nv m ∧ m ≤ B ∧ C m H')) (hB : B ≤ 100000) (k : ∀ m H1, ExB p H H1 → m ≤ B → C m H1 → ∃ Pv : Nat → L2.St → Hp → Prop, Pv 0 σ H1 ∧
    (∀ (i : Nat) σ' H', i < m → Pv i σ' H' → tu { D with nx := Pv (i + 1), ct := Pv (i + 1), bk := tz D } (σ'.set j (some (nv i))) H') ∧ ∀ σ' H', Pv m σ' H' → tz D σ' H') : tSeq (tFor (iRng1 (tCons te tNil)) (gName j) tu) tz D σ H := by
  refine h H (Ex.refl _) _ fun v H1 b1 ⟨m, ev, hm, hc⟩ => ?_
  subst ev
  obtain ⟨Pv, h0, hs, hd⟩ := k m H1 b1 hm hc
  refine ⟨(m : Int), rfl, by omega, by omega, ?_⟩
  rw [Int.toNat_natCast]
  refine for_range (D := { D with nx := tz D }) (lo := 0) (n := m) Pv h0 (fun i σ' H' hi q => ?_) hd
  have e0 : (0 : Int) + (i : Int) = (i : Int) := Int.zero_add _
  show tu _ (σ'.set j (some (.int ((0 : Int) + (i : Int))))) H'
  rw [e0]
  exact hs i σ' H' (by omega) q
end
/-! ### the marks -/
theorem bit_pow (k i : Nat) : 2 ^ k >>> i &&& 1 = if i = k then 1 else 0 := by
  rw [shr_and, Nat.testBit_two_pow]
  by_cases h : k = i
  · rw [if_pos h.symm, decide_eq_true h]; rfl
  · rw [if_neg (fun q => h q.symm), decide_eq_false h]; rfl
theorem letN_zero (r : Row) (k : Nat) (hx : ∀ i, i < k → r.x >>> i &&& 1 = 0) (hz : ∀ i, i < k → r.z >>> i &&& 1 = 0) : letN r k = List.replicate k 73 := by
  apply List.ext_getElem?
  intro i
  by_cases h : i < k
  · rw [List.getElem?_replicate, if_pos h]
    unfold letN
    rw [List.getElem?_map, List.getElem?_range h, Option.map_some, hx i h, hz i h]; rfl
  · rw [List.getElem?_eq_none (by rw [letN_len]; omega), List.getElem?_eq_none (by rw [List.length_replicate]; omega)]
theorem letN_markZ (k : Nat) : letN ⟨0, 2 ^ k, 0⟩ (k + 1) = List.replicate k 73 ++ [90] := by
  rw [letN_succ, letN_zero _ _ (fun i _ => by simp) (fun i h => by rw [bit_pow, if_neg (by omega)])]
  show _ ++ [lc (0 >>> k &&& 1) (2 ^ k >>> k &&& 1)] = _
  rw [bit_pow, if_pos rfl]
  simp; rfl
theorem letN_markX (k : Nat) : letN ⟨2 ^ k, 0, 0⟩ (k + 1) = List.replicate k 73 ++ [88] := by
  rw [letN_succ, letN_zero _ _ (fun i h => by rw [bit_pow, if_neg (by omega)]) (fun i _ => by simp)]
  show _ ++ [lc (2 ^ k >>> k &&& 1) (0 >>> k &&& 1)] = _
  rw [bit_pow, if_pos rfl]
  simp; rfl
theorem tl_rep (c k : Nat) : ∀ b : Array Nat, ((List.replicate k #[c]).foldl (· ++ ·) b).toList = b.toList ++ List.replicate k c := by
  induction k with
  | zero => intro b; simp
  | succ k ih =>
    intro b
    rw [List.replicate_succ, List.foldl_cons, ih, List.replicate_succ]
    simp
theorem text_mark (k d : Nat) (z : Str) (hz : z = ⟨#[d]⟩) : repS "I" k ++ z = (⟨(List.replicate k 73 ++ [d]).toArray⟩ : Str) := by
  subst hz
  refine TL.ext_tl ?_
  rw [TL.tl_append]
  have h : TL.tl (repS "I" k) = List.replicate k 73 := by
    have h2 : ("I" : Str).cps = #[73] := by decide +kernel
    show (repS "I" k).cps.toList = _
    unfold repS
    rw [h2]
    show ((List.replicate k #[73]).foldl (· ++ ·) #[]).toList = _
    rw [tl_rep]; rfl
  rw [h, TL.tl_mk]
/-- the expression _law_of_text('I' * k + d) -/
theorem evp_mark {σ : L2.St} {H : Hp} {tk : TE} {k n : Nat} {E : XK} (z : Bool) (hk : Ev tk σ H (nv k)) (hn : k < n) (hn2 : n ≤ 64) :
    EvP (tCall (sp_law_of_text K) [] E (tCons (tOp (fun x y H Q => ∃ i j, x = .str i ∧ y = .str j ∧ i.length + j.length ≤ sizeLine ∧ Q (.str (i ++ j)) H) (tOp rMulS (tC (.str "I")) tk) (tC (.str (if z then "Z" else "X")))) tNil)) σ H (fun v H' => IsRow H' v (if z then ⟨0, 2 ^ k, 0⟩ else ⟨2 ^ k, 0, 0⟩)) := by
  have hp : 2 ^ k < 2 ^ (k + 1) := Nat.pow_lt_pow_right (by decide) (by omega)
  have hl : (repS "I" k).length = k := by
    show (repS "I" k).cps.size = k
    unfold repS
    rw [rep_size]
    have : ("I" : Str).cps.size = 1 := by decide +kernel
    rw [this]; simp
  cases z with
  | true =>
    refine evp_law_of_text (n := k + 1) (r := ⟨0, 2 ^ k, 0⟩) (ev_addS (a := repS "I" k) (b := "Z") (ev_op ev_c hk (rv_val fun H1 e1 Q kk => ⟨"I", k, rfl, rfl, by omega, by decide +kernel, kk⟩)) ev_c ?_ ?_) (by omega) (by omega) ⟨Nat.two_pow_pos _, hp, Nat.zero_le _⟩
    · rw [hl]; show k + ("Z" : Str).length ≤ 100000
      have : ("Z" : Str).length = 1 := by decide +kernel
      omega
    · rw [text_mark k 90 "Z" (by decide +kernel), letN_markZ]; rfl
  | false =>
    refine evp_law_of_text (n := k + 1) (r := ⟨2 ^ k, 0, 0⟩) (ev_addS (a := repS "I" k) (b := "X") (ev_op ev_c hk (rv_val fun H1 e1 Q kk => ⟨"I", k, rfl, rfl, by omega, by decide +kernel, kk⟩)) ev_c ?_ ?_) (by omega) (by omega) ⟨hp, Nat.two_pow_pos _, Nat.zero_le _⟩
    · rw [hl]; show k + ("X" : Str).length ≤ 100000
      have : ("X" : Str).length = 1 := by decide +kernel
      omega
    · rw [text_mark k 88 "X" (by decide +kernel), letN_markX]; rfl
end
end Kp
end
section
set_option maxHeartbeats 4000000
namespace Kp
open PySem PySem.Spec PyProof.Rows L2 Evl
local macro_rules | `(tactic| walk_at "ht") => `(tactic| first | assumption | solve_by_elim (config := { maxDepth := 12 }))
local macro_rules | `(tactic| walk_at "ev") => `(tactic| repeat' (first
  | exact ea_nil
  | exact ev_var rfl
  | exact ev_n (n := 0) rfl | exact ev_n (n := 1) rfl | exact ev_n (n := 2) rfl
  | exact rv_andN | exact rv_xorN | exact rv_orN | exact rv_addN | exact rv_shrN | (exact rv_mulN (by decide)) | exact rv_eqN | exact rv_neN | exact rv_ltN
  | (refine' rv_ixT (st_of (by walk_at "ht")) (by rfl))
  | walk_at "evx"
  | refine' ev_op ?_ ?_ ?_
  | refine' ea_cons ?_ ?_))
section
variable {P : Program} {w : World} {K : PySem.W.Frag} {mg : Str → Option Value} {base : Heap}
/-! ### _law_drawn_code -/
/-- a pair of rows -/
def IsPr (n : Nat) (H : Hp) (v : V) : Prop := ∃ t a b ra rb, v = .ref t ∧ H t = some (.tup [a, b]) ∧ IsRow H a ra ∧ IsRow H b rb ∧ Rw n ra ∧ Rw n rb
theorem IsPr.kx {n : Nat} {H H' : Hp} {v : V} (e : Kx H H') (h : IsPr n H v) : IsPr n H' v := by
  obtain ⟨t, a, b, ra, rb, h1, h2, h3, h4, h5⟩ := h
  exact ⟨t, a, b, ra, rb, h1, e.1 _ _ h2, h3.kx e, h4.kx e, h5⟩
def IsPrs (n : Nat) (H : Hp) (a : Addr) : Prop := ∃ xs, H a = some (.lst xs) ∧ xs.length ≤ 1000 ∧ ∀ x ∈ xs, IsPr n H x
/-- a gate stands at v -/
def IsGt (gl : Addr) (H : Hp) (v : V) (t : Gt) : Prop := ∃ (tt pl : Addr) (ps : List Nat), v = .ref tt ∧ H tt = some (.tup [.str t.g.nm, .ref pl]) ∧ H pl = some (.lst (ps.map nv)) ∧ ps[0]? = some t.a ∧ (t.g.two = true → ps[1]? = some t.b) ∧ pl ≠ gl
theorem IsGt.exb {gl : Addr} {H H' : Hp} {v : V} {t : Gt} {xs : List V} (h : IsGt gl H v t) (hx : H gl = some (.lst xs)) (b : ExB gl H H') : IsGt gl H' v t := by
  obtain ⟨tt, pl, ps, h1, h2, h3, h4, h5, h6⟩ := h
  exact ⟨tt, pl, ps, h1, b _ _ (by rintro rfl; rw [hx] at h2; cases h2) h2, b _ _ h6 h3, h4, h5, h6⟩
theorem IsGt.ex {gl : Addr} {H H' : Hp} {v : V} {t : Gt} (h : IsGt gl H v t) (b : Ex H H') : IsGt gl H' v t := by
  obtain ⟨tt, pl, ps, h1, h2, h3, h4, h5, h6⟩ := h
  exact ⟨tt, pl, ps, h1, b _ _ h2, b _ _ h3, h4, h5, h6⟩
theorem IsGt.pen {gl p c : Addr} {N : Nat} {H H' : Hp} {v : V} {t : Gt} (h : IsGt gl H v t) (pn : PenAt H p c N) (b : ExB p H H') : IsGt gl H' v t := by
  obtain ⟨tt, pl, ps, h1, h2, h3, h4, h5, h6⟩ := h
  exact ⟨tt, pl, ps, h1, (pn.kx b).1 _ _ h2, pn.lst b h3, h4, h5, h6⟩
/-- a list of rows at a -/
def IsRl (H : Hp) (a : Addr) (l : List Row) : Prop := ∃ xs, H a = some (.lst xs) ∧ Rows H xs l
theorem IsRl.ex {H H' : Hp} {a : Addr} {l : List Row} (h : IsRl H a l) (e : Ex H H') : IsRl H' a l := by
  obtain ⟨xs, h1, h2⟩ := h
  exact ⟨xs, e _ _ h1, h2.ex e⟩
theorem IsRl.pen {p c : Addr} {N : Nat} {H H' : Hp} {a : Addr} {l : List Row} (h : IsRl H a l) (pn : PenAt H p c N) (b : ExB p H H') : IsRl H' a l := by
  obtain ⟨xs, h1, h2⟩ := h
  exact ⟨xs, pn.lst b h1, h2.kx (pn.kx b)⟩
theorem IsRl.exb {gl : Addr} {H H' : Hp} {a : Addr} {l : List Row} {ys : List V} (h : IsRl H a l) (hx : H gl = some (.lst ys)) (hn : a ≠ gl) (b : ExB gl H H') : IsRl H' a l := by
  obtain ⟨xs, h1, h2⟩ := h
  exact ⟨xs, b _ _ hn h1, h2.kx (b.kx hx)⟩
theorem IsRl.ne {H : Hp} {a q : Addr} {l : List Row} (h : IsRl H a l) (hq : H q = none) : a ≠ q := by
  obtain ⟨xs, h1, h2⟩ := h
  rintro rfl; rw [hq] at h1; cases h1
theorem IsPrs.ex {n : Nat} {H H' : Hp} {a : Addr} (h : IsPrs n H a) (e : Ex H H') : IsPrs n H' a := by
  obtain ⟨xs, h1, h0, h2⟩ := h
  exact ⟨xs, e _ _ h1, h0, fun x hx => (h2 x hx).kx (.of e)⟩
theorem IsPrs.pen {n : Nat} {p c : Addr} {N : Nat} {H H' : Hp} {a : Addr} (h : IsPrs n H a) (pn : PenAt H p c N) (b : ExB p H H') : IsPrs n H' a := by
  obtain ⟨xs, h1, h0, h2⟩ := h
  exact ⟨xs, pn.lst b h1, h0, fun x hx => (h2 x hx).kx (pn.kx b)⟩
theorem IsPrs.exb {n : Nat} {gl : Addr} {H H' : Hp} {a : Addr} {ys : List V} (h : IsPrs n H a) (hx : H gl = some (.lst ys)) (hn : a ≠ gl) (b : ExB gl H H') : IsPrs n H' a := by
  obtain ⟨xs, h1, h0, h2⟩ := h
  exact ⟨xs, b _ _ hn h1, h0, fun x hx' => (h2 x hx').kx (b.kx hx)⟩
theorem IsPrs.ne {n : Nat} {H : Hp} {a q : Addr} (h : IsPrs n H a) (hq : H q = none) : a ≠ q := by
  obtain ⟨xs, h1, h2⟩ := h
  rintro rfl; rw [hq] at h1; cases h1
theorem perm_nv {ys : List V} {l : List Nat} (h : ys.Perm (l.map nv)) : ∃ zs : List Nat, zs.Perm l ∧ ys = zs.map nv := by
  have pr : Paired (fun (x : V) (i : Nat) => x = nv i) (l.map nv) l := paired_of (by simp) fun i x y h1 h2 => by
    rw [List.getElem?_map, h2] at h1
    exact (Option.some.inj h1).symm
  obtain ⟨zs, p1, p2⟩ := paired_perm h pr
  exact ⟨zs, p1, paired_eq (P := fun i x => x = nv i) p2 fun i x q => q⟩
theorem evp_rgl {σ : L2.St} {H : Hp} {te : TE} {n : Nat} (h : Ev te σ H (nv n)) (hn : n ≤ 1000) : EvP (tLstRg (tRg1 te)) σ H (fun v H' => ∃ l, v = .ref l ∧ H' l = some (.lst ((List.range n).map nv))) := fun H1 e Q k => by
  unfold tLstRg tRg1
  refine h H1 e _ fun H2 e2 => ⟨(n : Int), rfl, RgOk.of_le (by omega) (by omega) (by omega) (by omega), fun q nq => ?_⟩
  refine k _ _ (e2.trans (Ex.new nq)) ⟨q, rfl, ?_⟩
  rw [upd_same]
  have : rgV 0 (n : Int) = (List.range n).map nv := by
    unfold rgV
    rw [show ((n : Int) - 0).toNat = n by omega]
    exact List.map_congr_left fun i _ => by show V.int _ = V.int _; rw [Int.zero_add]
  rw [this]
theorem gk_of {v : V} (h : v ∈ ([.str "h", .str "s", .str "cx", .str "cx", .str "cz", .str "swap", .str "x", .str "z"] : List V)) : ∃ g : Gk, v = .str g.nm := by
  simp only [List.mem_cons, List.not_mem_nil, or_false] at h
  rcases h with h | h | h | h | h | h | h | h
  · exact ⟨.h, h⟩
  · exact ⟨.s, h⟩
  · exact ⟨.cx, h⟩
  · exact ⟨.cx, h⟩
  · exact ⟨.cz, h⟩
  · exact ⟨.swap, h⟩
  · exact ⟨.x, h⟩
  · exact ⟨.z, h⟩
def sp_law_drawn_code : L2.Sp := fun vs H Q _ => ∃ (p c : Addr) (n rk N : Nat), vs = [.ref p, nv n, nv rk, nv 0] ∧ 1 ≤ n ∧ n ≤ 64 ∧ rk ≤ n ∧ PenAt H p c N ∧ N ≤ 100000000 ∧
  ∀ d es rl L H', H' d = some (.dK es) → valV es (.inr "rows") = some (.ref rl) → IsRl H' rl L → Drawn n rk L → ExB p H H' → PenAt H' p c (N + 100000) → Q (.ref d) H'
abbrev N_law_drawn_code : List Str := ["_law_pen_here", "_law_size", "_law_rank", "_law_gauged", "_law_marks", "_law_pairs", "_law_gates", "_law_lap", "_law_kind", "_law_places", "_law_rows", "_law_string", "_law_other", "_law_gauge", "_law_x", "_law_z", "_law_k"]
theorem sc_law_drawn_code : FnScope N_law_drawn_code ["_law_pen_here", "_law_size", "_law_rank", "_law_gauged"] (defScope s_law_drawn_code) := ⟨rfl, rfl, rfl, by decide +kernel, rfl, by decide +kernel, by decide +kernel⟩
theorem o_law_drawn_code (T : Tx K mg) : OkF P w K mg base CX0 4 "_law_drawn_code" ["_law_pen_here", "_law_size", "_law_rank", "_law_gauged"] sp_law_drawn_code := by
  have o_law_draw : OkF P w K mg base CX0 1 "_law_draw" ["_law_pen_here", "_law_many"] sp_law_draw := o_law_draw T
  have o_law_gate : OkF P w K mg base CX0 1 "_law_gate" ["_law_string", "_law_kind", "_law_places"] (sp_law_gate K) := o_law_gate T
  have o_law_of_text : OkF P w K mg base CX0 1 "_law_of_text" ["_law_text_here"] (sp_law_of_text K) := o_law_of_text T
  have o_law_pick : OkF P w K mg base CX0 2 "_law_pick" ["_law_pen_here", "_law_some"] sp_law_pick := o_law_pick T
  have o_law_product : OkF P w K mg base CX0 2 "_law_product" ["_law_one", "_law_two"] sp_law_product := o_law_product T
  have o_law_shuffled : OkF P w K mg base CX0 2 "_law_shuffled" ["_law_pen_here", "_law_some"] sp_law_shuffled := o_law_shuffled T
  refine okf T d_law_drawn_code "_law_drawn_code" 46 37 rfl rfl rfl sc_law_drawn_code (fun vs H Q E h => ?_) (fun _ _ _ _ _ _ us hl => match us, hl with | [_, _, _, _], _ => rfl) (fun f cdv A outer s H vs Q E hr h => ?_)
  · (obtain ⟨_, _, _, _, _, rfl, _⟩ := h; rfl)
  obtain ⟨p, c, n, rk, N, rfl, hn1, hn, hrk, pn, hN, k⟩ := h
  refine ⟨_, (pss_cons (ps_setLc (i := 4) (own := [("_law_k", 16)]) rfl sc_law_drawn_code.nd rfl rfl (sw_true rfl rfl rfl (by decide +kernel)) (pi_range1 (by rfl) T.m_range (pa_cons (pv 2) pa_nil)) (blkOk_by (own := [("_law_k", 16)]) (N := N_law_drawn_code) (sc := defScope s_law_drawn_code) (by decide +kernel)) (fun _ _ _ _ _ => (pg_name (i := 16) sc_law_drawn_code.nd rfl (Or.inl rfl))) (fun _ _ _ _ _ => pts_nil) (fun _ _ _ _ _ => (pe_cl o_law_of_text (hr.mono (by decide)) (by rfl) pass0 (pa_cons (pe_op op_add_str (pe_op op_mulS pe_str (pv 16)) pe_str) pa_nil))))
      (pss_cons (ps_setLc (i := 5) (own := [("_law_k", 16)]) rfl sc_law_drawn_code.nd rfl rfl (sw_true rfl rfl rfl (by decide +kernel)) (pi_range2 (by rfl) T.m_range (pa_cons (pv 2) (pa_cons (pv 1) pa_nil))) (blkOk_by (own := [("_law_k", 16)]) (N := N_law_drawn_code) (sc := defScope s_law_drawn_code) (by decide +kernel)) (fun _ _ _ _ _ => (pg_name (i := 16) sc_law_drawn_code.nd rfl (Or.inl rfl))) (fun _ _ _ _ _ => pts_nil) (fun _ _ _ _ _ => (pe_tup (pa_cons (pe_cl o_law_of_text (hr.mono (by decide)) (by rfl) pass0 (pa_cons (pe_op op_add_str (pe_op op_mulS pe_str (pv 16)) pe_str) pa_nil)) (pa_cons (pe_cl o_law_of_text (hr.mono (by decide)) (by rfl) pass0 (pa_cons (pe_op op_add_str (pe_op op_mulS pe_str (pv 16)) pe_str) pa_nil)) pa_nil)))))
      (pss_cons (ps_set (i := 6) sc_law_drawn_code.nd rfl (Or.inl rfl) (pe_lst pa_nil))
      (pss_cons (ps_for PassesOwn.never rfl (pi_range1 (by rfl) T.m_range (pa_cons (pe_op op_add pe_int (pe_cl o_law_draw (hr.mono (by decide)) (by rfl) pass0 (pa_cons (pv 0) (pa_cons (pe_op op_mul pe_int (pv 1)) pa_nil)))) pa_nil)) (pg_name (i := 7) sc_law_drawn_code.nd rfl (Or.inl rfl))
        (pss_cons (ps_set (i := 8) sc_law_drawn_code.nd rfl (Or.inr rfl) (pe_cl o_law_pick (hr.mono (by decide)) (by rfl) pass0 (pa_cons (pv 0) (pa_cons (pe_lst (pa_cons pe_str (pa_cons pe_str (pa_cons pe_str (pa_cons pe_str (pa_cons pe_str (pa_cons pe_str (pa_cons pe_str (pa_cons pe_str pa_nil))))))))) pa_nil))))
        (pss_cons (ps_set (i := 9) sc_law_drawn_code.nd rfl (Or.inr rfl) (pe_slice (sl_listK K) (pe_cl o_law_shuffled (hr.mono (by decide)) (by rfl) pass0 (pa_cons (pv 0) (pa_cons (pe_listRg rfl (by rfl) T.m_list (prg_1 (by rfl) T.m_range (pv 1))) pa_nil))) po_none (po_some (pe_ifExp (pt_cmpR (op_in_seqK K) (pv 8) (pe_lst (pa_cons pe_str (pa_cons pe_str (pa_cons pe_str pa_nil)))) (by rfl)) pe_int pe_int))))
        (pss_one (ps_if (PW.pt (pw_or (pt_cmpR op_gt (pe_callB (call_lenK K) (by rfl) T.m_len PySem.boot_len (pa_cons (pv 9) pa_nil)) pe_int (nomark _)) (pw_or1 (pt_cmpR (op_notIn_seqK K) (pv 8) (pe_lst (pa_cons pe_str (pa_cons pe_str (pa_cons pe_str pa_nil)))) (by rfl))))) (pss_one (ps_expr (pe_bmK K PySem.F.plainAttrs_list PySem.F.slot_list_append PySem.F.type_list_append mt_append (pv 6) (pa_cons (pe_tup (pa_cons (pv 8) (pa_cons (pv 9) pa_nil))) pa_nil)))) pss_nil)))))
      (pss_cons (ps_for PassesOwn.never rfl (pi_listK K (pv 6)) (pg_tup rfl (pgs_cons (pg_name (i := 8) sc_law_drawn_code.nd rfl (Or.inr rfl)) (pgs_cons (pg_name (i := 9) sc_law_drawn_code.nd rfl (Or.inr rfl)) pgs_nil)))
        (pss_cons (ps_setLc (i := 4) (own := [("_law_string", 11)]) rfl sc_law_drawn_code.nd rfl rfl (sw_true rfl rfl rfl (by decide +kernel)) (pi_listK K (pv 4)) (blkOk_by (own := [("_law_string", 11)]) (N := N_law_drawn_code) (sc := defScope s_law_drawn_code) (by decide +kernel)) (fun _ _ _ _ _ => (pg_name (i := 11) sc_law_drawn_code.nd rfl (Or.inl rfl))) (fun _ _ _ _ _ => pts_nil) (fun _ _ _ _ _ => (pe_cl o_law_gate (hr.mono (by decide)) (by rfl) pass0 (pa_cons (pv 11) (pa_cons (pv 8) (pa_cons (pv 9) pa_nil))))))
        (pss_one (ps_setLc (i := 5) (own := [("_law_x", 14), ("_law_z", 15)]) rfl sc_law_drawn_code.nd rfl rfl (sw_true rfl rfl rfl (by decide +kernel)) (pi_listK K (pv 5)) (blkOk_by (own := [("_law_x", 14), ("_law_z", 15)]) (N := N_law_drawn_code) (sc := defScope s_law_drawn_code) (by decide +kernel)) (fun _ _ _ _ _ => (pg_tupK K (n := 2) rfl (pgs_cons (pg_name (i := 14) sc_law_drawn_code.nd rfl (Or.inl rfl) (by first | exact .inl rfl | exact .inr rfl)) (pgs_cons (pg_name (i := 15) sc_law_drawn_code.nd rfl (Or.inl rfl) (by first | exact .inl rfl | exact .inr rfl)) pgs_nil)))) (fun _ _ _ _ _ => pts_nil) (fun _ _ _ _ _ => (pe_tup (pa_cons (pe_cl o_law_gate (hr.mono (by decide)) (by rfl) pass0 (pa_cons (pv 14) (pa_cons (pv 8) (pa_cons (pv 9) pa_nil)))) (pa_cons (pe_cl o_law_gate (hr.mono (by decide)) (by rfl) pass0 (pa_cons (pv 15) (pa_cons (pv 8) (pa_cons (pv 9) pa_nil)))) pa_nil))))))))
      (pss_cons (ps_set (i := 10) sc_law_drawn_code.nd rfl (Or.inl rfl) (pe_lst pa_nil))
      (pss_cons (ps_for PassesOwn.never rfl (pi_listK K (pv 4)) (pg_name (i := 11) sc_law_drawn_code.nd rfl (Or.inl rfl))
        (pss_cons (ps_for PassesOwn.never rfl (pi_listK K (pe_slice (sl_listK K) (pe_cl o_law_shuffled (hr.mono (by decide)) (by rfl) pass0 (pa_cons (pv 0) (pa_cons (pv 10) pa_nil))) po_none (po_some (pe_cl o_law_draw (hr.mono (by decide)) (by rfl) pass0 (pa_cons (pv 0) (pa_cons pe_int pa_nil)))))) (pg_name (i := 12) sc_law_drawn_code.nd rfl (Or.inl rfl))
          (pss_one (ps_set (i := 11) sc_law_drawn_code.nd rfl (Or.inl rfl) (pe_cl o_law_product (hr.mono (by decide)) (by rfl) pass0 (pa_cons (pv 11) (pa_cons (pv 12) pa_nil))))))
        (pss_one (ps_expr (pe_bmK K PySem.F.plainAttrs_list PySem.F.slot_list_append PySem.F.type_list_append mt_append (pv 10) (pa_cons (pe_tup (pa_cons (pe_ix (ix_tupK K) (pv 11) pe_int (fun _ _ => rfl)) (pa_cons (pe_ix (ix_tupK K) (pv 11) pe_int (fun _ _ => rfl)) (pa_cons (pe_cl o_law_draw (hr.mono (by decide)) (by rfl) pass0 (pa_cons (pv 0) (pa_cons pe_int pa_nil))) pa_nil)))) pa_nil))))))
      (pss_cons (ps_set (i := 13) sc_law_drawn_code.nd rfl (Or.inl rfl) (pe_lst pa_nil))
      (pss_cons (ps_for PassesOwn.never rfl (pi_listK K (pe_slice (sl_listK K) (pv 5) po_none (po_some (pv 3)))) (pg_tup rfl (pgs_cons (pg_name (i := 14) sc_law_drawn_code.nd rfl (Or.inl rfl)) (pgs_cons (pg_name (i := 15) sc_law_drawn_code.nd rfl (Or.inl rfl)) pgs_nil)))
        (pss_one (ps_set (i := 13) sc_law_drawn_code.nd rfl (Or.inl rfl) (pe_op op_cat (pv 13) (pe_lst (pa_cons (pv 14) (pa_cons (pv 15) pa_nil)))))))
      (pss_one (ps_ret (pe_disp (pps_cons pe_str (pv 1) (pps_cons pe_str (pe_cl o_law_shuffled (hr.mono (by decide)) (by rfl) pass0 (pa_cons (pv 0) (pa_cons (pv 10) pa_nil))) (pps_cons pe_str (pv 13) (pps_cons pe_str (pe_slice (sl_listK K) (pv 5) (po_some (pv 3)) po_none) pps_nil)))) (by rfl) (by rfl) (fun z => by cases z) (by decide))))))))))))), ?_⟩
  -- marks
  refine q_asgP (P := fun v H' => ∃ a, v = .ref a ∧ IsRl H' a (marks0 rk)) ((evp_lc (wk_rng1 (n := rk) (ea_cons (ev_var rfl) ea_nil) (by omega)) (fun _ => true) (fun i v H' => IsRow H' v ⟨0, 2 ^ i, 0⟩) (by omega) (fun i v H H' e q => q.kx e) ?_).imp ?_) fun v H1 e1 ⟨ml, ev, hml⟩ => ?_
  · rintro i x Hb hi eb rfl Q' kk
    exact tg_name (i := i) rfl et_yes (fun _ => evp_mark (n := n) true (ev_var rfl) (by omega) hn) kk
  · rintro v H1 e1 ⟨a, xs, h1, h2, h3⟩
    rw [filter_all] at h3
    refine ⟨a, h1, xs, h2, ?_⟩
    have := paired_range (L := List.range rk) (g := fun i => (⟨0, 2 ^ i, 0⟩ : Row)) (F := IsRow H1) (P := fun i x => IsRow H1 x ⟨0, 2 ^ i, 0⟩) (by rw [List.length_range]; exact h3) fun i d x hd q => by
      have hlt : i < rk := by have := (List.getElem?_eq_some_iff.mp hd).1; simpa using this
      rw [List.getElem?_range hlt] at hd
      rw [← Option.some.inj hd]; exact q
    exact this
  subst ev
  -- pairs
  refine q_asgP (P := fun v H' => ∃ a, v = .ref a ∧ IsPrs n H' a) ((evp_lc (wk_rng2 (lo := rk) (n := n) (ea_cons (ev_var rfl) (ea_cons (ev_var rfl) ea_nil)) (by omega) (by omega)) (fun _ => true) (fun i v H' => IsPr n H' v) (by omega) (fun i v H H' e q => q.kx e) ?_).imp ?_) fun v H2 e2 ⟨pl, ev, hpl⟩ => ?_
  · rintro i x Hb hi eb rfl Q' kk
    refine tg_name (i := rk + i) rfl et_yes (fun _ => EvP.imp (P := fun v H' => ∃ t a b, v = .ref t ∧ H' t = some (.tup [a, b]) ∧ IsRow H' a ⟨2 ^ (rk + i), 0, 0⟩ ∧ IsRow H' b ⟨0, 2 ^ (rk + i), 0⟩) (fun Ho eo Q kk => ?_) fun v H3 e3 ⟨t, a, b, h1, h2, h3, h4⟩ => ⟨t, a, b, _, _, h1, h2, h3, h4, ⟨Nat.pow_lt_pow_right (by decide) (by omega), Nat.two_pow_pos n, Nat.zero_le _⟩, ⟨Nat.two_pow_pos n, Nat.pow_lt_pow_right (by decide) (by omega), Nat.zero_le _⟩⟩) kk
    unfold tTup tCons tNil
    refine (evp_mark (n := n) (k := rk + i) (tk := tVar 16) false (ev_var rfl) (by omega) hn) Ho eo _ fun a H3 e3 ha => ?_
    refine (evp_mark (n := n) (k := rk + i) (tk := tVar 16) true (ev_var rfl) (by omega) hn) H3 (eo.trans e3) _ fun b H4 e4 hb => ?_
    refine ⟨sz_of (by show 2 ≤ 100000; decide), fun t nt => ?_⟩
    exact kk _ _ ((e3.trans e4).trans (Ex.new nt)) ⟨t, a, b, rfl, upd_same, (ha.ex e4).ex (Ex.new nt), hb.ex (Ex.new nt)⟩
  · rintro v H3 e3 ⟨a, xs, h1, h2, h3⟩
    rw [filter_all] at h3
    refine ⟨a, h1, xs, h2, ?_, fun x hx => ?_⟩
    · rw [paired_len h3, List.length_range]; omega
    · obtain ⟨i, hi⟩ := List.mem_iff_getElem?.mp hx
      obtain ⟨_, _, q⟩ := paired_at h3 hi
      exact q
  subst ev
  refine q_asgP (EvL.pf el_nil) fun v H3 e3 ⟨gl, ev, ngl, hgl⟩ => ?_
  subst ev
  have pn3 := pn.ex ((e1.trans e2).trans e3)
  have n0 : gl ≠ p ∧ gl ≠ c := (pn.ex (e1.trans e2)).new ngl
  -- gates
  refine q_forRD (p := p) (B := 400) (C := fun m H' => PenAt H' p c (N + 1)) (evd_op (ev_n (n := 2) rfl) (evd_draw (m := 5 * n) (ev_var rfl) (ev_op (ev_n (n := 5) rfl) (ev_var rfl) (rv_mulN (by decide))) pn3 (by omega) (by omega) (by omega)) (fun y Ha ba ⟨pna, r, hr, ey⟩ => ⟨nv (2 + r), by rw [ey]; exact rv_addN, fun Hb eb => ⟨2 + r, rfl, by omega, pna.ex eb⟩⟩)) (by omega) fun m H4 b4 hm pn4 => ?_
  have mlg := hml.ex e2 |>.ne ngl
  have plg := hpl.ne ngl
  have ev2 : ∀ {σ : L2.St} {H : Hp} {g : Gk}, σ[8]? = some (some (.str g.nm)) → Ev (tOp (rIn K false) (tVar 8) (tLst (tCons (tC (.str "cx")) (tCons (tC (.str "cz")) (tCons (tC (.str "swap")) tNil))))) σ H (.bl g.two) := fun {σ H g} h => ev_is (ev_inLs (ev_var h) (el_lst (ea_cons ev_c (ea_cons ev_c (ea_cons ev_c ea_nil))) (by show 3 ≤ 100000; decide)) (by cases g <;> rfl) rfl) (by cases g <;> decide +kernel)
  have ev2n : ∀ {σ : L2.St} {H : Hp} {g : Gk}, σ[8]? = some (some (.str g.nm)) → Ev (tOp (rIn K true) (tVar 8) (tLst (tCons (tC (.str "cx")) (tCons (tC (.str "cz")) (tCons (tC (.str "swap")) tNil))))) σ H (.bl (!g.two)) := fun {σ H g} h => ev_is (ev_niLs (ev_var h) (el_lst (ea_cons ev_c (ea_cons ev_c (ea_cons ev_c ea_nil))) (by show 3 ≤ 100000; decide)) (by cases g <;> rfl) rfl) (by cases g <;> decide +kernel)
  refine ⟨fun i σ' H' => ∃ gs xs y7 y8 y9, σ' = [some (.ref p), some (nv n), some (nv rk), some (nv 0), some (.ref ml), some (.ref pl), some (.ref gl), y7, y8, y9, none, none, none, none, none, none, none] ∧ ExB p H H' ∧ PenAt H' p c (N + 1 + i * (n + 1)) ∧ IsRl H' ml (marks0 rk) ∧ IsPrs n H' pl ∧ H' gl = some (.lst xs) ∧ Paired (IsGt gl H') xs gs ∧ (∀ t ∈ gs, Gt.ok n t) ∧ gs.length ≤ i, ?_, ?_, ?_⟩
  · exact ⟨[], [], _, _, _, rfl, (ExB.of ((e1.trans e2).trans e3)).trans b4, by rw [Nat.zero_mul]; exact pn4, (hml.ex (e2.trans e3)).pen pn3 b4, (hpl.ex e3).pen pn3 b4, pn3.lst b4 hgl, .nil, fun t h => by simp at h, Nat.le_refl _⟩
  · rintro i σ' H5 hi ⟨gs, xs, y7, y8, y9, rfl, b5, pn5, hml5, hpl5, hgl5, hgs, hok, hlen⟩
    have hin : i * (n + 1) ≤ 400 * 65 := Nat.mul_le_mul (by omega) (by omega)
    refine q_asgD (evd_pick (xs := [.str "h", .str "s", .str "cx", .str "cx", .str "cz", .str "swap", .str "x", .str "z"]) (ev_var rfl) (el_lst (ea_cons ev_c (ea_cons ev_c (ea_cons ev_c (ea_cons ev_c (ea_cons ev_c (ea_cons ev_c (ea_cons ev_c (ea_cons ev_c ea_nil)))))))) (by show 8 ≤ 100000; decide)) pn5 (by simp) (by show 8 ≤ 1000; decide) (by omega)) fun v H6 b6 ⟨pn6, hv⟩ => ?_
    obtain ⟨g, rfl⟩ := gk_of hv
    refine q_asgD (evd_slTo (C := fun ys m H' => PenAt H' p c (N + 1 + i * (n + 1) + 1 + n) ∧ ys.Perm ((List.range n).map nv) ∧ m = if g.two then 2 else 1) (evd_shuffled (xs := (List.range n).map nv) (ev_var rfl) (evp_rgl (ev_var rfl) (by omega)) pn6 (by rw [List.length_map, List.length_range]; omega) (by omega)) ?_ (fun ys m Ha Hb e ⟨q1, q2⟩ => ⟨q1.ex e, q2⟩)) fun v H7 b7 ⟨q, ys, m', ev, hq, ⟨pn7, hperm, hm'⟩, hfr⟩ => ?_
    · rintro v Ha ba ⟨q, ys, ev, nq, hperm, hq, pna⟩
      rw [List.length_map, List.length_range] at pna
      refine ⟨q, ys, ev, hq, fun Q kk => ?_⟩
      exact (ev_if (v := nv (if g.two then 2 else 1)) (et_test (ev2 rfl)) (fun h => by rw [if_pos h]; exact ev_n (n := 2) rfl) (fun h => by rw [if_neg (by rw [h]; decide)]; exact ev_n (n := 1) rfl)) Ha (Ex.refl _) Q fun Hb eb => kk _ Hb (.of eb) (eb _ _ hq) ⟨pna.ex eb, hperm, rfl⟩
    subst ev
    obtain ⟨zs, hz1, rfl⟩ := perm_nv hperm
    rw [← List.map_take] at hq
    have hzl : zs.length = n := by rw [hz1.length_eq, List.length_range]
    have hzb : ∀ z ∈ zs, z < n := fun z hz => List.mem_range.mp (hz1.mem_iff.mp hz)
    have hznd : zs.Nodup := (hz1.nodup_iff).mpr List.nodup_range
    have pls : ((zs.take m').map nv).length = min m' n := by rw [List.length_map, List.length_take, hzl]
    have bb : ExB p H H7 := (b5.trans b6).trans b7
    have hgl7 := pn6.lst b7 (pn5.lst b6 hgl5)
    have hgs7 : Paired (IsGt gl H7) xs gs := L2.Paired.mapP hgs fun _ _ q => (q.pen pn5 b6).pen pn6 b7
    have hml7 := (hml5.pen pn5 b6).pen pn6 b7
    have hpl7 := (hpl5.pen pn5 b6).pen pn6 b7
    have hqg : q ≠ gl := hfr _ _ n0.1 (pn5.lst b6 hgl5)
    have pn8 : PenAt H7 p c (N + 1 + (i + 1) * (n + 1)) := pn7.mono (by rw [Nat.succ_mul]; omega)
    have hxl := paired_len hgs
    refine s_when (b := (decide (1 < min m' n) || !g.two)) (et_or (et_test (ev_is (ev_op (ev_is (ev_lenL (ev_var rfl) (sq_of hq)) (by rw [pls])) (ev_n (n := 1) rfl) rv_I0) (by
        congr 1
        by_cases q : 1 < min m' n
        · rw [decide_eq_true q, decide_eq_true]; omega
        · rw [decide_eq_false q, decide_eq_false]; omega))) fun _ => et_test (ev2n rfl)) (fun hc H8 e8 => ?_) fun hc H8 e8 => ?_
    · obtain ⟨a, ha⟩ : ∃ a, zs[0]? = some a := ⟨_, List.getElem?_eq_getElem (by omega)⟩
      have hza : a < n := hzb a (List.mem_of_getElem? ha)
      obtain ⟨t, ht1, ht2, ht3⟩ : ∃ t : Gt, t.g = g ∧ t.a = a ∧ Gt.ok n t ∧ (g.two = true → (zs.take m')[1]? = some t.b) := by
        by_cases h2 : g.two = true
        · have hn2 : 1 < n := by
            rw [h2] at hc
            simp at hc
            omega
          have hb := List.getElem?_eq_getElem (show 1 < zs.length by omega)
          refine ⟨⟨g, a, zs[1]⟩, rfl, rfl, ⟨hza, hzb _ (List.getElem_mem _), fun _ hab => ?_⟩, fun _ => ?_⟩
          · have h0 := List.getElem?_eq_getElem (show 0 < zs.length by omega)
            rw [ha] at h0
            have e0 : a = zs[0] := Option.some.inj h0
            exact List.pairwise_iff_getElem.mp hznd 0 1 (by omega) (by omega) (by omega) (by rw [← e0]; exact hab)
          · rw [hm', if_pos h2, List.getElem?_take_of_lt (by omega)]; exact hb
        · exact ⟨⟨g, a, a⟩, rfl, rfl, ⟨hza, hza, fun h => absurd h h2⟩, fun h => absurd h h2⟩
      have ha' : (zs.take m')[0]? = some a := by
        rw [List.getElem?_take_of_lt (by rw [hm']; split <;> omega)]; exact ha
      refine s_appP (P := fun v H' => IsGt gl H' v t) (e8 _ _ hgl7) (ev_var rfl) ((EvU.p (eu_tup (ea_cons (ev_var rfl) (ea_cons (ev_var rfl) ea_nil)) (by show 2 ≤ 100000; decide))).imp fun v H9 e9 ⟨tt, ev, htt⟩ => ⟨tt, q, zs.take m', ev, by rw [ht1]; exact htt, e9 _ _ (e8 _ _ hq), by rw [ht2]; exact ha', by rw [ht1]; exact ht3.2, hqg⟩) (by omega) fun v H9 e9 hv => ?_
      have e89 := e8.trans e9
      have hgl9 := e89 _ _ hgl7
      have bx : ExB gl H9 (upd H9 gl (.lst (xs ++ [v]))) := ExB.upd
      refine ⟨gs ++ [t], xs ++ [v], _, _, _, rfl, ?_, (pn8.ex e89).upd bx n0.1 n0.2, (hml7.ex e89).exb hgl9 mlg bx, (hpl7.ex e89).exb hgl9 plg bx, upd_same, paired_app (L2.Paired.mapP hgs7 fun _ _ q => (q.ex e89).exb hgl9 bx) (.cons (hv.exb hgl9 bx) .nil), ?_, by rw [List.length_append]; show _ + 1 ≤ _; omega⟩
      · intro b o hb ho
        have hbg : b ≠ gl := by rintro rfl; rw [(e1.trans e2) _ _ ho] at ngl; cases ngl
        exact bx _ _ hbg (e89 _ _ (bb _ _ hb ho))
      · intro u hu
        rcases List.mem_append.mp hu with h | h
        · exact hok u h
        · rw [List.mem_singleton.mp h]; exact ht3.1
    · exact ⟨gs, xs, _, _, _, rfl, bb.trans (.of e8), pn8.ex e8, hml7.ex e8, hpl7.ex e8, e8 _ _ hgl7, L2.Paired.mapP hgs7 fun _ _ q => q.ex e8, hok, by omega⟩
  · rintro σ' H5 ⟨gs, xs, y7, y8, y9, rfl, b5, pn5, hml5, hpl5, hgl5, hgs, hok, hlen⟩
    have hin : m * (n + 1) ≤ 400 * 65 := Nat.mul_le_mul (by omega) (by omega)
    have hxl := paired_len hgs
    refine q_forW (wk_list (ev_var rfl) (sq_of hgl5)) (fun Hs i σ' H' => ∃ ml' pl' y7 y8 y9, σ' = [some (.ref p), some (nv n), some (nv rk), some (nv 0), some (.ref ml'), some (.ref pl'), some (.ref gl), y7, y8, y9, none, none, none, none, none, none, none] ∧ Ex Hs H' ∧ IsRl H' ml' ((marks0 rk).map (appG (gs.take i))) ∧ IsPrs n H' pl')
      (fun H6 e6 => ⟨ml, pl, _, _, _, rfl, Ex.refl _, by
        have : (marks0 rk).map (appG (gs.take 0)) = marks0 rk := by
          rw [List.take_zero]
          exact List.map_id' _
        rw [this]; exact hml5.ex e6, hpl5.ex e6⟩) (fun Hs i σ' H' _ _ ⟨_, _, _, _, _, _, h, _⟩ => h) ?_ ?_
    · rintro Hs i x σ' Ha Hb e0 hi ⟨ml', pl', y7, y8, y9, rfl, ea, hmla, hpla⟩ eb hx
      obtain ⟨t, ht1, tt, qa, ps, rfl, htt, hqa, hpa, hpb, _⟩ := paired_at hgs hx
      have eall := (e0.trans ea).trans eb
      have hto := hok t (List.mem_of_getElem? ht1)
      refine ⟨tt, _, rfl, st_of (eall _ _ htt), rfl, _, _, rfl, _, _, rfl, rfl, ?_⟩
      obtain ⟨ms, hms1, hms2⟩ := hmla.ex eb
      have hml := paired_len hms2
      have hmr : ∀ r ∈ (marks0 rk).map (appG (gs.take i)), Rw n r := by
        intro r hr
        obtain ⟨r0, hr0, rfl⟩ := List.mem_map.mp hr
        exact appG_rw (fun u hu => hok u (List.mem_of_mem_take hu)) (marks0_rw hrk r0 hr0)
      have hmn : ((marks0 rk).map (appG (gs.take i))).length = rk := by rw [List.length_map]; unfold marks0; simp
      refine q_asgP (P := fun v H' => ∃ a, v = .ref a ∧ IsRl H' a ((marks0 rk).map (appG (gs.take (i + 1))))) ((evp_lc (wk_list (ev_var rfl) (sq_of hms1)) (fun _ => true) (fun j v H' => ∃ r, ((marks0 rk).map (appG (gs.take i)))[j]? = some r ∧ IsRow H' v (gate t.g t.a t.b r)) (by omega) (fun j v H H' e ⟨r, h1, h2⟩ => ⟨r, h1, h2.kx e⟩) ?_).imp ?_) fun v Hc ec ⟨ml2, ev, hml2⟩ => ?_
      · rintro j xx Hd hj ed hxx Q' kk
        obtain ⟨r, hr1, hr2⟩ := paired_at hms2 hxx
        exact tg_name (i := j) rfl et_yes (fun _ => (evp_law_gate (n := n) (ps := ps) (ev_var rfl) (ev_var rfl) (ev_var rfl) (hr2.ex ed) ((eall.trans ed) _ _ hqa) hpa hpb hto.1 hto.2.1 hn (hmr r (List.mem_of_getElem? hr1))).imp fun v H' _ q => ⟨r, hr1, q⟩) kk
      · rintro v Hd ed ⟨a, ys, h1, h2, h3⟩
        refine ⟨a, h1, ys, h2, ?_⟩
        rw [filter_all, hml] at h3
        have := paired_range (g := gate t.g t.a t.b) h3 (F := IsRow Hd) fun j d x hd ⟨r, h4, h5⟩ => by rw [hd] at h4; rw [Option.some.inj h4]; exact h5
        rw [List.map_map] at this
        have e2 : (marks0 rk).map (appG (gs.take (i + 1))) = (marks0 rk).map (gate t.g t.a t.b ∘ appG (gs.take i)) := by
          refine List.map_congr_left fun r _ => ?_
          rw [take_succ_of ht1, appG_snoc]; rfl
        rw [e2]; exact this
      subst ev
      obtain ⟨prs, hp1, hp0, hp2⟩ := hpla.ex (eb.trans ec)
      refine s_asgP (P := fun v H' => ∃ a, v = .ref a ∧ IsPrs n H' a) ((evp_lc (wk_list (ev_var rfl) (sq_of hp1)) (fun _ => true) (fun j v H' => IsPr n H' v) (by omega) (fun j v H H' e q => q.kx e) ?_).imp ?_) fun v Hd ed ⟨pl2, ev, hpl2⟩ => ?_
      · rintro j xx Hd hj ed hxx Q' kk
        obtain ⟨t2, a2, b2, ra, rb, rfl, ht2, hra, hrb, wa, wb⟩ := (hp2 xx (List.mem_of_getElem? hxx)).kx (.of ed)
        refine ⟨t2, [a2, b2], rfl, st_of ht2, rfl, a2, [b2], rfl, b2, [], rfl, rfl, ?_⟩
        refine kk _ Hd rfl (Ex.refl _) et_yes fun _ => EvP.imp (P := fun v H' => ∃ q a b, v = .ref q ∧ H' q = some (.tup [a, b]) ∧ IsRow H' a (gate t.g t.a t.b ra) ∧ IsRow H' b (gate t.g t.a t.b rb)) (fun Ho eo Q kk => ?_) fun v H3 e3 ⟨t3, a3, b3, h1, h2, h3, h4⟩ => ⟨t3, a3, b3, _, _, h1, h2, h3, h4, wa.gate t.g hto.1 hto.2.1, wb.gate t.g hto.1 hto.2.1⟩
        unfold tTup tCons tNil
        have qa' := (((eall.trans ec).trans ed).trans eo) _ _ hqa
        refine (evp_law_gate (K := K) (n := n) (E := E0) (ps := ps) (ta := tVar 14) (tb := tVar 8) (tc := tVar 9) (ev_var rfl) (ev_var rfl) (ev_var rfl) (hra.ex eo) qa' hpa hpb hto.1 hto.2.1 hn wa) Ho (Ex.refl _) _ fun a H3 e3 ha => ?_
        refine (evp_law_gate (K := K) (n := n) (E := E0) (ps := ps) (ta := tVar 15) (tb := tVar 8) (tc := tVar 9) (ev_var rfl) (ev_var rfl) (ev_var rfl) (hrb.ex (eo.trans e3)) (e3 _ _ qa') hpa hpb hto.1 hto.2.1 hn wb) H3 (Ex.refl _) _ fun b H4 e4 hb => ?_
        refine ⟨sz_of (by show 2 ≤ 100000; decide), fun t nt => ?_⟩
        exact kk _ _ ((e3.trans e4).trans (Ex.new nt)) ⟨t, a, b, rfl, upd_same, (ha.ex e4).ex (Ex.new nt), hb.ex (Ex.new nt)⟩
      · rintro v Hd ed ⟨a, ys, h1, h2, h3⟩
        rw [filter_all] at h3
        refine ⟨a, h1, ys, h2, ?_, fun x hx => ?_⟩
        · rw [paired_len h3, List.length_range]; exact hp0
        · obtain ⟨i, hi⟩ := List.mem_iff_getElem?.mp hx
          obtain ⟨_, _, q⟩ := paired_at h3 hi
          exact q
      · subst ev
        exact ⟨ml2, pl2, _, _, _, rfl, (((ea.trans eb).trans ec).trans ed), hml2.ex ed, hpl2⟩
    · rintro Hs σ' H6 e0 ⟨ml', pl', y7, y8, y9, rfl, ea, hml6, hpl6⟩
      rw [hxl, List.take_length] at hml6
      have e6 := e0.trans ea
      have pn6 := pn5.ex e6
      have b6 : ExB p H H6 := b5.trans (.of e6)
      have hM : ∀ r ∈ (marks0 rk).map (appG gs), Rw n r := by
        intro r hr
        obtain ⟨r0, hr0, rfl⟩ := List.mem_map.mp hr
        exact appG_rw hok (marks0_rw hrk r0 hr0)
      have hMl : ((marks0 rk).map (appG gs)).length = rk := by rw [List.length_map]; unfold marks0; simp
      have hdr : ∀ L R, Built ((marks0 rk).map (appG gs)) R → L.Perm R → Drawn n rk L := fun L R h1 h2 => ⟨gs, R, hok, h1, h2⟩
      generalize (marks0 rk).map (appG gs) = M at *
      obtain ⟨ms, hms1, hms2⟩ := hml6
      have hmsl := paired_len hms2
      refine q_asgP (EvL.pf el_nil) fun v H7 e7 ⟨rl, ev, nrl, hrl⟩ => ?_
      subst ev
      have pn7 := pn6.ex e7
      have nrl2 := pn6.new nrl
      have nrl0 : H rl = none := by
        cases q : H rl with
        | none => rfl
        | some u => rw [b6 _ _ nrl2.1 q] at nrl; cases nrl
      have mlr : ml' ≠ rl := by rintro rfl; rw [hms1] at nrl; cases nrl
      have plr : pl' ≠ rl := hpl6.ne nrl
      generalize hN2 : N + 1 + m * (n + 1) = N2 at *
      refine q_forG (wg_list (ev_var rfl) (sq_of (e7 _ _ hms1))) (fun i σ' H' => ∃ R ys y7 y8 y9 y11 y12, σ' = [some (.ref p), some (nv n), some (nv rk), some (nv 0), some (.ref ml'), some (.ref pl'), some (.ref gl), y7, y8, y9, some (.ref rl), y11, y12, none, none, none, none] ∧ ExB p H H' ∧ PenAt H' p c (N2 + i * (n + 2)) ∧ H' ml' = some (.lst ms) ∧ Rows H' ms M ∧ IsPrs n H' pl' ∧ H' rl = some (.lst ys) ∧ Rows H' ys R ∧ Built (M.take i) R)
        (fun H8 e8 => ⟨[], [], _, _, _, _, _, rfl, (b6.trans (.of e7)).trans (.of e8), by rw [Nat.zero_mul]; exact pn7.ex e8, (e7.trans e8) _ _ hms1, hms2.ex (e7.trans e8), hpl6.ex (e7.trans e8), e8 _ _ hrl, .nil, .nil⟩) (fun i σ' H' _ ⟨_, _, _, _, _, _, _, _, _, _, h, _⟩ => sq_of h) ?_ ?_
      · rintro i x σ' Ha Hb hi ⟨R, ys, y7, y8, y9, y11, y12, rfl, ba, pna, hmla, hmsa, hpla, hrla, hysa, hR⟩ ⟨rfl, hx⟩
        obtain ⟨mk, hmk, rmk⟩ := paired_at hmsa hx
        have him : i < M.length := (List.getElem?_eq_some_iff.mp hmk).1
        have hRl := hR.len
        rw [List.length_take] at hRl
        have hyl := paired_len hysa
        have hin2 : i * (n + 2) ≤ 64 * 66 := Nat.mul_le_mul (by omega) (by omega)
        have hrwR := hR.rw fun r hr => hM r (List.mem_of_mem_take hr)
        have hmkr := hM mk (List.mem_of_getElem? hmk)
        -- the products
        refine q_forLD (p := p) (P := fun zs H' => PenAt H' p c (N2 + i * (n + 2) + ys.length + 1) ∧ zs.length ≤ 1 ∧ ∀ z ∈ zs, z ∈ ys) ((evd_slTo (C := fun zs m H' => PenAt H' p c (N2 + i * (n + 2) + ys.length + 1) ∧ zs.Perm ys ∧ m ≤ 1) (evd_shuffled (xs := ys) (ev_var rfl) (fun Ho eo Q kk => ev_var rfl Ho (Ex.refl _) _ fun H9 e9 => kk _ H9 e9 ⟨rl, rfl, e9 _ _ (eo _ _ hrla)⟩) pna (by omega) (by omega)) ?_ (fun zs m Hx Hy e ⟨q1, q2⟩ => ⟨q1.ex e, q2⟩)).imp ?_) fun a zs H8 b8 ha ⟨pn8, hz1, hz2⟩ => ?_
        · rintro v Hx bx ⟨q, zs, ev, nq, hperm, hq, pnx⟩
          refine ⟨q, zs, ev, hq, fun Q kk => ?_⟩
          refine (evd_draw (E := E0) (ta := tVar 0) (tb := tC (.int 2)) (m := 2) (ev_var rfl) (ev_n (n := 2) rfl) pnx (by decide) (by decide) (by omega)) Hx (Ex.refl _) Q fun v Hy by_ ⟨pny, r, hr2, er⟩ => ?_
          subst er
          exact kk r Hy by_ (pnx.lst by_ hq) ⟨pny, hperm, by omega⟩
        · rintro v Hx bx ⟨q, zs, m', ev, hq, ⟨pnx, hperm, hm'⟩, hfr⟩
          refine ⟨q, zs.take m', ev, hq, pnx, by rw [List.length_take]; omega, fun z hz => hperm.mem_iff.mp (List.mem_of_mem_take hz)⟩
        have hml8 := pna.lst b8 hmla
        have hrl8 := pna.lst b8 hrla
        have k8 := pna.kx b8
        refine ⟨fun j σ' H' => ∃ vs o y12, σ' = [some (.ref p), some (nv n), some (nv rk), some (nv 0), some (.ref ml'), some (.ref pl'), some (.ref gl), y7, y8, y9, some (.ref rl), some vs, y12, none, none, none, none] ∧ Ex H8 H' ∧ IsRow H' vs o ∧ Rw n o ∧ (j = 0 → o = mk) ∧ (j ≠ 0 → ∃ r ∈ R, o = mul mk r),
          ⟨x, mk, _, rfl, Ex.refl _, rmk.kx k8, hmkr, fun _ => rfl, fun h => absurd rfl h⟩, fun j σ' H' _ ⟨_, _, _, _, e, _⟩ => e _ _ ha, ?_, ?_⟩
        · rintro j z σ' Hx hz ⟨vs, o, y12', rfl, ex, ho, hro, ho0, _⟩
          have hj0 : j = 0 := by have := (List.getElem?_eq_some_iff.mp hz).1; omega
          subst hj0
          have eo := ho0 rfl
          subst eo
          obtain ⟨i2, hi2⟩ := List.mem_iff_getElem?.mp (hz2 z (List.mem_of_getElem? hz))
          obtain ⟨r, hr1, hr2⟩ := paired_at hysa hi2
          have hrR := List.mem_of_getElem? hr1
          refine s_asgP (evp_law_product (ev_var rfl) (ev_var rfl) ho ((hr2.kx k8).ex ex) (n := n) hn hro (hrwR r hrR)) fun v Hy ey hv => ?_
          exact ⟨v, _, _, rfl, ex.trans ey, hv, hro.mul (hrwR r hrR), fun h => by omega, fun _ => ⟨r, hrR, rfl⟩⟩
        · rintro σ' H9 ⟨vs, o, y12', rfl, ex, ho, hro, ho0, ho1⟩
          have pn9 := pn8.ex ex
          have b89 : ExB p Hb H9 := b8.trans (.of ex)
          have hrl9 := ex _ _ hrl8
          obtain ⟨po, rfl, hpo⟩ := ho
          unfold tDrop tBM
          refine (ev_var rfl : Ev (tVar 10) _ H9 (.ref rl)) H9 (Ex.refl _) _ fun Hx ex1 => ⟨Or.inl ⟨rfl, _, sq_of (ex1 _ _ hrl9)⟩, ?_⟩
          have pnx := pn9.ex ex1
          simp only [tCons, tTup, tNil]
          refine (ev_op (ev_var (i := 11) rfl) ev_c (rv_ixT (st_of (ex1 _ _ hpo)) (by rfl)) : Ev (tOp (rIxT K) (tVar 11) (tC (.int 0))) _ Hx (nv o.x)) Hx (Ex.refl _) _ fun Hy ey => ?_
          refine (ev_op (ev_var (i := 11) rfl) ev_c (rv_ixT (st_of ((ex1.trans ey) _ _ hpo)) (by rfl)) : Ev (tOp (rIxT K) (tVar 11) (tC (.int 1))) _ Hy (nv o.z)) Hy (Ex.refl _) _ fun Hz ez => ?_
          have exz := (ex1.trans ey).trans ez
          refine (evd_draw (E := E0) (ta := tVar 0) (tb := tC (.int 2)) (m := 2) (ev_var rfl) (ev_n (n := 2) rfl) (pn9.ex exz) (by decide) (by decide) (by omega)) Hz (Ex.refl _) _ fun v Hw bw ⟨pnw, sg, hsg, ev⟩ => ?_
          subst ev
          refine ⟨sz_of (by show 3 ≤ 100000; decide), fun t nt => ?_⟩
          have enew : Ex Hw (upd Hw t (.tup [nv o.x, nv o.z, nv sg])) := Ex.new nt
          have hrlw := enew _ _ ((pn9.ex exz).lst bw (exz _ _ hrl9))
          refine ⟨rl, ys, .ref t, rfl, rfl, hrlw, sz_lt (by omega), ?_⟩
          have bxl : ExB rl (upd Hw t (.tup [nv o.x, nv o.z, nv sg])) (upd (upd Hw t (.tup [nv o.x, nv o.z, nv sg])) rl (.lst (ys ++ [.ref t]))) := ExB.upd
          have kxl := bxl.kx hrlw
          have bAW : ExB p Hb (upd Hw t (.tup [nv o.x, nv o.z, nv sg])) := ((b89.trans (.of exz)).trans bw).trans (.of enew)
          have kAW := pna.kx bAW
          refine ⟨R ++ [⟨o.x, o.z, sg⟩], ys ++ [.ref t], _, _, _, _, _, rfl, ?_, ?_, bxl _ _ mlr (pna.lst bAW hmla), (hmsa.kx kAW).kx kxl, (hpla.pen pna bAW).exb hrlw plr bxl, upd_same, ?_, ?_⟩
          · intro b o' hb ho'
            have hbr : b ≠ rl := by rintro rfl; rw [nrl0] at ho'; cases ho'
            exact bxl _ _ hbr (bAW _ _ hb (ba _ _ hb ho'))
          · exact ((pnw.ex enew).mono (by rw [Nat.succ_mul]; omega)).upd bxl nrl2.1 nrl2.2
          · exact paired_app ((hysa.kx kAW).kx kxl) (.cons ⟨t, rfl, kxl.1 _ _ upd_same⟩ .nil)
          · rw [take_succ_of hmk]
            refine .snoc hR (by omega) ?_
            by_cases h0 : zs.length = 0
            · exact .inl (ho0 h0)
            · exact .inr (ho1 h0)
      · rintro σ' H8 ⟨R, ys, y7, y8, y9, y11, y12, rfl, b8, pn8, hml8, hms8, hpl8, hrl8, hys8, hR⟩
        rw [hmsl, List.take_length] at hR
        rw [hmsl, hMl] at pn8
        have hin2 : rk * (n + 2) ≤ 64 * 66 := Nat.mul_le_mul (by omega) (by omega)
        have hRl := hR.len
        have hyl := paired_len hys8
        refine q_asgP (EvL.pf el_nil) fun v H9 e9 ⟨ga, ev, nga, hga⟩ => ?_
        subst ev
        obtain ⟨prs, hp1, hp0, hp2⟩ := hpl8.ex e9
        have ec0 : cutV prs none (some ((0 : Nat) : Int)) = [] := by rw [cutV_to, List.take_zero]
        refine q_forLP (P := fun xs _ => xs = []) ((EvL.p (el_sl (ev_var rfl) eo_none (eo_some (ev_var rfl)) (sq_of hp1))).imp fun v H' _ ⟨q, h1, h2⟩ => ⟨q, _, h1, h2, ec0⟩) fun a xs Hx ex ha hxs => ?_
        subst hxs
        refine ⟨fun i σ' H' => i = 0 ∧ σ' = [some (.ref p), some (nv n), some (nv rk), some (nv 0), some (.ref ml'), some (.ref pl'), some (.ref gl), y7, y8, y9, some (.ref rl), y11, y12, some (.ref ga), none, none, none] ∧ H' = Hx, ⟨rfl, rfl, rfl⟩, fun i σ' H' _ ⟨_, _, h⟩ => by rw [h]; exact ha, fun i x σ' Ha hx => by simp at hx, ?_⟩
        rintro σ' H' ⟨_, rfl, rfl⟩
        have x9 := e9.trans ex
        have pnx := pn8.ex x9
        unfold tRet tDisp
        intro d nd
        have e0 : Ex H' (upd H' d (.dK [])) := Ex.new nd
        simp only [tPairs, tC]
        refine (ev_var rfl : Ev (tVar 1) _ (upd H' d (.dK [])) (nv n)) _ (Ex.refl _) _ fun Ha ea => ?_
        have xa := (x9.trans e0).trans ea
        refine (evd_shuffled (E := E0) (ta := tVar 0) (tb := tVar 10) (xs := ys) (ev_var rfl) (fun Ho eo Q kk => ev_var rfl Ho (Ex.refl _) _ fun H9 e9 => kk _ H9 e9 ⟨rl, rfl, e9 _ _ (eo _ _ (xa _ _ hrl8))⟩) (pn8.ex xa) (by omega) (by omega)) Ha (Ex.refl _) _ fun v Hb bb ⟨q, zs, ev, nq, hperm, hq, pnb⟩ => ?_
        subst ev
        refine (ev_var rfl : Ev (tVar 13) _ Hb (.ref ga)) _ (Ex.refl _) _ fun Hc ec => ?_
        have pna := (pn8.ex xa)
        have hplc := pna.lst bb ((ex.trans (e0.trans ea)) _ _ hp1)
        refine (el_sl (ev_var (i := 5) rfl) (eo_some (ev_var (i := 3) rfl)) eo_none (sq_of (ec _ _ hplc))) Hc (Ex.refl _) _ fun l Hd nl ed hl => ?_
        have hdb : d ≠ p := (pnx.new nd).1
        have hdd : Hd d = some (.dK []) := ed _ _ (ec _ _ (bb _ _ hdb (ea _ _ upd_same)))
        have ecd := ec.trans ed
        refine ⟨hdd, [(.inr "size", nv n), (.inr "rows", .ref q), (.inr "gauge", .ref ga), (.inr "hidden", .ref l)], rfl, (by show 4 ≤ 15; decide), ?_⟩
        have em : mergeK [] [(.inr "size", nv n), (.inr "rows", .ref q), (.inr "gauge", .ref ga), (.inr "hidden", .ref l)] = putK (putK (putK (putK ([] : List (Key × V)) (.inr "size") (nv n)) (.inr "rows") (.ref q)) (.inr "gauge") (.ref ga)) (.inr "hidden") (.ref l) := rfl
        rw [em]
        obtain ⟨L, hL1, hL2⟩ := paired_perm hperm hys8
        have hqd : Hd q = some (.lst zs) := ecd _ _ hq
        have qnd : q ≠ d := by rintro rfl; rw [ea _ _ upd_same] at nq; cases nq
        have bD : ∀ {o}, ExB d Hd (upd Hd d o) := ExB.upd
        have kxa : Kx H8 Hb := ((Kx.of xa)).trans (pna.kx bb)
        have nd8 : H8 d = none := by cases q : H8 d with | none => rfl | some u => rw [x9 _ _ q] at nd; cases nd
        refine k d _ q L _ upd_same ?_ ⟨zs, bD _ _ qnd hqd, ?_⟩ (hdr L R hR hL1) ?_ ?_
        · rw [valV_put, if_neg (by decide +kernel), valV_put, if_neg (by decide +kernel), valV_put, if_pos rfl]
        · exact Rows.kx (bD.kxd hdd) (Rows.ex ecd (Rows.kx kxa hL2))
        · intro b o hb ho
          have hbd : b ≠ d := by
            rintro rfl
            rw [b8 _ _ hb ho] at nd8; cases nd8
          exact bD _ _ hbd (ecd _ _ (bb _ _ hb (xa _ _ (b8 _ _ hb ho))))
        · have pnd := pn8.new nd8
          refine ((pnb.ex ecd).mono ?_).upd bD pnd.1 pnd.2
          omega
end
end Kp
end
section
set_option maxHeartbeats 4000000
namespace Kp
open PySem PySem.Spec PyProof.Rows L2 Evl
local macro_rules | `(tactic| walk_at "ht") => `(tactic| first | assumption | solve_by_elim (config := { maxDepth := 12 }))
local macro_rules | `(tactic| walk_at "ev") => `(tactic| repeat' (first
  | exact ea_nil
  | exact ev_var rfl
  | exact ev_n (n := 0) rfl | exact ev_n (n := 1) rfl | exact ev_n (n := 2) rfl
  | exact rv_andN | exact rv_xorN | exact rv_orN | exact rv_addN | exact rv_shrN | (exact rv_mulN (by decide)) | exact rv_eqN | exact rv_neN | exact rv_ltN
  | (refine' rv_ixT (st_of (by walk_at "ht")) (by rfl))
  | walk_at "evx"
  | refine' ev_op ?_ ?_ ?_
  | refine' ea_cons ?_ ?_))
def rMin2 : List V → Hp → VK → Prop := fun xs H Q => ∃ i j, xs = [.int i, .int j] ∧ Q (.int (if j < i then j else i)) H
theorem call_min2K {X : Cx} (hc : X.calm = true) : CallR X (.builtin "min") rMin2 := call_min2 hc
section
variable {P : Program} {w : World} {K : PySem.W.Frag} {mg : Str → Option Value} {base : Heap}
section
variable {σ : L2.St} {H H' : Hp} {ta tb tc td te to tl tv tx th : TE} {t u : TT} {x y z v : V} {D : Ends} {tz tu : TS} {g : TG} {p c : Addr} {N : Nat} {xs : List V}
theorem ev_min2 {a b : Nat} (ha : Ev ta σ H (nv a)) (hb : Ev tb σ H (nv b)) : Ev (tCB rMin2 (tCons ta (tCons tb tNil))) σ H (nv (min a b)) :=
  ev_cb (ea_cons ha (ea_cons hb ea_nil)) fun H1 e Q k => ⟨(a : Int), (b : Int), rfl, by
    have : (if (b : Int) < (a : Int) then (b : Int) else (a : Int)) = ((min a b : Nat) : Int) := by
      split <;> omega
    rw [this]; exact k H1 (Ex.refl _)⟩
theorem evd_drawn {E : XK} {n rk : Nat} (h0 : Ev ta σ H (.ref p)) (h1 : Ev tb σ H (nv n)) (h2 : Ev tc σ H (nv rk)) (h3 : Ev td σ H (nv 0)) (pn : PenAt H p c N) (hn1 : 1 ≤ n) (hn : n ≤ 64) (hrk : rk ≤ n) (hN : N ≤ 100000000) :
    EvD p (tDGet (tCall sp_law_drawn_code [] E (tCons ta (tCons tb (tCons tc (tCons td tNil))))) (tC (.str "rows"))) σ H (fun v H' => ∃ rl L, v = .ref rl ∧ IsRl H' rl L ∧ Drawn n rk L ∧ PenAt H' p c (N + 100000)) := fun H1 e Q k => by
  unfold tDGet tCall
  refine (ea_cons h0 (ea_cons h1 (ea_cons h2 (ea_cons h3 ea_nil))) : EvA (tCons ta (tCons tb (tCons tc (tCons td tNil)))) σ H _) H1 e _ fun H2 e2 => ?_
  refine ⟨p, c, n, rk, N, rfl, hn1, hn, hrk, pn.ex (e.trans e2), hN, fun d es rl L H' hd hv hl hL b pn' => ?_⟩
  have g := DGet.k (k := .inr "rows") hd
  rw [hv] at g
  exact ⟨d, _, rfl, g, k _ H' ((ExB.of e2).trans b) ⟨rl, L, rfl, hl, hL, pn'⟩⟩
/-- if e == 0: .., e draws -/
theorem s_whenD {M : Hp → Prop} (hM : ∀ H1 H2, Ex H1 H2 → M H1 → M H2) (h : EvD p te σ H (fun v H' => M H' ∧ ∃ r : Nat, v = nv r)) (k1 : ∀ H1, ExB p H H1 → M H1 → tu D σ H1) (k2 : ∀ H1, ExB p H H1 → M H1 → D.nx σ H1) : tIfS (tTest (tOp rEq te (tC (.int 0)))) tu tNext D σ H := by
  unfold tIfS tTest tOp
  refine h H (Ex.refl _) _ fun v H1 b1 ⟨m, r, ev⟩ => ?_
  subst ev
  refine (ev_n (n := 0) rfl : Ev (tC (.int 0)) σ H1 (nv 0)) H1 (Ex.refl _) _ fun H2 e2 => ?_
  refine (rv_eqN (H := H2) (a := r) (b := 0)) H2 (Ex.refl _) _ fun H3 e3 => ⟨_, rfl, ?_⟩
  have b3 : ExB p H H3 := b1.trans (.of (e2.trans e3))
  have m3 := hM _ _ (e2.trans e3) m
  dsimp only
  split
  · exact k1 H3 b3 m3
  · exact k2 H3 b3 m3
end
/-! ### _law_strings -/
def sp_law_strings : L2.Sp := fun vs H Q _ => ∃ (p c : Addr) (n many N : Nat), vs = [.ref p, nv n, nv many] ∧ 1 ≤ n ∧ n ≤ 64 ∧ PenAt H p c N ∧ N ≤ 10000000 ∧
  ∀ l L H', IsRl H' l L → Strings n many L → ExB p H H' → PenAt H' p c (N + 200000) → Q (.ref l) H'
abbrev N_law_strings : List Str := ["_law_pen_here", "_law_size", "_law_many", "_law_rows", "_law_lap", "_law_made", "_law_row"]
theorem sc_law_strings : FnScope N_law_strings ["_law_pen_here", "_law_size", "_law_many"] (defScope s_law_strings) := ⟨rfl, rfl, rfl, by decide +kernel, rfl, by decide +kernel, by decide +kernel⟩
theorem o_law_strings (T : Tx K mg) : OkF P w K mg base CX0 5 "_law_strings" ["_law_pen_here", "_law_size", "_law_many"] sp_law_strings := by
  have o_law_draw : OkF P w K mg base CX0 1 "_law_draw" ["_law_pen_here", "_law_many"] sp_law_draw := o_law_draw T
  have o_law_drawn_code : OkF P w K mg base CX0 4 "_law_drawn_code" ["_law_pen_here", "_law_size", "_law_rank", "_law_gauged"] sp_law_drawn_code := o_law_drawn_code T
  have o_law_product : OkF P w K mg base CX0 2 "_law_product" ["_law_one", "_law_two"] sp_law_product := o_law_product T
  have o_law_shuffled : OkF P w K mg base CX0 2 "_law_shuffled" ["_law_pen_here", "_law_some"] sp_law_shuffled := o_law_shuffled T
  refine okf T d_law_strings "_law_strings" 51 42 rfl rfl rfl sc_law_strings (fun vs H Q E h => ?_) (fun _ _ _ _ _ _ us hl => match us, hl with | [_, _, _], _ => rfl) (fun f cdv A outer s H vs Q E hr h => ?_)
  · (obtain ⟨_, _, _, _, _, rfl, _⟩ := h; rfl)
  obtain ⟨p, c, n, many, N, rfl, hn1, hn, pn, hN, k⟩ := h
  refine ⟨_, (pss_cons (ps_set (i := 3) sc_law_strings.nd rfl (Or.inl rfl) (pe_dget (hu_ hr) (pe_cl o_law_drawn_code (hr.mono (by decide)) (by rfl) pass0 (pa_cons (pv 0) (pa_cons (pv 1) (pa_cons (pe_callB (call_min2K rfl) (by rfl) T.m_min (by decide +kernel) (pa_cons (pv 2) (pa_cons (pv 1) pa_nil))) (pa_cons pe_int pa_nil))))) pe_str (fun _ _ => rfl)))
      (pss_cons (ps_for PassesOwn.never rfl (pi_range1 (by rfl) T.m_range (pa_cons (pe_cl o_law_draw (hr.mono (by decide)) (by rfl) pass0 (pa_cons (pv 0) (pa_cons pe_int pa_nil))) pa_nil)) (pg_name (i := 4) sc_law_strings.nd rfl (Or.inl rfl))
        (pss_cons (ps_set (i := 5) sc_law_strings.nd rfl (Or.inl rfl) (pe_tup (pa_cons pe_int (pa_cons pe_int (pa_cons pe_int pa_nil)))))
        (pss_cons (ps_for PassesOwn.never rfl (pi_listK K (pv 3)) (pg_name (i := 6) sc_law_strings.nd rfl (Or.inl rfl))
          (pss_one (ps_if (pt_cmpR op_eq (pe_cl o_law_draw (hr.mono (by decide)) (by rfl) pass0 (pa_cons (pv 0) (pa_cons pe_int pa_nil))) pe_int (nomark _)) (pss_one (ps_set (i := 5) sc_law_strings.nd rfl (Or.inl rfl) (pe_cl o_law_product (hr.mono (by decide)) (by rfl) pass0 (pa_cons (pv 5) (pa_cons (pv 6) pa_nil))))) pss_nil)))
        (pss_one (ps_set (i := 3) sc_law_strings.nd rfl (Or.inl rfl) (pe_op op_cat (pv 3) (pe_lst (pa_cons (pv 5) pa_nil))))))))
      (pss_one (ps_ret (pe_cl o_law_shuffled (hr.mono (by decide)) (by rfl) pass0 (pa_cons (pv 0) (pa_cons (pv 3) pa_nil))))))), ?_⟩
  refine q_asgD (evd_drawn (rk := min many n) (ev_var rfl) (ev_var rfl) (ev_min2 (ev_var rfl) (ev_var rfl)) (ev_n (n := 0) rfl) pn hn1 hn (Nat.min_le_right _ _) (by omega)) fun v H1 b1 ⟨rl, D, ev, hrl, hD, pn1⟩ => ?_
  subst ev
  have hDl := hD.len
  have hDr := hD.rw (Nat.min_le_right _ _)
  have hmin : min many n ≤ 64 := by omega
  refine q_forRD (p := p) (B := 3) (C := fun m H' => PenAt H' p c (N + 100000 + 1)) ((evd_draw (m := 4) (ev_var rfl) (ev_n (n := 4) rfl) pn1 (by omega) (by omega) (by omega)).imp fun v Ha ba ⟨pna, r, hr, ev⟩ => ⟨r, ev, by omega, pna⟩) (by omega) fun m H2 b2 hm pn2 => ?_
  refine ⟨fun i σ' H' => ∃ rl L y4 y5 y6, σ' = [some (.ref p), some (nv n), some (nv many), some (.ref rl), y4, y5, y6] ∧ ExB p H H' ∧ PenAt H' p c (N + 100001 + i * 100) ∧ IsRl H' rl L ∧ Strs D L ∧ L.length = D.length + i,
    ⟨rl, D, _, _, _, rfl, b1.trans b2, by rw [Nat.zero_mul]; exact pn2, hrl.pen pn1 b2, .base, rfl⟩, ?_, ?_⟩
  · rintro i σ' H3 hi ⟨rl, L, y4, y5, y6, rfl, b3, pn3, hrl3, hS, hLl⟩
    have hLr := hS.rw hDr
    refine q_asgP (evp_row (a := 0) (b := 0) (c := 0) (ea_cons (ev_n (n := 0) rfl) (ea_cons (ev_n (n := 0) rfl) (ea_cons (ev_n (n := 0) rfl) ea_nil)))) fun v H4 e4 hv => ?_
    obtain ⟨ys, hy1, hy2⟩ := hrl3.ex e4
    have hyl := paired_len hy2
    refine q_forG (wg_list (ev_var rfl) (sq_of hy1)) (fun j σ' H' => ∃ vm m y6, σ' = [some (.ref p), some (nv n), some (nv many), some (.ref rl), some (nv i), some vm, y6] ∧ ExB p H4 H' ∧ PenAt H' p c (N + 100001 + i * 100 + j) ∧ H' rl = some (.lst ys) ∧ Rows H' ys L ∧ IsRow H' vm m ∧ Pr L m)
      (fun H5 e5 => ⟨v, rw0, _, rfl, .of e5, (pn3.ex e4).ex e5, e5 _ _ hy1, hy2.ex e5, hv.ex e5, .id⟩) (fun j σ' H' _ ⟨_, _, _, _, _, _, h, _⟩ => sq_of h) ?_ ?_
    · rintro j x σ' Ha Hb hj ⟨vm, m, y6, rfl, ba, pna, hya, hra, hvm, hpr⟩ ⟨rfl, hx⟩
      obtain ⟨r, hr1, hr2⟩ := paired_at hra hx
      have hrm := List.mem_of_getElem? hr1
      refine s_whenD (p := p) (M := fun H' => PenAt H' p c (N + 100001 + i * 100 + (j + 1))) (fun _ _ e q => q.ex e) ((evd_draw (m := 2) (ev_var rfl) (ev_n (n := 2) rfl) pna (by omega) (by omega) (by omega)).imp fun v Hc bc ⟨pnc, r, hr, ev⟩ => ⟨pnc, r, ev⟩) (fun H5 b5 pn5 => ?_) (fun H5 b5 pn5 => ?_)
      · have k5 := pna.kx b5
        refine s_asgP (evp_law_product (n := n) (ev_var rfl) (ev_var rfl) (hvm.kx k5) (hr2.kx k5) hn (hpr.rw hLr) (hLr r hrm)) fun v6 H6 e6 hv6 => ?_
        exact ⟨v6, _, _, rfl, (ba.trans b5).trans (.of e6), pn5.ex e6, e6 _ _ (pna.lst b5 hya), (hra.kx k5).ex e6, hv6, hpr.mul hrm⟩
      · have k5 := pna.kx b5
        exact ⟨vm, m, _, rfl, ba.trans b5, pn5, pna.lst b5 hya, hra.kx k5, hvm.kx k5, hpr⟩
    · rintro σ' H5 ⟨vm, m, y6, rfl, b5, pn5, hy5, hr5, hvm, hpr⟩
      refine s_asgP (EvL.p (el_cat (ev_var rfl) hy5 (el_one (ev_var rfl)) (by show ys.length + 1 ≤ 100000; omega))) fun v6 H6 e6 ⟨q, ev6, hq⟩ => ?_
      subst ev6
      refine ⟨q, L ++ [m], _, _, _, rfl, (b3.trans (.of e4)).trans (b5.trans (.of e6)), (pn5.ex e6).mono (by rw [Nat.succ_mul]; omega), ⟨_, hq, paired_app (hr5.ex e6) (.cons (hvm.ex e6) .nil)⟩, hS.snoc hpr, by rw [List.length_append]; show L.length + 1 = _; omega⟩
  · rintro σ' H3 ⟨rl, L, y4, y5, y6, rfl, b3, pn3, ⟨ys, hy1, hy2⟩, hS, hLl⟩
    have hyl := paired_len hy2
    refine s_retD (evd_shuffled (xs := ys) (ev_var rfl) (fun Ho eo Q kk => ev_var rfl Ho (Ex.refl _) _ fun H9 e9 => kk _ H9 e9 ⟨rl, rfl, e9 _ _ (eo _ _ hy1)⟩) pn3 (by omega) (by omega)) fun v H4 b4 ⟨q, zs, ev, nq, hperm, hq, pn4⟩ => ?_
    subst ev
    obtain ⟨L', hL1, hL2⟩ := paired_perm hperm hy2
    exact k q L' H4 ⟨zs, hq, Rows.kx (pn3.kx b4) hL2⟩ ⟨D, L, hD, hS, by omega, hL1⟩ (b3.trans b4) (pn4.mono (by omega))
end
end Kp
end
section
set_option maxHeartbeats 4000000
namespace Kp
open PySem PySem.Spec PyProof.Rows L2 Evl
local macro_rules | `(tactic| walk_at "ht") => `(tactic| first | assumption | solve_by_elim (config := { maxDepth := 12 }))
local macro_rules | `(tactic| walk_at "ev") => `(tactic| repeat' (first
  | exact ea_nil
  | exact ev_var rfl
  | exact ev_n (n := 0) rfl | exact ev_n (n := 1) rfl | exact ev_n (n := 2) rfl
  | exact rv_andN | exact rv_xorN | exact rv_orN | exact rv_addN | exact rv_shrN | (exact rv_mulN (by decide)) | exact rv_eqN | exact rv_neN | exact rv_ltN
  | (refine' rv_ixT (st_of (by walk_at "ht")) (by rfl))
  | walk_at "evx"
  | refine' ev_op ?_ ?_ ?_
  | refine' ea_cons ?_ ?_))
theorem cr_sortedK1 {X : Cx} (K : PySem.W.Frag) (h : X.K = K := by rfl) : CallR X (.builtin "sorted") (rSorted K) := h ▸ cr_sorted
section
variable {P : Program} {w : World} {K : PySem.W.Frag} {mg : Str → Option Value} {base : Heap}
/-! ### _law_every_string -/
def sp_law_every_string : L2.Sp := fun vs H Q _ => ∃ n : Nat, vs = [nv n] ∧ n ≤ 4 ∧ ∀ l L H', Ex H H' → IsRl H' l L → (∀ r ∈ L, Rw n r) → L.length ≤ 256 → Q (.ref l) H'
theorem add_shl {x v k : Nat} (hx : x < 2 ^ k) (hv : v ≤ 1) : x + v <<< k < 2 ^ (k + 1) := by
  rw [Nat.shiftLeft_eq, Nat.pow_succ]
  have : v * 2 ^ k ≤ 1 * 2 ^ k := Nat.mul_le_mul_right _ hv
  omega
abbrev N_law_every_string : List Str := ["_law_size", "_law_found", "_law_k", "_law_more", "_law_x", "_law_z", "_law_sign", "_law_letter"]
theorem sc_law_every_string : FnScope N_law_every_string ["_law_size"] (defScope s_law_every_string) := ⟨rfl, rfl, rfl, by decide +kernel, rfl, by decide +kernel, by decide +kernel⟩
theorem o_law_every_string (T : Tx K mg) : OkF P w K mg base CX0 1 "_law_every_string" ["_law_size"] sp_law_every_string := by
  refine okf T d_law_every_string "_law_every_string" 52 43 rfl rfl rfl sc_law_every_string (fun vs H Q E h => ?_) (fun _ _ _ _ _ _ us hl => match us, hl with | [_], _ => rfl) (fun f cdv A outer s H vs Q E hr h => ?_)
  · (obtain ⟨_, rfl, _⟩ := h; rfl)
  obtain ⟨n, rfl, hn, k⟩ := h
  refine ⟨_, (pss_cons (ps_set (i := 1) sc_law_every_string.nd rfl (Or.inl rfl) (pe_lst (pa_cons (pe_tup (pa_cons pe_int (pa_cons pe_int (pa_cons pe_int pa_nil)))) pa_nil)))
      (pss_cons (ps_for PassesOwn.never rfl (pi_range1 (by rfl) T.m_range (pa_cons (pv 0) pa_nil)) (pg_name (i := 2) sc_law_every_string.nd rfl (Or.inl rfl))
        (pss_cons (ps_set (i := 3) sc_law_every_string.nd rfl (Or.inl rfl) (pe_lst pa_nil))
        (pss_cons (ps_for PassesOwn.never rfl (pi_listK K (pv 1)) (pg_tup rfl (pgs_cons (pg_name (i := 4) sc_law_every_string.nd rfl (Or.inl rfl)) (pgs_cons (pg_name (i := 5) sc_law_every_string.nd rfl (Or.inl rfl)) (pgs_cons (pg_name (i := 6) sc_law_every_string.nd rfl (Or.inl rfl)) pgs_nil))))
          (pss_one (ps_for PassesOwn.never rfl (pi_range1 (by rfl) T.m_range (pa_cons pe_int pa_nil)) (pg_name (i := 7) sc_law_every_string.nd rfl (Or.inl rfl))
            (pss_one (ps_expr (pe_bmK K PySem.F.plainAttrs_list PySem.F.slot_list_append PySem.F.type_list_append mt_append (pv 3) (pa_cons (pe_tup (pa_cons (pe_op op_add (pv 4) (pe_op op_shl (pe_op op_mod (pe_callTy call_intK (by rfl) T.m_int (by decide +kernel) (pa_cons (pv 7) pa_nil)) pe_int) (pv 2))) (pa_cons (pe_op op_add (pv 5) (pe_op op_shl (pe_op op_fdiv (pe_callTy call_intK (by rfl) T.m_int (by decide +kernel) (pa_cons (pv 7) pa_nil)) pe_int) (pv 2))) (pa_cons pe_int pa_nil)))) pa_nil)))))))
        (pss_one (ps_set (i := 1) sc_law_every_string.nd rfl (Or.inl rfl) (pv 3))))))
      (pss_one (ps_ret (pv 1))))), ?_⟩
  refine q_asgP (P := fun v H' => ∃ l, v = .ref l ∧ IsRl H' l [rw0]) (fun Ho eo Q kk => ?_) fun v H1 e1 ⟨l0, ev, hl0⟩ => ?_
  · unfold tLst tCons tNil
    refine (evp_row (a := 0) (b := 0) (c := 0) (ta := tCons (tC (.int 0)) (tCons (tC (.int 0)) (tCons (tC (.int 0)) tNil))) (ea_cons (ev_n (n := 0) rfl) (ea_cons (ev_n (n := 0) rfl) (ea_cons (ev_n (n := 0) rfl) ea_nil)))) Ho eo _ fun v H1 e1 hv => ⟨sz_of (by show 1 ≤ 100000; decide), fun q nq => ?_⟩
    exact kk _ _ (e1.trans (Ex.new nq)) ⟨q, rfl, [v], upd_same, .cons (hv.ex (Ex.new nq)) .nil⟩
  subst ev
  refine q_forR1 (n := ((n : Nat) : Int)) (ea_cons (ev_var rfl) ea_nil) ⟨by omega, by omega⟩ (fun i σ' H' => ∃ l L y2 y3 y4 y5 y6 y7, σ' = [some (nv n), some (.ref l), y2, y3, y4, y5, y6, y7] ∧ Ex H H' ∧ IsRl H' l L ∧ (∀ r ∈ L, r.x < 2 ^ i ∧ r.z < 2 ^ i ∧ r.s = 0) ∧ L.length = 4 ^ i)
    (fun H2 e2 => ⟨l0, [rw0], _, _, _, _, _, _, rfl, e1.trans e2, hl0.ex e2, fun r hr => by rw [List.mem_singleton.mp hr]; exact ⟨Nat.one_pos, Nat.one_pos, rfl⟩, rfl⟩) ?_ ?_
  · rintro i σ' H2 hi ⟨l, L, y2, y3, y4, y5, y6, y7, rfl, e2, ⟨ys, hy1, hy2⟩, hL, hLl⟩
    have hi4 : i < 4 := by omega
    have hll : L.length ≤ 64 := by
      rw [hLl]
      exact Nat.le_trans (Nat.pow_le_pow_right (by decide) (show i ≤ 3 by omega)) (by decide)
    have hyl := paired_len hy2
    refine q_asgP (EvL.pf el_nil) fun v H3 e3 ⟨ml, ev, nml, hml⟩ => ?_
    subst ev
    have lml : l ≠ ml := by rintro rfl; rw [hy1] at nml; cases nml
    have nml0 : H ml = none := by cases q : H ml with | none => rfl | some u => rw [e2 _ _ q] at nml; cases nml
    refine q_forG (wg_list (ev_var rfl) (sq_of (e3 _ _ hy1))) (fun j σ' H' => ∃ M zs y4 y5 y6 y7, σ' = [some (nv n), some (.ref l), some (nv i), some (.ref ml), y4, y5, y6, y7] ∧ Ex H H' ∧ H' l = some (.lst ys) ∧ Rows H' ys L ∧ H' ml = some (.lst zs) ∧ Rows H' zs M ∧ (∀ r ∈ M, r.x < 2 ^ (i + 1) ∧ r.z < 2 ^ (i + 1) ∧ r.s = 0) ∧ M.length = 4 * j)
      (fun H4 e4 => ⟨[], [], _, _, _, _, rfl, (e2.trans e3).trans e4, (e3.trans e4) _ _ hy1, hy2.ex (e3.trans e4), e4 _ _ hml, .nil, fun r hr => by simp at hr, rfl⟩) (fun j σ' H' _ ⟨_, _, _, _, _, _, _, _, h, _⟩ => sq_of h) ?_ ?_
    · rintro j x σ' Ha Hb hj ⟨M, zs, y4, y5, y6, y7, rfl, ea, hla, hra, hma, hza, hM, hMl⟩ ⟨rfl, hx⟩
      obtain ⟨r, hr1, tq, rfl, htq⟩ := paired_at hra hx
      have hrL := hL r (List.mem_of_getElem? hr1)
      refine ⟨tq, _, rfl, st_of htq, rfl, _, _, rfl, _, _, rfl, _, _, rfl, rfl, ?_⟩
      refine s_forR1 (n := 4) (ea_cons ev_c ea_nil) (by decide) (fun q σ' H' => ∃ M zs y7, σ' = [some (nv n), some (.ref l), some (nv i), some (.ref ml), some (nv r.x), some (nv r.z), some (nv r.s), y7] ∧ Ex H H' ∧ H' l = some (.lst ys) ∧ Rows H' ys L ∧ H' ml = some (.lst zs) ∧ Rows H' zs M ∧ (∀ r ∈ M, r.x < 2 ^ (i + 1) ∧ r.z < 2 ^ (i + 1) ∧ r.s = 0) ∧ M.length = 4 * j + q)
        (fun H4 e4 => ⟨M, zs, _, rfl, ea.trans e4, e4 _ _ hla, hra.ex e4, e4 _ _ hma, hza.ex e4, hM, hMl⟩) ?_ ?_
      · rintro q σ' H4 hq ⟨M, zs, y7, rfl, e4, hl4, hr4, hm4, hz4, hM4, hMl4⟩
        have hq4 : q < 4 := by omega
        have hzl := paired_len hz4
        refine s_appP (P := fun v H' => IsRow H' v ⟨r.x + (q % 2) <<< i, r.z + (q / 2) <<< i, 0⟩) hm4 (ev_var rfl) (evp_row (ea_cons (ev_op (ev_var rfl) (ev_op (ev_op (ev_intI (ev_var rfl)) (ev_n (n := 2) rfl) (rv_modN (by decide))) (ev_var rfl) (rv_shlN (by omega) (by omega))) rv_addN) (ea_cons (ev_op (ev_var rfl) (ev_op (ev_op (ev_intI (ev_var rfl)) (ev_n (n := 2) rfl) (rv_divN (by decide) (by decide))) (ev_var rfl) (rv_shlN (by omega) (by omega))) rv_addN) (ea_cons (ev_n (n := 0) rfl) ea_nil)))) (by omega) fun v H5 e5 hv => ?_
        have kx : Kx H5 (upd H5 ml (.lst (zs ++ [v]))) := Kx.lst (e5 _ _ hm4)
        refine ⟨M ++ [⟨r.x + (q % 2) <<< i, r.z + (q / 2) <<< i, 0⟩], zs ++ [v], _, rfl, Ex.mut (e4.trans e5) nml0, by rw [upd_ne lml]; exact e5 _ _ hl4, Rows.kx kx (hr4.ex e5), upd_same, paired_app (Rows.kx kx (hz4.ex e5)) (.cons (hv.kx kx) .nil), fun r' hr' => ?_, by rw [List.length_append, hMl4]; rfl⟩
        rcases List.mem_append.mp hr' with h | h
        · exact hM4 r' h
        · rw [List.mem_singleton.mp h]
          exact ⟨add_shl hrL.1 (by omega), add_shl hrL.2.1 (by omega), rfl⟩
      · rintro σ' H4 ⟨M, zs, y7, rfl, e4, hl4, hr4, hm4, hz4, hM4, hMl4⟩
        exact ⟨M, zs, _, _, _, _, rfl, e4, hl4, hr4, hm4, hz4, hM4, by rw [hMl4]; show 4 * j + 4 = _; omega⟩
    · rintro σ' H4 ⟨M, zs, y4, y5, y6, y7, rfl, e4, hl4, hr4, hm4, hz4, hM4, hMl4⟩
      refine s_asg (ev_var rfl) fun H5 e5 => ?_
      exact ⟨ml, M, _, _, _, _, _, _, rfl, e4.trans e5, ⟨zs, e5 _ _ hm4, hz4.ex e5⟩, hM4, by rw [hMl4, hyl, hLl, Nat.pow_succ, Nat.mul_comm]⟩
  · rintro σ' H2 ⟨l, L, y2, y3, y4, y5, y6, y7, rfl, e2, hl, hL, hLl⟩
    rw [Int.toNat_natCast] at hL hLl
    refine s_ret (ev_var rfl) fun H3 e3 => k l L H3 (e2.trans e3) (hl.ex e3) (fun r hr => ⟨(hL r hr).1, (hL r hr).2.1, by rw [(hL r hr).2.2]; omega⟩) ?_
    rw [hLl]
    exact Nat.le_trans (Nat.pow_le_pow_right (by decide) hn) (by decide)
/-! ### _law_is_reduced -/
theorem atI_last {xs : List V} {v : V} : atI (xs ++ [v]) (-1) = some v := by
  unfold atI ixN
  rw [if_neg (by decide), if_pos (by rw [List.length_append]; show -((_ + 1 : Nat) : Int) ≤ -1; omega)]
  rw [List.length_append]
  have : ((-1 : Int) + ((xs.length + [v].length : Nat) : Int)).toNat = xs.length := by
    show ((-1 : Int) + ((xs.length + 1 : Nat) : Int)).toNat = _
    omega
  rw [this]
  simp
theorem ev_m1 {σ : L2.St} {H : Hp} : Ev (tUn (rU fun i => .int (-i)) (tC (.int 1))) σ H (.int (-1)) := fun H1 e Q k => ⟨1, rfl, k H1 (Ex.refl _)⟩
/-- the rows are reduced: heads hs -/
structure RedL (n : Nat) (L : List Row) (hs : List Nat) : Prop where
  first : Paired (fun c r => firstCol r n = some c) hs L
  sorted : hs.Pairwise (· ≤ ·)
  priv : ∀ r ∈ L, ∀ r' ∈ L, r' ≠ r → ∀ c, firstCol r n = some c → col r' n c = 0
def sp_law_is_reduced : L2.Sp := fun vs H Q _ => ∃ (a : Addr) (n : Nat) (L : List Row) (hs : List Nat), vs = [.ref a, nv n] ∧ IsRl H a L ∧ n ≤ 64 ∧ L.length < 64 ∧ RedL n L hs ∧ ∀ H', Ex H H' → Q (.bl true) H'
abbrev N_law_is_reduced : List Str := ["_law_rows", "_law_size", "_law_heads", "_law_row", "_law_bits", "_law_other", "_law_part", "_law_k"]
theorem sc_law_is_reduced : FnScope N_law_is_reduced ["_law_rows", "_law_size"] (defScope s_law_is_reduced) := ⟨rfl, rfl, rfl, by decide +kernel, rfl, by decide +kernel, by decide +kernel⟩
theorem o_law_is_reduced (T : Tx K mg) : OkF P w K mg base CX0 2 "_law_is_reduced" ["_law_rows", "_law_size"] sp_law_is_reduced := by
  have o_law_bits_order : OkF P w K mg base CX0 1 "_law_bits_order" ["_law_size"] sp_law_bits_order := o_law_bits_order T
  refine okf T d_law_is_reduced "_law_is_reduced" 53 44 rfl rfl rfl sc_law_is_reduced (fun vs H Q E h => ?_) (fun _ _ _ _ _ _ us hl => match us, hl with | [_, _], _ => rfl) (fun f cdv A outer s H vs Q E hr h => ?_)
  · (obtain ⟨_, _, _, _, rfl, _⟩ := h; rfl)
  obtain ⟨a, n, L, hs, rfl, ⟨xs, ha, hxs⟩, hn, hL, hR, k⟩ := h
  refine ⟨_, (pss_cons (ps_set (i := 2) sc_law_is_reduced.nd rfl (Or.inl rfl) (pe_lst pa_nil))
      (pss_cons (ps_for PassesOwn.never rfl (pi_listK K (pv 0)) (pg_name (i := 3) sc_law_is_reduced.nd rfl (Or.inr rfl))
        (pss_cons (ps_setLc (i := 4) (own := [("_law_part", 6), ("_law_k", 7)]) rfl sc_law_is_reduced.nd rfl rfl (sw_true rfl rfl rfl (by decide +kernel)) (pi_listK K (pe_cl o_law_bits_order (hr.mono (by decide)) (by rfl) pass0 (pa_cons (pv 1) pa_nil))) (blkOk_by (own := [("_law_part", 6), ("_law_k", 7)]) (N := N_law_is_reduced) (sc := defScope s_law_is_reduced) (by decide +kernel)) (fun _ _ _ _ _ => (pg_tupK K (n := 2) rfl (pgs_cons (pg_name (i := 6) sc_law_is_reduced.nd rfl (Or.inl rfl) (by first | exact .inl rfl | exact .inr rfl)) (pgs_cons (pg_name (i := 7) sc_law_is_reduced.nd rfl (Or.inl rfl) (by first | exact .inl rfl | exact .inr rfl)) pgs_nil)))) (fun _ _ _ _ _ => pts_nil) (fun _ _ _ _ _ => (pe_op op_mod (pe_callTy call_intK (by rfl) T.m_int (by decide +kernel) (pa_cons (pe_op op_shr (pe_ix (ix_tupK K) (pv 3) (pv 6) (fun _ _ => rfl)) (pv 7)) pa_nil)) pe_int)))
        (pss_cons (ps_if (pt_cmpR (op_notIn_seqK K) pe_int (pv 4) (by rfl)) (pss_one (ps_ret pe_bl)) pss_nil)
        (pss_cons (ps_expr (pe_bmK K PySem.F.plainAttrs_list PySem.F.slot_list_append PySem.F.type_list_append mt_append (pv 2) (pa_cons (pe_bmK K PySem.F.plainAttrs_list PySem.F.slot_list_index PySem.F.type_list_index (mt_indexK K) (pv 4) (pa_cons pe_int pa_nil)) pa_nil)))
        (pss_one (ps_for PassesOwn.never rfl (pi_listK K (pv 0)) (pg_name (i := 5) sc_law_is_reduced.nd rfl (Or.inl rfl))
          (pss_cons (ps_asg (pe_ix (ix_listK K) (pe_cl o_law_bits_order (hr.mono (by decide)) (by rfl) pass0 (pa_cons (pv 1) pa_nil)) (pe_ix (ix_listK K) (pv 2) (pe_un un_neg pe_int) (fun _ _ => rfl)) (fun _ _ => rfl)) (pg_tup rfl (pgs_cons (pg_name (i := 6) sc_law_is_reduced.nd rfl (Or.inl rfl)) (pgs_cons (pg_name (i := 7) sc_law_is_reduced.nd rfl (Or.inl rfl)) pgs_nil))))
          (pss_one (ps_if (PW.pt (pw_and (pt_cmpR (op_neDK K hr.units) (pv 5) (pv 3) (nomark _)) (pw_and1 (pt_cmpR op_eq (pe_op op_mod (pe_callTy call_intK (by rfl) T.m_int (by decide +kernel) (pa_cons (pe_op op_shr (pe_ix (ix_tupK K) (pv 5) (pv 6) (fun _ _ => rfl)) (pv 7)) pa_nil)) pe_int) pe_int (nomark _))))) (pss_one (ps_ret pe_bl)) pss_nil)))))))))
      (pss_one (ps_ret (pe_cmpR (op_eqDK K hr.units) (pv 2) (pe_callB (cr_sortedK1 K) (by rfl) T.m_sorted (by decide +kernel) (pa_cons (pv 2) pa_nil)) (nomark _)))))), ?_⟩
  have hxl := paired_len hxs
  refine q_asgP (EvL.pf el_nil) fun v H1 e1 ⟨hl, ev, nhl, hhl⟩ => ?_
  subst ev
  have hal : a ≠ hl := by rintro rfl; rw [ha] at nhl; cases nhl
  refine q_forG (wg_list (ev_var rfl) (sq_of (e1 _ _ ha))) (fun i σ' H' => ∃ y3 y4 y5 y6 y7, σ' = [some (.ref a), some (nv n), some (.ref hl), y3, y4, y5, y6, y7] ∧ Ex H H' ∧ H' a = some (.lst xs) ∧ Rows H' xs L ∧ H' hl = some (.lst ((hs.take i).map nv)))
    (fun H2 e2 => ⟨_, _, _, _, _, rfl, e1.trans e2, (e1.trans e2) _ _ ha, hxs.ex (e1.trans e2), e2 _ _ hhl⟩) (fun i σ' H' _ ⟨_, _, _, _, _, _, _, h, _⟩ => sq_of h) ?_ ?_
  · rintro i x σ' Ha Hb hi ⟨y3, y4, y5, y6, y7, rfl, ea, haa, hra, hla⟩ ⟨rfl, hx⟩
    obtain ⟨r, hr1, hr2⟩ := paired_at hra hx
    obtain ⟨c, hc1, hc2⟩ := paired_at2 hR.first hr1
    obtain ⟨c1, c2, c3⟩ := firstCol_iff hc2
    have hcc : col r n c = 1 := by have := col_01 r n c; omega
    -- the bits
    refine q_asgP (P := fun v H' => ∃ b, v = .ref b ∧ H' b = some (.lst (((List.range (2 * n)).map (col r n)).map nv))) ((evp_lc (wk_listP (n := 2 * n) (P := fun xs H => Paired (IsPc n H) xs (List.range (2 * n))) (fun xs _ q => by rw [paired_len q, List.length_range]) (evp_law_bits_order (ev_var rfl) (by omega))) (fun _ => true) (fun j v _ => v = nv (col r n j)) (by omega) (fun _ _ _ _ _ q => q) ?_).imp ?_) fun v H2 e2 ⟨bb, ev, hbb⟩ => ?_
    · rintro j xx Hd hj ed ⟨os, H0, e0, hos, hxx⟩ Q' kk
      obtain ⟨j', hj', t, rfl, ht⟩ := paired_at hos hxx
      rw [List.getElem?_range hj] at hj'
      have := Option.some.inj hj'
      subst this
      refine ⟨t, _, rfl, st_of (e0 _ _ ht), rfl, _, _, rfl, _, _, rfl, rfl, ?_⟩
      exact kk _ Hd rfl (Ex.refl _) et_yes fun _ => Ev.p (ev_colP (ev_var rfl) (ev_var rfl) (ev_var rfl) (hr2.ex ed))
    · rintro v H2 e2 ⟨q, ys, h1, h2, h3⟩
      rw [filter_all] at h3
      rw [paired_eq h3 (g := fun c => nv (col r n c)) fun i x q => q] at h2
      exact ⟨q, h1, by rw [h2, List.map_map]; rfl⟩
    subst ev
    have hmem : 1 ∈ (List.range (2 * n)).map (col r n) := List.mem_map.mpr ⟨c, List.mem_range.mpr c1, hcc⟩
    have x2 := ea.trans e2
    refine q_when (b := false) (et_test (ev_is (ev_op (ev_n (n := 1) rfl) (ev_var rfl) (rv_niL (sq_of hbb) rfl (flat_nv _))) (by rw [inV_nv, decide_eq_true hmem]; rfl))) (fun h => by cases h) fun _ H3 e3 => ?_
    have x3 := x2.trans e3
    have hla3 := (e2.trans e3) _ _ hla
    have evi : Ev (tBM K "list" (rIndex K) (tVar 4) (tCons (tC (.int 1)) tNil)) [some (.ref a), some (nv n), some (.ref hl), some x, some (.ref bb), y5, y6, y7] H3 (nv c) := fun Ho eo Q kk => by
      unfold tBM
      refine (ev_var rfl : Ev (tVar 4) _ Ho (.ref bb)) Ho (Ex.refl _) _ fun Hp ep => ⟨Or.inl ⟨rfl, _, sq_of ((e3.trans (eo.trans ep)) _ _ hbb)⟩, ?_⟩
      refine (ea_cons ev_c ea_nil : EvA (tCons (tC (.int 1)) tNil) _ Hp [.int 1]) Hp (Ex.refl _) _ fun Hq eq => ?_
      refine ⟨bb, _, .int 1, c, nv 1, rfl, rfl, sq_of ((e3.trans ((eo.trans ep).trans eq)) _ _ hbb), rfl, flat_nv _, ?_, rfl, fun m z' hm hz => ?_, kk Hq (ep.trans eq)⟩
      · rw [List.map_map, List.getElem?_map, List.getElem?_range c1]
        show some (nv (col r n c)) = _
        rw [hcc]
      · rw [List.map_map, List.getElem?_map, List.getElem?_range (by omega)] at hz
        have : z' = nv (col r n m) := (Option.some.inj hz).symm
        rw [this, c3 m hm]; rfl
    refine q_app hla3 (ev_var rfl) evi (by rw [List.length_map]; have := List.length_take_le i hs; have := paired_len hR.first; omega) fun H4 e4 => ?_
    have etk : (hs.take (i + 1)).map nv = (hs.take i).map nv ++ [nv c] := by rw [take_succ_of hc1, List.map_append]; rfl
    rw [← etk]
    have kx4 : Kx H4 (upd H4 hl (.lst ((hs.take (i + 1)).map nv))) := Kx.lst (e4 _ _ hla3)
    have hr4 : Rows (upd H4 hl (.lst ((hs.take (i + 1)).map nv))) xs L := Rows.kx kx4 (hra.ex ((e2.trans e3).trans e4))
    have ha4 : (upd H4 hl (.lst ((hs.take (i + 1)).map nv))) a = some (.lst xs) := by rw [upd_ne hal]; exact ((e2.trans e3).trans e4) _ _ haa
    have hx4 : Ex H (upd H4 hl (.lst ((hs.take (i + 1)).map nv))) := Ex.mut (x3.trans e4) nhl
    have hh4 : (upd H4 hl (.lst ((hs.take (i + 1)).map nv))) hl = some (.lst ((hs.take (i + 1)).map nv)) := upd_same
    have hrow4 := (hr2.ex ((e2.trans e3).trans e4)).kx kx4
    generalize upd H4 hl (.lst ((hs.take (i + 1)).map nv)) = H5 at *
    refine s_forW (wk_list (ev_var rfl) (sq_of ha4)) (fun Hs j σ' H' => ∃ y5 y6 y7, σ' = [some (.ref a), some (nv n), some (.ref hl), some x, some (.ref bb), y5, y6, y7] ∧ Ex Hs H') (fun H6 e6 => ⟨_, _, _, rfl, Ex.refl _⟩) (fun Hs j σ' H' _ _ ⟨_, _, _, _, h⟩ => h) ?_ ?_
    · rintro Hs j z σ' Hx Hy e0 hj ⟨y5, y6, y7, rfl, ex⟩ ey hz
      have ez := (e0.trans ex).trans ey
      obtain ⟨r', hr'1, hr'2⟩ := paired_at hr4 hz
      unfold tSeq tAsg tOp gName
      refine (evp_law_bits_order (E := E0) (te := tVar 1) (n := n) (ev_var rfl) (by omega)) Hy (Ex.refl _) _ fun v Ha2 ea2 ⟨ol, os, ev, hol, hos⟩ => ?_
      subst ev
      refine (ev_op (ev_var (i := 2) rfl) ev_m1 (rv_ixL (sq_of ((ez.trans ea2) _ _ hh4)) (by rw [etk]; exact atI_last)) : Ev (tOp (rIxL K) (tVar 2) (tUn (rU fun i => .int (-i)) (tC (.int 1)))) _ Ha2 (nv c)) Ha2 (Ex.refl _) _ fun Hb2 eb2 => ?_
      obtain ⟨o, ho1, to, rfl, hto⟩ := paired_at2 hos (i := c) (y := c) (List.getElem?_range c1)
      refine (rv_ixL (sq_of (eb2 _ _ hol)) (atI_nat ho1)) Hb2 (Ex.refl _) _ fun Hc2 ec2 => ?_
      refine ⟨to, _, rfl, st_of (ec2 _ _ (eb2 _ _ hto)), rfl, _, _, rfl, _, _, rfl, rfl, ?_⟩
      have eall := ((ez.trans ea2).trans eb2).trans ec2
      have hr'3 := hr'2.ex eall
      have hr3 := hrow4.ex eall
      have hne : Ev (tOp (rNeD K) (tVar 5) (tVar 3)) [some (.ref a), some (nv n), some (.ref hl), some x, some (.ref bb), some z, some (nv (ptC n c)), some (nv (kC n c))] Hc2 (.bl (!decide ([r'.x, r'.z, r'.s] = [r.x, r.z, r.s]))) := by
        obtain ⟨p1, e1, h1⟩ := hr'3
        obtain ⟨p2, e2, h2⟩ := hr3
        subst e1 e2
        exact ev_op (ev_var rfl) (ev_var rfl) (rv_neTs (st_of h1) (st_of h2))
      refine s_when (b := (!decide ([r'.x, r'.z, r'.s] = [r.x, r.z, r.s])) && decide (col r' n c = 1)) (et_and (et_test hne) fun _ => et_test (ev_is (ev_op (ev_colP (ev_var rfl) (ev_var rfl) (ev_var rfl) hr'3) ev_c (rv_eq rfl)) (by rcases col_01 r' n c with h | h <;> rw [h] <;> decide +kernel))) (fun hc => ?_) fun _ H6 e6 => ⟨_, _, _, rfl, (((ex.trans ey).trans ea2).trans eb2).trans (ec2.trans e6)⟩
      exfalso
      rw [Bool.and_eq_true] at hc
      have h1 := of_decide_eq_true hc.2
      have hne2 : r' ≠ r := by
        rintro rfl
        have := hc.1
        simp at this
      have := hR.priv r (List.mem_of_getElem? hr1) r' (List.mem_of_getElem? hr'1) hne2 c hc2
      omega
    · rintro Hs σ' H6 e0 ⟨y5, y6, y7, rfl, ex⟩
      have e6 := e0.trans ex
      exact ⟨_, _, _, _, _, rfl, hx4.trans e6, e6 _ _ ha4, hr4.ex e6, e6 _ _ hh4⟩
  · rintro σ' H2 ⟨y3, y4, y5, y6, y7, rfl, e2, ha2, hr2, hh2⟩
    have hhl2 := paired_len hR.first
    rw [hxl, ← hhl2, List.take_length] at hh2
    unfold tRet tOp
    refine (ev_var rfl : Ev (tVar 2) _ H2 (.ref hl)) H2 (Ex.refl _) _ fun H3 e3 => ?_
    unfold tCB
    refine (ea_cons (ev_var rfl) ea_nil : EvA (tCons (tVar 2) tNil) _ H3 [.ref hl]) H3 (Ex.refl _) _ fun H4 e4 => ?_
    have hh4 := (e3.trans e4) _ _ hh2
    refine ⟨hl, hs.map fun n : Nat => (n : Int), rfl, sq_of (by rw [hh4, map_nv]), by rw [List.length_map]; omega, fun ns' q pm so nq => ?_⟩
    have en : ns' = hs.map fun n : Nat => (n : Int) := List.Perm.eq_of_pairwise (le := fun a b : Int => a ≤ b) (fun a b _ _ h1 h2 => by omega) so (by rw [List.pairwise_map]; exact hR.sorted.imp fun h => by omega) pm
    subst en
    have e5 : Ex H4 (upd H4 q (.lst ((hs.map fun n : Nat => (n : Int)).map V.int))) := Ex.new nq
    refine (rv_eqLs (H := upd H4 q (.lst ((hs.map fun n : Nat => (n : Int)).map V.int))) (ns := hs) (ms := hs) (sq_of (e5 _ _ hh4)) (sq_of (by rw [upd_same, ← map_nv]))) _ (Ex.refl _) _ fun H6 e6 => ?_
    rw [decide_eq_true rfl]
    exact k H6 (((e2.trans e3).trans e4).trans (e5.trans e6))
end
end Kp
end
section
set_option maxHeartbeats 4000000
namespace Kp
open PySem PySem.Spec PyProof.Rows L2 Evl
local macro_rules | `(tactic| walk_at "ht") => `(tactic| first | assumption | solve_by_elim (config := { maxDepth := 12 }))
local macro_rules | `(tactic| walk_at "ev") => `(tactic| repeat' (first
  | exact ea_nil
  | exact ev_var rfl
  | exact ev_n (n := 0) rfl | exact ev_n (n := 1) rfl | exact ev_n (n := 2) rfl
  | exact rv_andN | exact rv_xorN | exact rv_orN | exact rv_addN | exact rv_shrN | (exact rv_mulN (by decide)) | exact rv_eqN | exact rv_neN | exact rv_ltN
  | (refine' rv_ixT (st_of (by walk_at "ht")) (by rfl))
  | walk_at "evx"
  | refine' ev_op ?_ ?_ ?_
  | refine' ea_cons ?_ ?_))
theorem prodm_take {rows : List Row} {is : List Nat} {j i : Nat} (h : is[j]? = some i) : prodm rows (is.take (j + 1)) = mul (prodm rows (is.take j)) (rows.getD i rw0) := by
  unfold prodm
  rw [take_succ_of h, List.foldl_append]; rfl
theorem prodm_rw {n : Nat} {rows : List Row} (h : ∀ r ∈ rows, Rw n r) (is : List Nat) : Rw n (prodm rows is) := by
  unfold prodm
  have key : ∀ (l : List Nat) (m : Row), Rw n m → Rw n (l.foldl (fun m i => mul m (rows.getD i rw0)) m) := by
    intro l
    induction l with
    | nil => intro m h; exact h
    | cons i r ih => intro m hm; exact ih _ (hm.mul (getD_all h (Rw.id n) i))
  exact key is rw0 (Rw.id n)
theorem selm_lt {kept : List Nat} {k : Nat} (h : ∀ i ∈ kept, i < k) (m : Nat) : ∀ i ∈ selm kept m, i < k := by
  intro i hi
  unfold selm at hi
  obtain ⟨j, hj, rfl⟩ := List.mem_map.mp hi
  have hj2 := List.mem_range.mp (List.mem_filter.mp hj).1
  rw [List.getD_eq_getElem?_getD, List.getElem?_eq_getElem hj2]
  exact h _ (List.getElem_mem hj2)
theorem selm_len (kept : List Nat) (m : Nat) : (selm kept m).length ≤ kept.length := by
  unfold selm
  rw [List.length_map]
  have := List.length_filter_le (fun i => m >>> i &&& 1 != 0) (List.range kept.length)
  rwa [List.length_range] at this
section
variable {P : Program} {w : World} {K : PySem.W.Frag} {mg : Str → Option Value} {base : Heap}
section
variable {σ : L2.St} {H H' : Hp} {ta tb : TE}
theorem ev_eqTT {ns ms : List Nat} (h1 : EvU ta σ H (ns.map nv)) (h2 : ∀ H1, Ex H H1 → EvU tb σ H1 (ms.map nv)) : Ev (tOp (rEqD K) ta tb) σ H (.bl (decide (ns = ms))) := fun H1 e Q k => by
  refine h1 H1 e _ fun p H2 np e2 hp => h2 H2 (e.trans e2) H2 (Ex.refl _) _ fun q H3 nq e3 hq => ?_
  exact rv_eqTs (H := H3) (st_of (by rw [e3 _ _ hp, map_nv])) (st_of (by rw [hq, map_nv])) H3 (Ex.refl _) _ fun H4 e4 => k H4 ((e2.trans e3).trans e4)
theorem ev_neTT {ns ms : List Nat} (h1 : EvU ta σ H (ns.map nv)) (h2 : ∀ H1, Ex H H1 → EvU tb σ H1 (ms.map nv)) : Ev (tOp (rNeD K) ta tb) σ H (.bl (!decide (ns = ms))) := fun H1 e Q k => by
  refine h1 H1 e _ fun p H2 np e2 hp => h2 H2 (e.trans e2) H2 (Ex.refl _) _ fun q H3 nq e3 hq => ?_
  exact rv_neTs (H := H3) (st_of (by rw [e3 _ _ hp, map_nv])) (st_of (by rw [hq, map_nv])) H3 (Ex.refl _) _ fun H4 e4 => k H4 ((e2.trans e3).trans e4)
/-- x, z of a row, as a tuple -/
theorem eu_xz {te te' : TE} {v : V} {r : Row} (h : Ev te σ H v) (h' : Ev te' σ H v) (q : IsRow H v r) : EvU (tTup (tCons (tOp (rIxT K) te (tC (.int 0))) (tCons (tOp (rIxT K) te' (tC (.int 1))) tNil))) σ H ([r.x, r.z].map nv) := by
  obtain ⟨a, rfl, ha⟩ := q
  exact eu_tup (ea_cons (ev_op h ev_c (rv_ixT (st_of ha) (by rfl))) (ea_cons (ev_op h' ev_c (rv_ixT (st_of ha) (by rfl))) ea_nil)) (by show 2 ≤ 100000; decide)
theorem ev_sgn {te : TE} {v : V} {r : Row} (h : Ev te σ H v) (q : IsRow H v r) : Ev (tOp (rIxT K) te (tC (.int 2))) σ H (nv r.s) := by
  obtain ⟨a, rfl, ha⟩ := q
  exact ev_op h ev_c (rv_ixT (st_of ha) (by rfl))
end
/-! ### _law_joined_due -/
def sp_law_joined_due : L2.Sp := fun vs H Q _ => ∃ (a : Addr) (n : Nat) (l : List Row), vs = [.ref a, nv n] ∧ IsRl H a l ∧ l.length ≤ 16 ∧ n ≤ 64 ∧ (∀ r ∈ l, Rw n r) ∧
  (∀ i j, FirstAnti l i j → ∀ t H', Ex H H' → H' t = some (.tup [.str "anticommute", nv i, nv j]) → Q (.ref t) H') ∧
  (Commut l → ∀ ks, DueMinus l ks → ∀ t t2 H', Ex H H' → H' t = some (.tup [.str "minus", .ref t2]) → H' t2 = some (.tup (ks.map nv)) → Q (.ref t) H') ∧
  (Commut l → ∀ kept, DueSt l l.length kept → ∀ H', Ex H H' → Q .non H')
abbrev N_law_joined_due : List Str := ["_law_rows", "_law_size", "_law_j", "_law_i", "_law_kept", "_law_k", "_law_mask", "_law_some", "_law_made", "_law_at"]
theorem sc_law_joined_due : FnScope N_law_joined_due ["_law_rows", "_law_size"] (defScope s_law_joined_due) := ⟨rfl, rfl, rfl, by decide +kernel, rfl, by decide +kernel, by decide +kernel⟩
theorem o_law_joined_due (T : Tx K mg) : OkF P w K mg base CX0 3 "_law_joined_due" ["_law_rows", "_law_size"] sp_law_joined_due := by
  have o_law_crosses : OkF P w K mg base CX0 2 "_law_crosses" ["_law_one", "_law_two"] sp_law_crosses := o_law_crosses T
  have o_law_product : OkF P w K mg base CX0 2 "_law_product" ["_law_one", "_law_two"] sp_law_product := o_law_product T
  refine okf T d_law_joined_due "_law_joined_due" 55 46 rfl rfl rfl sc_law_joined_due (fun vs H Q E h => ?_) (fun _ _ _ _ _ _ us hl => match us, hl with | [_, _], _ => rfl) (fun f cdv A outer s H vs Q E hr h => ?_)
  · (obtain ⟨_, _, _, rfl, _⟩ := h; rfl)
  obtain ⟨a, n, l, rfl, ⟨xs, ha, hxs⟩, hlen, hn, hrw, k1, k2, k3⟩ := h
  refine ⟨_, (pss_cons (ps_for PassesOwn.never rfl (pi_range1 (by rfl) T.m_range (pa_cons (pe_callB (call_lenK K) (by rfl) T.m_len PySem.boot_len (pa_cons (pv 0) pa_nil)) pa_nil)) (pg_name (i := 2) sc_law_joined_due.nd rfl (Or.inl rfl))
        (pss_one (ps_for PassesOwn.never rfl (pi_range1 (by rfl) T.m_range (pa_cons (pv 2) pa_nil)) (pg_name (i := 3) sc_law_joined_due.nd rfl (Or.inl rfl))
          (pss_one (ps_if (pt_cmpR op_eq (pe_cl o_law_crosses (hr.mono (by decide)) (by rfl) pass0 (pa_cons (pe_ix (ix_listK K) (pv 0) (pv 3) (fun _ _ => rfl)) (pa_cons (pe_ix (ix_listK K) (pv 0) (pv 2) (fun _ _ => rfl)) pa_nil))) pe_int (nomark _)) (pss_one (ps_ret (pe_tup (pa_cons pe_str (pa_cons (pv 3) (pa_cons (pv 2) pa_nil)))))) pss_nil)))))
      (pss_cons (ps_set (i := 4) sc_law_joined_due.nd rfl (Or.inr rfl) (pe_lst pa_nil))
      (pss_cons (ps_for PassesOwn.never rfl (pi_range1 (by rfl) T.m_range (pa_cons (pe_callB (call_lenK K) (by rfl) T.m_len PySem.boot_len (pa_cons (pv 0) pa_nil)) pa_nil)) (pg_name (i := 5) sc_law_joined_due.nd rfl (Or.inl rfl))
        (Evl.pss_cut (ps_for PassesOwn.never rfl (pi_range1 (by rfl) T.m_range (pa_cons (pe_op op_shl pe_int (pe_callB (call_lenK K) (by rfl) T.m_len PySem.boot_len (pa_cons (pv 4) pa_nil))) pa_nil)) (pg_name (i := 6) sc_law_joined_due.nd rfl (Or.inr rfl))
          (pss_cons (ps_par (i := 7) (j := 8) rfl sc_law_joined_due.nd rfl rfl (by decide) rfl rfl (pa_cons (pe_lc (own := [("_law_at", 9)]) rfl sc_law_joined_due.nd (pi_range1 (by rfl) T.m_range (pa_cons (pe_callB (call_lenK K) (by rfl) T.m_len PySem.boot_len (pa_cons (pv 4) pa_nil)) pa_nil)) (blkOk_by (own := [("_law_at", 9)]) (N := N_law_joined_due) (sc := defScope s_law_joined_due) (by decide +kernel)) (fun _ _ _ _ _ => (pg_name (i := 9) sc_law_joined_due.nd rfl (Or.inl rfl))) (fun _ _ _ _ _ => (pts_one (pt_cmpR op_eq (pe_op op_mod (pe_callTy call_intK (by rfl) T.m_int (by decide +kernel) (pa_cons (pe_op op_shr (pv 6) (pv 9)) pa_nil)) pe_int) pe_int (nomark _)))) (fun _ _ _ _ _ => (pe_ix (ix_listK K) (pv 4) (pv 9) (fun _ _ => rfl)))) (pa_cons (pe_tup (pa_cons pe_int (pa_cons pe_int (pa_cons pe_int pa_nil)))) pa_nil)) (by rfl))
          (pss_cons (ps_for PassesOwn.never rfl (pi_listK K (pv 7)) (pg_name (i := 9) sc_law_joined_due.nd rfl (Or.inl rfl))
            (pss_one (ps_set (i := 8) sc_law_joined_due.nd rfl (Or.inl rfl) (pe_cl o_law_product (hr.mono (by decide)) (by rfl) pass0 (pa_cons (pv 8) (pa_cons (pe_ix (ix_listK K) (pv 0) (pv 9) (fun _ _ => rfl)) pa_nil))))))
          (pss_one (ps_if (pt_cmpR (op_eqDK K hr.units) (pe_tup (pa_cons (pe_ix (ix_tupK K) (pv 8) pe_int (fun _ _ => rfl)) (pa_cons (pe_ix (ix_tupK K) (pv 8) pe_int (fun _ _ => rfl)) pa_nil))) (pe_tup (pa_cons (pe_ix (ix_tupK K) (pe_ix (ix_listK K) (pv 0) (pv 5) (fun _ _ => rfl)) pe_int (fun _ _ => rfl)) (pa_cons (pe_ix (ix_tupK K) (pe_ix (ix_listK K) (pv 0) (pv 5) (fun _ _ => rfl)) pe_int (fun _ _ => rfl)) pa_nil))) (nomark _)) (pss_one ps_break) pss_nil)))))
        (pss_one (ps_if (pt_cmpR (op_neDK K hr.units) (pe_tup (pa_cons (pe_ix (ix_tupK K) (pv 8) pe_int (fun _ _ => rfl)) (pa_cons (pe_ix (ix_tupK K) (pv 8) pe_int (fun _ _ => rfl)) pa_nil))) (pe_tup (pa_cons (pe_ix (ix_tupK K) (pe_ix (ix_listK K) (pv 0) (pv 5) (fun _ _ => rfl)) pe_int (fun _ _ => rfl)) (pa_cons (pe_ix (ix_tupK K) (pe_ix (ix_listK K) (pv 0) (pv 5) (fun _ _ => rfl)) pe_int (fun _ _ => rfl)) pa_nil))) (nomark _)) (pss_one (ps_expr (pe_bmK K PySem.F.plainAttrs_list PySem.F.slot_list_append PySem.F.type_list_append mt_append (pv 4) (pa_cons (pv 5) pa_nil)))) (pss_one (ps_if (pt_cmpR op_ne (pe_ix (ix_tupK K) (pv 8) pe_int (fun _ _ => rfl)) (pe_ix (ix_tupK K) (pe_ix (ix_listK K) (pv 0) (pv 5) (fun _ _ => rfl)) pe_int (fun _ _ => rfl)) (nomark _)) (pss_one (ps_ret (pe_tup (pa_cons pe_str (pa_cons (pe_callTy (call_tuple_ofK K) (by rfl) T.m_tuple (by decide +kernel) (pa_cons (pe_op op_cat (pv 7) (pe_lst (pa_cons (pv 5) pa_nil))) pa_nil)) pa_nil))))) pss_nil))))))
      (pss_one (ps_ret pe_non))))), ?_⟩
  have hxl := paired_len hxs
  have evn : ∀ {σ : L2.St} {H' : Hp}, Ex H H' → σ[0]? = some (some (.ref a)) → Ev (tCB (rLenV K) (tCons (tVar 0) tNil)) σ H' (nv l.length) := fun {σ H'} e h => by
    rw [← hxl]; exact ev_lenL (ev_var h) (sq_of (e _ _ ha))
  have evr : ∀ {σ : L2.St} {H' : Hp} {m i : Nat}, Ex H H' → σ[0]? = some (some (.ref a)) → σ[m]? = some (some (nv i)) → i < l.length → ∃ v, Ev (tOp (rIxL K) (tVar 0) (tVar m)) σ H' v ∧ IsRow H' v (l.getD i rw0) := fun {σ H' m i} e h hm hi => by
    obtain ⟨v, hv, hr⟩ := rows_getD hxs hi
    exact ⟨v, ev_op (ev_var h) (ev_var hm) (rv_ixL (sq_of (e _ _ ha)) (atI_nat hv)), hr.ex e⟩
  have grw : ∀ i, Rw n (l.getD i rw0) := fun i => getD_all hrw (Rw.id n) i
  -- do they commute
  refine q_forW (wk_rng1 (n := l.length) (ea_cons (evn (Ex.refl _) rfl) ea_nil) (by omega)) (fun Hs j σ' H' => ∃ y2 y3, σ' = [some (.ref a), some (nv n), y2, y3, none, none, none, none, none, none] ∧ Ex Hs H' ∧ ∀ j', j' < j → ∀ i', i' < j' → crs (l.getD i' rw0) (l.getD j' rw0) = 0)
    (fun H1 e1 => ⟨_, _, rfl, Ex.refl _, fun j' h => absurd h (by omega)⟩) (fun Hs j σ' H' _ _ ⟨_, _, _, p, _⟩ => p) ?_ ?_
  · rintro Hs j x σ' Ha Hb e0 hj ⟨y2, y3, rfl, ea, hc⟩ eb rfl
    have eall := (e0.trans ea).trans eb
    refine s_forW (wk_rng1 (n := j) (ea_cons (ev_var rfl) ea_nil) (by omega)) (fun Hs' i σ' H' => ∃ y3, σ' = [some (.ref a), some (nv n), some (nv j), y3, none, none, none, none, none, none] ∧ Ex Hs' H' ∧ ∀ i', i' < i → crs (l.getD i' rw0) (l.getD j rw0) = 0)
      (fun H1 e1 => ⟨_, rfl, Ex.refl _, fun i' h => absurd h (by omega)⟩) (fun Hs j σ' H' _ _ ⟨_, _, p, _⟩ => p) ?_ ?_
    · rintro Hs' i x σ' Ha' Hb' e0' hi ⟨y3, rfl, ea', hc'⟩ eb' rfl
      have eall' := ((eall.trans e0').trans ea').trans eb'
      unfold gName
      dsimp only
      obtain ⟨vi, hi1, hi2⟩ := evr (σ := [some (.ref a), some (nv n), some (nv j), some (nv i), none, none, none, none, none, none]) (m := 3) (i := i) eall' rfl rfl (by omega)
      obtain ⟨vj, hj1, hj2⟩ := evr (σ := [some (.ref a), some (nv n), some (nv j), some (nv i), none, none, none, none, none, none]) (m := 2) (i := j) eall' rfl rfl (by omega)
      refine s_when (b := decide (crs (l.getD i rw0) (l.getD j rw0) = 1)) (et_test (ev_op (ev_law_crosses hi1 hj1 hi2 hj2 hn (grw i) (grw j)) (ev_n (n := 1) rfl) rv_eqN)) (fun hne H1 e1 => ?_) fun hne H1 e1 => ?_
      · have h1 := of_decide_eq_true hne
        refine s_retU (eu_tup (ea_cons ev_c (ea_cons (ev_var rfl) (ea_cons (ev_var rfl) ea_nil))) (by show 3 ≤ 100000; decide)) fun t H2 nt e2 ht => ?_
        exact k1 i j ⟨hi, hj, by omega, hc, hc'⟩ t H2 ((eall'.trans e1).trans e2) ht
      · refine ⟨_, rfl, (ea'.trans eb').trans e1, fun i' hi' => ?_⟩
        by_cases q : i' = i
        · subst q
          have := of_decide_eq_false hne
          have := crs_le (l.getD i' rw0) (l.getD j rw0)
          omega
        · exact hc' i' (by omega)
    · rintro Hs' σ' H' e0' ⟨y3, rfl, ea', hc'⟩
      refine ⟨_, _, rfl, ((ea.trans eb).trans e0').trans ea', fun j' hj' => ?_⟩
      by_cases q : j' = j
      · subst q; exact hc'
      · exact hc j' (by omega)
  rintro Hs σ' H1 e0 ⟨y2, y3, rfl, ea, hcom⟩
  have hC : Commut l := hcom
  have x1 := e0.trans ea
  refine q_asgP (EvL.pf el_nil) fun v H2 e2 ⟨kl, ev, nkl, hkl⟩ => ?_
  subst ev
  have nkl0 : H kl = none := by cases q : H kl with | none => rfl | some u => rw [x1 _ _ q] at nkl; cases nkl
  have x2 := x1.trans e2
  refine q_forR1 (n := ((l.length : Nat) : Int)) (ea_cons (evn x2 rfl) ea_nil) ⟨by omega, by omega⟩ (fun i σ' H' => ∃ kept y5 y6 y7 y8 y9, σ' = [some (.ref a), some (nv n), y2, y3, some (.ref kl), y5, y6, y7, y8, y9] ∧ Ex H H' ∧ H' kl = some (.lst (kept.map nv)) ∧ DueSt l i kept)
    (fun H3 e3 => ⟨[], _, _, _, _, _, rfl, x2.trans e3, e3 _ _ hkl, .nil⟩) ?_ ?_
  · rintro i σ' H3 hi ⟨kept, y5, y6, y7, y8, y9, rfl, x3, hk3, hdue⟩
    have hi' : i < l.length := by omega
    have hdl := hdue.len
    have hpow : 2 ^ kept.length ≤ 65536 := Nat.le_trans (Nat.pow_le_pow_right (by decide) (show kept.length ≤ 16 by omega)) (by decide)
    have e1k : 1 <<< kept.length = 2 ^ kept.length := by rw [Nat.shiftLeft_eq, Nat.one_mul]
    obtain ⟨pw, hpw⟩ : ∃ pw, pw = 2 ^ kept.length := ⟨_, rfl⟩
    rw [← hpw] at hpow e1k
    have evk : ∀ {σ : L2.St} {H' : Hp}, Ex H3 H' → σ[4]? = some (some (.ref kl)) → Ev (tCB (rLenV K) (tCons (tVar 4) tNil)) σ H' (nv kept.length) := fun {σ H'} e h => ev_is (ev_lenL (ev_var h) (sq_of (e _ _ hk3))) (by rw [List.length_map])
    refine q_cut (M := fun σ' H' => ∃ mask sl vm y9, σ' = [some (.ref a), some (nv n), y2, y3, some (.ref kl), some (nv i), some (nv mask), some (.ref sl), some vm, y9] ∧ Ex H3 H' ∧ H' sl = some (.lst ((selm kept mask).map nv)) ∧ IsRow H' vm (prodm l (selm kept mask)) ∧
      (FirstMask l kept i mask ∨ (mask < pw ∧ ∀ m, m < pw → ¬ sameXZ (prodm l (selm kept m)) (l.getD i rw0)))) ?_ ?_
    · refine s_forR1 (n := ((pw : Nat) : Int)) (ea_cons (by rw [← e1k]; exact ev_op (ev_n (n := 1) rfl) (evk (Ex.refl _) rfl) (rv_shlN (by omega) (by decide))) ea_nil) ⟨by omega, by omega⟩
        (fun m σ' H' => Ex H3 H' ∧ (∀ m', m' < m → ¬ sameXZ (prodm l (selm kept m')) (l.getD i rw0)) ∧ ((m = 0 ∧ ∃ y6 y7 y8 y9, σ' = [some (.ref a), some (nv n), y2, y3, some (.ref kl), some (nv i), y6, y7, y8, y9]) ∨ ∃ mask sl vm y9, σ' = [some (.ref a), some (nv n), y2, y3, some (.ref kl), some (nv i), some (nv mask), some (.ref sl), some vm, y9] ∧ H' sl = some (.lst ((selm kept mask).map nv)) ∧ IsRow H' vm (prodm l (selm kept mask)) ∧ mask < pw))
        (fun H4 e4 => ⟨e4, fun m' h => absurd h (by omega), .inl ⟨rfl, _, _, _, _, rfl⟩⟩) ?_ ?_
      · rintro m σ' H4 hm ⟨e4, hno, hσ⟩
        have hm' : m < pw := by omega
        obtain ⟨z6, z7, z8, z9, rfl⟩ : ∃ z6 z7 z8 z9, σ' = [some (.ref a), some (nv n), y2, y3, some (.ref kl), some (nv i), z6, z7, z8, z9] := by
          rcases hσ with ⟨_, a1, a2, a3, a4, h⟩ | ⟨a1, a2, a3, a4, h, _⟩
          · exact ⟨_, _, _, _, h⟩
          · exact ⟨_, _, _, _, h⟩
        have x4 := x3.trans e4
        unfold tSeq tPar tCons tNil
        have hsel : EvL (tLc (iRng1 (tCons (tCB (rLenV K) (tCons (tVar 4) tNil)) tNil)) (gName 9) (tTest (tOp rEq (tOp (rI (fun _ j => 0 < j) fun i j => .int (i % j)) (tCB rInt1 (tCons (tOp (rI (fun _ j => 0 ≤ j) fun i j => .int (i / 2 ^ j.toNat)) (tVar 6) (tVar 9)) tNil)) (tC (.int 2))) (tC (.int 1)))) (tOp (rIxL K) (tVar 4) (tVar 9)) [9]) [some (.ref a), some (nv n), y2, y3, some (.ref kl), some (nv i), some (nv m), z7, z8, z9] H4 ((selm kept m).map nv) := by
          have e : (selm kept m).map nv = ((List.range kept.length).filter fun i => m >>> i &&& 1 != 0).map fun i => nv (kept.getD i 0) := by
            unfold selm; rw [List.map_map]; rfl
          rw [e]
          refine el_rngF (fun i => m >>> i &&& 1 != 0) _ (ea_cons (evk e4 rfl) ea_nil) (by omega) (fun x => rfl) (fun q H5 e5 hq => ?_) (fun q H5 e5 hq => ?_)
          · refine et_test (ev_is (ev_op (ev_op (ev_intI (ev_op (ev_var rfl) (ev_var rfl) rv_shrN)) (ev_n (n := 2) rfl) (rv_modN (by decide))) ev_c (rv_eq rfl)) ?_)
            rw [bit_mod]
            have := bit_le m q
            have : m >>> q &&& 1 = 0 ∨ m >>> q &&& 1 = 1 := by omega
            rcases this with h | h <;> rw [h] <;> decide +kernel
          · refine ev_op (ev_var rfl) (ev_var rfl) (rv_ixL (sq_of ((e4.trans e5) _ _ hk3)) (atI_nat ?_))
            rw [List.getElem?_map, List.getElem?_eq_getElem hq, List.getD_eq_getElem?_getD, List.getElem?_eq_getElem hq]; rfl
        refine hsel H4 (Ex.refl _) _ fun sl H5 nsl e5 hsl => ?_
        refine (evp_row (a := 0) (b := 0) (c := 0) (ta := tCons (tC (.int 0)) (tCons (tC (.int 0)) (tCons (tC (.int 0)) tNil))) (ea_cons (ev_n (n := 0) rfl) (ea_cons (ev_n (n := 0) rfl) (ea_cons (ev_n (n := 0) rfl) ea_nil)))) H5 (Ex.refl _) _ fun vm H6 e6 hvm => ⟨.ref sl, vm, rfl, ?_⟩
        have e46 := e5.trans e6
        have x6 := x4.trans e46
        have hsl6 := e6 _ _ hsl
        refine q_forW (wk_list (ev_var rfl) (sq_of hsl6)) (fun Hs j σ' H' => ∃ vm y9, σ' = [some (.ref a), some (nv n), y2, y3, some (.ref kl), some (nv i), some (nv m), some (.ref sl), some vm, y9] ∧ Ex Hs H' ∧ IsRow H' vm (prodm l ((selm kept m).take j)))
          (fun H7 e7 => ⟨vm, _, rfl, Ex.refl _, hvm.ex e7⟩) (fun Hs j σ' H' _ _ ⟨_, _, _, h, _⟩ => h) ?_ ?_
        · rintro Hs j x σ' Ha Hb e0 hj ⟨vm, y9, rfl, ea, hv⟩ eb hx
          obtain ⟨at_, hat, rfl⟩ := map_at hx
          have hlt := selm_lt (fun i hi => (hdl.2 i hi)) m at_ (List.mem_of_getElem? hat)
          have eall := ((x6.trans e0).trans ea).trans eb
          unfold gName
          dsimp only
          obtain ⟨vr, hr1, hr2⟩ := evr (σ := [some (.ref a), some (nv n), y2, y3, some (.ref kl), some (nv i), some (nv m), some (.ref sl), some vm, some (nv at_)]) (m := 9) (i := at_) eall rfl rfl (by omega)
          refine s_asgP (i := 8) (evp_law_product (te := tVar 8) (n := n) (ev_var rfl) hr1 (hv.ex eb) hr2 hn (prodm_rw hrw _) (grw _)) fun v Hc ec hv' => ?_
          exact ⟨v, _, rfl, (ea.trans eb).trans ec, by rw [prodm_take hat]; exact hv'⟩
        · rintro Hs σ' H7 e0 ⟨vm, y9, rfl, ea, hv⟩
          have e7 := e0.trans ea
          rw [List.length_map, List.take_length] at hv
          have x7 := x6.trans e7
          obtain ⟨vr, hr1, hr2⟩ := evr (σ := [some (.ref a), some (nv n), y2, y3, some (.ref kl), some (nv i), some (nv m), some (.ref sl), some vm, y9]) (m := 5) (i := i) x7 rfl rfl hi'
          have hsl7 := e7 _ _ hsl6
          refine s_when (b := decide ([(prodm l (selm kept m)).x, (prodm l (selm kept m)).z] = [(l.getD i rw0).x, (l.getD i rw0).z])) (et_test (ev_eqTT (eu_xz (te := tVar 8) (te' := tVar 8) (ev_var rfl) (ev_var rfl) hv) (fun H8 e8 => eu_xz (fun H9 e9 => hr1 H9 (e8.trans e9)) (fun H9 e9 => hr1 H9 (e8.trans e9)) (hr2.ex e8)))) (fun hc H8 e8 => ?_) fun hc H8 e8 => ?_
          · have h1 := of_decide_eq_true hc
            injection h1 with h1 h2
            injection h2 with h2
            exact ⟨m, sl, vm, y9, rfl, ((e4.trans e46).trans e7).trans e8, e8 _ _ hsl7, hv.ex e8, .inl ⟨by rw [← hpw]; exact hm', ⟨h1, h2⟩, hno⟩⟩
          · have h1 := of_decide_eq_false hc
            refine ⟨((e4.trans e46).trans e7).trans e8, fun m' hm'' => ?_, .inr ⟨m, sl, vm, y9, rfl, e8 _ _ hsl7, hv.ex e8, hm'⟩⟩
            by_cases q : m' = m
            · subst q
              intro ⟨s1, s2⟩
              exact h1 (by rw [s1, s2])
            · exact hno m' (by omega)
      · rintro σ' H4 ⟨e4, hno, hσ⟩
        rw [Int.toNat_natCast] at hno hσ
        rcases hσ with ⟨h0, _⟩ | ⟨mask, sl, vm, y9, rfl, h1, h2, h3⟩
        · have := Nat.two_pow_pos kept.length
          rw [← hpw] at this
          omega
        · exact ⟨mask, sl, vm, y9, rfl, e4, h1, h2, .inr ⟨h3, hno⟩⟩
    · rintro σ' H4 ⟨mask, sl, vm, y9, rfl, e4, hsl, hvm, hmask⟩
      have x4 := x3.trans e4
      obtain ⟨vr, hr1, hr2⟩ := evr (σ := [some (.ref a), some (nv n), y2, y3, some (.ref kl), some (nv i), some (nv mask), some (.ref sl), some vm, y9]) (m := 5) (i := i) x4 rfl rfl hi'
      refine s_if (b := !decide ([(prodm l (selm kept mask)).x, (prodm l (selm kept mask)).z] = [(l.getD i rw0).x, (l.getD i rw0).z])) (et_test (ev_neTT (eu_xz (te := tVar 8) (te' := tVar 8) (ev_var rfl) (ev_var rfl) hvm) (fun H8 e8 => eu_xz (fun H9 e9 => hr1 H9 (e8.trans e9)) (fun H9 e9 => hr1 H9 (e8.trans e9)) (hr2.ex e8)))) (fun hc H5 e5 => ?_) fun hc H5 e5 => ?_
      · have hnot : ¬ sameXZ (prodm l (selm kept mask)) (l.getD i rw0) := fun ⟨s1, s2⟩ => by
          rw [s1, s2, decide_eq_true rfl] at hc; cases hc
        have hall : ∀ m, m < 2 ^ kept.length → ¬ sameXZ (prodm l (selm kept m)) (l.getD i rw0) := by
          rcases hmask with h | h
          · exact absurd h.2.1 hnot
          · rw [hpw] at h; exact h.2
        have hk5 := (e4.trans e5) _ _ hk3
        refine s_app hk5 (ev_var rfl) (ev_var rfl) (by rw [List.length_map]; omega) fun H6 e6 => ?_
        refine ⟨kept ++ [i], _, _, _, _, _, rfl, Ex.mut (((x3.trans e4).trans e5).trans e6) nkl0, ?_, hdue.keep hall⟩
        rw [upd_same, List.map_append]; rfl
      · have hsame : sameXZ (prodm l (selm kept mask)) (l.getD i rw0) := by
          have h1 : [(prodm l (selm kept mask)).x, (prodm l (selm kept mask)).z] = [(l.getD i rw0).x, (l.getD i rw0).z] := by simpa using hc
          injection h1 with h1 h2
          injection h2 with h2
          exact ⟨h1, h2⟩
        have hfm : FirstMask l kept i mask := by
          rcases hmask with h | h
          · exact h
          · exact absurd hsame (h.2 mask h.1)
        have x5 := x4.trans e5
        refine s_when (b := !decide ((prodm l (selm kept mask)).s = (l.getD i rw0).s)) (et_test (ev_op (ev_sgn (te := tVar 8) (ev_var rfl) (hvm.ex e5)) (ev_sgn (fun H9 e9 => hr1 H9 (e5.trans e9)) (hr2.ex e5)) rv_neN)) (fun hs H6 e6 => ?_) fun hs H6 e6 => ?_
        · have hsl6 := (e5.trans e6) _ _ hsl
          refine s_retP (P := fun v H' => ∃ t t2, v = .ref t ∧ H' t = some (.tup [.str "minus", .ref t2]) ∧ H' t2 = some (.tup ((selm kept mask ++ [i]).map nv))) (fun Ho eo Q kk => ?_) fun v H7 e7 ⟨t, t2, ev, h1, h2⟩ => ?_
          · unfold tTup tCons tNil
            refine (ev_c : Ev (tC (.str "minus")) _ Ho (.str "minus")) Ho (Ex.refl _) _ fun Ha ea => ?_
            have slH := (eo.trans ea) _ _ hsl6
            refine (eu_tupleL (K := K) (te := tOp rCat (tVar 7) (tLst (tCons (tVar 5) tNil))) (el_cat (ev_var rfl) slH (el_one (ev_var rfl)) (by rw [List.length_map]; have := selm_len kept mask; show _ + 1 ≤ 100000; omega))) Ha (Ex.refl _) _ fun t2 Hb nt2 eb ht2 => ⟨sz_of (by show 2 ≤ 100000; decide), fun t nt => ?_⟩
            refine kk _ _ ((ea.trans eb).trans (Ex.new nt)) ⟨t, t2, rfl, upd_same, ?_⟩
            rw [List.map_append]
            exact (Ex.new nt) _ _ ht2
          · subst ev
            exact k2 hC _ ⟨i, kept, mask, hi', hdue, hfm, by simpa using hs, rfl⟩ t t2 H7 ((x5.trans e6).trans e7) h1 h2
        · have hseq : (prodm l (selm kept mask)).s = (l.getD i rw0).s := by simpa using hs
          exact ⟨kept, _, _, _, _, _, rfl, x5.trans e6, ((e4.trans e5).trans e6) _ _ hk3, hdue.skip hfm hseq⟩
  · rintro σ' H3 ⟨kept, y5, y6, y7, y8, y9, rfl, x3, hk3, hdue⟩
    rw [Int.toNat_natCast] at hdue
    exact s_ret ev_c fun H4 e4 => k3 hC kept hdue H4 (x3.trans e4)
end
end Kp
end
section
set_option maxHeartbeats 4000000
/-! dicts with tuple keys: dict(d), ==, a display, len, list -/
namespace PySem
section
open PySem PySem.Calls
variable {prog : Program} {w : World} {K : Type} [DecidableEq K] {knd : HeapKind prog w K} {A : Around} {E : Value → Shared → Prop} {s : Shared}
theorem kp_call_dictH {o : Addr} {more : List (K × Addr × Value)} {Q : Value → Shared → Prop} (hu : knd.room A.in1.in1) (hoS : (o == sysModules) = false) (ho : s.heap.DictOfH knd o more) (hst : knd.Stays) (hap : (more.map fun x => knd.hash x.1).Nodup) (hsz : more.length ≤ sizeLine)
    (h : ∀ h', h'.DictOfH knd s.heap.objs.size more → Heap.SameBut s.heap.objs.size (s.heap.push { cls := .type "dict", data := .dict #[] }) h' → Q (.ref s.heap.objs.size) { s with heap := h' }) :
    wpAny (model prog w) A (call (.type "dict") [.ref o]) Q E s := by
  refine callType_codes (Q₁ := fun obj s₁ => obj = .ref s.heap.objs.size ∧ s₁ = { s with heap := s.heap.push { cls := .type "dict", data := .dict #[] } }) F.kt_called_dict (F.kt_typeCall_dict_1 _) F.entry_dict_init (kt_code_dict_new _ ⟨rfl, rfl⟩) ?_
  rintro obj s₁ ⟨rfl, rfl⟩
  have hnew : (s.heap.push { cls := .type "dict", data := .dict #[] }).DictOfH knd s.heap.objs.size [] := Heap.DictOfH.new s.heap
  have hk : ∀ b o, s.heap.get? b = some o → (s.heap.push { cls := .type "dict", data := .dict #[] }).get? b = some o := fun b o e => Heap.get?_push_of_some _ e
  have ho' : (s.heap.push { cls := .type "dict", data := .dict #[] }).DictOfH knd o more := by
    obtain ⟨oo, es, ep, h1, h2, h3, h4, h5, h6⟩ := ho
    exact ⟨oo, es, ep, hk _ _ h1, h2, h3, h4, fun x hx => hst.stays (fun b o vs n e _ => hk b o e) (h5 x hx), h6⟩
  have hn := ho.nodup
  have hdo : s.heap.objs.size ≠ o := by
    obtain ⟨_, _, _, hg, _⟩ := ho
    exact fun e => absurd (Heap.lt_size hg) (by rw [e]; exact Nat.lt_irrefl _)
  refine ⟨hnew.typeIs, F.args_dict_init_2 _ _, ?_⟩
  unfold Builtin.«dict.__init__»
  refine wpAny_bind ?_
  unfold Builtin.Dict.selfAndRest
  refine wpAny_bind (wpAny_notOrdered_dict hnew.typeIs ?_)
  show wpAny _ _ (pure (s.heap.objs.size, [Value.ref o])) _ _ _
  refine wpAny_pure ?_
  show wpAny _ _ (Builtin.Dict.updateFrom "dict.__init__" s.heap.objs.size (.ref o) [] .none) _ _ _
  unfold Builtin.Dict.updateFrom
  refine wpAny_bind (wpAny_typeOf ho'.typeIs ?_)
  rw [if_neg (by decide)]
  refine wpAny_bind ?_
  unfold Builtin.Dict.merge
  refine wpAny_bind ?_
  unfold Builtin.Dict.readDirectly
  refine wpAny_bind (wpAny_isInstance ho'.typeIs isSubtype_dict_dict ?_)
  simp only [Bool.not_true, Bool.false_eq_true, if_false]
  refine wpAny_bind (wpAny_specialOf ho'.typeIs F.slot_dict_iter.lookup (wpAny_pure ?_))
  simp only [beq_self_eq_true, if_true]
  refine wpAny_bind (wpAny_pure ?_)
  have hty : ∀ x ∈ more, ({ s with heap := s.heap.push { cls := .type "dict", data := .dict #[] } } : Shared).TypeIs (.ref x.2.1) "tuple" := fun x hx => by
    obtain ⟨oo, es, ep, h1, h2, h3, h4, h5, h6⟩ := ho'
    exact hst.tuple (s := { s with heap := s.heap.push { cls := .type "dict", data := .dict #[] } }) (h5 x hx)
  refine wpAny_mergeDict_heap (hsz := by simpa using hsz) hu hdo hoS hnew ho' (.inr ⟨hty, hap⟩) fun h' hd' _ hs' => ?_
  show wpAny _ _ (Builtin.Dict.addKeywords s.heap.objs.size [] >>= _) _ _ _
  rw [storedAllH_nil_of_nodup more hn] at hd'
  exact wpAny_bind (wpAny_pure (wpAny_pure ⟨rfl, h h' hd' hs'⟩))
end
end PySem
namespace Kp
open PySem PySem.Spec PyProof.Rows L2 Evl
/-- the keys' hashes differ -/
def HashOk (ks : List (List Key)) : Prop := ∀ (P : Program) (w : World), (ks.map (tupleKeyHash (mixKind P w))).Nodup
def rDictT : List V → Hp → VK → Prop := fun xs H Q => ∃ (a : Addr) (kvs : List (List Key × V)), xs = [.ref a] ∧ H a = some (.dT kvs) ∧ HashOk (kvs.map (·.1)) ∧ ∀ p, H p = none → Q (.ref p) (upd H p (.dT kvs))
theorem call_dictT {X : Cx} (hu : X.A.units + 64 < cLine) : CallR X (.type "dict") rDictT := by
  intro pins s σ H xs us Q I r q
  obtain ⟨a, kvs, ex, hd, hk, q⟩ := q
  subst ex
  obtain ⟨u, eu, rx⟩ := vals1 r
  subst eu
  cases rx
  obtain ⟨z, lo, vs, rel, dd⟩ := dt_of I.hok hd
  have ek : vs.map (·.1) = kvs.map (·.1) := by
    clear dd z q hd
    induction rel with
    | nil => rfl
    | cons h _ ih => rw [List.map_cons, List.map_cons, ih (by
        intro P w
        have := hk P w
        rw [List.map_cons, List.map_cons, List.nodup_cons] at this
        exact this.2), h.1]
  have hap : (vs.map fun x => (tupleKind (mixKind X.prog X.w)).hash x.1).Nodup := by
    have h1 := hk X.prog X.w
    rw [← ek, List.map_map] at h1
    exact h1
  refine kp_call_dictH (knd := tupleKind (mixKind X.prog X.w)) (show X.A.units + 1 + 1 < cLine by omega) lo dd tupleKind_stays hap (by rw [← paired_len rel]; exact z) fun h' d' hs => ?_
  have hm : (s.heap.objs.size == sysModules) = false := beq_eq_false_iff_ne.mpr (Nat.ne_of_gt I.big)
  have hn := I.hok.fresh (Nat.le_refl s.heap.objs.size)
  refine ⟨.ref s.heap.objs.size, upd H s.heap.objs.size (.dT kvs), I.laid (t' := s.toks) (fun b u e => (hs.2 b (Nat.ne_of_lt (Heap.lt_size e))).trans (Heap.get?_push_of_some _ e)) (Nat.le_refl _) ?_, rfl, q _ hn⟩
  exact ⟨z, hm, vs, KT.keeps rel fun b ys hb => by rw [upd_ne (by rintro rfl; rw [hn] at hb; cases hb)]; exact hb, let ⟨o, es, ep, h1, h2, h3, h4, _, h6⟩ := d'; ⟨o, es, ep, h1, h2, h3, h4, h6⟩⟩
end Kp
end
section
set_option maxHeartbeats 4000000
/-! a display with one tuple key; two dicts with tuple keys, alike -/
namespace PySem
section
open PySem PySem.Calls
variable {prog : Program} {w : World} {K : Type} [DecidableEq K] {knd : HeapKind prog w K} {A : Around} {E : Value → Shared → Prop} {s : Shared}
theorem kp_Dict_pairsH {env : Env} {keys : List (Option Expr)} {values : List Expr} {pos : Pos} {pairs : List (Sem Value × Sem Value)} {Q : Value → Shared → Prop} (hu : knd.room A)
    (hshape : (evalEachOpt keys env).zip ((evalEach values env).map fun v => do let x ← v; standAt pos; pure x) = pairs.map fun p => (some p.1, p.2)) (h0 : pairs ≠ []) (hlen : pairs.length ≤ 15)
    (h : wpAny (model prog w) A (evalPairs pairs) (fun vs s₁ => ∃ ps, CarriesH knd s₁.heap vs ps ∧ s₁.heap.DictOfH knd s.heap.objs.size [] ∧
      ∀ h' tk, h'.DictOfH knd s.heap.objs.size (storedAllH [] ps) → Heap.SameBut s.heap.objs.size s₁.heap h' → Q (.ref s.heap.objs.size) { s₁ with heap := h', toks := tk }) E
      { s with heap := s.heap.push { cls := .type "dict", data := .dict #[] } }) :
    wpAny (model prog w) A (eval (.Dict keys values pos) env) Q E s := by
  rw [arm_eval_Dict, hshape, dictDisplay_pairs pairs h0 (by omega)]
  exact wpAny_bind (wpAny_standAt (wpAny_bind (wpAny_subDictH (knd := knd) (Q := fun d s' => wpAny (model prog w) A (pure (Value.ref d)) Q E s') hu hlen
    (wpAny_mono h (fun vs s₁ h₁ => by obtain ⟨ps, hc, hm, hq⟩ := h₁; exact ⟨ps, hc, hm, fun h' tk a b => wpAny_pure (hq h' tk a b)⟩) fun _ _ e => e))))
/-- the dicts at a, b: the same keys, equal values -/
theorem kp_samePairsH {nm : String} {a b : Addr} {ka kb : List (K × Addr × Value)} {Q : Bool → Shared → Prop} (hu : knd.room A) (ha : (a == sysModules) = false) (hb : (b == sysModules) = false)
    (da : s.heap.DictOfH knd a ka) (db : s.heap.DictOfH knd b kb) (hl : ka.length = kb.length) (hits : ∀ (x : K) (p : Addr) (v : Value), (x, p, v) ∈ ka → ∃ (q : Addr) (y : Value), (x, q, y) ∈ kb ∧ SeqAt.EqP prog w A s v y true) (h : Q true s) :
    wpAny (model prog w) A (Builtin.Dict.samePairs nm a b) Q E s := by
  obtain ⟨oa, es, ep, hoa, _, hda, hea, hisa, hna⟩ := da
  obtain ⟨ob, es', ep', hob, _, hdb, heb, hisb, hnb⟩ := db
  have hla : es.size = ka.length := size_of_entries hea
  have hlb : es'.size = kb.length := size_of_entries heb
  unfold Builtin.Dict.samePairs Builtin.Dict.showsAll
  rw [if_neg (show ¬ (a == sysModules) = true by rw [ha]; exact Bool.false_ne_true), if_neg (show ¬ (b == sysModules) = true by rw [hb]; exact Bool.false_ne_true)]
  refine wpAny_bind (wpAny_pure (wpAny_bind (wpAny_pure ?_)))
  refine wpAny_bind (wpAny_dictEntries hoa hda ?_)
  dsimp only
  refine wpAny_bind (wpAny_dictEntries hob hdb ?_)
  have hsz : es.size = es'.size := by omega
  rw [if_neg (by rw [hsz]; simp)]
  refine wpAny_bind (wpAny_dictEpoch hoa hda ?_)
  refine wpAny_bind ?_
  rw [Std.Legacy.Range.forIn_eq_forIn_range']
  simp only [Std.Legacy.Range.size, Nat.sub_zero, Nat.add_sub_cancel, Nat.div_one]
  refine wpAny_forIn_list _ (fun rest q s' => s' = s ∧ q = (none, ()) ∧ ∃ i, rest = List.range' i (es.size - i) ∧ i ≤ es.size) _ ?_ ?_ _ _ ⟨rfl, rfl, 0, by simp, Nat.zero_le _⟩
  · rintro x rest q s' ⟨rfl, rfl, i, hr, hi⟩
    have hlt : i < es.size := by
      rcases Nat.lt_or_ge i es.size with h | h
      · exact h
      · rw [Nat.sub_eq_zero_of_le h] at hr; simp at hr
    obtain ⟨rfl, hrest⟩ : x = i ∧ rest = List.range' (i + 1) (es.size - (i + 1)) := by
      have e : es.size - i = (es.size - (i + 1)) + 1 := by omega
      rw [e, List.range'_succ] at hr
      injection hr with h1 h2
      exact ⟨h1, h2⟩
    refine wpAny_bind (wpAny_dictEntries hoa hda ?_)
    have hlt' : x < ka.length := by omega
    obtain ⟨k, p, v, hkv⟩ : ∃ k p v, ka[x] = (k, p, v) := ⟨_, _, _, rfl⟩
    have hin : (k, p, v) ∈ ka := by rw [← hkv]; exact List.getElem_mem hlt'
    have hent : es[x]? = some (entryOfKey knd (k, p, v)) := by rw [entry_at hea, List.getElem?_eq_getElem hlt', hkv]; rfl
    rw [hent]
    obtain ⟨q, y, hqy, heq⟩ := hits k p v hin
    refine wpAny_bind (wpAny_holding (wpAny_bind (wpAny_dictFind_heap (knd := knd) hu (hisa _ hin) hob hdb heb hisb hnb ?_ ?_)))
    · intro hno
      obtain ⟨j, hj⟩ := List.mem_iff_getElem?.mp hqy
      exact absurd hj (hno j (q, y))
    · intro j pv hj
      have epv : pv = (q, y) := by
        obtain ⟨j2, hj2⟩ := List.mem_iff_getElem?.mp hqy
        have h1 : (kb.map (·.1))[j]? = some k := by rw [List.getElem?_map, hj]; rfl
        have h2 : (kb.map (·.1))[j2]? = some k := by rw [List.getElem?_map, hj2]; rfl
        have : j = j2 := by
          obtain ⟨g1, g2⟩ := List.getElem?_eq_some_iff.mp h1
          obtain ⟨g3, g4⟩ := List.getElem?_eq_some_iff.mp h2
          rcases Nat.lt_trichotomy j j2 with h | h | h
          · exact absurd (g2.trans g4.symm) (List.pairwise_iff_getElem.mp hnb j j2 g1 g3 h)
          · exact h
          · exact absurd (g4.trans g2.symm) (List.pairwise_iff_getElem.mp hnb j2 j g3 g1 h)
        subst this
        rw [hj] at hj2
        injection hj2 with z
        injection z
      subst epv
      refine wpAny_bind (wpAny_dictEntries hob hdb ?_)
      have hent2 : es'[j]? = some (entryOfKey knd (k, q, y)) := by rw [entry_at heb, hj]; rfl
      rw [hent2]
      refine wpAny_holding (heq _ _ ?_)
      show wpAny _ _ (if (!true) = true then _ else _) _ _ _
      rw [if_neg (by decide)]
      refine wpAny_bind (wpAny_dictEpoch hoa hda ?_)
      rw [if_neg (by simp)]
      exact wpAny_pure ⟨rfl, rfl, x + 1, hrest, hlt⟩
  · rintro q s' ⟨rfl, rfl, i, hr, hi⟩
    exact wpAny_pure h
theorem kp_neH {a b : Addr} {ka kb : List (K × Addr × Value)} {Q : Value → Shared → Prop} (hu : knd.room A.in1) (hu2 : A.units < cLine) (ha : (a == sysModules) = false) (hb : (b == sysModules) = false)
    (da : s.heap.DictOfH knd a ka) (db : s.heap.DictOfH knd b kb) (hl : ka.length = kb.length) (hits : ∀ (x : K) (p : Addr) (v : Value), (x, p, v) ∈ ka → ∃ (q : Addr) (y : Value), (x, q, y) ∈ kb ∧ SeqAt.EqP prog w A.in1 s v y true) (h : Q (.bool false) s) :
    wpAny (model prog w) A (compareOp .NotEq (.ref a) (.ref b)) Q E s := by
  refine wpAny_richCompare_same_room (op := .NotEq) da.typeIs db.typeIs PySem.F.slot_dict_ne (wpAny_call_entry PySem.F.slot_dict_ne da.typeIs PySem.F.entry_dict_ne ?_ (PySem.F.args_dict_ne_2 _ _)) hu2
  show wpAny _ _ (Builtin.Dict.dictSlotArgs "__ne__" ⟨[.ref a, .ref b], []⟩ >>= _) _ _ s
  refine wpAny_bind ?_
  unfold Builtin.Dict.dictSlotArgs
  refine wpAny_bind (wpAny_notOrdered_dict da.typeIs ?_)
  show wpAny _ _ (pure (Value.ref a, Value.ref b)) _ _ s
  refine wpAny_pure ?_
  refine wpAny_bind (wpAny_isInstance (T := "dict") db.typeIs PySem.F.sub_dict_dict ?_)
  simp only [Bool.not_true, Bool.false_eq_true, if_false]
  refine wpAny_bind (wpAny_pure (wpAny_bind (wpAny_pure ?_)))
  refine wpAny_bind (kp_samePairsH hu ha hb da db hl hits ?_)
  refine wpAny_pure ⟨_, rfl, ?_, ?_⟩
  · exact fun x => nomatch x
  · simpa using h
end
end PySem
namespace Kp
open PySem PySem.Spec PyProof.Rows L2 Evl
/-- the entries at the dict's address, as the heap has them -/
def rNeT : R2 := fun x y H Q => ∃ (a b : Addr) (ks ls : List (List Key × V)), x = .ref a ∧ y = .ref b ∧ H a = some (.dT ks) ∧ H b = some (.dT ls) ∧ ks.length = ls.length ∧ (∀ p ∈ ks, (∃ i : Int, p.2 = .int i) ∧ p ∈ ls) ∧ Q (.bl false) H
theorem op_neT {X : Cx} (hu : X.A.units + 64 < cLine) : OpR X (compareOp .NotEq) rNeT := by
  intro pins s σ H x y v u Q I rx ry h
  obtain ⟨a, b, ks, ls, rfl, rfl, ea, eb, hlen, hp, q⟩ := h
  obtain rfl : v = Value.ref a := rx
  obtain rfl : u = Value.ref b := ry
  obtain ⟨za, ya, va, ra, da⟩ := dt_of I.hok ea
  obtain ⟨zb, yb, vb, rb, db⟩ := dt_of I.hok eb
  refine PySem.kp_neH (knd := tupleKind (mixKind X.prog X.w)) (show X.A.units + 1 < cLine by omega) (show X.A.units < cLine by omega) ya yb da db (by rw [← paired_len ra, ← paired_len rb]; exact hlen) ?_ ⟨.bl false, H, I, rfl, q⟩
  intro k p v hin
  obtain ⟨i, hi⟩ := List.mem_iff_getElem?.mp hin
  obtain ⟨e, he1, he2, he3, he4⟩ := paired_at2 ra hi
  obtain ⟨⟨n, hn⟩, hm⟩ := hp e (List.mem_of_getElem? he1)
  obtain ⟨j, hj⟩ := List.mem_iff_getElem?.mp hm
  obtain ⟨⟨k2, q2, y2⟩, hb1, hb2, hb3, hb4⟩ := paired_at rb hj
  dsimp only at he2 he4 hb2 hb4
  refine ⟨q2, y2, ?_, ?_⟩
  · rw [← he2, hb2]; exact List.mem_of_getElem? hb1
  · rw [hn] at he4 hb4
    obtain ⟨t1, rfl⟩ := he4
    obtain ⟨t2, rfl⟩ := hb4
    have := (eqAt_V (A := X.A.in1) (s := s) (y := V.int n) (x := V.int n) (u := Value.int n t1) (v := Value.int n t2) ⟨_, rfl⟩ ⟨_, rfl⟩ rfl rfl)
    have e : eqV (V.int n) (V.int n) = true := by show (n == n) = true; simp
    rw [e] at this
    exact this.eqP
/-- {k: v}, k a tuple -/
def tDispT (tk tv : TE) : TE := fun σ H Q => ∀ p, H p = none → tk σ (upd H p (.dT [])) fun x H1 => tv σ H1 fun v H2 => H2 p = some (.dT []) ∧ ∃ (b : Addr) (k : List Key), x = .ref b ∧ H2 b = some (.tup (k.map kV)) ∧ Q (.ref p) (upd H2 p (.dT [(k, v)]))
theorem pe_dispT {X : Cx} {pos : Pos} {ke ve : Expr} {tk tv : TE} (hu : X.A.units + 64 < cLine) (hk : PE X ke tk) (hv : PE X ve tv) : PE X (.Dict [some ke] [ve] pos) (tDispT tk tv) := by
  refine ⟨fun pins s σ H Q I q => ?_⟩
  have hn := I.hok.fresh (Nat.le_refl s.heap.objs.size)
  have I1 := I.laid (a := s.heap.objs.size) (o := .dT []) (h' := s.heap.push { cls := .type "dict", data := .dict #[] }) (t' := s.toks) (fun _ _ q => Heap.get?_push_of_some _ q) (Nat.le_refl _) (dt_empty s.heap I.big)
  refine PySem.kp_Dict_pairsH (knd := tupleKind (mixKind X.prog X.w)) (pairs := pairTrees [some ke] [ve] X.env pos) (show X.A.units < cLine by omega) (zip_pairTrees [some ke] [ve] X.env pos (by rfl) (by rfl)) (by intro z; cases z) (by rw [pairTrees_length _ _ _ _ (by rfl) (by rfl)]; show 1 ≤ 15; decide) ?_
  refine pairTrees_cons_walk (thn (hk.run pins _ σ _ _ I1 (q _ hn)) fun u s1 ⟨x, H1, I2, rx, q1⟩ => thn (hv.run pins s1 σ H1 _ I2 q1) fun w2 s2 ⟨y, H2, I3, ry, q2⟩ => pairTrees_nil_walk ?_)
  obtain ⟨e, b, k, ex, hb, q3⟩ := q2
  subst ex
  obtain rfl : u = Value.ref b := rx
  obtain ⟨z, hd, xs, rel, dd⟩ := dt_of I3.hok e
  cases rel
  refine ⟨[(k, b, w2)], ⟨rfl, rfl, key_of I3.hok hb, trivial⟩, dd, fun h' tk' dd' hs => ⟨.ref s.heap.objs.size, _, ?_, rfl, q3⟩⟩
  have he : ∃ q, h'.get? s.heap.objs.size = some q := let ⟨o, es, ep, h1, _⟩ := dd'; ⟨o, h1⟩
  have hbp : b ≠ s.heap.objs.size := by rintro rfl; rw [e] at hb; cases hb
  have I4 := d_write (h' := h') (t' := tk') (ob := .dT [(k, y)]) I3 (by rw [e]; exact True.intro) hs he ?_
  · exact I4
  · exact ⟨by show 1 ≤ sizeLine; rw [sizeLine_eq]; omega, hd, [(k, b, w2)], .cons ⟨rfl, by rw [upd_ne hbp]; exact hb, ry⟩ .nil, let ⟨o, es, ep, h1, h2, h3, h4, _, h6⟩ := dd'; ⟨o, es, ep, h1, h2, h3, h4, h6⟩⟩
end Kp
end
section
set_option maxHeartbeats 400000
/-! the tuple hash tells pairs of numbers below 2^23 apart: four short vectors of the dual lattice -/
namespace Kp
open PySem
/-- one turn of the hash -/
def hst (acc v : Nat) : Nat := ((acc + v * 14029467366897019727) % 2 ^ 64 * 2 ^ 31 % 2 ^ 64 + (acc + v * 14029467366897019727) % 2 ^ 64 / 2 ^ 33) * 11400714785074694791 % 2 ^ 64
theorem rot_split (a : Nat) (ha : a < 18446744073709551616) : a * 2147483648 % 18446744073709551616 + a / 8589934592 = 2147483648 * (a % 8589934592) + a / 8589934592 := by omega
theorem mulP {s t : Nat} (hs : s < 18446744073709551616) (ht : t < 18446744073709551616) (h : s * 11400714785074694791 % 18446744073709551616 = t * 11400714785074694791 % 18446744073709551616) : s = t := by
  have key : ∀ u : Nat, u < 18446744073709551616 → (u * 11400714785074694791 % 18446744073709551616) * 614540362697595703 % 18446744073709551616 = u := fun u hu => by
    rw [Nat.mod_mul_mod, Nat.mul_assoc, Nat.mul_mod, show 11400714785074694791 * 614540362697595703 % 18446744073709551616 = 1 by decide +kernel, Nat.mul_one, Nat.mod_mod, Nat.mod_eq_of_lt hu]
  rw [← key s hs, ← key t ht, h]
theorem hst_lit (acc v : Nat) : hst acc v = ((acc + v * 14029467366897019727) % 18446744073709551616 * 2147483648 % 18446744073709551616 + (acc + v * 14029467366897019727) % 18446744073709551616 / 8589934592) * 11400714785074694791 % 18446744073709551616 := by
  unfold hst
  rw [show (2 : Nat) ^ 64 = 18446744073709551616 by decide +kernel, show (2 : Nat) ^ 31 = 2147483648 by decide +kernel, show (2 : Nat) ^ 33 = 8589934592 by decide +kernel]
theorem hst_lt (acc v : Nat) : hst acc v < 18446744073709551616 := by
  rw [hst_lit]
  exact Nat.mod_lt _ (by decide)
theorem parts_bound {a : Nat} (ha : a < 18446744073709551616) : a / 8589934592 < 2147483648 ∧ a % 8589934592 < 8589934592 ∧ 8589934592 * (a / 8589934592) + a % 8589934592 = a := by omega
/-- a turn by its two parts -/
theorem hst_parts (acc v : Nat) : ∃ h l : Nat, h < 2147483648 ∧ l < 8589934592 ∧ 8589934592 * h + l = (acc + v * 14029467366897019727) % 18446744073709551616 ∧ hst acc v = (2147483648 * l + h) * 11400714785074694791 % 18446744073709551616 := by
  have ha : (acc + v * 14029467366897019727) % 18446744073709551616 < 18446744073709551616 := Nat.mod_lt _ (by decide)
  rw [hst_lit]
  generalize (acc + v * 14029467366897019727) % 18446744073709551616 = a at *
  obtain ⟨h1, h2, h3⟩ := parts_bound ha
  exact ⟨a / 8589934592, a % 8589934592, h1, h2, h3, by rw [rot_split a ha]⟩
theorem expP (l h : Nat) : (2147483648 * l + h) * 11400714785074694791 = 24482848576459741522263277568 * l + 11400714785074694791 * h := by
  rw [Nat.add_mul, Nat.mul_right_comm, Nat.mul_comm h]
theorem b64 {h l : Nat} (h1 : h < 2147483648) (l1 : l < 8589934592) : 2147483648 * l + h < 18446744073709551616 := by omega
theorem split31 {h l k m : Nat} (h1 : h < 2147483648) (k1 : k < 2147483648) (e : 2147483648 * l + h = 2147483648 * m + k) : l = m ∧ h = k := by omega
theorem modI {a r m : Nat} (h : r = a % m) : (r : Int) + m * ((a / m : Nat) : Int) = a := by
  subst h
  have := Nat.mod_add_div a m
  exact_mod_cast this
theorem add_sub_left (a b : Int) : a + b - a = b := by omega
theorem mul_small {w y : Int} (e : 18446744073709551616 * w = y) (h1 : y < 18446744073709551616) (h2 : -18446744073709551616 < y) : y = 0 := by omega
/-- the lattice: two congruences, a small box, zero alone -/
theorem latt {k h l d s t : Int} (e1 : 8589934592 * h + l = 14029467366897019727 * k + 18446744073709551616 * s) (e2 : 24482848576459741522263277568 * l + 11400714785074694791 * h = 14029467366897019727 * d + 18446744073709551616 * t)
    (k1 : -8388608 < k) (k2 : k < 8388608) (h1 : -2147483648 < h) (h2 : h < 2147483648) (l1 : -8589934592 < l) (l2 : l < 8589934592) (d1 : -8388608 < d) (d2 : d < 8388608) : k = 0 ∧ d = 0 := by
  have hs : 18446744073709551616 * s = 8589934592 * h + l - 14029467366897019727 * k := by rw [e1, add_sub_left]
  have ht : 18446744073709551616 * t = 24482848576459741522263277568 * l + 11400714785074694791 * h - 14029467366897019727 * d := by rw [e2, add_sub_left]
  clear e1 e2
  have z0 : (-24684505932) * k + (-63433832) * h + (-8299276) * l + (-26897891032) * d = 0 := by
    have q : 18446744073709551616 * (136223116941679860 * s + 14714134494151916968 * t + ((103602986310958968) * k + (-9093835205168075040) * h + (-19528862400568943123095266060) * l + (11190672396872784769) * d)) = (-24684505932) * k + (-63433832) * h + (-8299276) * l + (-26897891032) * d := by
      rw [Int.mul_add, Int.mul_add, Int.mul_left_comm _ 136223116941679860, Int.mul_left_comm _ 14714134494151916968, hs, ht]
      clear hs ht k1 k2 h1 h2 l1 l2 d1 d2 
      omega
    have b1 : (-24684505932) * k + (-63433832) * h + (-8299276) * l + (-26897891032) * d < 18446744073709551616 := by clear q hs ht ; omega
    have b2 : -18446744073709551616 < (-24684505932) * k + (-63433832) * h + (-8299276) * l + (-26897891032) * d := by clear q hs ht b1 ; omega
    exact mul_small q b1 b2
  have z1 : (41232035712) * k + (-59719839) * h + (45074304) * l + (-14862911321) * d = 0 := by
    have q : 18446744073709551616 * (128247377758766976 * s + 10668811960053340375 * t + ((97537126008108429) * k + (-6593688391146192166) * h + (-14159837999865628276191934592) * l + (8114047044781789119) * d)) = (41232035712) * k + (-59719839) * h + (45074304) * l + (-14862911321) * d := by
      rw [Int.mul_add, Int.mul_add, Int.mul_left_comm _ 128247377758766976, Int.mul_left_comm _ 10668811960053340375, hs, ht]
      clear hs ht k1 k2 h1 h2 l1 l2 d1 d2 z0
      omega
    have b1 : (41232035712) * k + (-59719839) * h + (45074304) * l + (-14862911321) * d < 18446744073709551616 := by clear q hs ht z0; omega
    have b2 : -18446744073709551616 < (41232035712) * k + (-59719839) * h + (45074304) * l + (-14862911321) * d := by clear q hs ht b1 z0; omega
    exact mul_small q b1 b2
  have z2 : (-12896259650) * k + (401740612) * h + (46126366) * l + (-75531535652) * d = 0 := by
    have q : 18446744073709551616 * (17584012678748165406 * s + 7322335203633221532 * t + ((13373326537727142082) * k + (-4525452027458649272) * h + (-9718334211191883629038938851) * l + (5568921126588564682) * d)) = (-12896259650) * k + (401740612) * h + (46126366) * l + (-75531535652) * d := by
      rw [Int.mul_add, Int.mul_add, Int.mul_left_comm _ 17584012678748165406, Int.mul_left_comm _ 7322335203633221532, hs, ht]
      clear hs ht k1 k2 h1 h2 l1 l2 d1 d2 z0 z1
      omega
    have b1 : (-12896259650) * k + (401740612) * h + (46126366) * l + (-75531535652) * d < 18446744073709551616 := by clear q hs ht z0 z1; omega
    have b2 : -18446744073709551616 < (-12896259650) * k + (401740612) * h + (46126366) * l + (-75531535652) * d := by clear q hs ht b1 z0 z1; omega
    exact mul_small q b1 b2
  have z3 : (168906403329) * k + (-28162422) * h + (-169590191) * l + (-94091800634) * d = 0 := by
    have q : 18446744073709551616 * (60478340563485265 * s + 7927867342804563366 * t + ((45996133623860474) * k + (-4899691461462698438) * h + (-10522007293675888716996656559) * l + (6029451903844765978) * d)) = (168906403329) * k + (-28162422) * h + (-169590191) * l + (-94091800634) * d := by
      rw [Int.mul_add, Int.mul_add, Int.mul_left_comm _ 60478340563485265, Int.mul_left_comm _ 7927867342804563366, hs, ht]
      clear hs ht k1 k2 h1 h2 l1 l2 d1 d2 z0 z1 z2
      omega
    have b1 : (168906403329) * k + (-28162422) * h + (-169590191) * l + (-94091800634) * d < 18446744073709551616 := by clear q hs ht z0 z1 z2; omega
    have b2 : -18446744073709551616 < (168906403329) * k + (-28162422) * h + (-169590191) * l + (-94091800634) * d := by clear q hs ht b1 z0 z1 z2; omega
    exact mul_small q b1 b2
  clear hs ht
  have wk : (-340282366920938463463374607431768211456) * k = 0 := by
    have e : (-340282366920938463463374607431768211456) * k = (3817199176526583156768243712) * ((-24684505932) * k + (-63433832) * h + (-8299276) * l + (-26897891032) * d) + (-2554135446576061568369295360) * ((41232035712) * k + (-59719839) * h + (45074304) * l + (-14862911321) * d) + (165519849115040676508073984) * ((-12896259650) * k + (401740612) * h + (46126366) * l + (-75531535652) * d) + (-820631412276473294737113088) * ((168906403329) * k + (-28162422) * h + (-169590191) * l + (-94091800634) * d) := by
      clear z0 z1 z2 z3 k1 k2 h1 h2 l1 l2 d1 d2
      omega
    rw [e, z0, z1, z2, z3]; rfl
  have wd : (-340282366920938463463374607431768211456) * d = 0 := by
    have e : (-340282366920938463463374607431768211456) * d = (6132513500464226614659514368) * ((-24684505932) * k + (-63433832) * h + (-8299276) * l + (-26897891032) * d) + (1854386249190881766334791680) * ((41232035712) * k + (-59719839) * h + (45074304) * l + (-14862911321) * d) + (1281922389819397074302533632) * ((-12896259650) * k + (401740612) * h + (46126366) * l + (-75531535652) * d) + (541423818266558808880840704) * ((168906403329) * k + (-28162422) * h + (-169590191) * l + (-94091800634) * d) := by
      clear z0 z1 z2 z3 k1 k2 h1 h2 l1 l2 d1 d2
      omega
    rw [e, z0, z1, z2, z3]; rfl
  exact ⟨(Int.mul_eq_zero.mp wk).resolve_left (by decide), (Int.mul_eq_zero.mp wd).resolve_left (by decide)⟩
/-- .. not at all at one place -/
theorem latt_no {k h l d s t : Int} (e1 : 8589934592 * h + l = 14029467366897019727 * k + 2870177450012600261 + 18446744073709551616 * s) (e2 : 24482848576459741522263277568 * l + 11400714785074694791 * h = 14029467366897019727 * d + 9148689060682678900 + 18446744073709551616 * t)
    (k1 : 0 ≤ k) (k2 : k < 8388608) (h1 : 0 ≤ h) (h2 : h < 2147483648) (l1 : 0 ≤ l) (l2 : l < 8589934592) (d1 : -8388608 < d) (d2 : d ≤ 0) : False := by
  have hs : 18446744073709551616 * s = 8589934592 * h + l - (14029467366897019727 * k + 2870177450012600261) := by rw [e1, add_sub_left]
  have ht : 18446744073709551616 * t = 24482848576459741522263277568 * l + 11400714785074694791 * h - (14029467366897019727 * d + 9148689060682678900) := by rw [e2, add_sub_left]
  clear e1 e2
  have q : 18446744073709551616 * (136223116941679860 * s + 14714134494151916968 * t + ((103602986310958968) * k + (-9093835205168075040) * h + (-19528862400568943123095266060) * l + (11190672396872784769) * d)) = (-24684505932) * k + (-63433832) * h + (-8299276) * l + (-26897891032) * d - 135006025802477744840208512876620018660 := by
    rw [Int.mul_add, Int.mul_add, Int.mul_left_comm _ 136223116941679860, Int.mul_left_comm _ 14714134494151916968, hs, ht]
    clear hs ht k1 k2 h1 h2 l1 l2 d1 d2
    omega
  have b1 : (-24684505932) * k + (-63433832) * h + (-8299276) * l + (-26897891032) * d ≤ 225635836996272424 := by clear q hs ht; omega
  have b2 : -414581974131918144 ≤ (-24684505932) * k + (-63433832) * h + (-8299276) * l + (-26897891032) * d := by clear q hs ht; omega
  clear hs ht k1 k2 h1 h2 l1 l2 d1 d2
  generalize (-24684505932) * k + (-63433832) * h + (-8299276) * l + (-26897891032) * d = y at *
  generalize 136223116941679860 * s + 14714134494151916968 * t + ((103602986310958968) * k + (-9093835205168075040) * h + (-19528862400568943123095266060) * l + (11190672396872784769) * d) = w at *
  omega
theorem neg_lo {z : Nat} (h : z < 8388608) : (-8388608 : Int) < -(z : Int) := by omega
theorem neg_hi (z : Nat) : -(z : Int) ≤ 0 := by omega
theorem pair_eq {x x' z z' : Nat} (h1 : (x : Int) - x' = 0) (h2 : (z' : Int) - z = 0) : x = x' ∧ z = z' := by omega
theorem lin_a {A l Md Q X : Int} (h1 : A + l + Md = Q + X) : A + l = X + Q + -Md := by omega
theorem lin_b {Al Bh acc MQ b MW Pz : Int} (h1 : acc + MQ = Al + Bh) (h2 : b + MW = acc + Pz) : Al + Bh = -Pz + b + (MQ + MW) := by omega
theorem lin_c {A l Md Q X A' l' Md' X' : Int} (h1 : A + l + Md = Q + X) (h2 : A' + l' + Md' = Q + X') : (A - A') + (l - l') = (X - X') + (Md' - Md) := by omega
theorem lin_d {Al Bh acc MQ b MW Pz Al' Bh' acc' MQ' MW' Pz' : Int} (h1 : acc + MQ = Al + Bh) (h2 : b + MW = acc + Pz) (h3 : acc' + MQ' = Al' + Bh') (h4 : b + MW' = acc' + Pz') : (Al - Al') + (Bh - Bh') = (Pz' - Pz) + ((MQ - MQ') + (MW - MW')) := by omega
/-- the first turn, as an equation -/
theorem eq_one {h l x : Nat} (e : 8589934592 * h + l = (2870177450012600261 + x * 14029467366897019727) % 18446744073709551616) : ∃ D : Int, 8589934592 * (h : Int) + l + 18446744073709551616 * D = 2870177450012600261 + 14029467366897019727 * (x : Int) := by
  have := modI e
  generalize (2870177450012600261 + x * 14029467366897019727) / 18446744073709551616 = D at this
  refine ⟨(D : Int), ?_⟩
  rw [Int.natCast_add, Int.natCast_add, Int.natCast_mul, Int.natCast_mul] at this
  rw [Int.mul_comm 14029467366897019727]
  exact this
theorem eq_two {h l z b : Nat} (e : b = ((2147483648 * l + h) * 11400714785074694791 % 18446744073709551616 + z * 14029467366897019727) % 18446744073709551616) : ∃ acc Q W : Int, acc + 18446744073709551616 * Q = 24482848576459741522263277568 * (l : Int) + 11400714785074694791 * (h : Int) ∧ (b : Int) + 18446744073709551616 * W = acc + 14029467366897019727 * (z : Int) := by
  have h1 := modI e
  have h2 := modI (r := (2147483648 * l + h) * 11400714785074694791 % 18446744073709551616) rfl
  rw [expP] at h1 h2
  generalize (24482848576459741522263277568 * l + 11400714785074694791 * h) % 18446744073709551616 = R at h1 h2
  generalize (24482848576459741522263277568 * l + 11400714785074694791 * h) / 18446744073709551616 = Q at h2
  generalize (R + z * 14029467366897019727) / 18446744073709551616 = W at h1
  rw [Int.natCast_add, Int.natCast_mul] at h1
  rw [Int.natCast_add, Int.natCast_mul, Int.natCast_mul] at h2
  refine ⟨(R : Int), (Q : Int), (W : Int), h2, ?_⟩
  rw [Int.mul_comm 14029467366897019727]
  exact h1
theorem top_T {a : Nat} (ha : a < 18446744073709551616) (h : (a + 2870177450013471924) % 18446744073709551616 = 18446744073709551615) : a = 15576566623696079691 := by omega
theorem never_top {x z : Nat} (hx : x < 8388608) (hz : z < 8388608) : (hst (hst 2870177450012600261 x) z + 2870177450013471924) % 18446744073709551616 ≠ 18446744073709551615 := by
  intro he
  obtain ⟨h, l, h1, l1, e1, g1⟩ := hst_parts 2870177450012600261 x
  obtain ⟨h', l', h2, l2, e2, g2⟩ := hst_parts (hst 2870177450012600261 x) z
  have t2 : hst (hst 2870177450012600261 x) z = 15576566623696079691 := top_T (hst_lt _ _) he
  have s2 : 2147483648 * l' + h' = 5422089010434233885 := by
    refine mulP (b64 h2 l2) (by decide) ?_
    rw [← g2, t2]
  obtain ⟨ul, uh⟩ := split31 (m := 2524856948) (k := 1065047581) h2 (by decide) s2
  rw [ul, uh, g1] at e2
  obtain ⟨D, d1⟩ := eq_one e1
  obtain ⟨acc, Q, W, d2, d3⟩ := eq_two e2
  have f1 := lin_a d1
  have f2 := lin_b d2 d3
  rw [← Int.mul_neg] at f1
  rw [← Int.mul_neg, ← Int.mul_add] at f2
  exact latt_no f1 f2 (Int.natCast_nonneg x) (Int.ofNat_lt.mpr hx) (Int.natCast_nonneg h) (Int.ofNat_lt.mpr h1) (Int.natCast_nonneg l) (Int.ofNat_lt.mpr l1) (neg_lo hz) (neg_hi z)
theorem dif_lo {a b m : Nat} (hb : b < m) : -(m : Int) < (a : Int) - b := by omega
theorem dif_hi {a b m : Nat} (ha : a < m) : (a : Int) - b < (m : Int) := by omega
/-- pairs of equal hash are equal -/
theorem hst_inj {x z x' z' : Nat} (hx : x < 8388608) (hz : z < 8388608) (hx' : x' < 8388608) (hz' : z' < 8388608) (he : hst (hst 2870177450012600261 x) z = hst (hst 2870177450012600261 x') z') : x = x' ∧ z = z' := by
  obtain ⟨h, l, h1, l1, e1, g1⟩ := hst_parts 2870177450012600261 x
  obtain ⟨h', l', h2, l2, e2, g2⟩ := hst_parts (hst 2870177450012600261 x) z
  obtain ⟨k, m, k1, m1, f1, i1⟩ := hst_parts 2870177450012600261 x'
  obtain ⟨k', m', k2, m2, f2, i2⟩ := hst_parts (hst 2870177450012600261 x') z'
  have s2 : 2147483648 * l' + h' = 2147483648 * m' + k' := mulP (b64 h2 l2) (b64 k2 m2) (by rw [← g2, ← i2, he])
  obtain ⟨ul, uh⟩ := split31 h2 k2 s2
  subst ul uh
  rw [g1] at e2
  rw [i1] at f2
  obtain ⟨D, d1⟩ := eq_one e1
  obtain ⟨D', d1'⟩ := eq_one f1
  obtain ⟨acc, Q, W, d2, d3⟩ := eq_two e2
  obtain ⟨acc', Q', W', d2', d3'⟩ := eq_two f2
  have q1 := lin_c d1 d1'
  have q2 := lin_d d2 d3 d2' d3'
  rw [← Int.mul_sub, ← Int.mul_sub, ← Int.mul_sub] at q1
  rw [← Int.mul_sub, ← Int.mul_sub, ← Int.mul_sub, ← Int.mul_sub, ← Int.mul_sub, ← Int.mul_add] at q2
  obtain ⟨r1, r2⟩ := latt q1 q2 (dif_lo hx') (dif_hi hx) (dif_lo k1) (dif_hi h1) (dif_lo m1) (dif_hi l1) (dif_lo hz) (dif_hi hz')
  exact pair_eq r1 r2
/-! the model's own text, its numbers apart -/
def hstG (M M2 M3 p1 p2 acc : Nat) (h : Int) : Nat := ((acc + (h % (M : Int)).toNat * p2) % M * M2 % M + (acc + (h % (M : Int)).toNat * p2) % M / M3) * p1 % M
def hfinG (M M1 c : Nat) (p6 : Int) (a : Nat) : Int := if ((a + c) % M == M - 1) = true then p6 else if (a + c) % M < M1 then (((a + c) % M : Nat) : Int) else (((a + c) % M : Nat) : Int) - (M : Int)
def hTG (M M1 M2 M3 p1 p2 p3 p5 : Nat) (p6 : Int) (hashes : List Int) : Int :=
  let m : Nat := M
  let prime1 : Nat := p1
  let prime2 : Nat := p2
  let prime5 : Nat := p5
  let acc := hashes.foldl (init := prime5) fun acc h =>
    let acc := (acc + (h % (m : Int)).toNat * prime2) % m
    let acc := (acc * M2) % m + acc / M3
    (acc * prime1) % m
  let acc := (acc + (hashes.length ^^^ (prime5 ^^^ p3))) % m
  if acc == m - 1 then p6 else if acc < M1 then acc else (acc : Int) - m
theorem hTG_pair (M M1 M2 M3 p1 p2 p3 p5 : Nat) (p6 : Int) (a b : Int) : hTG M M1 M2 M3 p1 p2 p3 p5 p6 [a, b] = hfinG M M1 (2 ^^^ (p5 ^^^ p3)) p6 (hstG M M2 M3 p1 p2 (hstG M M2 M3 p1 p2 p5 a) b) := rfl
theorem hashT (l : List Int) : Builtin.Tuple.tupleHashOf l = hTG (2 ^ 64) (2 ^ 63) (2 ^ 31) (2 ^ 33) 11400714785074694791 14029467366897019727 3527539 2870177450012600261 1546275796 l := by
  unfold Builtin.Tuple.tupleHashOf hTG
  rfl
theorem toNat_small (y : Nat) (hy : y < 8388608) : (((y : Int) % ((2 ^ 64 : Nat) : Int)).toNat) = y := by
  have : (y : Int) % ((2 ^ 64 : Nat) : Int) = (y : Int) := Int.emod_eq_of_lt (by omega) (by omega)
  rw [this, Int.toNat_natCast]
theorem hstG_small (acc y : Nat) (hy : y < 8388608) : hstG (2 ^ 64) (2 ^ 31) (2 ^ 33) 11400714785074694791 14029467366897019727 acc (y : Int) = hst acc y := by
  unfold hstG hst
  rw [toNat_small y hy]
def hfin (a : Nat) : Int := hfinG (2 ^ 64) (2 ^ 63) (2 ^^^ (2870177450012600261 ^^^ 3527539)) 1546275796 a
theorem hashOf_pair (x z : Nat) (hx : x < 8388608) (hz : z < 8388608) : Builtin.Tuple.tupleHashOf [(x : Int), (z : Int)] = hfin (hst (hst 2870177450012600261 x) z) := by
  rw [hashT, hTG_pair, hstG_small _ x hx, hstG_small _ z hz]
  unfold hfin
  rfl
theorem fin_arith {u v : Nat} (cu : u < 18446744073709551616) (cv : v < 18446744073709551616) (h : (if u < 9223372036854775808 then (u : Int) else (u : Int) - ((18446744073709551616 : Nat) : Int)) = if v < 9223372036854775808 then (v : Int) else (v : Int) - ((18446744073709551616 : Nat) : Int)) : u = v := by
  split at h <;> split at h <;> omega
theorem hfin_inj {a b : Nat} (ha : a < 18446744073709551616) (hb : b < 18446744073709551616) (na : (a + 2870177450013471924) % 18446744073709551616 ≠ 18446744073709551615) (nb : (b + 2870177450013471924) % 18446744073709551616 ≠ 18446744073709551615) (h : hfin a = hfin b) : a = b := by
  unfold hfin hfinG at h
  rw [show 2 ^^^ (2870177450012600261 ^^^ 3527539) = 2870177450013471924 by decide +kernel, show (2 : Nat) ^ 64 - 1 = 18446744073709551615 by decide +kernel, show (2 : Nat) ^ 64 = 18446744073709551616 by decide +kernel, show (2 : Nat) ^ 63 = 9223372036854775808 by decide +kernel] at h
  have b1 : ((a + 2870177450013471924) % 18446744073709551616 == 18446744073709551615) = false := beq_eq_false_iff_ne.mpr na
  have b2 : ((b + 2870177450013471924) % 18446744073709551616 == 18446744073709551615) = false := beq_eq_false_iff_ne.mpr nb
  rw [b1, b2, if_neg Bool.false_ne_true, if_neg Bool.false_ne_true] at h
  have key := fin_arith (Nat.mod_lt _ (by decide)) (Nat.mod_lt _ (by decide)) h
  clear h na nb b1 b2
  omega
theorem hashOf_inj {x z x' z' : Nat} (hx : x < 8388608) (hz : z < 8388608) (hx' : x' < 8388608) (hz' : z' < 8388608) (he : Builtin.Tuple.tupleHashOf [(x : Int), (z : Int)] = Builtin.Tuple.tupleHashOf [(x' : Int), (z' : Int)]) : x = x' ∧ z = z' := by
  rw [hashOf_pair x z hx hz, hashOf_pair x' z' hx' hz'] at he
  exact hst_inj hx hz hx' hz' (hfin_inj (hst_lt _ _) (hst_lt _ _) (never_top hx hz) (never_top hx' hz') he)
end Kp
end
section
set_option maxHeartbeats 4000000
namespace Kp
open PySem PySem.Spec PyProof.Rows L2 Evl
local macro_rules | `(tactic| walk_at "ht") => `(tactic| first | assumption | solve_by_elim (config := { maxDepth := 12 }))
local macro_rules | `(tactic| walk_at "ev") => `(tactic| repeat' (first
  | exact ea_nil
  | exact ev_var rfl
  | exact ev_n (n := 0) rfl | exact ev_n (n := 1) rfl | exact ev_n (n := 2) rfl
  | exact rv_andN | exact rv_xorN | exact rv_orN | exact rv_addN | exact rv_shrN | (exact rv_mulN (by decide)) | exact rv_eqN | exact rv_neN | exact rv_ltN
  | (refine' rv_ixT (st_of (by walk_at "ht")) (by rfl))
  | walk_at "evx"
  | refine' ev_op ?_ ?_ ?_
  | refine' ea_cons ?_ ?_))
/-! ### the dict of a group -/
def xzK (r : Row) : List Key := [.inl (r.x : Int), .inl (r.z : Int)]
def kvR (r : Row) : List Key × V := (xzK r, nv r.s)
def xzP (r : Row) : Nat × Nat := (r.x, r.z)
theorem xzK_inj {a b : Row} (h : xzK a = xzK b) : xzP a = xzP b := by
  unfold xzK at h
  injection h with h1 h2
  injection h2 with h2 h3
  injection h1 with h1
  injection h2 with h2
  unfold xzP
  rw [Prod.mk.injEq]
  omega
theorem xzK_of {a b : Row} (h : xzP a = xzP b) : xzK a = xzK b := by
  unfold xzP at h
  injection h with h1 h2
  unfold xzK
  rw [h1, h2]
theorem valR_mem {G : List Row} (nd : (G.map xzP).Nodup) {g : Row} (hg : g ∈ G) : valV (G.map kvR) (xzK g) = some (nv g.s) := by
  induction G with
  | nil => simp at hg
  | cons a G ih =>
    rw [List.map_cons, List.nodup_cons] at nd
    rw [List.map_cons]
    rcases List.mem_cons.mp hg with h | h
    · subst h; exact valV_pos rfl
    · have : ¬ (kvR a).1 = xzK g := fun e => nd.1 (by rw [xzK_inj e]; exact List.mem_map_of_mem h)
      rw [valV_neg this]
      exact ih nd.2 h
theorem valR_none {G : List Row} {x : Row} (h : xzP x ∉ G.map xzP) : valV (G.map kvR) (xzK x) = none := by
  induction G with
  | nil => rfl
  | cons a G ih =>
    rw [List.map_cons, List.mem_cons] at h
    have h1 : ¬ xzP x = xzP a := fun e => h (.inl e)
    have : ¬ (kvR a).1 = xzK x := fun e => h1 (xzK_inj e).symm
    rw [List.map_cons, valV_neg this]
    exact ih fun e => h (.inr e)
/-- the tuple hash tells the keys apart -/
theorem hashInt_small (y : Nat) (hy : y < 8388608) : PySem.hashInt (y : Int) = (y : Int) := by
  have e1 : ((((y : Int).natAbs % (2 ^ 61 - 1 : Nat) : Nat)) : Int) = (y : Int) := by
    rw [Int.natAbs_natCast, Nat.mod_eq_of_lt (by omega)]
  have e : PySem.rawHash (y : Int) = (y : Int) := by
    unfold PySem.rawHash
    dsimp only
    rw [if_neg (show ¬ (y : Int) < 0 by omega)]
    have e2 : (((y : Int).natAbs : Int) % ((2 ^ 61 - 1 : Nat) : Int)) = (y : Int) := by exact_mod_cast e1
    rw [e2, if_neg (by simp only [beq_iff_eq]; omega)]
  unfold PySem.hashInt
  rw [e, if_neg (by simp only [beq_iff_eq]; omega)]
theorem fin_val {u : Nat} (cu : u < 18446744073709551616) (nu : u ≠ 18446744073709551615) : PySem.reduceHash (if u < 9223372036854775808 then (u : Int) else (u : Int) - ((18446744073709551616 : Nat) : Int)) = if u < 9223372036854775808 then (u : Int) else (u : Int) - ((18446744073709551616 : Nat) : Int) := by
  have e : ∀ h : Int, -9223372036854775808 ≤ h → h < 9223372036854775808 → h ≠ -1 → PySem.reduceHash h = h := fun h h1 h2 h3 => by
    unfold PySem.reduceHash
    rw [if_pos (by simp only [Bool.and_eq_true, decide_eq_true_eq]; omega), if_neg (by simp only [beq_iff_eq]; exact h3)]
  split
  · exact e _ (by omega) (by omega) (by omega)
  · exact e _ (by omega) (by omega) (by omega)
theorem hash_red {x z : Nat} (hx : x < 8388608) (hz : z < 8388608) : PySem.reduceHash (PySem.Builtin.Tuple.tupleHashOf [(x : Int), (z : Int)]) = PySem.Builtin.Tuple.tupleHashOf [(x : Int), (z : Int)] := by
  rw [hashOf_pair x z hx hz]
  have n1 := never_top hx hz
  unfold hfin hfinG
  rw [show 2 ^^^ (2870177450012600261 ^^^ 3527539) = 2870177450013471924 by decide +kernel, show (2 : Nat) ^ 64 - 1 = 18446744073709551615 by decide +kernel, show (2 : Nat) ^ 64 = 18446744073709551616 by decide +kernel, show (2 : Nat) ^ 63 = 9223372036854775808 by decide +kernel]
  have b1 : ((hst (hst 2870177450012600261 x) z + 2870177450013471924) % 18446744073709551616 == 18446744073709551615) = false := beq_eq_false_iff_ne.mpr n1
  rw [b1, if_neg Bool.false_ne_true]
  exact fin_val (Nat.mod_lt _ (by decide)) n1
theorem rw23 {n : Nat} (hn : n ≤ 23) {r : Row} (h : Rw n r) : r.x < 8388608 ∧ r.z < 8388608 := by
  have e : 2 ^ n ≤ 8388608 := Nat.le_trans (Nat.pow_le_pow_right (by decide) hn) (by decide)
  exact ⟨Nat.lt_of_lt_of_le h.x e, Nat.lt_of_lt_of_le h.z e⟩
theorem tkh {P : Program} {w : World} (ks : List Key) : tupleKeyHash (mixKind P w) ks = PySem.reduceHash (PySem.Builtin.Tuple.tupleHashOf (ks.map (keyH w))) := rfl
theorem hash_key {P : Program} {w : World} {r : Row} (hx : r.x < 8388608) (hz : r.z < 8388608) : tupleKeyHash (mixKind P w) (xzK r) = PySem.Builtin.Tuple.tupleHashOf [(r.x : Int), (r.z : Int)] := by
  rw [tkh]
  have e : (xzK r).map (keyH w) = [(r.x : Int), (r.z : Int)] := by
    unfold xzK
    rw [List.map_cons, List.map_cons, List.map_nil]
    show [PySem.hashInt (r.x : Int), PySem.hashInt (r.z : Int)] = _
    rw [hashInt_small _ hx, hashInt_small _ hz]
  rw [e, hash_red hx hz]
theorem nodup_keys {α : Type} (f : List Key → α) : ∀ {G : List Row}, (∀ a ∈ G, ∀ b ∈ G, f (xzK a) = f (xzK b) → xzP a = xzP b) → (G.map xzP).Nodup → (((G.map kvR).map (·.1)).map f).Nodup
  | [], _, _ => .nil
  | a :: G, hf, nd => by
    rw [List.map_cons, List.nodup_cons] at nd
    rw [List.map_cons, List.map_cons, List.map_cons, List.nodup_cons]
    refine ⟨fun hm => ?_, nodup_keys f (fun x hx y hy => hf x (List.mem_cons_of_mem _ hx) y (List.mem_cons_of_mem _ hy)) nd.2⟩
    obtain ⟨k, hk, e⟩ := List.mem_map.mp hm
    obtain ⟨v, hv, rfl⟩ := List.mem_map.mp hk
    obtain ⟨b, hb, rfl⟩ := List.mem_map.mp hv
    exact nd.1 (List.mem_map.mpr ⟨b, hb, hf b (List.mem_cons_of_mem _ hb) a List.mem_cons_self e⟩)
theorem key_inj {P : Program} {w : World} {n : Nat} (hn : n ≤ 23) {a b : Row} (ha : Rw n a) (hb : Rw n b) (e : tupleKeyHash (mixKind P w) (xzK a) = tupleKeyHash (mixKind P w) (xzK b)) : xzP a = xzP b := by
  have ra := rw23 hn ha
  have rb := rw23 hn hb
  rw [hash_key ra.1 ra.2, hash_key rb.1 rb.2] at e
  have := hashOf_inj ra.1 ra.2 rb.1 rb.2 e
  unfold xzP
  rw [this.1, this.2]
theorem hash_rows {n : Nat} (hn : n ≤ 23) {G : List Row} (hr : ∀ r ∈ G, Rw n r) (nd : (G.map xzP).Nodup) : HashOk ((G.map kvR).map (·.1)) := fun P w =>
  nodup_keys (tupleKeyHash (mixKind P w)) (fun a ha b hb e => key_inj hn (hr a ha) (hr b hb) e) nd
section
variable {P : Program} {w : World} {K : PySem.W.Frag} {mg : Str → Option Value} {base : Heap}
section
variable {σ : L2.St} {H H' : Hp} {ta tb tc td tk to tl tv tx th : TE} {x y z v : V} {D : Ends} {tz tu : TS} {g : TG} {d : Addr} {kvs : List (List Key × V)} {r : Row}
theorem ev_dgetT (hd : Ev td σ H (.ref d)) (hk : EvU tk σ H ([r.x, r.z].map nv)) (hR : ∀ H', Ex H H' → L2.Rd H' d (.dT kvs)) (hv : valV kvs (xzK r) = some v) : Ev (tDGet td tk) σ H v := fun H1 e Q k => by
  unfold tDGet
  refine hd H1 e _ fun H2 e2 => hk H2 (e.trans e2) _ fun q H3 nq e3 hq => ?_
  refine ⟨d, v, rfl, .inr ⟨kvs, xzK r, q, hR H3 ((e.trans e2).trans e3), rfl, hq, hv.symm⟩, k H3 (e2.trans e3)⟩
theorem rd_ex {o : HO} (h : L2.Rd H d o) : ∀ H', Ex H H' → L2.Rd H' d o := fun H' e => h.imp (fun q => e _ _ q) fun ⟨o', q⟩ => ⟨o', e _ _ q⟩
theorem et_dinT (hk : EvU tk σ H ([r.x, r.z].map nv)) (hd : Ev td σ H (.ref d)) (h : L2.Rd H d (.dT kvs)) : EvT (tB (tDIn tk td)) σ H (valV kvs (xzK r)).isSome := fun H1 e Q k => by
  unfold tB tDIn
  refine hk H1 e _ fun q H2 nq e2 hq => hd H2 (e.trans e2) _ fun H3 e3 => ?_
  exact ⟨d, _, rfl, .inr ⟨kvs, xzK r, q, rd_ex h H3 ((e.trans e2).trans e3), rfl, e3 _ _ hq, rfl⟩, _, rfl, k H3 (e2.trans e3)⟩
/-- d[x, z] = s -/
theorem s_dputT {s : Nat} (hv : Ev tv σ H (nv s)) (hd : Ev td σ H (.ref d)) (hk : EvU tk σ H ([r.x, r.z].map nv)) (h : H d = some (.dT kvs)) (hl : kvs.length < 1000000) (kk : ∀ Hf, ExB d H Hf → Hf d = some (.dT (putK kvs (xzK r) (nv s))) → D.nx σ Hf) : sDPut td tk tv D σ H := by
  unfold sDPut
  refine hv H (Ex.refl _) _ fun H1 e1 => hd H1 e1 _ fun H2 e2 => hk H2 (e1.trans e2) _ fun q H3 nq e3 hq => ?_
  have e := (e1.trans e2).trans e3
  exact ⟨d, _, rfl, .inr ⟨kvs, xzK r, q, e _ _ h, rfl, hq, by rw [sizeLine_eq]; omega, rfl⟩, kk _ ((ExB.of e).trans ExB.upd) upd_same⟩
theorem evp_product1 {te tf : TE} {v2 : V} {n : Nat} {a b : Row} {E : XK} (h : EvP te σ H (fun v H' => IsRow H' v a)) (h' : Ev tf σ H v2) (r' : IsRow H v2 b) (hn : n ≤ 64) (ra : Rw n a) (rb : Rw n b) :
    EvP (tCall sp_law_product [] E (tCons te (tCons tf tNil))) σ H (fun v H' => IsRow H' v (mul a b)) := fun H1 e Q k => by
  unfold tCall tCons tNil
  refine h H1 e _ fun v1 H2 e2 hv => h' H2 (e.trans e2) _ fun H3 e3 => ?_
  exact ⟨v1, v2, n, a, b, rfl, hv.ex e3, r'.ex ((e.trans e2).trans e3), hn, ra, rb, fun v H' e' q => k v H' ((e2.trans e3).trans e') q⟩
end
theorem nodup_at {α : Type} {l : List α} (nd : l.Nodup) {i : Nat} {x : α} (h : l[i]? = some x) : x ∉ l.take i := by
  intro hx
  obtain ⟨j, hj⟩ := List.mem_iff_getElem?.mp hx
  have hji : j < i := by
    have := (List.getElem?_eq_some_iff.mp hj).1
    rw [List.length_take] at this
    omega
  rw [List.getElem?_take_of_lt hji] at hj
  obtain ⟨g1, g2⟩ := List.getElem?_eq_some_iff.mp h
  obtain ⟨g3, g4⟩ := List.getElem?_eq_some_iff.mp hj
  exact List.pairwise_iff_getElem.mp nd j i g3 g1 hji (g4.trans g2.symm)
/-! ### _law_joined -/
def joinR (G : List Row) (r : Row) : List Row := G ++ G.map fun g => mul g r
def sp_law_joined (K : PySem.W.Frag) : L2.Sp := fun vs H Q _ => ∃ (a : Addr) (v2 : V) (n : Nat) (G : List Row) (r : Row), vs = [.ref a, v2] ∧ H a = some (.dT (G.map kvR)) ∧ IsRow H v2 r ∧ n ≤ 23 ∧ (∀ g ∈ G, Rw n g) ∧ Rw n r ∧ ((joinR G r).map xzP).Nodup ∧ G.length ≤ 100000 ∧
  ∀ q H', Ex H H' → H q = none → H' q = some (.dT ((joinR G r).map kvR)) → Q (.ref q) H'
abbrev N_law_joined : List Str := ["_law_group_here", "_law_string", "_law_found", "_law_x", "_law_z", "_law_whole"]
theorem sc_law_joined : FnScope N_law_joined ["_law_group_here", "_law_string"] (defScope s_law_joined) := ⟨rfl, rfl, rfl, by decide +kernel, rfl, by decide +kernel, by decide +kernel⟩
theorem o_law_joined (T : Tx K mg) : OkF P w K mg base CX0 3 "_law_joined" ["_law_group_here", "_law_string"] (sp_law_joined K) := by
  have o_law_product : OkF P w K mg base CX0 2 "_law_product" ["_law_one", "_law_two"] sp_law_product := o_law_product T
  refine okf T d_law_joined "_law_joined" 44 35 rfl rfl rfl sc_law_joined (fun vs H Q E h => ?_) (fun _ _ _ _ _ _ us hl => match us, hl with | [_, _], _ => rfl) (fun f cdv A outer s H vs Q E hr h => ?_)
  · (obtain ⟨_, _, _, _, _, rfl, _⟩ := h; rfl)
  obtain ⟨a, v2, n, G, r, rfl, ha, hr2, hn, hG, hrw, hnd, hlen, k⟩ := h
  refine ⟨_, (pss_cons (ps_set (i := 2) sc_law_joined.nd rfl (Or.inl rfl) (pe_callTy (call_dictT hr.units) (by rfl) T.m_dict (by decide +kernel) (pa_cons (pv 0) pa_nil)))
      (pss_cons (ps_lock (ps_for PassesOwn.never rfl (pi_keys (pv 0)) (pg_tup rfl (pgs_cons (pg_name (i := 3) sc_law_joined.nd rfl (Or.inl rfl)) (pgs_cons (pg_name (i := 4) sc_law_joined.nd rfl (Or.inl rfl)) pgs_nil)))
        (pss_cons (ps_set (i := 5) sc_law_joined.nd rfl (Or.inl rfl) (pe_cl o_law_product (hr.mono (by decide)) (by rfl) pass0 (pa_cons (pe_tup (pa_cons (pv 3) (pa_cons (pv 4) (pa_cons (pe_dget (hu_ hr) (pv 0) (pe_tup (pa_cons (pv 3) (pa_cons (pv 4) pa_nil))) (fun _ _ => rfl)) pa_nil)))) (pa_cons (pv 1) pa_nil))))
        (pss_one (ps_dput (hu_ hr) (pv 2) (pe_tup (pa_cons (pe_ix (ix_tupK K) (pv 5) pe_int (fun _ _ => rfl)) (pa_cons (pe_ix (ix_tupK K) (pv 5) pe_int (fun _ _ => rfl)) pa_nil))) (pe_ix (ix_tupK K) (pv 5) pe_int (fun _ _ => rfl)) rfl)))))
      (pss_one (ps_ret (pv 2))))), ?_⟩
  have ndG : (G.map xzP).Nodup := by
    unfold joinR at hnd
    rw [List.map_append] at hnd
    exact (List.nodup_append.mp hnd).1
  have hho : HashOk ((G.map kvR).map (·.1)) := hash_rows hn hG ndG
  refine q_asgP (P := fun v H' => ∃ q, v = .ref q ∧ H q = none ∧ H' q = some (.dT (G.map kvR))) (fun H1 e1 Q kk => ?_) fun v H1 e1 ⟨q, ev, nq, hq⟩ => ?_
  · unfold tCB
    refine (ea_cons (ev_var rfl) ea_nil : EvA (tCons (tVar 0) tNil) _ H1 [.ref a]) H1 (Ex.refl _) _ fun H2 e2 => ?_
    refine ⟨a, _, rfl, (e1.trans e2) _ _ ha, hho, fun p np => ?_⟩
    exact kk _ _ (e2.trans (Ex.new np)) ⟨p, rfl, fresh_back (e1.trans e2) np, upd_same⟩
  subst ev
  have aq : a ≠ q := by rintro rfl; rw [ha] at nq; cases nq
  have e1a := e1 _ _ ha
  refine ⟨a, .dT (G.map kvR), e1a, True.intro, fun od => ?_⟩
  unfold tFor iKeys
  refine (ev_var rfl : Ev (tVar 0) _ (upd H1 a (.frz od (.dT (G.map kvR)))) (.ref a)) _ (Ex.refl _) _ fun H2 e2 => ⟨a, od, rfl, .inr ⟨G.map kvR, e2 _ _ upd_same, ?_⟩⟩
  refine for_it (walk_keysT (d := a) (o := od) (kvs := G.map kvR)) (fun i σ' H' => ∃ y3 y4 y5, σ' = [some (.ref a), some v2, some (.ref q), y3, y4, y5] ∧ H' a = some (.frz od (.dT (G.map kvR))) ∧ H' q = some (.dT ((G ++ (G.take i).map fun g => mul g r).map kvR)) ∧ IsRow H' v2 r ∧ ∀ b o, b ≠ a → b ≠ q → H b = some o → H' b = some o)
    ⟨_, _, _, rfl, e2 _ _ upd_same, by
      rw [List.take_zero, List.map_nil, List.append_nil]
      exact e2 _ _ (by rw [upd_ne (Ne.symm aq)]; exact hq), ?_, fun b o hb _ ho => e2 _ _ (by rw [upd_ne hb]; exact e1 _ _ ho)⟩ (fun i σ' H' _ ⟨_, _, _, _, h, _⟩ => h) ?_ ?_
  · obtain ⟨p2, rfl, h2⟩ := hr2
    exact ⟨p2, rfl, e2 _ _ (by rw [upd_ne (by rintro rfl; rw [ha] at h2; cases h2)]; exact e1 _ _ h2)⟩
  · rintro i x σ' Ha Hb hi ⟨y3, y4, y5, rfl, haa, hqa, hra, hka⟩ ⟨rfl, key, val, kq, hkv, rfl, hkq⟩
    rw [List.getElem?_map] at hkv
    cases hg : G[i]? with
    | none => rw [hg] at hkv; cases hkv
    | some g =>
      rw [hg] at hkv
      have e3 := Option.some.inj hkv
      unfold kvR at e3
      injection e3 with e3 e4
      subst e3 e4
      have hgm := List.mem_of_getElem? hg
      refine ⟨kq, [nv g.x, nv g.z], rfl, st_of hkq, rfl, _, _, rfl, _, _, rfl, rfl, ?_⟩
      refine q_asgP (evp_product1 (a := g) (b := r) (n := n) (evp_row (a := g.x) (b := g.z) (c := g.s) (ea_cons (ev_var rfl) (ea_cons (ev_var rfl) (ea_cons (ev_dgetT (r := g) (kvs := G.map kvR) (ev_var rfl) (eu_tup (ea_cons (ev_var rfl) (ea_cons (ev_var rfl) ea_nil)) (by show 2 ≤ 100000; decide)) (fun H' e => .inr ⟨od, e _ _ haa⟩) (valR_mem ndG hgm)) ea_nil)))) (ev_var rfl) hra (by omega) (hG g hgm) hrw) fun v Hc ec hv => ?_
      have hqc := ec _ _ hqa
      have hnew : xzP (mul g r) ∉ (G ++ (G.take i).map fun g => mul g r).map xzP := by
        have h1 : ((joinR G r).map xzP)[G.length + i]? = some (xzP (mul g r)) := by
          unfold joinR
          rw [List.getElem?_map, List.getElem?_append_right (by omega), show G.length + i - G.length = i by omega, List.getElem?_map, hg]; rfl
        have h2 := nodup_at hnd h1
        have h3 : ((joinR G r).map xzP).take (G.length + i) = (G ++ (G.take i).map fun g => mul g r).map xzP := by
          unfold joinR
          rw [← List.map_take, List.take_length_add_append, List.map_take]
        rw [h3] at h2
        exact h2
      refine s_dputT (s := (mul g r).s) (r := mul g r) (ev_sgn (te := tVar 5) (ev_var rfl) hv) (ev_var rfl) (eu_xz (te := tVar 5) (te' := tVar 5) (ev_var rfl) (ev_var rfl) hv) hqc (by rw [List.length_map, List.length_append, List.length_map, List.length_take]; omega) fun Hf bf hf => ?_
      rw [putK_new _ (valR_none hnew)] at hf
      have kf : ∀ b o, b ≠ q → Hb b = some o → Hf b = some o := fun b o hb ho => bf _ _ hb (ec _ _ ho)
      obtain ⟨p2, rfl, h2⟩ := hra
      refine ⟨_, _, _, rfl, kf _ _ aq haa, ?_, ⟨p2, rfl, kf _ _ (by rintro rfl; rw [hqa] at h2; cases h2) h2⟩, fun b o hb hbq ho => kf _ _ hbq (hka b o hb hbq ho)⟩
      rw [hf, take_succ_of hg]
      simp only [List.map_append, List.map_cons, List.map_nil, List.append_assoc]
      rfl
  · rintro σ' H3 ⟨y3, y4, y5, rfl, h3a, h3q, h3r, h3k⟩
    refine ⟨h3a, ?_⟩
    rw [List.length_map, List.take_length] at h3q
    have hx : Ex H (upd H3 a (.dT (G.map kvR))) := fun b o ho => by
      by_cases hb : b = a
      · subst hb
        rw [upd_same, ← ho, ha]
      · rw [upd_ne hb]
        exact h3k b o hb (by rintro rfl; rw [nq] at ho; cases ho) ho
    exact s_ret (ev_var rfl) fun H4 e4 => k q H4 (hx.trans e4) nq (e4 _ _ (by rw [upd_ne (Ne.symm aq)]; exact h3q))
end
end Kp
end
section
set_option maxHeartbeats 4000000
namespace Kp
open PySem PySem.Spec PyProof.Rows L2 Evl
local macro_rules | `(tactic| walk_at "ht") => `(tactic| first | assumption | solve_by_elim (config := { maxDepth := 12 }))
local macro_rules | `(tactic| walk_at "ev") => `(tactic| repeat' (first
  | exact ea_nil
  | exact ev_var rfl
  | exact ev_n (n := 0) rfl | exact ev_n (n := 1) rfl | exact ev_n (n := 2) rfl
  | exact rv_andN | exact rv_xorN | exact rv_orN | exact rv_addN | exact rv_shrN | (exact rv_mulN (by decide)) | exact rv_eqN | exact rv_neN | exact rv_ltN
  | (refine' rv_ixT (st_of (by walk_at "ht")) (by rfl))
  | walk_at "evx"
  | refine' ev_op ?_ ?_ ?_
  | refine' ea_cons ?_ ?_))
inductive GrpD : List Row → List Row → Option (List Row) → Prop where
  | nil {G} : GrpD G [] (some G)
  | same {G r rs o g} : g ∈ G → xzP g = xzP r → g.s = r.s → GrpD G rs o → GrpD G (r :: rs) o
  | diff {G r rs g} : g ∈ G → xzP g = xzP r → g.s ≠ r.s → GrpD G (r :: rs) none
  | join {G r rs o} : xzP r ∉ G.map xzP → ((joinR G r).map xzP).Nodup → G.length ≤ 100000 → GrpD (joinR G r) rs o → GrpD G (r :: rs) o
section
variable {P : Program} {w : World} {K : PySem.W.Frag} {mg : Str → Option Value} {base : Heap}
section
variable {σ : L2.St} {H H' : Hp} {ta tb tc td tk to tl tv tx th : TE} {x y z v : V} {D : Ends} {tz tu : TS} {g : TG} {d : Addr} {kvs : List (List Key × V)} {r : Row}
theorem evp_dispT {k : List Key} (hk : ∀ H1, EvU tk σ H1 (k.map kV)) (hv : ∀ H1, Ev tv σ H1 v) : EvP (tDispT tk tv) σ H (fun x H' => ∃ q, x = .ref q ∧ H q = none ∧ H' q = some (.dT [(k, v)])) := fun H1 e Q kk => by
  intro p np
  refine hk _ _ (Ex.refl _) _ fun q H2 nq e2 hq => hv H2 H2 (Ex.refl _) _ fun H3 e3 => ⟨?_, q, k, rfl, e3 _ _ hq, ?_⟩
  · exact (e2.trans e3) _ _ upd_same
  · refine kk _ _ (fun b o hb => ?_) ⟨p, rfl, fresh_back e np, upd_same⟩
    have : b ≠ p := by rintro rfl; rw [np] at hb; cases hb
    rw [upd_ne this]
    exact ((Ex.new np).trans (e2.trans e3)) _ _ hb
theorem evp_law_joined {a : Addr} {n : Nat} {G : List Row} {r : Row} {E : XK} {v2 : V} (h1 : Ev ta σ H (.ref a)) (h2 : Ev tb σ H v2) (hG : H a = some (.dT (G.map kvR))) (hr : IsRow H v2 r) (hn : n ≤ 23) (hR : ∀ g ∈ G, Rw n g) (hw : Rw n r) (nd : ((joinR G r).map xzP).Nodup) (hl : G.length ≤ 100000) :
    EvP (tCall (sp_law_joined K) [] E (tCons ta (tCons tb tNil))) σ H (fun v H' => ∃ q, v = .ref q ∧ H q = none ∧ H' q = some (.dT ((joinR G r).map kvR))) := fun H1 e Q k => by
  unfold tCall
  refine (ea_cons h1 (ea_cons h2 ea_nil) : EvA (tCons ta (tCons tb tNil)) σ H _) H1 e _ fun H2 e2 => ?_
  exact ⟨a, v2, n, G, r, rfl, (e.trans e2) _ _ hG, hr.ex (e.trans e2), hn, hR, hw, nd, hl, fun q H' e' nq hq => k _ H' (e2.trans e') ⟨q, rfl, fresh_back (e.trans e2) nq, hq⟩⟩
theorem joinR_rw {n : Nat} {G : List Row} {r : Row} (hG : ∀ g ∈ G, Rw n g) (hr : Rw n r) : ∀ g ∈ joinR G r, Rw n g := by
  intro g hg
  unfold joinR at hg
  rcases List.mem_append.mp hg with h | h
  · exact hG g h
  · obtain ⟨g', h1, rfl⟩ := List.mem_map.mp h
    exact (hG g' h1).mul hr
end
/-! ### _law_group -/
def sp_law_group : L2.Sp := fun vs H Q _ => ∃ (a : Addr) (xs : List V) (n : Nat) (L : List Row) (o : Option (List Row)), vs = [.ref a] ∧ H a = some (.lst xs) ∧ Rows H xs L ∧ n ≤ 23 ∧ (∀ r ∈ L, Rw n r) ∧ GrpD [rw0] L o ∧
  (∀ q H' G, Ex H H' → o = some G → (∀ r ∈ G, Rw n r) → (G.map xzP).Nodup → H q = none → H' q = some (.dT (G.map kvR)) → Q (.ref q) H') ∧ (∀ H', Ex H H' → o = none → Q .non H')
abbrev N_law_group : List Str := ["_law_strings_here", "_law_group_here", "_law_string"]
theorem sc_law_group : FnScope N_law_group ["_law_strings_here"] (defScope s_law_group) := ⟨rfl, rfl, rfl, by decide +kernel, rfl, by decide +kernel, by decide +kernel⟩
theorem o_law_group (T : Tx K mg) : OkF P w K mg base CX0 4 "_law_group" ["_law_strings_here"] sp_law_group := by
  have o_law_joined : OkF P w K mg base CX0 3 "_law_joined" ["_law_group_here", "_law_string"] (sp_law_joined K) := o_law_joined T
  refine okf T d_law_group "_law_group" 43 34 rfl rfl rfl sc_law_group (fun vs H Q E h => ?_) (fun _ _ _ _ _ _ us hl => match us, hl with | [_], _ => rfl) (fun f cdv A outer s H vs Q E hr h => ?_)
  · (obtain ⟨_, _, _, _, _, rfl, _⟩ := h; rfl)
  obtain ⟨a, xs, n, L, o, rfl, ha, hxs, hn, hL, hG, k1, k2⟩ := h
  refine ⟨_, (pss_cons (ps_set (i := 1) sc_law_group.nd rfl (Or.inl rfl) (pe_dispT hr.units (pe_tup (pa_cons pe_int (pa_cons pe_int pa_nil))) pe_int))
      (pss_cons (ps_for PassesOwn.never rfl (pi_listK K (pv 0)) (pg_name (i := 2) sc_law_group.nd rfl (Or.inl rfl))
        (pss_cons (ps_if (pt_cmp (pc_din (hu_ hr) (pe_tup (pa_cons (pe_ix (ix_tupK K) (pv 2) pe_int (fun _ _ => rfl)) (pa_cons (pe_ix (ix_tupK K) (pv 2) pe_int (fun _ _ => rfl)) pa_nil))) (pv 1))) (pss_cons (ps_if (pt_cmpR op_ne (pe_dget (hu_ hr) (pv 1) (pe_tup (pa_cons (pe_ix (ix_tupK K) (pv 2) pe_int (fun _ _ => rfl)) (pa_cons (pe_ix (ix_tupK K) (pv 2) pe_int (fun _ _ => rfl)) pa_nil))) (fun _ _ => rfl)) (pe_ix (ix_tupK K) (pv 2) pe_int (fun _ _ => rfl)) (nomark _)) (pss_one (ps_ret pe_non)) pss_nil)
          (pss_one ps_continue)) pss_nil)
        (pss_one (ps_set (i := 1) sc_law_group.nd rfl (Or.inl rfl) (pe_cl o_law_joined (hr.mono (by decide)) (by rfl) pass0 (pa_cons (pv 1) (pa_cons (pv 2) pa_nil)))))))
      (pss_one (ps_ret (pv 1))))), ?_⟩
  refine q_asgP (evp_dispT (k := xzK rw0) (v := nv 0) (fun H1 => eu_tup (ea_cons (ev_n (n := 0) rfl) (ea_cons (ev_n (n := 0) rfl) ea_nil)) (by show 2 ≤ 100000; decide)) fun H1 => ev_n (n := 0) rfl) fun v H1 e1 ⟨q, ev, nq, hq⟩ => ?_
  subst ev
  refine q_forG (wg_list (ev_var rfl) (sq_of (e1 _ _ ha))) (fun i σ' H' => ∃ q G y2, σ' = [some (.ref a), some (.ref q), y2] ∧ Ex H H' ∧ H q = none ∧ H' q = some (.dT (G.map kvR)) ∧ (∀ r ∈ G, Rw n r) ∧ (G.map xzP).Nodup ∧ GrpD G (L.drop i) o)
    (fun H2 e2 => ⟨q, [rw0], _, rfl, e1.trans e2, nq, e2 _ _ hq, by simp only [List.mem_singleton, forall_eq]; exact Rw.id n, by simp, hG⟩) (fun i σ' H' _ ⟨_, _, _, _, e, _⟩ => sq_of (e _ _ ha)) ?_ ?_
  · rintro i x σ' Ha Hb hi ⟨q, G, y2, rfl, ea, nq, hq, hGr, nd, hD⟩ ⟨rfl, hx⟩
    obtain ⟨r, hr1, hr2⟩ := paired_at (Rows.kx (.of ea) hxs) hx
    have hrm := List.mem_of_getElem? hr1
    have hdr : L.drop i = r :: L.drop (i + 1) := by
      obtain ⟨g1, g2⟩ := List.getElem?_eq_some_iff.mp hr1
      rw [List.drop_eq_getElem_cons g1, g2]
    rw [hdr] at hD
    refine q_when (b := (valV (G.map kvR) (xzK r)).isSome) (et_dinT (eu_xz (te := tVar 2) (te' := tVar 2) (ev_var rfl) (ev_var rfl) hr2) (ev_var rfl) (.inl hq)) (fun hs H2 e2 => ?_) fun hs H2 e2 => ?_
    · have hr2' := hr2.ex e2
      have hex : ∃ g ∈ G, xzP g = xzP r := Classical.byContradiction fun hne => by
        rw [valR_none (fun hm => hne (by obtain ⟨g, h1, h2⟩ := List.mem_map.mp hm; exact ⟨g, h1, h2⟩))] at hs
        cases hs
      obtain ⟨g, hg, hgr⟩ := hex
      have hval : valV (G.map kvR) (xzK r) = some (nv g.s) := by rw [← xzK_of hgr]; exact valR_mem nd hg
      refine q_when (b := !decide (g.s = r.s)) (et_test (ev_op (ev_dgetT (r := r) (kvs := G.map kvR) (ev_var rfl) (eu_xz (te := tVar 2) (te' := tVar 2) (ev_var rfl) (ev_var rfl) hr2') (fun H' e => .inl ((e2.trans e) _ _ hq)) hval) (ev_sgn (te := tVar 2) (ev_var rfl) hr2') rv_neN)) (fun hn H3 e3 => ?_) fun hn H3 e3 => ?_
      · have hne : g.s ≠ r.s := by simpa using hn
        have ho : o = none := by
          cases hD with
          | same h1 h2 h3 _ => exact absurd (by have := valR_mem nd h1; rw [xzK_of h2, ← xzK_of hgr, valR_mem nd hg] at this; have h5 := Option.some.inj this; injection h5 with h5; omega) hne
          | diff h1 h2 h3 => rfl
          | join h1 _ _ _ => exact absurd (List.mem_map.mpr ⟨g, hg, hgr⟩) h1
        exact s_ret ev_c fun H4 e4 => k2 H4 (ea.trans ((e2.trans e3).trans e4)) ho
      · have heq : g.s = r.s := by simpa using hn
        have hD' : GrpD G (L.drop (i + 1)) o := by
          cases hD with
          | same _ _ _ h => exact h
          | diff h1 h2 h3 => exact absurd (by have := valR_mem nd h1; rw [xzK_of h2, ← xzK_of hgr, valR_mem nd hg] at this; have h5 := Option.some.inj this; injection h5 with h5; omega) h3
          | join h1 _ _ _ => exact absurd (List.mem_map.mpr ⟨g, hg, hgr⟩) h1
        exact ⟨q, G, _, rfl, ea.trans (e2.trans e3), nq, (e2.trans e3) _ _ hq, hGr, nd, hD'⟩
    · have hnm : xzP r ∉ G.map xzP := fun hm => by
        obtain ⟨g, h1, h2⟩ := List.mem_map.mp hm
        rw [← xzK_of h2, valR_mem nd h1] at hs
        cases hs
      have hJ : ((joinR G r).map xzP).Nodup ∧ G.length ≤ 100000 ∧ GrpD (joinR G r) (L.drop (i + 1)) o := by
        cases hD with
        | same h1 h2 _ _ => exact absurd (List.mem_map.mpr ⟨_, h1, h2⟩) hnm
        | diff h1 h2 _ => exact absurd (List.mem_map.mpr ⟨_, h1, h2⟩) hnm
        | join _ h2 h3 h4 => exact ⟨h2, h3, h4⟩
      refine s_asgP (evp_law_joined (ev_var rfl) (ev_var rfl) (e2 _ _ hq) (hr2.ex e2) hn hGr (hL r hrm) hJ.1 hJ.2.1) fun v H3 e3 ⟨q', ev, nq', hq'⟩ => ?_
      subst ev
      exact ⟨q', _, _, rfl, ea.trans (e2.trans e3), fresh_back (ea.trans e2) nq', hq', joinR_rw hGr (hL r hrm), hJ.1, hJ.2.2⟩
  · rintro σ' H3 ⟨q, G, y2, rfl, e3, nq, hq, hGr, nd, hD⟩
    rw [show L.drop xs.length = [] by rw [paired_len hxs]; exact List.drop_length] at hD
    cases hD
    exact s_ret (ev_var rfl) fun H4 e4 => k1 q H4 G (e3.trans e4) rfl hGr nd nq (e4 _ _ hq)
end
end Kp
end
section
set_option maxHeartbeats 4000000
namespace Kp
open PySem PySem.Spec PyProof.Rows L2 Evl
local macro_rules | `(tactic| walk_at "ht") => `(tactic| first | assumption | solve_by_elim (config := { maxDepth := 12 }))
local macro_rules | `(tactic| walk_at "ev") => `(tactic| repeat' (first
  | exact ea_nil
  | exact ev_var rfl
  | exact ev_n (n := 0) rfl | exact ev_n (n := 1) rfl | exact ev_n (n := 2) rfl
  | exact rv_andN | exact rv_xorN | exact rv_orN | exact rv_addN | exact rv_shrN | (exact rv_mulN (by decide)) | exact rv_eqN | exact rv_neN | exact rv_ltN
  | (refine' rv_ixT (st_of (by walk_at "ht")) (by rfl))
  | walk_at "evx"
  | refine' ev_op ?_ ?_ ?_
  | refine' ea_cons ?_ ?_))
section
variable {P : Program} {w : World} {K : PySem.W.Frag} {mg : Str → Option Value} {base : Heap}
theorem ev_isiC {σ : L2.St} {H : Hp} {ta tb : TE} {a C dx : Addr} {fs : List (Str × V)} (c : C8.InsC K C) (ha : Ev ta σ H (.ref a)) (hb : Ev tb σ H (.ref C)) (h : H a = some (.ins C dx fs)) : Ev (tCB (rIsi K) (tCons ta (tCons tb tNil))) σ H (.bl true) :=
  ev_isi ha hb (.own C) (fun H1 e => .base (TyOf.ins (e _ _ h) c.cl c.ha c.hn c.htk c.hm)) c.me
/-! ### Pauli.__eq__ -/
def sp_PauliEq (K : PySem.W.Frag) : L2.Sp := fun vs H Q _ => ∃ (v1 v2 : V) (p : List Nat × Nat), vs = [v1, v2] ∧ IsPau K H v1 p ∧ IsPau K H v2 p ∧ p.1.length ≤ 100000 ∧ ∀ H', Ex H H' → Q (.bl true) H'
abbrev N_PauliEq : List Str := ["self", "other"]
theorem sc_PauliEq : FnScope N_PauliEq ["self", "other"] (defScope s_PauliEq) := ⟨rfl, rfl, rfl, by decide +kernel, rfl, by decide +kernel, by decide +kernel⟩
theorem o_PauliEq (T : Tx K mg) : OkM P w K mg base CX0 5 (He.fAd K d_PauliEq.at_) ["self", "other"] (sp_PauliEq K) := by
  refine okm0 T d_PauliEq 15 rfl sc_PauliEq (fun vs H Q E h => ?_) (fun _ _ _ _ _ _ us hl => match us, hl with | [_, _], _ => rfl) (fun f cdv A outer s H vs Q E hr h => ?_)
  · (obtain ⟨_, _, _, rfl, _⟩ := h; rfl)
  obtain ⟨v1, v2, p, rfl, h1, h2, hl, k⟩ := h
  refine ⟨_, (pss_one (ps_ret (pe_and (pe_callB (call_isiU K) (by rfl) T.m_isinstance (by decide +kernel) (pa_cons (pv 1) (pa_cons (pe_glob (v := .ref (He.ga K "Pauli")) (by rfl) (T.glo "Pauli" (List.mem_of_getElem? (i := 54) rfl)) rfl) pa_nil))) (pe_and (pe_cmpR op_eq (pe_fldK K (pv 0)) (pe_fldK K (pv 1)) (nomark _)) (pe_one (pe_cmpR op_eq (pe_fldK K (pv 0)) (pe_fldK K (pv 1)) (nomark _))))))), ?_⟩
  obtain ⟨a, dx, wt, rfl, ha⟩ := id h2
  refine s_ret (v := .bl true) ?_ fun H1 e1 => k H1 e1
  refine ev_is (v := .bl (true && (true && true))) (ev_andV (ev_isiC T.ef.insP (ev_var rfl) ev_c ha) fun _ => ev_andV (ev_is (ev_op (ev_pauLet T (ev_var rfl) h1) (ev_pauLet T (ev_var rfl) h2) (rv_eq rfl)) (by simp)) fun _ => ev_is (ev_op (ev_pauPha T (ev_var rfl) h1) (ev_pauPha T (ev_var rfl) h2) rv_eqN) (by simp)) rfl
end
end Kp
end
section
set_option maxHeartbeats 4000000
namespace Kp
open PySem PySem.Spec PyProof.Rows L2 Evl
local macro_rules | `(tactic| walk_at "ht") => `(tactic| first | assumption | solve_by_elim (config := { maxDepth := 12 }))
local macro_rules | `(tactic| walk_at "ev") => `(tactic| repeat' (first
  | exact ea_nil
  | exact ev_var rfl
  | exact ev_n (n := 0) rfl | exact ev_n (n := 1) rfl | exact ev_n (n := 2) rfl
  | exact rv_andN | exact rv_xorN | exact rv_orN | exact rv_addN | exact rv_shrN | (exact rv_mulN (by decide)) | exact rv_eqN | exact rv_neN | exact rv_ltN
  | (refine' rv_ixT (st_of (by walk_at "ht")) (by rfl))
  | walk_at "evx"
  | refine' ev_op ?_ ?_ ?_
  | refine' ea_cons ?_ ?_))
/-- two strings, equal -/
def RPau (K : PySem.W.Frag) (a b : Addr) (H : Hp) : Prop := ∃ p, IsPau K H (.ref a) p ∧ IsPau K H (.ref b) p ∧ p.1.length ≤ 100000
theorem rpau_mon {K : PySem.W.Frag} : ∀ a b H H', Ext H H' → RPau K a b H → RPau K a b H' := fun a b H H' e ⟨p, h1, h2, h3⟩ => ⟨p, h1.ex e, h2.ex e, h3⟩
theorem op_pauT {X : Cx} {K : PySem.W.Frag} (hK : X.K = K) (T : Tx X.K X.mg) (h : OkM X.prog X.w X.K X.mg X.base CX0 5 (He.fAd X.K d_PauliEq.at_) ["self", "other"] (sp_PauliEq X.K)) (hr : Room 6 X.A) : OpR X (compareOp .Eq) (rEqG (DTup K (DIns (CP K) (RPau K)))) := by
  subst hK
  obtain ⟨fd, F, b⟩ := h
  have m := He.meth_ok (T.fact (.meth "Pauli" "__eq__") (List.mem_of_getElem? (i := 77) rfl))
  have F' : FnOk X.prog X.w X.K X.mg X.base CX0 5 (He.fAd X.K d_PauliEq.at_) fd ["self", "other"] (spEq (RPau X.K)) := F.imp fun vs H Q E ⟨a, b, ev, ⟨p, h1, h2, h3⟩, k⟩ => ⟨.ref a, .ref b, p, ev, h1, h2, h3, k⟩
  exact op_eqG (rcG_tup (mon_ins rpau_mon) (eqG_ins (E := fun _ _ _ => True) F' m.at_ m.fn b pass0)) hr
section
variable {P : Program} {w : World} {K : PySem.W.Frag} {mg : Str → Option Value} {base : Heap}
theorem prs_pau {H : Hp} {n : Nat} {ys zs : List V} {rows : List Row} (h1 : PRs K n H ys rows) (h2 : PRs K n H zs rows) (hn : n ≤ 1000) : Prs (DIns (CP K) (RPau K)) ys zs H := by
  refine ⟨by rw [paired_len h1, paired_len h2], fun i x y hx hy => ?_⟩
  obtain ⟨r, a1, a2⟩ := paired_at h1 hx
  obtain ⟨r', b1, b2⟩ := paired_at h2 hy
  rw [a1] at b1
  cases b1
  have a2' : IsPau K H x (letN r n, 2 * r.s) := a2
  have b2' : IsPau K H y (letN r n, 2 * r.s) := b2
  obtain ⟨a, dx, wt, rfl, ha⟩ := id a2'
  obtain ⟨b, dy, wt', rfl, hb⟩ := id b2'
  exact ⟨a, b, dx, dy, _, _, rfl, rfl, ha, hb, _, a2', b2', by show (letN r n).length ≤ 100000; rw [letN_len]; omega⟩
/-! ### Group.__eq__ -/
def sp_GroupEq (K : PySem.W.Frag) : L2.Sp := fun vs H Q _ => ∃ (v1 v2 : V) (n : Nat) (rows : List Row), vs = [v1, v2] ∧ IsGrp K H v1 n rows ∧ IsGrp K H v2 n rows ∧ n ≤ 1000 ∧ ∀ H', Ex H H' → Q (.bl true) H'
abbrev N_GroupEq : List Str := ["self", "other"]
theorem sc_GroupEq : FnScope N_GroupEq ["self", "other"] (defScope s_GroupEq) := ⟨rfl, rfl, rfl, by decide +kernel, rfl, by decide +kernel, by decide +kernel⟩
theorem o_GroupEq (T : Tx K mg) : OkM P w K mg base CX0 8 (He.fAd K d_GroupEq.at_) ["self", "other"] (sp_GroupEq K) := by
  refine okm0 T d_GroupEq 30 rfl sc_GroupEq (fun vs H Q E h => ?_) (fun _ _ _ _ _ _ us hl => match us, hl with | [_, _], _ => rfl) (fun f cdv A outer s H vs Q E hr h => ?_)
  · (obtain ⟨_, _, _, _, rfl, _⟩ := h; rfl)
  obtain ⟨v1, v2, n, rows, rfl, h1, h2, hn, k⟩ := h
  have oP : OkM P w K mg base CX0 5 (He.fAd K d_PauliEq.at_) ["self", "other"] (sp_PauliEq K) := o_PauliEq T
  refine ⟨_, (pss_one (ps_ret (pe_and (pe_callB (call_isiU K) (by rfl) T.m_isinstance (by decide +kernel) (pa_cons (pv 1) (pa_cons (pe_glob (v := .ref (He.ga K "Group")) (by rfl) (T.glo "Group" (List.mem_of_getElem? (i := 55) rfl)) rfl) pa_nil))) (pe_and (pe_cmpR op_eq (pe_fldK K (pv 0)) (pe_fldK K (pv 1)) (nomark _)) (pe_one (pe_cmpR (op_pauT rfl T oP (hr.mono (by decide))) (pe_fldK K (pv 0)) (pe_fldK K (pv 1)) (nomark _))))))), ?_⟩
  obtain ⟨a, dx, q, ys, rfl, ha, _, _⟩ := id h2
  obtain ⟨p1, y1, a1, b1, c1⟩ := ev_grpRows T h1
  obtain ⟨p2, y2, a2, b2, c2⟩ := ev_grpRows T h2
  refine s_ret (v := .bl true) ?_ fun H1 e1 => k H1 e1
  refine ev_is (v := .bl (true && (true && true))) (ev_andV (ev_isiC T.ef.insG (ev_var rfl) ev_c ha) fun _ => ev_andV (ev_is (ev_op (ev_grpSiz T (ev_var rfl) h1) (ev_grpSiz T (ev_var rfl) h2) rv_eqN) (by simp)) fun _ => ev_op (c1 _ _ _ (Ex.refl _) (ev_var rfl)) (c2 _ _ _ (Ex.refl _) (ev_var rfl)) ?_) rfl
  exact fun H1 e1 Q kk => ⟨⟨p1, p2, y1, y2, rfl, rfl, st_of (e1 _ _ a1), st_of (e1 _ _ a2), prs_pau (b1.ex e1) (b2.ex e1) hn⟩, fun H2 e2 => kk H2 e2⟩
end
/-- two groups, equal -/
def RGrp (K : PySem.W.Frag) (a b : Addr) (H : Hp) : Prop := ∃ n rows, IsGrp K H (.ref a) n rows ∧ IsGrp K H (.ref b) n rows ∧ n ≤ 1000
theorem rgrp_mon {K : PySem.W.Frag} : ∀ a b H H', Ext H H' → RGrp K a b H → RGrp K a b H' := fun a b H H' e ⟨n, p, h1, h2, h3⟩ => ⟨n, p, h1.ex e, h2.ex e, h3⟩
theorem op_grpEq {X : Cx} {K : PySem.W.Frag} (hK : X.K = K) (T : Tx X.K X.mg) (h : OkM X.prog X.w X.K X.mg X.base CX0 8 (He.fAd X.K d_GroupEq.at_) ["self", "other"] (sp_GroupEq X.K)) (hr : Room 8 X.A) : OpR X (compareOp .Eq) (rEqG (DIns (CG K) (RGrp K))) := by
  subst hK
  obtain ⟨fd, F, b⟩ := h
  have m := He.meth_ok (T.fact (.meth "Group" "__eq__") (List.mem_of_getElem? (i := 78) rfl))
  have F' : FnOk X.prog X.w X.K X.mg X.base CX0 8 (He.fAd X.K d_GroupEq.at_) fd ["self", "other"] (spEq (RGrp X.K)) := F.imp fun vs H Q E ⟨a, b, ev, ⟨n, p, h1, h2, h3⟩, k⟩ => ⟨.ref a, .ref b, n, p, ev, h1, h2, h3, k⟩
  exact op_eqG (rcG_ins (E := fun _ _ _ => True) F' m.at_ m.fn b pass0) hr
theorem rv_grpEq {K : PySem.W.Frag} {H : Hp} {v1 v2 : V} {n : Nat} {rows : List Row} (h1 : IsGrp K H v1 n rows) (h2 : IsGrp K H v2 n rows) (hn : n ≤ 1000) : RV (rEqG (DIns (CG K) (RGrp K))) v1 v2 H (.bl true) := fun H1 e1 Q kk => by
  have g1 := h1.ex e1
  have g2 := h2.ex e1
  obtain ⟨a, dx, q, ys, rfl, ha, _, _⟩ := id g1
  obtain ⟨b, dy, q', zs, rfl, hb, _, _⟩ := id g2
  exact ⟨⟨a, b, dx, dy, _, _, rfl, rfl, ha, hb, n, rows, g1, g2, hn⟩, fun H2 e2 => kk H2 e2⟩
end Kp
end
section
set_option maxHeartbeats 4000000
namespace Kp
open PySem PySem.Spec PyProof.Rows L2 Evl
local macro_rules | `(tactic| walk_at "ht") => `(tactic| first | assumption | solve_by_elim (config := { maxDepth := 12 }))
local macro_rules | `(tactic| walk_at "ev") => `(tactic| repeat' (first
  | exact ea_nil
  | exact ev_var rfl
  | exact ev_n (n := 0) rfl | exact ev_n (n := 1) rfl | exact ev_n (n := 2) rfl
  | exact rv_andN | exact rv_xorN | exact rv_orN | exact rv_addN | exact rv_shrN | (exact rv_mulN (by decide)) | exact rv_eqN | exact rv_neN | exact rv_ltN
  | (refine' rv_ixT (st_of (by walk_at "ht")) (by rfl))
  | walk_at "evx"
  | refine' ev_op ?_ ?_ ?_
  | refine' ea_cons ?_ ?_))
/-- list(d), d a dict with tuple keys -/
def rListT : List V → Hp → VK → Prop := fun xs H Q => ∃ d kvs, xs = [V.ref d] ∧ L2.Rd H d (.dT kvs) ∧ ∀ p bs, H p = none → IsKeys H kvs bs → Q (.ref p) (upd H p (.lst (bs.map V.ref)))
theorem call_listT {X : Cx} (hc : X.calm = true) : CallR X (.type "list") rListT := call_list_dT hc
def spS (G : List Row) (r : Row) : List Row := G ++ G.map fun g => ⟨g.x ^^^ r.x, g.z ^^^ r.z, 0⟩
def spr (com : List Row) : List Row := com.foldl spS [rw0]
def kvB (r : Row) : List Key × V := (xzK r, .bl true)
theorem valB_none {G : List Row} {x : Row} (h : xzP x ∉ G.map xzP) : valV (G.map kvB) (xzK x) = none := by
  induction G with
  | nil => rfl
  | cons a G ih =>
    rw [List.map_cons, List.mem_cons] at h
    have h1 : ¬ xzP x = xzP a := fun e => h (.inl e)
    have : ¬ (kvB a).1 = xzK x := fun e => h1 (xzK_inj e).symm
    rw [List.map_cons, valV_neg this]
    exact ih fun e => h (.inr e)
theorem valB_mem {G : List Row} {x : Row} (h : xzP x ∈ G.map xzP) : valV (G.map kvB) (xzK x) = some (.bl true) := by
  induction G with
  | nil => simp at h
  | cons a G ih =>
    rw [List.map_cons]
    by_cases e : xzP a = xzP x
    · exact valV_pos (xzK_of e)
    · have : ¬ (kvB a).1 = xzK x := fun q => e (xzK_inj q)
      rw [valV_neg this]
      rw [List.map_cons, List.mem_cons] at h
      rcases h with h | h
      · exact absurd h.symm e
      · exact ih h
theorem spr_snoc (l : List Row) (c : Row) : spr (l ++ [c]) = spS (spr l) c := by unfold spr; rw [List.foldl_append]; rfl
theorem spr_len (l : List Row) : (spr l).length = 2 ^ l.length := by
  have key : ∀ (l G : List Row), (l.foldl spS G).length = G.length * 2 ^ l.length := by
    intro l
    induction l with
    | nil => intro G; simp
    | cons c l ih =>
      intro G
      rw [List.foldl_cons, ih, List.length_cons, Nat.pow_succ]
      unfold spS
      rw [List.length_append, List.length_map, ← Nat.mul_two, Nat.mul_assoc, Nat.mul_comm 2]
  have := key l [rw0]
  unfold spr
  rw [this]; simp
theorem spr_pre (l : List Row) (i : Nat) : ∃ t, spr l = spr (l.take i) ++ t := by
  have key : ∀ (l G : List Row), ∃ t, l.foldl spS G = G ++ t := by
    intro l
    induction l with
    | nil => intro G; exact ⟨[], by simp⟩
    | cons c l ih =>
      intro G
      obtain ⟨t, ht⟩ := ih (spS G c)
      rw [List.foldl_cons, ht]
      exact ⟨_, by unfold spS; rw [List.append_assoc]⟩
  obtain ⟨t, ht⟩ := key (l.drop i) (spr (l.take i))
  refine ⟨t, ?_⟩
  rw [← ht]
  show l.foldl spS [rw0] = (l.drop i).foldl spS ((l.take i).foldl spS [rw0])
  rw [← List.foldl_append, List.take_append_drop]
section
variable {P : Program} {w : World} {K : PySem.W.Frag} {mg : Str → Option Value} {base : Heap}
section
variable {σ : L2.St} {H H' : Hp} {ta tb tc td tk to tl tv tx th : TE} {x y z v : V} {D : Ends} {tz tu : TS} {g : TG} {d : Addr} {kvs : List (List Key × V)} {r : Row}
theorem s_dputV (hv : Ev tv σ H v) (hd : Ev td σ H (.ref d)) (hk : EvU tk σ H ([r.x, r.z].map nv)) (h : H d = some (.dT kvs)) (hl : kvs.length < 1000000) (kk : ∀ Hf, ExB d H Hf → Hf d = some (.dT (putK kvs (xzK r) v)) → D.nx σ Hf) : sDPut td tk tv D σ H := by
  unfold sDPut
  refine hv H (Ex.refl _) _ fun H1 e1 => hd H1 e1 _ fun H2 e2 => hk H2 (e1.trans e2) _ fun q H3 nq e3 hq => ?_
  have e := (e1.trans e2).trans e3
  exact ⟨d, _, rfl, .inr ⟨kvs, xzK r, q, e _ _ h, rfl, hq, by rw [sizeLine_eq]; omega, rfl⟩, kk _ ((ExB.of e).trans ExB.upd) upd_same⟩
end
theorem ev_dinT {σ : L2.St} {H : Hp} {tk td : TE} {d : Addr} {kvs : List (List Key × V)} {r : Row} (hk : EvU tk σ H ([r.x, r.z].map nv)) (hd : Ev td σ H (.ref d)) (h : L2.Rd H d (.dT kvs)) : Ev (tDIn tk td) σ H (.bl (valV kvs (xzK r)).isSome) := fun H1 e Q k => by
  unfold tDIn
  refine hk H1 e _ fun q H2 nq e2 hq => hd H2 (e.trans e2) _ fun H3 e3 => ?_
  exact ⟨d, _, rfl, .inr ⟨kvs, xzK r, q, rd_ex h H3 ((e.trans e2).trans e3), rfl, e3 _ _ hq, rfl⟩, k H3 (e2.trans e3)⟩
theorem s_forLP {σ : L2.St} {H : Hp} {tl : TE} {D : Ends} {tu : TS} {g : TG} {P : List V → Hp → Prop} (h : EvP tl σ H (fun v H' => ∃ a xs, v = .ref a ∧ H' a = some (.lst xs) ∧ P xs H')) (kk : ∀ a xs H1, Ex H H1 → H1 a = some (.lst xs) → P xs H1 → ∃ Pv : Nat → L2.St → Hp → Prop, Pv 0 σ H1 ∧ (∀ i σ' H', i ≤ xs.length → Pv i σ' H' → H' a = some (.lst xs)) ∧
    (∀ i x σ' Ha, xs[i]? = some x → Pv i σ' Ha → g x σ' Ha fun σ2 H2 => tu { D with nx := Pv (i + 1), ct := Pv (i + 1), bk := D.nx } σ2 H2) ∧ ∀ σ' H', Pv xs.length σ' H' → D.nx σ' H') : tFor (iList K tl) g tu D σ H := by
  refine h H (Ex.refl _) _ fun v H1 e1 ⟨a, xs, ev, ha, hp⟩ => ?_
  subst ev
  obtain ⟨Pv, h0, hG, hs, hd⟩ := kk a xs H1 e1 ha hp
  exact ⟨a, rfl, ⟨xs, sq_of ha⟩, for_it (D := D) (walk_list (K := K) (a := a) (xs := xs)) Pv h0 (fun i σ' H' hi p => sq_of (hG i σ' H' hi p)) (fun i x σ' Ha Hb hi p y => by obtain ⟨rfl, y⟩ := y; exact hs i x σ' _ y p) hd⟩
section
variable {σ : L2.St} {H H' : Hp} {ta tb : TE} {n : Nat} {f : Nat → Bool}
theorem evp_listT {d : Addr} {kvs : List (List Key × V)} (ha : Ev ta σ H (.ref d)) (hd : H d = some (.dT kvs)) : EvP (tCB rListT (tCons ta tNil)) σ H (fun v H' => ∃ q xs, v = .ref q ∧ H' q = some (.lst xs) ∧ q ≠ d ∧ ∃ bs, xs = bs.map V.ref ∧ IsKeys H' kvs bs) := fun H1 e Q kk => by
  unfold tCB
  refine (ea_cons ha ea_nil : EvA (tCons ta tNil) σ H [.ref d]) H1 e _ fun H2 e2 => ?_
  have hd2 := (e.trans e2) _ _ hd
  refine ⟨d, kvs, rfl, .inl hd2, fun q bs nq hk => kk _ _ (e2.trans (Ex.new nq)) ⟨q, _, rfl, upd_same, (by rintro rfl; rw [hd2] at nq; cases nq), bs, rfl, ?_⟩⟩
  exact L2.Paired.mapP hk fun _ _ h => (Ex.new nq) _ _ h
theorem rep_nv (l : List Nat) : List.replicate l.length (nv 1) = (l.map fun _ => 1).map nv := by 
  rw [List.map_map]
  induction l with
  | nil => rfl
  | cons a l ih => rw [List.map_cons, ← ih]; rfl
theorem ev_neOnes (h : EvP ta σ H (fun v H' => ∃ p xs, v = .ref p ∧ H' p = some (.lst xs) ∧ Paired (fun x (_ : Nat) => x = nv 1) xs ((List.range n).filter f))) : Ev (tOp (rNeD K) ta (tLst tNil)) σ H (.bl (!decide ((List.range n).filter f = []))) := fun H1 e Q k => by
  refine h H1 e _ fun v H2 e2 ⟨p, xs, ev, hp, hx⟩ => (el_nil : EvL (tLst tNil) σ H2 []) H2 (Ex.refl _) _ fun q H3 nq e3 hq => ?_
  subst ev
  rw [paired_rep (P := fun _ x => x = nv 1) hx fun _ _ q => q, rep_nv] at hp
  refine rv_neLs (H := H3) (sq_of (e3 _ _ hp)) (ms := []) (sq_of hq) H3 (Ex.refl _) _ fun H4 e4 => ?_
  rw [show decide (List.map (fun _ => 1) ((List.range n).filter f) = []) = decide ((List.range n).filter f = []) by simp]
  exact k H4 ((e2.trans e3).trans e4)
theorem ev_eqOnes (h : EvP ta σ H (fun v H' => ∃ p xs, v = .ref p ∧ H' p = some (.lst xs) ∧ Paired (fun x (_ : Nat) => x = nv 1) xs ((List.range n).filter f))) : Ev (tOp (rEqD K) ta (tLst tNil)) σ H (.bl (decide ((List.range n).filter f = []))) := fun H1 e Q k => by
  refine h H1 e _ fun v H2 e2 ⟨p, xs, ev, hp, hx⟩ => (el_nil : EvL (tLst tNil) σ H2 []) H2 (Ex.refl _) _ fun q H3 nq e3 hq => ?_
  subst ev
  rw [paired_rep (P := fun _ x => x = nv 1) hx fun _ _ q => q, rep_nv] at hp
  refine rv_eqLs (H := H3) (sq_of (e3 _ _ hp)) (ms := []) (sq_of hq) H3 (Ex.refl _) _ fun H4 e4 => ?_
  rw [show decide (List.map (fun _ => 1) ((List.range n).filter f) = []) = decide ((List.range n).filter f = []) by simp]
  exact k H4 ((e2.trans e3).trans e4)
theorem filter_none {l : List Nat} : l.filter (fun _ => false) = [] := by induction l <;> simp_all
end
/-! ### _law_commutant_right -/
def sp_law_commutant_right (K : PySem.W.Frag) : L2.Sp := fun vs H Q _ => ∃ (v1 : V) (a : Addr) (xs : List V) (n : Nat) (red L : List Row) (hs : List Nat), vs = [v1, nv n, .ref a] ∧ IsGrp K H v1 n red ∧ H a = some (.lst xs) ∧ Rows H xs L ∧ 1 ≤ n ∧ n ≤ 23 ∧
  (∀ r ∈ red, Rw n r) ∧ red.length ≤ 1000 ∧ (∀ r ∈ L, Rw n r) ∧ L.length ≤ 1000 ∧ red.length ≤ 2 * n ∧ (comRows n red).length = 2 * n - red.length ∧ (∀ r ∈ comRows n red, Rw n r ∧ r.s = 0) ∧ RedL n (comRows n red) hs ∧
  (n ≤ 4 → ((spr (comRows n red)).map xzP).Nodup) ∧ (∀ r ∈ L, ∀ c ∈ comRows n red, crs r c = 0) ∧ (n ≤ 4 → ∀ t, Rw n t → (xzP t ∈ (spr (comRows n red)).map xzP ↔ ∀ r ∈ L, crs r t = 0)) ∧
  ∀ H', Ex H H' → Q (.bl true) H'
abbrev N_law_commutant_right : List Str := ["_law_made", "_law_size", "_law_rows", "_law_told", "_law_strings_here", "_law_spread", "_law_x", "_law_z", "_law_sign", "_law_one", "_law_string", "_law_due", "_law_row"]
theorem sc_law_commutant_right : FnScope N_law_commutant_right ["_law_made", "_law_size", "_law_rows"] (defScope s_law_commutant_right) := ⟨rfl, rfl, rfl, by decide +kernel, rfl, by decide +kernel, by decide +kernel⟩
theorem o_law_commutant_right (T : Tx K mg) : OkF P w K mg base CX0 12 "_law_commutant_right" ["_law_made", "_law_size", "_law_rows"] (sp_law_commutant_right K) := by
  have o_commutant : OkF P w K mg base CX0 8 "commutant" ["group"] (sp_commutant K) := o_commutant T
  have o_law_crosses : OkF P w K mg base CX0 2 "_law_crosses" ["_law_one", "_law_two"] sp_law_crosses := o_law_crosses T
  have o_law_every_string : OkF P w K mg base CX0 1 "_law_every_string" ["_law_size"] sp_law_every_string := o_law_every_string T
  have o_law_is_reduced : OkF P w K mg base CX0 2 "_law_is_reduced" ["_law_rows", "_law_size"] sp_law_is_reduced := o_law_is_reduced T
  have o_law_of_text : OkF P w K mg base CX0 1 "_law_of_text" ["_law_text_here"] (sp_law_of_text K) := o_law_of_text T
  have o_pauli_text : OkF P w K mg base CX0 1 "pauli_text" ["string"] (sp_pauli_text K) := o_pauli_text T
  refine okf T d_law_commutant_right "_law_commutant_right" 54 45 rfl rfl rfl sc_law_commutant_right (fun vs H Q E h => ?_) (fun _ _ _ _ _ _ us hl => match us, hl with | [_, _, _], _ => rfl) (fun f cdv A outer s H vs Q E hr h => ?_)
  · (obtain ⟨_, _, _, _, _, _, _, rfl, _⟩ := h; rfl)
  obtain ⟨v1, a, xs, n, red, L, hs, rfl, hg, ha, hxs, hn1, hn, hred, hredl, hL, hLl, hrk, hcl, hcr, hRed, hnd, hcom, hall, k⟩ := h
  refine ⟨_, (pss_cons (ps_set (i := 3) sc_law_commutant_right.nd rfl (Or.inl rfl) (pe_cl o_commutant (hr.mono (by decide)) (by rfl) pass0 (pa_cons (pv 0) pa_nil)))
      (pss_cons (ps_if (PW.pt (pw_or (pt_not (pt_val (pe_callB (call_isiU K) (by rfl) T.m_isinstance (by decide +kernel) (pa_cons (pv 3) (pa_cons (pe_bltn (v := .ty "tuple") (by rfl) T.m_tuple (by decide +kernel) rfl) pa_nil))))) (pw_or1 (pt_cmpR op_ne (pe_callB (call_lenK K) (by rfl) T.m_len PySem.boot_len (pa_cons (pv 3) pa_nil)) (pe_op op_sub (pe_op op_mul pe_int (pv 1)) (pe_fldK K (pv 0))) (nomark _))))) (pss_one (ps_ret pe_bl)) pss_nil)
      (pss_cons (ps_if (pt_cmpR (op_neDK K hr.units) (pe_lc (own := [("_law_one", 9)]) rfl sc_law_commutant_right.nd (pi_tupK K (pv 3)) (blkOk_by (own := [("_law_one", 9)]) (N := N_law_commutant_right) (sc := defScope s_law_commutant_right) (by decide +kernel)) (fun _ _ _ _ _ => (pg_name (i := 9) sc_law_commutant_right.nd rfl (Or.inl rfl))) (fun _ _ _ _ _ => (pts_one (pt_cmpR op_ne (pe_fldK K (pv 9)) pe_int (nomark _)))) (fun _ _ _ _ _ => (pv 9))) (pe_lst pa_nil) (nomark _)) (pss_one (ps_ret pe_bl)) pss_nil)
      (pss_cons (ps_set (i := 4) sc_law_commutant_right.nd rfl (Or.inr rfl) (pe_lc (own := [("_law_one", 9)]) rfl sc_law_commutant_right.nd (pi_tupK K (pv 3)) (blkOk_by (own := [("_law_one", 9)]) (N := N_law_commutant_right) (sc := defScope s_law_commutant_right) (by decide +kernel)) (fun _ _ _ _ _ => (pg_name (i := 9) sc_law_commutant_right.nd rfl (Or.inl rfl))) (fun _ _ _ _ _ => pts_nil) (fun _ _ _ _ _ => (pe_cl o_law_of_text (hr.mono (by decide)) (by rfl) pass0 (pa_cons (pe_cl o_pauli_text (hr.mono (by decide)) (by rfl) pass0 (pa_cons (pv 9) pa_nil)) pa_nil)))))
      (pss_cons (ps_if (pt_not (pt_val (pe_cl o_law_is_reduced (hr.mono (by decide)) (by rfl) pass0 (pa_cons (pv 4) (pa_cons (pv 1) pa_nil))))) (pss_one (ps_ret pe_bl)) pss_nil)
      (pss_cons (ps_if (pt_cmpR op_gt (pv 1) pe_int (nomark _)) (pss_one (ps_ret (pe_cmpR (op_eqDK K hr.units) (pe_lc (own := [("_law_row", 12)]) rfl sc_law_commutant_right.nd (pi_listK K (pv 2)) (blkOk_by (own := [("_law_row", 12)]) (N := N_law_commutant_right) (sc := defScope s_law_commutant_right) (by decide +kernel)) (fun _ _ _ _ _ => (pg_name (i := 12) sc_law_commutant_right.nd rfl (Or.inr rfl))) (fun _ _ _ _ _ => (pts_one (pt_cmpR (op_neDK K hr.units) (pe_lc (own := [("_law_one", 9)]) rfl sc_law_commutant_right.nd (pi_listK K (pv 4)) (blkOk_by (own := [("_law_one", 9)]) (N := N_law_commutant_right) (sc := { kind := .function, names := [(".0", .local), ("_law_row", .cell), ("_law_strings_here", .cell)], isGenerator := false, isCoroutine := false }) (by decide +kernel)) (fun _ _ _ _ _ => (pg_name (i := 9) sc_law_commutant_right.nd rfl (Or.inl rfl))) (fun _ _ _ _ _ => (pts_one (pt_cmpR op_eq (pe_cl o_law_crosses (hr.mono (by decide)) (by rfl) pass0 (pa_cons (pv 12) (pa_cons (pv 9) pa_nil))) pe_int (nomark _)))) (fun _ _ _ _ _ => pe_int)) (pe_lst pa_nil) (nomark _)))) (fun _ _ _ _ _ => pe_int)) (pe_lst pa_nil) (nomark _)))) pss_nil)
      (pss_cons (ps_set (i := 5) sc_law_commutant_right.nd rfl (Or.inl rfl) (pe_dispT hr.units (pe_tup (pa_cons pe_int (pa_cons pe_int pa_nil))) pe_bl))
      (pss_cons (ps_for PassesOwn.never rfl (pi_listK K (pv 4)) (pg_tup rfl (pgs_cons (pg_name (i := 6) sc_law_commutant_right.nd rfl (Or.inl rfl)) (pgs_cons (pg_name (i := 7) sc_law_commutant_right.nd rfl (Or.inl rfl)) (pgs_cons (pg_name (i := 8) sc_law_commutant_right.nd rfl (Or.inl rfl)) pgs_nil))))
        (pss_one (ps_for PassesOwn.never rfl (pi_listK K (pe_callTy (call_listT rfl) (by rfl) T.m_list (by decide +kernel) (pa_cons (pv 5) pa_nil))) (pg_name (i := 9) sc_law_commutant_right.nd rfl (Or.inl rfl))
          (pss_one (ps_dput (hu_ hr) (pv 5) (pe_tup (pa_cons (pe_op op_xor (pe_ix (ix_tupK K) (pv 9) pe_int (fun _ _ => rfl)) (pv 6)) (pa_cons (pe_op op_xor (pe_ix (ix_tupK K) (pv 9) pe_int (fun _ _ => rfl)) (pv 7)) pa_nil))) pe_bl rfl)))))
      (pss_cons (ps_for PassesOwn.never rfl (pi_listK K (pe_cl o_law_every_string (hr.mono (by decide)) (by rfl) pass0 (pa_cons (pv 1) pa_nil))) (pg_name (i := 10) sc_law_commutant_right.nd rfl (Or.inr rfl))
        (pss_cons (ps_set (i := 11) sc_law_commutant_right.nd rfl (Or.inl rfl) (pe_cmpR (op_eqDK K hr.units) (pe_lc (own := [("_law_row", 12)]) rfl sc_law_commutant_right.nd (pi_listK K (pv 2)) (blkOk_by (own := [("_law_row", 12)]) (N := N_law_commutant_right) (sc := defScope s_law_commutant_right) (by decide +kernel)) (fun _ _ _ _ _ => (pg_name (i := 12) sc_law_commutant_right.nd rfl (Or.inl rfl))) (fun _ _ _ _ _ => (pts_one (pt_cmpR op_eq (pe_cl o_law_crosses (hr.mono (by decide)) (by rfl) pass0 (pa_cons (pv 12) (pa_cons (pv 10) pa_nil))) pe_int (nomark _)))) (fun _ _ _ _ _ => pe_int)) (pe_lst pa_nil) (nomark _)))
        (pss_one (ps_if (pt_cmpR op_ne (pe_cmp (pc_din (hu_ hr) (pe_tup (pa_cons (pe_ix (ix_tupK K) (pv 10) pe_int (fun _ _ => rfl)) (pa_cons (pe_ix (ix_tupK K) (pv 10) pe_int (fun _ _ => rfl)) pa_nil))) (pv 5))) (pv 11) (nomark _)) (pss_one (ps_ret pe_bl)) pss_nil))))
      (pss_one (ps_ret pe_bl))))))))))), ?_⟩
  refine q_asgP (P := fun v H' => ∃ p ys, v = .ref p ∧ H' p = some (.tup ys) ∧ PRs K n H' ys (comRows n red)) (fun H1 e1 Q kk => ?_) fun v H1 e1 ⟨p, ys, ev, hp, hys⟩ => ?_
  · unfold tCall
    refine (ea_cons (ev_var rfl) ea_nil : EvA (tCons (tVar 0) tNil) _ H1 [v1]) H1 (Ex.refl _) _ fun H2 e2 => ?_
    exact ⟨v1, n, red, rfl, hg.ex (e1.trans e2), hn1, by omega, hred, hredl, fun v H' e' h => kk v H' (e2.trans e') h⟩
  subst ev
  have hyl := paired_len hys
  refine q_when (b := false) (et_is (a := !true || !decide (ys.length = 2 * n - red.length)) (et_or (et_not (et_B (ev_isi (ev_var rfl) ev_c (.ty "tuple") (fun H2 e2 => .base (.tup (e2 _ _ hp))) (kit_ty (by decide +kernel))))) fun _ => et_test (ev_op (ev_lenT (ev_var rfl) (st_of hp)) (ev_op (ev_op (ev_n (n := 2) rfl) (ev_var rfl) (rv_mulN (by decide))) (ev_grpRank T (ev_var rfl) (hg.ex e1)) (rv_subN hrk)) rv_neN)) (by simp [hyl, hcl])) (fun hc => by cases hc) fun _ H2 e2 => ?_
  have hp2 := e2 _ _ hp
  have hys2 := hys.ex e2
  refine q_when (b := false) (et_is (et_test (ev_neOnes (n := ys.length) (f := fun _ => false) (evp_lc (wk_tup (ev_var rfl) (st_of hp2)) (fun _ => false) (fun _ v _ => v = nv 1) (by omega) (fun _ _ _ _ _ q => q) fun i x Hb hi eb hx Q' kk => ?_))) (by rw [filter_none]; rfl)) (fun hc => by cases hc) fun _ H3 e3 => ?_
  · obtain ⟨r, hr1, hr2⟩ := paired_at hys2 hx
    have hr2' : IsPau K H2 x (letN r n, 2 * r.s) := hr2
    have hrs := (hcr r (List.mem_of_getElem? hr1)).2
    exact tg_name (i := i) rfl (et_test (ev_is (ev_op (ev_pauPha T (ev_var rfl) (hr2'.ex eb)) (ev_n (n := 0) rfl) rv_neN) (by simp [hrs]))) (fun h => by cases h) kk
  have hp3 := e3 _ _ hp2
  have hys3 := hys2.ex e3
  refine q_asgP (P := fun v H' => ∃ b zs, v = .ref b ∧ H' b = some (.lst zs) ∧ Rows H' zs (comRows n red)) ((evp_lc (wk_tup (ev_var rfl) (st_of hp3)) (fun _ => true) (fun i v H' => ∃ r, (comRows n red)[i]? = some r ∧ IsRow H' v r) (by omega) (fun i v Ha Hb kx ⟨r, q1, q2⟩ => ⟨r, q1, q2.kx kx⟩) fun i x Hb hi eb hx Q' kk => ?_).imp fun v H4 e4 ⟨b, zs, q1, q2, q3⟩ => ⟨b, zs, q1, q2, ?_⟩) fun v H4 e4 ⟨b, zs, ev, hb, hzs⟩ => ?_
  · obtain ⟨r, hr1, hr2⟩ := paired_at hys3 hx
    have hrr := hcr r (List.mem_of_getElem? hr1)
    exact tg_name (i := i) rfl et_yes (fun _ => (evp_law_of_text (r := r) (ev_pauli_text (ev_var rfl) (by omega) (by rw [letN_len]; omega) (IsPau.ex eb hr2)) hn1 (by omega) hrr.1).imp fun v Hc ec q => ⟨r, hr1, q⟩) kk
  · rw [filter_all, hyl] at q3
    refine paired_of (by rw [paired_len q3, List.length_range]) fun i x y hx hy => ?_
    obtain ⟨j, hj, r, g1, g2⟩ := paired_at q3 hx
    rw [List.getElem?_range (by exact (List.getElem?_eq_some_iff.mp hy).1)] at hj
    cases hj
    rw [hy] at g1
    cases g1
    exact g2
  subst ev
  refine q_when (b := false) (et_is (et_not (et_B (ev_callv (z := .bl true) (ea_cons (ev_var rfl) (ea_cons (ev_var rfl) ea_nil)) fun H5 e5 Q kk => ⟨b, n, comRows n red, hs, rfl, ⟨zs, e5 _ _ hb, hzs.ex e5⟩, by omega, by omega, hRed, kk⟩))) rfl) (fun hc => by cases hc) fun _ H5 e5 => ?_
  have x4 := ((e1.trans e2).trans e3).trans e4
  have x5 := x4.trans e5
  have hb5 := e5 _ _ hb
  have hzs5 := hzs.ex e5
  have hzl := paired_len hzs
  have hxl := paired_len hxs
  refine q_when (b := decide (4 < n)) (et_test (ev_is (ev_op (ev_var rfl) (ev_n (n := 4) rfl) rv_I0) (by congr 1; exact decide_eq_decide.mpr (by omega)))) (fun h4 H6 e6 => ?_) fun h4 H6 e6 => ?_
  · have x6 := x5.trans e6
    refine s_ret (v := .bl true) (ev_is (ev_eqOnes (n := xs.length) (f := fun _ => false) (evp_lc (wk_list (ev_var rfl) (sq_of (x6 _ _ ha))) (fun _ => false) (fun _ v _ => v = nv 1) (by omega) (fun _ _ _ _ _ q => q) fun i x Hb hi eb hx Q' kk => ?_)) (by rw [filter_none]; rfl)) fun H7 e7 => k H7 (x6.trans e7)
    obtain ⟨r, hr1, hr2⟩ := paired_at (hxs.ex x6) hx
    have hrm := List.mem_of_getElem? hr1
    refine tg_name (i := i) rfl (et_test (ev_is (ev_neOnes (n := zs.length) (f := fun _ => false) (evp_lc (wk_list (ev_var rfl) (sq_of ((e6.trans eb) _ _ hb5))) (fun _ => false) (fun _ v _ => v = nv 1) (by omega) (fun _ _ _ _ _ q => q) fun j y Hc hj ec hy Q2 k2 => ?_)) (by rw [filter_none]; rfl))) (fun h => by cases h) kk
    obtain ⟨c, hc1, hc2⟩ := paired_at (hzs5.ex (e6.trans eb)) hy
    have hcm := List.mem_of_getElem? hc1
    exact tg_name (i := j) rfl (et_test (ev_is (ev_op (ev_law_crosses (n := n) (ev_var rfl) (ev_var rfl) (hr2.ex (eb.trans ec)) (hc2.ex ec) (by omega) (hL r hrm) (hcr c hcm).1) (ev_n (n := 1) rfl) rv_eqN) (by simp [hcom r hrm c hcm]))) (fun h => by cases h) k2
  have hn4 : n ≤ 4 := by simpa using h4
  have x6 := x5.trans e6
  have hb6 := e6 _ _ hb5
  have hzs6 := hzs5.ex e6
  have hcl8 : (comRows n red).length ≤ 8 := by omega
  refine q_asgP (evp_dispT (k := xzK rw0) (v := .bl true) (fun H1 => eu_tup (ea_cons (ev_n (n := 0) rfl) (ea_cons (ev_n (n := 0) rfl) ea_nil)) (by show 2 ≤ 100000; decide)) fun H1 => ev_c) fun v H7 e7 ⟨d, ev, nd, hd⟩ => ?_
  subst ev
  refine q_forG (wg_list (ev_var rfl) (sq_of (e7 _ _ hb6))) (fun i σ' H' => ∃ y6 y7 y8 y9, σ' = [some v1, some (nv n), some (.ref a), some (.ref p), some (.ref b), some (.ref d), y6, y7, y8, y9, none, none, none] ∧ Ex H6 H' ∧ H' d = some (.dT ((spr ((comRows n red).take i)).map kvB)))
    (fun H8 e8 => ⟨_, _, _, _, rfl, e7.trans e8, e8 _ _ hd⟩) (fun i σ' H' _ ⟨_, _, _, _, _, e, _⟩ => sq_of (e _ _ hb6)) ?_ ?_
  · rintro i x σ' Ha Hb hi ⟨y6, y7, y8, y9, rfl, ea, hda⟩ ⟨rfl, hx⟩
    obtain ⟨c, hc1, tq, rfl, htq⟩ := paired_at (hzs6.ex ea) hx
    refine ⟨tq, _, rfl, st_of htq, rfl, _, _, rfl, _, _, rfl, _, _, rfl, rfl, ?_⟩
    obtain ⟨G, hG⟩ : ∃ G, G = spr ((comRows n red).take i) := ⟨_, rfl⟩
    rw [← hG] at hda
    have hGl : G.length ≤ 256 := by
      rw [hG, spr_len, List.length_take]
      exact Nat.le_trans (Nat.pow_le_pow_right (by decide) (show min i (comRows n red).length ≤ 8 by omega)) (by decide)
    have hspr : spr ((comRows n red).take (i + 1)) = spS G c := by rw [take_succ_of hc1, spr_snoc, ← hG]
    have hndS : ((spS G c).map xzP).Nodup := by
      obtain ⟨t, ht⟩ := spr_pre (comRows n red) (i + 1)
      have := hnd hn4
      rw [ht, hspr, List.map_append] at this
      exact (List.nodup_append.mp this).1
    refine s_forLP (P := fun xs H' => ∃ bs, xs = bs.map V.ref ∧ IsKeys H' (G.map kvB) bs) ?_ fun q ks Hc ec hq ⟨bs, hks, hbs⟩ => ?_
    · exact (evp_listT (ev_var rfl) hda).imp fun v H' e ⟨q, xs, h1, h2, _, h3⟩ => ⟨q, xs, h1, h2, h3⟩
    · have hdc := ec _ _ hda
      have hqd : q ≠ d := by rintro rfl; rw [hq] at hdc; cases hdc
      refine ⟨fun j σ' H' => ∃ y9, σ' = [some v1, some (nv n), some (.ref a), some (.ref p), some (.ref b), some (.ref d), some (nv c.x), some (nv c.z), some (nv c.s), y9, none, none, none] ∧ Ex H6 H' ∧ H' q = some (.lst ks) ∧ IsKeys H' (G.map kvB) bs ∧ H' d = some (.dT ((G ++ (G.take j).map fun g => (⟨g.x ^^^ c.x, g.z ^^^ c.z, 0⟩ : Row)).map kvB)), ⟨_, rfl, ea.trans ec, hq, hbs, by rw [List.take_zero, List.map_nil, List.append_nil]; exact hdc⟩, fun j σ' H' _ ⟨_, _, _, h, _⟩ => h, ?_, ?_⟩
      · rintro j y σ' He hy ⟨y9, rfl, ee, hqe, hbe, hde⟩
        subst hks
        rw [List.getElem?_map] at hy
        cases hbj : bs[j]? with
        | none => rw [hbj] at hy; cases hy
        | some b' =>
          rw [hbj] at hy
          cases hy
          obtain ⟨kv, hkv, hb'⟩ := paired_at2 hbe hbj
          rw [List.getElem?_map] at hkv
          cases hg : G[j]? with
          | none => rw [hg] at hkv; cases hkv
          | some g =>
            rw [hg] at hkv
            cases hkv
            have hb2 : He b' = some (.tup [nv g.x, nv g.z]) := hb'
            have hnew : xzP ⟨g.x ^^^ c.x, g.z ^^^ c.z, 0⟩ ∉ (G ++ (G.take j).map fun g => (⟨g.x ^^^ c.x, g.z ^^^ c.z, 0⟩ : Row)).map xzP := by
              have h1 : ((spS G c).map xzP)[G.length + j]? = some (xzP ⟨g.x ^^^ c.x, g.z ^^^ c.z, 0⟩) := by
                unfold spS
                rw [List.getElem?_map, List.getElem?_append_right (by omega), show G.length + j - G.length = j by omega, List.getElem?_map, hg]; rfl
              have h2 := nodup_at hndS h1
              have h3 : ((spS G c).map xzP).take (G.length + j) = (G ++ (G.take j).map fun g => (⟨g.x ^^^ c.x, g.z ^^^ c.z, 0⟩ : Row)).map xzP := by
                unfold spS
                rw [← List.map_take, List.take_length_add_append, List.map_take]
              rw [h3] at h2
              exact h2
            refine s_dputV (r := ⟨g.x ^^^ c.x, g.z ^^^ c.z, 0⟩) ev_c (ev_var rfl) (eu_tup (ea_cons (ev_op (ev_op (ev_var rfl) (ev_n (n := 0) rfl) (rv_ixT (st_of hb2) rfl)) (ev_var rfl) rv_xorN) (ea_cons (ev_op (ev_op (ev_var rfl) (ev_n (n := 1) rfl) (rv_ixT (st_of hb2) rfl)) (ev_var rfl) rv_xorN) ea_nil)) (by show 2 ≤ 100000; decide)) hde (by rw [List.length_map, List.length_append, List.length_map, List.length_take]; omega) fun Hf bf hf => ?_
            rw [putK_new _ (valB_none hnew)] at hf
            have kf : ∀ b o, b ≠ d → He b = some o → Hf b = some o := fun b o hb ho => bf _ _ hb ho
            refine ⟨_, rfl, fun b'' o ho => kf _ _ (by rintro rfl; rw [nd] at ho; cases ho) (ee _ _ ho), kf _ _ hqd hqe, L2.Paired.mapP hbe fun kv b'' h => kf _ _ (by rintro rfl; rw [hde] at h; cases h) h, ?_⟩
            rw [hf, take_succ_of hg]
            simp only [List.map_append, List.map_cons, List.map_nil, List.append_assoc]
            rfl
      · rintro σ' H8 ⟨y9, rfl, e8, hq8, hb8, hd8⟩
        refine ⟨_, _, _, _, rfl, e8, ?_⟩
        rw [hd8, hspr]
        have hkl : ks.length = G.length := by
          have := paired_len hb8
          rw [List.length_map] at this
          rw [hks, List.length_map]; omega
        rw [hkl, List.take_length]
        rfl
  · rintro σ' H8 ⟨y6, y7, y8, y9, rfl, e8, hd8⟩
    rw [show zs.length = (comRows n red).length by omega, List.take_length] at hd8
    have x8 := x6.trans e8
    refine q_forLP (P := fun us H' => ∃ L', Rows H' us L' ∧ (∀ r ∈ L', Rw n r) ∧ L'.length ≤ 256) (evp_call (ea_cons (ev_var rfl) ea_nil) fun H1 e Q kk => ⟨n, rfl, hn4, fun l L' H' e' ⟨us, hl1, hl2⟩ hL' hll => kk (.ref l) H' e' ⟨l, us, rfl, hl1, L', hl2, hL', hll⟩⟩) fun l us H9 e9 hl ⟨L', hus, hL', hll⟩ => ?_
    refine ⟨fun i σ' H' => ∃ y10 y11, σ' = [some v1, some (nv n), some (.ref a), some (.ref p), some (.ref b), some (.ref d), y6, y7, y8, y9, y10, y11, none] ∧ Ex H9 H', ⟨_, _, rfl, Ex.refl _⟩, fun i σ' H' _ ⟨_, _, _, e⟩ => e _ _ hl, ?_, ?_⟩
    · rintro i x σ' Ha hx ⟨y10, y11, rfl, ea⟩
      have xa := (x8.trans e9).trans ea
      obtain ⟨t, ht1, ht2⟩ := paired_at (hus.ex ea) hx
      have htw := hL' t (List.mem_of_getElem? ht1)
      obtain ⟨f, hf⟩ : ∃ f : Nat → Bool, f = fun i => decide (crs (L.getD i rw0) t = 1) := ⟨_, rfl⟩
      refine q_asg (v := .bl (decide ((List.range xs.length).filter f = []))) (ev_eqOnes (evp_lc (wk_list (ev_var rfl) (sq_of (xa _ _ ha))) f (fun _ v _ => v = nv 1) (by omega) (fun _ _ _ _ _ q => q) fun j y Hb hj eb hy Q' kk => ?_)) fun Hb eb => ?_
      · obtain ⟨r, hr1, hr2⟩ := paired_at (hxs.ex xa) hy
        have hrm := List.mem_of_getElem? hr1
        exact tg_name (i := j) rfl (et_test (ev_is (ev_op (ev_law_crosses (n := n) (ev_var rfl) (ev_var rfl) (hr2.ex eb) (ht2.ex eb) (by omega) (hL r hrm) htw) (ev_n (n := 1) rfl) rv_eqN) (by rw [hf]; simp [List.getD_eq_getElem?_getD, hr1]))) (fun _ => Ev.p (ev_n (n := 1) rfl)) kk
      · have hdue : (valV ((spr (comRows n red)).map kvB) (xzK t)).isSome = decide ((List.range xs.length).filter f = []) := by
          have hcrs : ∀ r, crs r t ≤ 1 := fun r => by unfold crs; exact Nat.and_le_right
          have hiff := hall hn4 t htw
          by_cases h : xzP t ∈ (spr (comRows n red)).map xzP
          · rw [valB_mem h]
            have h0 := hiff.mp h
            refine (decide_eq_true ?_).symm
            refine List.filter_eq_nil_iff.mpr fun i hi => ?_
            have hil : i < L.length := by rw [List.mem_range] at hi; omega
            rw [hf]
            have := h0 L[i] (List.getElem_mem hil)
            simp [List.getD_eq_getElem?_getD, hil, this]
          · rw [valB_none h]
            refine (decide_eq_false fun hn => h (hiff.mpr fun r hr => ?_)).symm
            obtain ⟨i, hi⟩ := List.mem_iff_getElem?.mp hr
            have hil := (List.getElem?_eq_some_iff.mp hi).1
            have h1 := List.filter_eq_nil_iff.mp hn i (List.mem_range.mpr (by omega))
            rw [hf] at h1
            simp only [List.getD_eq_getElem?_getD, hi, Option.getD_some, decide_eq_true_eq] at h1
            have := hcrs r
            omega
        have xb := xa.trans eb
        have hdb : Hb d = some (.dT ((spr (comRows n red)).map kvB)) := ((e9.trans ea).trans eb) _ _ hd8
        refine s_when (b := false) (et_test (ev_is (ev_op (ev_dinT (r := t) (eu_xz (te := tVar 10) (te' := tVar 10) (ev_var rfl) (ev_var rfl) (ht2.ex eb)) (ev_var rfl) (.inl hdb)) (ev_var rfl) (rv_ne rfl)) (by rw [hdue]; simp))) (fun hc => by cases hc) fun _ Hc ec => ?_
        exact ⟨_, _, rfl, (ea.trans eb).trans ec⟩
    · rintro σ' H10 ⟨y10, y11, rfl, e10⟩
      exact s_ret ev_c fun H11 e11 => k H11 (((x8.trans e9).trans e10).trans e11)
end
end Kp
end
section
set_option maxHeartbeats 4000000
namespace Kp
open PySem PySem.Spec PyProof.Rows L2
/-- several clauses, each with the name of slot i: what they wish of an exception of the body -/
def wManyAs (K : PySem.W.Frag) (i m : Nat) (Wout : WX) (D : Ends) : List (Value × (Addr → Value → Option Addr → TS)) → WX
  | [] => Wout
  | (c, ts) :: r => fun cls d σ H => ∃ b, PySem.W.exmOne K cls c = some b ∧
      (b = true → σ.length = m → ∀ a, H a = none → ts a cls d { nx := fun σ' H' => D.nx (σ'.set i none) H', rt := D.rt, bk := fun σ' H' => D.bk (σ'.set i none) H', ct := fun σ' H' => D.ct (σ'.set i none) H' } (σ.set i (some (.ref a))) H) ∧
      (b = false → wManyAs K i m Wout D r cls d σ H)
inductive HdsAs (X : Cx) (n : Str) : List ExceptHandler → List (Value × (Addr → Value → Option Addr → TS)) → Prop
  | nil : HdsAs X n [] []
  | cons {x : Str} {c : Value} {ts : Addr → Value → Option Addr → TS} {b₀ : Stmt} {suite : List Stmt} {np pos' : Pos} {hds : List ExceptHandler} {l : List (Value × (Addr → Value → Option Addr → TS))} (hc : Names X x c)
      (hsu : ∀ (a : Addr) (oe : Obj) (cls : Value) (d : Option Addr) (pn : List (Addr × Obj)), Zc cls d oe → (∃ vs, oe.data = .fields vs) → PSs (X.suite a ((a, oe) :: pn)) (b₀ :: suite) (ts a cls d)) (r : HdsAs X n hds l) :
      HdsAs X n (.ExceptHandler (some (.Name x np)) (some n) (b₀ :: suite) pos' :: hds) ((c, ts) :: l)
section
variable {X : Cx} {n : Str} {i : Nat} {body : List Stmt} {h₀ : ExceptHandler} {hds : List ExceptHandler} {l : List (Value × (Addr → Value → Option Addr → TS))} {pos : Pos} {tb : WX → TS} {Wout : WX}
theorem ps_try_manyAs (hs : X.stack = X.env :: X.outer) (hf : X.env.frame = some X.env.locals) (hN : X.N.Nodup) (hi : X.N[i]? = some n) (hln : X.env.kindOf n = some .local) (tk : Takes X Wout)
    (hb : ∀ (W : WX) (pn : List (Addr × Obj)) (xe : Value → Shared → Prop), Takes (X.tr pn xe) W → PassesOwn (model X.prog X.w) X.A X.env xe → PSs (X.tr pn xe) body (tb W))
    (hh : HdsAs X n (h₀ :: hds) l) : PS X (.Try body (h₀ :: hds) [] [] pos) (fun D σ H => tb (wManyAs X.K i X.N.length Wout D l) D σ H) := by
  refine ⟨fun pins s σ H D I h => ?_⟩
  have ok := I.ok
  have hfr : X.A.frames = some (X.env :: X.outer) := by rw [ok.frames, hs]
  have hloc : Loc X.env.scope n := .inl hln
  refine wpAny_Try_except ?_
  refine wpAny_mono ((hb (wManyAs X.K i X.N.length Wout D l) (X.pn ++ pins) (fun e s₁ => wpAny (model X.prog X.w) X.A (noteFrame e X.env) (fun _ s₂ => wpAny (model X.prog X.w) X.A (setFlight e none) (fun _ s₃ =>
    wpAny (model X.prog X.w) X.A (handleBy e X.env (h₀ :: hds)) (SP X pins D) X.xe s₃) X.xe s₂) X.xe s₁) (fun u s' xx => ?_) PassesOwn.looking).run [] s σ H D (I.toTry _) h) (fun f s1 hsp => ?_) (fun e s1 he => he)
  · obtain ⟨a, B, sI, pins', σ', H', cls, d, rfl, J', nb, up, sky, na, os, ag, w⟩ := xx
    have J : Inv X pins σ' H' sI := J'.ofTry ok
    have sky' : Sky B (X.env :: X.outer) a (Zc cls d) X.env.locals s'.heap := by rw [← hs]; exact sky
    show wpAny (model X.prog X.w) X.A (noteFrame (.ref a) X.env) _ _ _
    refine Sky.land Zc.steady hfr hf sky' fun h3 fl3 up3 => ?_
    have J3 : Inv X pins σ' H' { s' with heap := h3 } := J.landed nb fl3.1 (up.trans up3) os ag
    obtain ⟨oe3, vs3, he3, hz3, hd3⟩ := fl3.there
    have notFr : ∀ {h : Heap} {o : Obj} {vs : Array Value}, h.FunFrames B (X.env :: X.outer) → h.get? a = some o → o.data = .fields vs → a ∉ frs (X.env :: X.outer) := fun {h o vs} ff e dd hm => by
      obtain ⟨_, o', e', hnf⟩ := ff.mem hm
      rw [e] at e'; cases e'
      exact hnf _ dd
    have nfr := notFr fl3.2.2.1 he3 hd3
    have nL : a ≠ X.env.locals := fun z => nfr (List.mem_filterMap.mpr ⟨X.env, List.mem_cons_self, by rw [hf, z]⟩)
    have nF : a ∉ X.fs := fun hm => by
      obtain ⟨e, he, q⟩ := List.mem_filterMap.mp hm
      exact nfr (List.mem_filterMap.mpr ⟨e, List.mem_cons_of_mem _ he, q⟩)
    have S3 := J3.suite he3 hd3 na nL nF
    have go : ∀ {hds' : List ExceptHandler} {l' : List (Value × (Addr → Value → Option Addr → TS))}, HdsAs X n hds' l' → wManyAs X.K i X.N.length Wout D l' cls d σ' H' →
        wpAny (model X.prog X.w) X.A (handleBy (.ref a) X.env hds') (SP X pins D) X.xe { s' with heap := h3 } := by
      intro hds' l' hk
      induction hk with
      | nil =>
        intro w
        refine wpAny_handleBy_nil ?_
        obtain ⟨k1, k2, k3, oe, vs, T, oT, ts', he, hz, hd, h1, hr⟩ := id fl3
        unfold PySem.passOn
        refine wpAny_bind (wpAny_field he hd h1 ?_)
        rw [if_neg (show ¬ ((Value.ref T == Value.none) = true) from by simp)]
        have fin : wpAny (model X.prog X.w) X.A (setFlight (.ref a) X.env.frame) (fun _ s4 => wpAny (model X.prog X.w) X.A (throw (.ref a) : Sem Flow) (SP X pins D) X.xe s4) X.xe { s' with heap := h3 } := by
          rw [hf]
          refine HandSPX.setFlight_upZ fl3 fun h4 hh4 up4 => wpAny_throw (tk _ _ ?_)
          exact ⟨a, B, sI, pins, σ', H', cls, d, rfl, J, nb, (up.trans up3).trans up4, .inr (.inr (by rw [hs]; exact hh4)), na, os, ag, w⟩
        first
          | exact wpAny_bind (wpAny_pure (wpAny_bind fin))
          | exact wpAny_bind fin
      | @cons x c ts b₀ suite np pos' hds2 l2 hc hsu r ih =>
        intro w
        obtain ⟨b, hb1, hyes, hno⟩ := w
        refine wpAny_handleBy_cons (codeAny_handlers_test ?_) (by intro q; cases q)
        have LT : PySem.W.Looks (model X.prog X.w) h3 (typeOf (.ref a)) cls := fun A Q E s k q => wpAny_typeOf_ref (k _ _ he3) (by rw [hz3.1]; exact q)
        have LM := PySem.W.exm_one (M := model X.prog X.w) (J3.kIn) LT hb1
        have test : ∀ {Q : Value → Shared → Prop} {E : Value → Shared → Prop}, Q c { s' with heap := h3 } → wpAny (model X.prog X.w) (X.A.mark (some (.ref a))) (eval (.Name x np) X.env) Q E { s' with heap := h3 } := fun {Q E} q => by
          obtain ⟨hg, hdbg, hm | ⟨hm, hv, hnn⟩⟩ := hc
          · exact ld_glob (X := X.suite a ((a, oe3) :: (X.pn ++ pins))) S3 hg hm q hdbg
          · exact ld_blt (X := X.suite a ((a, oe3) :: (X.pn ++ pins))) S3 hg hm hv q hnn hdbg
        refine test (LM.here ?_)
        cases b with
        | true =>
          refine codeAny_handlers_suite_as ?_
          refine HandSPX.lands_againZ fl3 fun h4 fl4 up4 => ?_
          have J4 : Inv X pins σ' H' { s' with heap := h4 } := J.landed nb fl4.1 ((up.trans up3).trans up4) os ag
          obtain ⟨oe4, vs4, he4, hz4, hd4⟩ := fl4.there
          have S4 := J4.suite he4 hd4 na nL nF
          refine store_ok (X := X.suite a ((a, oe4) :: (X.pn ++ pins))) (v := .ref a) S4 hN hi hloc rfl (fun s5 S5 => ?_) (.inr hln)
          refine wpAny_mono ((hsu a oe4 cls d (X.pn ++ pins) hz4 ⟨_, hd4⟩).run [] s5 _ H' _ S5 (hyes rfl J.len a na)) (fun f s6 hsp => ?_) (fun _ _ z => False.elim z)
          have end_ : ∀ {σ6 : L2.St} {H6 : Hp} {Q : Shared → Prop}, Inv (X.suite a ((a, oe4) :: (X.pn ++ pins))) [] σ6 H6 s6 → (∀ s7, Inv X pins (σ6.set i none) H6 s7 → Q s7) →
              wpAny (model X.prog X.w) X.A (do bindName X.env n .none; unbindBehindTheSuite X.env n pos') (fun _ s7 => Q s7) X.xe s6 := fun {σ6 H6 Q} S6 hq => gone_ok (S6.unsuite ok) hN hi hln hq
          cases f with
          | next =>
            obtain ⟨σ6, H6, S6, q6⟩ := hsp
            exact end_ S6 fun s7 J7 => ⟨_, _, J7, q6⟩
          | brk =>
            obtain ⟨σ6, H6, S6, q6⟩ := hsp
            exact end_ S6 fun s7 J7 => ⟨_, _, J7, q6⟩
          | cont =>
            obtain ⟨σ6, H6, S6, q6⟩ := hsp
            exact end_ S6 fun s7 J7 => ⟨_, _, J7, q6⟩
          | ret u =>
            obtain ⟨v6, σ6, H6, S6, r6, q6⟩ := hsp
            exact end_ S6 fun s7 J7 => ⟨_, _, _, J7, r6, q6⟩
        | false =>
          show wpAny _ X.A (handleBy (.ref a) X.env hds2) _ _ _
          exact ih (hno rfl)
    exact go hh w
  · cases f with
    | next =>
      obtain ⟨σ', H', J', q⟩ := hsp
      exact wpAny_execs_nil ⟨σ', H', J'.ofTry ok, q⟩
    | brk =>
      obtain ⟨σ', H', J', q⟩ := hsp
      exact ⟨σ', H', J'.ofTry ok, q⟩
    | cont =>
      obtain ⟨σ', H', J', q⟩ := hsp
      exact ⟨σ', H', J'.ofTry ok, q⟩
    | ret u =>
      obtain ⟨v, σ', H', J', r, q⟩ := hsp
      exact ⟨v, σ', H', J'.ofTry ok, r, q⟩
end
end Kp
end
section
set_option maxHeartbeats 4000000
namespace Kp
open PySem PySem.Spec PyProof.Rows L2 Evl LamX
local macro_rules | `(tactic| walk_at "ht") => `(tactic| first | assumption | solve_by_elim (config := { maxDepth := 12 }))
local macro_rules | `(tactic| walk_at "ev") => `(tactic| repeat' (first
  | exact ea_nil
  | exact ev_var rfl
  | exact ev_n (n := 0) rfl | exact ev_n (n := 1) rfl | exact ev_n (n := 2) rfl
  | exact rv_andN | exact rv_xorN | exact rv_orN | exact rv_addN | exact rv_shrN | (exact rv_mulN (by decide)) | exact rv_eqN | exact rv_neN | exact rv_ltN
  | (refine' rv_ixT (st_of (by walk_at "ht")) (by rfl))
  | walk_at "evx"
  | refine' ev_op ?_ ?_ ?_
  | refine' ea_cons ?_ ?_))
abbrev N_law_why : List Str := ["_law_call", "_law_found", "e"]
theorem sc_law_why : FnScope N_law_why ["_law_call"] (defScope s_law_why) := ⟨rfl, rfl, rfl, by decide +kernel, rfl, by decide +kernel, by decide +kernel⟩
/-- what the raised error's tuple is -/
def WhyOf (K : PySem.W.Frag) (Q : VK) : XK := fun cls d H => ∃ dd fs, d = some dd ∧ H dd = some (.xd fs) ∧
  ((cls = .ref (He.ga K "Unlike") ∧ ∃ v, fs.lookup ("what" : Str) = some v ∧ ∀ t H', Ex H H' → H' t = some (.tup [.str "unlike", v]) → Q (.ref t) H') ∨
   (cls = .ref (He.ga K "Anticommute") ∧ ∃ v w, fs.lookup ("one" : Str) = some v ∧ fs.lookup ("other" : Str) = some w ∧ ∀ t H', Ex H H' → H' t = some (.tup [.str "anticommute", v, w]) → Q (.ref t) H') ∨
   (cls = .ref (He.ga K "MinusOne") ∧ ∃ v, fs.lookup ("indices" : Str) = some v ∧ ∀ t H', Ex H H' → H' t = some (.tup [.str "minus", v]) → Q (.ref t) H'))
def TTwhy (K : PySem.W.Frag) : (XK → Hp → VK → Prop) → Hp → VK → Prop := fun tl H Q => ∀ H1 Qn, Ex H H1 → tl (WhyOf K Q) H1 Qn
theorem ev_xf {σ : L2.St} {H : Hp} {a dd C : Addr} {cls : Value} {f : Str} {te : TE} {fs : List (Str × V)} {v : V} (h : Ev te σ H (.ref a)) (hc : cls = .ref C) (hd : H dd = some (.xd fs)) (hv : fs.lookup f = some v) : Ev (tXf a cls (some dd) C f te) σ H v := fun H1 e Q k => by
  unfold tXf
  exact h H1 e _ fun H2 e2 => ⟨rfl, hc, dd, fs, v, rfl, (e.trans e2) _ _ hd, hv, k H2 e2⟩
theorem law_why_gives {X : Cx} (T : Tx X.K X.mg) (hx : ∀ x ∈ errN, XfC X.K (He.ga X.K x)) {g : Addr} {cdg : Value} {q : Str} : GivesTo X N_law_why "_law_why" (defScope s_law_why) g cdg (defBody s_law_why) "_law_call" q (TTwhy X.K) := by
  intro f c' s H Q tl act hc h
  refine ⟨_, pss_cons (ps_set (i := 1) sc_law_why.nd rfl (Or.inl rfl) (pe_tup (pa_cons pe_str pa_nil))) (pss_cons (ps_try_manyAs (n := "e") (i := 2)
      (tb := fun W D σ H => ∃ Ech : XK, (∀ cls d σ' H', Ech cls d H' → W cls d σ' H') ∧ σ[0]? = some (some (.ref f)) ∧ H c' = some (CodeO c' q) ∧ tl Ech H (fun _ H' => D.nx σ H'))
      rfl rfl sc_law_why.nd rfl rfl LamX.takes0 (fun W pn xe tk _ => ?_)
      (.cons (ts := fun _ _ _ _ _ _ => False) ⟨by rfl, by decide, .inl (T.glo "BadText" (List.mem_of_getElem? (i := 49) rfl))⟩ (fun _ _ _ _ _ _ _ => ⟨fun _ _ _ _ _ _ h => h.elim⟩) (.cons (ts := fun _ _ _ _ _ _ => False) ⟨by rfl, by decide, .inl (T.glo "BadNumber" (List.mem_of_getElem? (i := 50) rfl))⟩ (fun _ _ _ _ _ _ _ => ⟨fun _ _ _ _ _ _ h => h.elim⟩) (.cons ⟨by rfl, by decide, .inl (T.glo "Unlike" (List.mem_of_getElem? (i := 51) rfl))⟩ (fun a oe cls d pn hz hf => pss_one (ps_set (i := 1) sc_law_why.nd rfl (Or.inl rfl) (pe_tup (pa_cons pe_str (pa_cons (pe_xf (hx "Unlike" (by decide)) (T.ef.noa ("Unlike", "what") (by decide)) hz hf (pv 2)) pa_nil))))) (.cons ⟨by rfl, by decide, .inl (T.glo "Anticommute" (List.mem_of_getElem? (i := 52) rfl))⟩ (fun a oe cls d pn hz hf => pss_one (ps_set (i := 1) sc_law_why.nd rfl (Or.inl rfl) (pe_tup (pa_cons pe_str (pa_cons (pe_xf (hx "Anticommute" (by decide)) (T.ef.noa ("Anticommute", "one") (by decide)) hz hf (pv 2)) (pa_cons (pe_xf (hx "Anticommute" (by decide)) (T.ef.noa ("Anticommute", "other") (by decide)) hz hf (pv 2)) pa_nil)))))) (.cons ⟨by rfl, by decide, .inl (T.glo "MinusOne" (List.mem_of_getElem? (i := 53) rfl))⟩ (fun a oe cls d pn hz hf => pss_one (ps_set (i := 1) sc_law_why.nd rfl (Or.inl rfl) (pe_tup (pa_cons pe_str (pa_cons (pe_xf (hx "MinusOne" (by decide)) (T.ef.noa ("MinusOne", "indices") (by decide)) hz hf (pv 2)) pa_nil))))) .nil)))))) (pss_one (ps_ret (pv 1)))), ?_⟩
  · refine ⟨fun pins s' σ H' D I h' => ?_⟩
    obtain ⟨Ech, hW, h1, h2, h3⟩ := h'
    exact (pss_one (ps_expr (act W pn xe Ech _ _ tk hW))).run pins s' σ H' D I ⟨h1, h2, h3⟩
  · refine q_asgP (P := fun _ _ => True) (EvU.p (xs := [.str "none"]) (eu_tup (ea_cons ev_c ea_nil) (by show 1 ≤ 100000; decide)) |>.imp fun _ _ _ _ => True.intro) fun v H1 e1 _ => ?_
    refine ⟨WhyOf X.K Q, fun cls d σ' H' hw => ?_, rfl, e1 _ _ hc, ?_⟩
    · obtain ⟨dd, fs, rfl, hdd, hcase⟩ := hw
      have ln : ∀ {σ : L2.St}, σ.length = 3 → ∃ x0 x1 x2, σ = [x0, x1, x2] := fun {σ} h => by
        match σ, h with
        | [x0, x1, x2], _ => exact ⟨x0, x1, x2, rfl⟩
      have ex : ∀ x ∈ errN, ∀ y ∈ errC, PySem.W.exmOne X.K (.ref (He.ga X.K x)) (.ref (He.ga X.K y)) = some (decide (x = y)) := T.ef.exm
      rcases hcase with ⟨rfl, v1, hv1, k⟩ | ⟨rfl, v1, v2, hv1, hv2, k⟩ | ⟨rfl, v1, hv1, k⟩
      · refine ⟨_, ex _ (by decide) "BadText" (by decide), (fun h => absurd h (by decide)), fun _ => ⟨_, ex _ (by decide) "BadNumber" (by decide), (fun h => absurd h (by decide)), fun _ => ⟨_, ex _ (by decide) "Unlike" (by decide), fun _ hl a na => ?_, (fun h => absurd h (by decide))⟩⟩⟩
        obtain ⟨x0, x1, x2, rfl⟩ := ln hl
        refine s_asgP (P := fun v H2 => ∃ t, v = .ref t ∧ H2 t = some (.tup [.str "unlike", v1])) ((EvU.p (eu_tup (ea_cons ev_c (ea_cons (ev_xf (ev_var rfl) rfl hdd hv1) ea_nil)) (by show 2 ≤ 100000; decide))).imp fun v H2 e2 q => q) fun v H2 e2 ⟨t, ev, ht⟩ => ?_
        subst ev
        exact s_ret (ev_var rfl) fun H3 e3 => k t H3 (e2.trans e3) (e3 _ _ ht)
      · refine ⟨_, ex _ (by decide) "BadText" (by decide), (fun h => absurd h (by decide)), fun _ => ⟨_, ex _ (by decide) "BadNumber" (by decide), (fun h => absurd h (by decide)), fun _ => ⟨_, ex _ (by decide) "Unlike" (by decide), (fun h => absurd h (by decide)), fun _ => ⟨_, ex _ (by decide) "Anticommute" (by decide), fun _ hl a na => ?_, (fun h => absurd h (by decide))⟩⟩⟩⟩
        obtain ⟨x0, x1, x2, rfl⟩ := ln hl
        refine s_asgP (P := fun v H2 => ∃ t, v = .ref t ∧ H2 t = some (.tup [.str "anticommute", v1, v2])) ((EvU.p (eu_tup (ea_cons ev_c (ea_cons (ev_xf (ev_var rfl) rfl hdd hv1) (ea_cons (ev_xf (ev_var rfl) rfl hdd hv2) ea_nil))) (by show 3 ≤ 100000; decide))).imp fun v H2 e2 q => q) fun v H2 e2 ⟨t, ev, ht⟩ => ?_
        subst ev
        exact s_ret (ev_var rfl) fun H3 e3 => k t H3 (e2.trans e3) (e3 _ _ ht)
      · refine ⟨_, ex _ (by decide) "BadText" (by decide), (fun h => absurd h (by decide)), fun _ => ⟨_, ex _ (by decide) "BadNumber" (by decide), (fun h => absurd h (by decide)), fun _ => ⟨_, ex _ (by decide) "Unlike" (by decide), (fun h => absurd h (by decide)), fun _ => ⟨_, ex _ (by decide) "Anticommute" (by decide), (fun h => absurd h (by decide)), fun _ => ⟨_, ex _ (by decide) "MinusOne" (by decide), fun _ hl a na => ?_, (fun h => absurd h (by decide))⟩⟩⟩⟩⟩
        obtain ⟨x0, x1, x2, rfl⟩ := ln hl
        refine s_asgP (P := fun v H2 => ∃ t, v = .ref t ∧ H2 t = some (.tup [.str "minus", v1])) ((EvU.p (eu_tup (ea_cons ev_c (ea_cons (ev_xf (ev_var rfl) rfl hdd hv1) ea_nil)) (by show 2 ≤ 100000; decide))).imp fun v H2 e2 q => q) fun v H2 e2 ⟨t, ev, ht⟩ => ?_
        subst ev
        exact s_ret (ev_var rfl) fun H3 e3 => k t H3 (e2.trans e3) (e3 _ _ ht)
    · exact h H1 _ e1
end Kp
end
section
set_option maxHeartbeats 4000000
namespace Kp
open PySem PySem.Spec PyProof.Rows L2 Evl
section
variable {K : PySem.W.Frag} {H H' : Hp} {x y : V} {d : PyData}
/-- two objects of the same data, compared by != -/
theorem rv_neDp (hx : ∀ H1, Ex H H1 → Dp K H1 x d) (hy : ∀ H1, Ex H H1 → Dp K H1 y d) (hs : SeqAt.shaped d = true) : RV (rNeD K) x y H (.bl false) := fun H1 e Q k => by
  refine ⟨d, d, hx H1 e, hy H1 e, hs, hs, ?_⟩
  rw [SeqAt.eqv_refl d (SeqAt.canLay_of_shaped hs)]
  exact k H1 (Ex.refl _)
theorem dpAll_nv : ∀ l : List Nat, DpAll K H (l.map fun n : Nat => V.int (n : Int)) (l.map fun n : Nat => PyData.int (n : Int))
  | [] => .nil
  | n :: l => .cons (.int _) (dpAll_nv l)
theorem dp_word2 {t : Addr} {w : Str} {i j : Nat} (h : H t = some (.tup [.str w, .int (i : Int), .int (j : Int)])) : Dp K H (.ref t) (.tuple [.str w, .int (i : Int), .int (j : Int)]) := .tup (st_of h) (.cons (.str _) (.cons (.int _) (.cons (.int _) .nil)))
theorem dp_word1 {t : Addr} {w z : Str} (h : H t = some (.tup [.str w, .str z])) : Dp K H (.ref t) (.tuple [.str w, .str z]) := .tup (st_of h) (.cons (.str _) (.cons (.str _) .nil))
theorem dp_wordT {t t2 : Addr} {w : Str} {l : List Nat} (h : H t = some (.tup [.str w, .ref t2])) (h2 : H t2 = some (.tup (l.map fun n : Nat => V.int (n : Int)))) : Dp K H (.ref t) (.tuple [.str w, .tuple (l.map fun n : Nat => PyData.int (n : Int))]) := .tup (st_of h) (.cons (.str _) (.cons (.tup (st_of h2) (dpAll_nv l)) .nil))
end
end Kp
end
section
set_option maxHeartbeats 200000
namespace Kp
theorem pc_xor : ∀ a b : Nat, pc (a ^^^ b) + 2 * pc (a &&& b) = pc a + pc b := by
  intro a
  induction a using Nat.strongRecOn with
  | ind a ih =>
    intro b
    by_cases ha : a = 0
    · subst ha; simp [pc_zero]
    · have h := ih (a / 2) (by omega) (b / 2)
      rw [pc_step (a ^^^ b), pc_step (a &&& b), pc_step a, pc_step b, Nat.xor_div_two, Nat.and_div_two]
      have h1 : (a ^^^ b) % 2 + 2 * ((a &&& b) % 2) = a % 2 + b % 2 := by
        have e1 : (a ^^^ b) % 2 = (a % 2) ^^^ (b % 2) := Nat.xor_mod_two_pow (n := 1)
        have e2 : (a &&& b) % 2 = (a % 2) &&& (b % 2) := Nat.and_mod_two_pow (n := 1)
        rw [e1, e2]
        rcases Nat.mod_two_eq_zero_or_one a with p | p <;> rcases Nat.mod_two_eq_zero_or_one b with q | q <;> rw [p, q] <;> rfl
      omega
theorem pc_and_xor (a b c : Nat) : pc ((a ^^^ b) &&& c) % 2 = (pc (a &&& c) + pc (b &&& c)) % 2 := by
  have h := pc_xor (a &&& c) (b &&& c)
  rw [← Nat.and_xor_distrib_right] at h
  omega
theorem pc_and_xor' (a b c : Nat) : pc (c &&& (a ^^^ b)) % 2 = (pc (c &&& a) + pc (c &&& b)) % 2 := by
  rw [Nat.and_comm, pc_and_xor, Nat.and_comm a, Nat.and_comm b]
/-- the exponent of i -/
def ph (a : Row) : Int := (pc (a.x &&& a.z) : Int) + 2 * (a.s : Int)
theorem crs_mod (a b : Row) : (crs a b : Int) = ((pc (a.x &&& b.z) : Int) + (pc (a.z &&& b.x) : Int)) % 2 := by
  unfold crs
  rw [show (1 : Nat) = 2 ^ 1 - 1 by rfl, Nat.and_two_pow_sub_one_eq_mod]
  omega
theorem pw_eq (a b : Row) : pw a b = ph a + ph b - (pc ((a.x ^^^ b.x) &&& (a.z ^^^ b.z)) : Int) + 2 * (pc (a.z &&& b.x) : Int) := by
  unfold pw ph; omega
theorem pw_even {a b : Row} (h : crs a b = 0) : pw a b % 2 = 0 := by
  have h1 := crs_mod a b
  rw [h] at h1
  have h2 := pc_and_xor a.x b.x (a.z ^^^ b.z)
  have h3 := pc_and_xor' a.z b.z a.x
  have h4 := pc_and_xor' a.z b.z b.x
  rw [Nat.and_comm b.x a.z] at h4
  unfold pw
  omega
/-- the exponents of a product of two rows that commute -/
theorem ph_mul {a b : Row} (h : crs a b = 0) : (ph (mul a b) - (ph a + ph b + 2 * (pc (a.z &&& b.x) : Int))) % 4 = 0 := by
  have h1 := pw_even h
  have h2 := pw_eq a b
  have h3 : ph (mul a b) = (pc ((a.x ^^^ b.x) &&& (a.z ^^^ b.z)) : Int) + 2 * (pw a b / 2 % 2) := by
    unfold ph mul
    show (pc ((a.x ^^^ b.x) &&& (a.z ^^^ b.z)) : Int) + 2 * (((pw a b / 2 % 2).toNat : Nat) : Int) = _
    omega
  rw [h3]
  omega
theorem row_ext {a b : Row} (hx : a.x = b.x) (hz : a.z = b.z) (ha : a.s ≤ 1) (hb : b.s ≤ 1) (hp : (ph a - ph b) % 4 = 0) : a = b := by
  obtain ⟨x, z, s⟩ := a
  obtain ⟨x', z', s'⟩ := b
  simp only at hx hz
  subst hx hz
  unfold ph at hp
  simp only at hp ha hb
  have : s = s' := by omega
  rw [this]
theorem crs_comm (a b : Row) : crs a b = crs b a := by
  have h1 := crs_mod a b
  have h2 := crs_mod b a
  rw [Nat.and_comm b.x a.z, Nat.and_comm b.z a.x] at h2
  omega
theorem crs_self (a : Row) : crs a a = 0 := by
  have h := crs_mod a a
  rw [Nat.and_comm a.z a.x] at h
  omega
theorem crs_le1 (a b : Row) : crs a b ≤ 1 := by unfold crs; exact Nat.and_le_right
theorem crs_mul (a b c : Row) : crs (mul a b) c = (crs a c + crs b c) % 2 := by
  have h1 := crs_mod (mul a b) c
  have h2 := crs_mod a c
  have h3 := crs_mod b c
  have h4 := pc_and_xor a.x b.x c.z
  have h5 := pc_and_xor a.z b.z c.x
  have e1 : (mul a b).x = a.x ^^^ b.x := rfl
  have e2 : (mul a b).z = a.z ^^^ b.z := rfl
  rw [e1, e2] at h1
  omega
theorem crs_mul' (a b c : Row) : crs c (mul a b) = (crs c a + crs c b) % 2 := by rw [crs_comm, crs_mul, crs_comm a c, crs_comm b c]
theorem crs_mul0 {a b c : Row} (h1 : crs a c = 0) (h2 : crs b c = 0) : crs (mul a b) c = 0 := by rw [crs_mul, h1, h2]
theorem crs_mul0' {a b c : Row} (h1 : crs c a = 0) (h2 : crs c b = 0) : crs c (mul a b) = 0 := by rw [crs_mul', h1, h2]
theorem mul_comm {a b : Row} (h : crs a b = 0) : mul a b = mul b a := by
  refine row_ext (Nat.xor_comm _ _) (Nat.xor_comm _ _) (mul_s _ _) (mul_s _ _) ?_
  have h1 := ph_mul h
  have h2 := ph_mul ((crs_comm b a).trans h)
  have h3 := crs_mod a b
  rw [h] at h3
  rw [Nat.and_comm b.z a.x] at h2
  omega
theorem mul_assoc {a b c : Row} (h1 : crs a b = 0) (h2 : crs a c = 0) (h3 : crs b c = 0) : mul (mul a b) c = mul a (mul b c) := by
  refine row_ext (Nat.xor_assoc _ _ _) (Nat.xor_assoc _ _ _) (mul_s _ _) (mul_s _ _) ?_
  have p1 := ph_mul h1
  have p2 := ph_mul (crs_mul0 h2 h3)
  have p3 := ph_mul h3
  have p4 := ph_mul (crs_mul0' h1 h2)
  have e1 : (mul a b).z = a.z ^^^ b.z := rfl
  have e2 : (mul b c).x = b.x ^^^ c.x := rfl
  rw [e1] at p2
  rw [e2] at p4
  have q1 := pc_and_xor a.z b.z c.x
  have q2 := pc_and_xor' b.x c.x a.z
  omega
theorem mul_self (a : Row) : mul a a = rw0 := by
  refine row_ext (Nat.xor_self _) (Nat.xor_self _) (mul_s _ _) (Nat.zero_le _) ?_
  have p := ph_mul (crs_self a)
  have e : ph a = (pc (a.x &&& a.z) : Int) + 2 * (a.s : Int) := rfl
  rw [Nat.and_comm a.z a.x] at p
  have e0 : ph rw0 = 0 := by unfold ph rw0; simp [pc_zero]
  omega
theorem crs_id (a : Row) : crs a rw0 = 0 := by unfold crs rw0; simp [pc_zero]
theorem mul_id {a : Row} (h : a.s ≤ 1) : mul a rw0 = a := by
  refine row_ext (Nat.xor_zero _) (Nat.xor_zero _) (mul_s _ _) h ?_
  have p := ph_mul (crs_id a)
  have e0 : ph rw0 = 0 := by unfold ph rw0; simp [pc_zero]
  have e1 : pc (a.z &&& rw0.x) = 0 := by unfold rw0; simp [pc_zero]
  rw [e1] at p
  omega
theorem id_mul {a : Row} (h : a.s ≤ 1) : mul rw0 a = a := by rw [mul_comm ((crs_comm _ _).trans (crs_id a)), mul_id h]
end Kp
end
section
set_option maxHeartbeats 200000
namespace Kp
/-- what the rows generate -/
inductive Gen (L : List Row) : Row → Prop
  | id : Gen L rw0
  | mul {a r : Row} : Gen L a → r ∈ L → Gen L (mul a r)
def Com (L : List Row) : Prop := ∀ a ∈ L, ∀ b ∈ L, crs a b = 0
def Sgn (L : List Row) : Prop := ∀ a ∈ L, a.s ≤ 1
theorem Gen.s {L : List Row} {a : Row} (h : Gen L a) : a.s ≤ 1 := by
  cases h with
  | id => exact Nat.zero_le _
  | mul => exact mul_s _ _
theorem Gen.crs1 {L : List Row} {a c : Row} (hc : ∀ r ∈ L, crs r c = 0) (h : Gen L a) : crs a c = 0 := by
  induction h with
  | id => exact (crs_comm _ _).trans (crs_id c)
  | mul _ hr ih => exact crs_mul0 ih (hc _ hr)
theorem Gen.crs {L : List Row} (C : Com L) {a b : Row} (ha : Gen L a) (hb : Gen L b) : crs a b = 0 :=
  ha.crs1 fun r hr => (crs_comm _ _).trans (hb.crs1 fun r' hr' => C r' hr' r hr)
theorem Gen.of {L : List Row} (S : Sgn L) {r : Row} (h : r ∈ L) : Gen L r := by
  have := Gen.mul (Gen.id (L := L)) h
  rwa [id_mul (S r h)] at this
theorem Gen.prod {L : List Row} (C : Com L) (S : Sgn L) {a b : Row} (ha : Gen L a) (hb : Gen L b) : Gen L (Kp.mul a b) := by
  induction hb with
  | id => rw [mul_id ha.s]; exact ha
  | @mul b r hb hr ih =>
    rw [← mul_assoc (ha.crs C hb) (ha.crs C (.of S hr)) (hb.crs C (.of S hr))]
    exact .mul ih hr
theorem Gen.sub {L M : List Row} (C : Com L) (S : Sgn L) (h : ∀ r ∈ M, Gen L r) {a : Row} (ha : Gen M a) : Gen L a := by
  induction ha with
  | id => exact .id
  | mul _ hr ih => exact ih.prod C S (h _ hr)
theorem Gen.mono {L M : List Row} (h : ∀ r ∈ M, r ∈ L) {a : Row} (ha : Gen M a) : Gen L a := by
  induction ha with
  | id => exact .id
  | mul _ hr ih => exact .mul ih (h _ hr)
/-- the group has no minus identity -/
def NoMinus (L : List Row) : Prop := ∀ a, Gen L a → a.x = 0 → a.z = 0 → a.s = 0
theorem NoMinus.sub {L M : List Row} (C : Com L) (S : Sgn L) (h : ∀ r ∈ M, Gen L r) (g : NoMinus L) : NoMinus M := fun a ha => g a (ha.sub C S h)
/-- in a good group the letters tell the sign -/
theorem NoMinus.sign {L : List Row} (C : Com L) (S : Sgn L) (g : NoMinus L) {a b : Row} (ha : Gen L a) (hb : Gen L b) (hx : a.x = b.x) (hz : a.z = b.z) : a = b := by
  have h := g _ (ha.prod C S hb) (show a.x ^^^ b.x = 0 by rw [hx, Nat.xor_self]) (show a.z ^^^ b.z = 0 by rw [hz, Nat.xor_self])
  have e : Kp.mul a b = rw0 := by
    have h1 : (Kp.mul a b).x = 0 := show a.x ^^^ b.x = 0 by rw [hx, Nat.xor_self]
    have h2 : (Kp.mul a b).z = 0 := show a.z ^^^ b.z = 0 by rw [hz, Nat.xor_self]
    cases hm : Kp.mul a b with
    | mk x z s => rw [hm] at h h1 h2; simp only at h h1 h2; rw [h, h1, h2]; rfl
  have e2 : Kp.mul (Kp.mul a b) b = a := by rw [mul_assoc (ha.crs C hb) (ha.crs C hb) (crs_self b), mul_self, mul_id ha.s]
  rw [e, id_mul hb.s] at e2
  exact e2.symm
end Kp
end
section
set_option maxHeartbeats 200000
namespace Kp
theorem RedTo.gen {L : List Row} (C : Com L) (S : Sgn L) {hs : Hds} {n m : Nat} {r left : Row} (hh : ∀ q ∈ hs, Gen L q.2.1) (hr : Gen L r) (h : RedTo hs n r left m) : Gen L left := by
  induction h with
  | refl => exact hr
  | step _ _ l ih => exact ih.prod C S (hh _ (look_mem l))
theorem IndTo.gen {L : List Row} (C : Com L) (S : Sgn L) {n i : Nat} {kept : List Row} {hs : Hds} (h : IndTo L n i kept hs) : ∀ q ∈ hs, Gen L q.2.1 := by
  induction h with
  | nil => intro q hq; simp at hq
  | keep _ hi hred _ _ ih =>
    intro q hq
    rcases List.mem_append.mp hq with h | h
    · exact ih q h
    · rw [List.mem_singleton.mp h]
      exact hred.gen C S ih (.of S (List.mem_of_getElem? hi))
  | drop _ _ _ _ _ ih => exact ih
theorem zero_of_bits {x n : Nat} (hx : x < 2 ^ n) (h : ∀ k, k < n → x >>> k &&& 1 = 0) : x = 0 := by
  apply Nat.eq_of_testBit_eq
  intro k
  rw [Nat.zero_testBit]
  by_cases hk : k < n
  · have := h k hk
    rw [Nat.testBit, Nat.and_comm, this]; rfl
  · exact Nat.testBit_lt_two_pow (Nat.lt_of_lt_of_le hx (Nat.pow_le_pow_right (by decide) (by omega)))
theorem firstCol_zero {r : Row} {n : Nat} (hr : Rw n r) (h : firstCol r n = none) : r.x = 0 ∧ r.z = 0 := by
  have hc := firstCol_no h
  refine ⟨zero_of_bits hr.x fun k hk => ?_, zero_of_bits hr.z fun k hk => ?_⟩
  · have := hc k (by omega)
    unfold col at this
    rwa [if_pos hk] at this
  · have := hc (n + k) (by omega)
    unfold col at this
    rwa [if_neg (by omega), show n + k - n = k by omega] at this
theorem Gen.rw {L : List Row} {n : Nat} (h : ∀ r ∈ L, Rw n r) {a : Row} (g : Gen L a) : Rw n a := by
  induction g with
  | id => exact Rw.id n
  | mul _ hr ih => exact ih.mul (h _ hr)
/-- a good group: no string makes minus one -/
theorem NoMinus.noFail {L : List Row} {n : Nat} (C : Com L) (S : Sgn L) (hr : ∀ r ∈ L, Rw n r) (g : NoMinus L) {ks : List Nat} : ¬ IndFail L n ks := by
  rintro ⟨i, kept, hs, row, left, made, h, hi, hred, hf, hs1, _⟩
  have hg := hred.gen C S (h.gen C S) (.of S (List.mem_of_getElem? hi))
  obtain ⟨hx, hz⟩ := firstCol_zero (hg.rw hr) hf
  have := g _ hg hx hz
  omega
end Kp
end
section
set_option maxHeartbeats 200000
namespace Kp
theorem mul_back {a b : Row} (h : crs a b = 0) (ha : a.s ≤ 1) : mul (mul a b) b = a := by rw [mul_assoc h h (crs_self b), mul_self, mul_id ha]
/-- the reduction read backwards -/
theorem RedTo.back {L M : List Row} (C : Com L) (S : Sgn L) (hM : ∀ r ∈ M, r ∈ L) {hs : Hds} {n m : Nat} {r left : Row} (hh : ∀ q ∈ hs, Gen M q.2.1) (hr : Gen L r) (h : RedTo hs n r left m) (hl : Gen M left) : Gen M r := by
  have CM : Com M := fun a ha b hb => C a (hM a ha) b (hM b hb)
  have SM : Sgn M := fun a ha => S a (hM a ha)
  induction h with
  | refl => exact hl
  | @step r' m c h o hred _ l ih =>
    have hg := hh _ (look_mem l)
    have hr' : Gen L r' := hred.gen C S (fun q hq => (hh q hq).mono hM) hr
    have := hl.prod CM SM hg
    rw [mul_back (hr'.crs C (hg.mono hM)) hr'.s] at this
    exact ih this
theorem IndTo.kept {L : List Row} {n : Nat} (C : Com L) (S : Sgn L) (hr : ∀ r ∈ L, Rw n r) {i : Nat} {kept : List Row} {hs : Hds} (h : IndTo L n i kept hs) : (∀ q ∈ hs, Gen kept q.2.1) ∧ ∀ j, j < i → ∀ r, L[j]? = some r → Gen kept r := by
  induction h with
  | nil => exact ⟨fun q hq => by simp at hq, fun j hj => by omega⟩
  | @keep i kept hs row left made c h0 hi hred hf hl ih =>
    have hk : ∀ r ∈ kept ++ [row], r ∈ L := fun r hr => by
      rcases List.mem_append.mp hr with q | q
      · exact h0.mem r q
      · rw [List.mem_singleton.mp q]; exact List.mem_of_getElem? hi
    have CM : Com (kept ++ [row]) := fun a ha b hb => C a (hk a ha) b (hk b hb)
    have SM : Sgn (kept ++ [row]) := fun a ha => S a (hk a ha)
    have up : ∀ {a}, Gen kept a → Gen (kept ++ [row]) a := fun h => h.mono fun r hr => List.mem_append_left _ hr
    have hrow : Gen (kept ++ [row]) row := .of SM (List.mem_append_right _ (List.mem_singleton.mpr rfl))
    refine ⟨fun q hq => ?_, fun j hj r hjr => ?_⟩
    · rcases List.mem_append.mp hq with h | h
      · exact up (ih.1 q h)
      · rw [List.mem_singleton.mp h]
        exact hred.gen CM SM (fun q hq => up (ih.1 q hq)) hrow
    · by_cases e : j < i
      · exact up (ih.2 j e r hjr)
      · have : j = i := by omega
        subst this
        rw [hi] at hjr
        cases hjr
        exact hrow
  | @drop i kept hs row left made h0 hi hred hf hl ih =>
    refine ⟨ih.1, fun j hj r hjr => ?_⟩
    by_cases e : j < i
    · exact ih.2 j e r hjr
    · have : j = i := by omega
      subst this
      rw [hi] at hjr
      cases hjr
      have hrow : Gen L row := .of S (List.mem_of_getElem? hi)
      have hg : Gen L left := hred.gen C S (h0.gen C S) hrow
      obtain ⟨hx, hz⟩ := firstCol_zero (hg.rw hr) hf
      have hs0 : left.s = 0 := by have := hg.s; omega
      have e0 : left = rw0 := by
        cases left with
        | mk x z s => simp only at hx hz hs0; rw [hx, hz, hs0]; rfl
      exact hred.back C S h0.mem ih.1 hrow (by rw [e0]; exact .id)
/-- what is kept generates all -/
theorem IndOk.gen {L : List Row} {n : Nat} (C : Com L) (S : Sgn L) (hr : ∀ r ∈ L, Rw n r) {kept : List Row} (h : IndOk L n kept) : ∀ r ∈ L, Gen kept r := by
  obtain ⟨hs, h⟩ := h
  intro r hr'
  obtain ⟨j, hj⟩ := List.mem_iff_getElem?.mp hr'
  exact (h.kept C S hr).2 j (List.getElem?_eq_some_iff.mp hj).1 r hj
end Kp
end
section
set_option maxHeartbeats 200000
namespace Kp
/-- two lists of rows that generate the same -/
def GenEq (L M : List Row) : Prop := (∀ r ∈ M, Gen L r) ∧ ∀ r ∈ L, Gen M r
theorem Com.of_gen {L M : List Row} (C : Com L) (h : ∀ r ∈ M, Gen L r) : Com M := fun a ha b hb => (h a ha).crs C (h b hb)
theorem Sgn.of_gen {L M : List Row} (h : ∀ r ∈ M, Gen L r) : Sgn M := fun a ha => (h a ha).s
theorem GenEq.refl {L : List Row} (S : Sgn L) : GenEq L L := ⟨fun r hr => .of S hr, fun r hr => .of S hr⟩
theorem GenEq.trans {L M N : List Row} (C : Com L) (S : Sgn L) (h1 : GenEq L M) (h2 : GenEq M N) : GenEq L N := by
  have CM := C.of_gen h1.1
  have SM := Sgn.of_gen h1.1
  have hN : ∀ r ∈ N, Gen L r := fun r hr => (h2.1 r hr).sub C S h1.1
  exact ⟨hN, fun r hr => (h1.2 r hr).sub (C.of_gen hN) (Sgn.of_gen hN) h2.2⟩
/-- the rows of clr -/
theorem clr_gen {L : List Row} {p n c : Nat} (C : Com L) (S : Sgn L) (hp : p < L.length) : GenEq L (clr L p n c (L.getD p rw0)) := by
  have hpm : L[p]? = some (L.getD p rw0) := by rw [List.getD_eq_getElem?_getD, List.getElem?_eq_getElem hp]; rfl
  have hpL := List.mem_of_getElem? hpm
  have h1 : ∀ r ∈ clr L p n c (L.getD p rw0), Gen L r := by
    intro r hr
    unfold clr at hr
    obtain ⟨k, hk⟩ := List.mem_iff_getElem?.mp hr
    rw [List.getElem?_mapIdx] at hk
    obtain ⟨r0, e1, e2⟩ := Option.map_eq_some_iff.mp hk
    have g0 : Gen L r0 := .of S (List.mem_of_getElem? e1)
    rw [← e2]
    unfold cl1
    split
    · exact .mul g0 hpL
    · exact g0
  have C' := C.of_gen h1
  have S' := Sgn.of_gen h1
  refine ⟨h1, fun r hr => ?_⟩
  obtain ⟨k, hk⟩ := List.mem_iff_getElem?.mp hr
  have at_ : ∀ {j : Nat} {a : Row}, L[j]? = some a → (clr L p n c (L.getD p rw0))[j]? = some (cl1 p n c (L.getD p rw0) j a) := fun {j a} e => by
    unfold clr
    rw [List.getElem?_mapIdx, e]; rfl
  have hpc : L.getD p rw0 ∈ clr L p n c (L.getD p rw0) := by
    have := at_ hpm
    unfold cl1 at this
    rw [if_neg (by simp)] at this
    exact List.mem_of_getElem? this
  have hkc := at_ hk
  have hg := Gen.of S' (List.mem_of_getElem? hkc)
  unfold cl1 at hg
  split at hg
  · have := hg.mul hpc
    rw [mul_back (C r hr _ hpL) (S r hr)] at this
    exact this
  · exact hg
end Kp
end
section
set_option maxHeartbeats 200000
namespace Kp
theorem swp_mem {L : List Row} {p f : Nat} (hp : p < L.length) (hf : f < L.length) (r : Row) : r ∈ swp L p f ↔ r ∈ L := by
  have gd : ∀ {i}, i < L.length → L[i]? = some (L.getD i rw0) := fun {i} h => by rw [List.getD_eq_getElem?_getD, List.getElem?_eq_getElem h]; rfl
  have at_ : ∀ k, (swp L p f)[k]? = if f = k then some (L.getD p rw0) else if p = k then some (L.getD f rw0) else L[k]? := fun k => by
    unfold swp
    rw [List.getElem?_set, List.getElem?_set, List.length_set]
    by_cases e : f = k
    · subst e; simp [hf]
    · by_cases e2 : p = k
      · subst e2; simp [e, hp]
      · simp [e, e2]
  constructor
  · intro h
    obtain ⟨k, hk⟩ := List.mem_iff_getElem?.mp h
    rw [at_] at hk
    split at hk
    · cases hk; exact List.mem_of_getElem? (gd hp)
    · split at hk
      · cases hk; exact List.mem_of_getElem? (gd hf)
      · exact List.mem_of_getElem? hk
  · intro h
    obtain ⟨k, hk⟩ := List.mem_iff_getElem?.mp h
    by_cases e : k = p
    · subst e
      refine List.mem_of_getElem? (i := f) ?_
      rw [at_, if_pos rfl, ← gd hp, hk]
    · by_cases e2 : k = f
      · subst e2
        refine List.mem_of_getElem? (i := p) ?_
        rw [at_, if_neg (fun h => e h), if_pos rfl, ← gd hf, hk]
      · refine List.mem_of_getElem? (i := k) ?_
        rw [at_, if_neg (fun h => e2 h.symm), if_neg (fun h => e h.symm), hk]
theorem swp_gen {L : List Row} (S : Sgn L) {p f : Nat} (hp : p < L.length) (hf : f < L.length) : GenEq L (swp L p f) :=
  ⟨fun r hr => .of S ((swp_mem hp hf r).mp hr), fun r hr => .of (fun a ha => S a ((swp_mem hp hf a).mp ha)) ((swp_mem hp hf r).mpr hr)⟩
theorem colStep_gen {st : List Row × Nat} (C : Com st.1) (S : Sgn st.1) (n c : Nat) : GenEq st.1 (colStep n st c).1 := by
  unfold colStep
  cases h : fnd st.1 st.2 n c with
  | nil => exact .refl S
  | cons f t =>
    obtain ⟨h1, h2, _⟩ := fnd_mem (l := st.1) (p := st.2) (n := n) (c := c) (f := f) (by rw [h]; exact List.mem_cons_self)
    have g := swp_gen S (p := st.2) (f := f) (by omega) h2
    exact g.trans C S (clr_gen (C.of_gen g.1) (Sgn.of_gen g.1) (by rw [swp_len]; omega))
theorem redSt_gen {L : List Row} (C : Com L) (S : Sgn L) (n : Nat) : ∀ m, GenEq L (redSt L n m).1
  | 0 => by show GenEq L L; exact .refl S
  | m + 1 => by
    rw [redSt_succ]
    have g := redSt_gen C S n m
    exact g.trans C S (colStep_gen (C.of_gen g.1) (Sgn.of_gen g.1) n m)
end Kp
end
section
set_option maxHeartbeats 200000
/-! rows as numbers: bit c is column c -/
namespace Kp
def vec (n : Nat) (r : Row) : Nat := r.x ^^^ r.z <<< n
theorem vec_mul (n : Nat) (a b : Row) : vec n (mul a b) = vec n a ^^^ vec n b := by
  show (a.x ^^^ b.x) ^^^ (a.z ^^^ b.z) <<< n = (a.x ^^^ a.z <<< n) ^^^ (b.x ^^^ b.z <<< n)
  rw [Nat.shiftLeft_xor_distrib]
  simp only [Nat.xor_assoc]
  rw [← Nat.xor_assoc b.x, Nat.xor_comm b.x, Nat.xor_assoc]
theorem vec_id (n : Nat) : vec n rw0 = 0 := by unfold vec rw0; simp
theorem vec_bit {n : Nat} {r : Row} (h : Rw n r) (c : Nat) : (vec n r).testBit c = if c < n then r.x.testBit c else r.z.testBit (c - n) := by
  unfold vec
  rw [Nat.testBit_xor, Nat.testBit_shiftLeft]
  by_cases q : c < n
  · rw [if_pos q, decide_eq_false (by omega)]; simp
  · rw [if_neg q, decide_eq_true (by omega), Nat.testBit_lt_two_pow (Nat.lt_of_lt_of_le h.x (Nat.pow_le_pow_right (by decide) (by omega)))]; simp
theorem col_vec {n : Nat} {r : Row} (h : Rw n r) (c : Nat) : col r n c = ((vec n r).testBit c).toNat := by
  rw [vec_bit h]
  unfold col
  split <;> exact shr_and _ _
theorem col_ne {n : Nat} {r : Row} (h : Rw n r) (c : Nat) : col r n c ≠ 0 ↔ (vec n r).testBit c = true := by
  rw [col_vec h]
  cases (vec n r).testBit c <;> simp
theorem col_z {n : Nat} {r : Row} (h : Rw n r) (c : Nat) : col r n c = 0 ↔ (vec n r).testBit c = false := by
  rw [col_vec h]
  cases (vec n r).testBit c <;> simp
theorem vec_zero {n : Nat} {r : Row} (h : Rw n r) (e : vec n r = 0) : r.x = 0 ∧ r.z = 0 := by
  have hb : ∀ c, (vec n r).testBit c = false := fun c => by rw [e]; exact Nat.zero_testBit c
  refine ⟨Nat.eq_of_testBit_eq fun k => ?_, Nat.eq_of_testBit_eq fun k => ?_⟩
  · rw [Nat.zero_testBit]
    by_cases q : k < n
    · have := hb k
      rw [vec_bit h, if_pos q] at this; exact this
    · exact Nat.testBit_lt_two_pow (Nat.lt_of_lt_of_le h.x (Nat.pow_le_pow_right (by decide) (by omega)))
  · rw [Nat.zero_testBit]
    have := hb (n + k)
    rw [vec_bit h, if_neg (by omega), show n + k - n = k by omega] at this
    exact this
theorem vec_same {n : Nat} {a b : Row} (ha : Rw n a) (hb : Rw n b) : vec n a = vec n b ↔ sameXZ a b := by
  constructor
  · intro e
    have h := vec_zero (ha.mul hb) (by rw [vec_mul, e, Nat.xor_self])
    exact ⟨xor_eq_zero h.1, xor_eq_zero h.2⟩
  · rintro ⟨h1, h2⟩
    unfold vec
    rw [h1, h2]
theorem vec_of_zero {n : Nat} {r : Row} (hx : r.x = 0) (hz : r.z = 0) : vec n r = 0 := by unfold vec; rw [hx, hz]; simp
theorem vec_lt {n : Nat} {r : Row} (h : Rw n r) : vec n r < 2 ^ (2 * n) := by
  apply Nat.lt_pow_two_of_testBit
  intro c hc
  rw [vec_bit h, if_neg (by omega)]
  exact Nat.testBit_lt_two_pow (Nat.lt_of_lt_of_le h.z (Nat.pow_le_pow_right (by decide) (by omega)))
/-! ### the lowest bit -/
def Low (v c : Nat) : Prop := v.testBit c = true ∧ ∀ d, d < c → v.testBit d = false
theorem Low.uniq {v c d : Nat} (h1 : Low v c) (h2 : Low v d) : c = d := by
  rcases Nat.lt_trichotomy c d with h | h | h
  · have := h2.2 c h; rw [h1.1] at this; cases this
  · exact h
  · have := h1.2 d h; rw [h2.1] at this; cases this
theorem firstCol_low {n c : Nat} {r : Row} (h : Rw n r) (f : firstCol r n = some c) : Low (vec n r) c := by
  obtain ⟨_, h2, h3⟩ := firstCol_iff f
  exact ⟨(col_ne h c).mp h2, fun d hd => (col_z h d).mp (h3 d hd)⟩
theorem low_firstCol {n c : Nat} {r : Row} (h : Rw n r) (f : Low (vec n r) c) : firstCol r n = some c := by
  refine firstCol_some ?_ ((col_ne h c).mpr f.1) fun d hd => (col_z h d).mpr (f.2 d hd)
  apply Nat.lt_of_not_le
  intro hle
  have := Nat.testBit_lt_two_pow (Nat.lt_of_lt_of_le (vec_lt h) (Nat.pow_le_pow_right (by decide) hle))
  rw [f.1] at this; cases this
theorem firstCol_none_vec {n : Nat} {r : Row} (h : Rw n r) : firstCol r n = none ↔ vec n r = 0 := by
  constructor
  · intro f
    obtain ⟨h1, h2⟩ := firstCol_zero h f
    exact vec_of_zero h1 h2
  · intro e
    exact firstCol_none fun c _ => (col_z h c).mpr (by rw [e]; exact Nat.zero_testBit c)
/-! ### spans by lowest bits -/
theorem Spn.cons {h : Nat} {L : List Nat} {v : Nat} (s : Spn (h :: L) v) : Spn L v ∨ Spn L (v ^^^ h) := by
  induction s with
  | zero => exact .inl .zero
  | @add v a _ ha ih =>
    rcases List.mem_cons.mp ha with rfl | ha
    · rcases ih with ih | ih
      · right; rw [xor_cancel]; exact ih
      · left; exact ih
    · rcases ih with ih | ih
      · left; exact ih.add ha
      · right
        have := ih.add ha
        rw [Nat.xor_assoc, Nat.xor_comm h a, ← Nat.xor_assoc] at this
        exact this
theorem low_xor {u v c d : Nat} (hu : Low u c) (hv : Low v d) (h : c < d) : Low (u ^^^ v) c := by
  refine ⟨?_, fun e he => ?_⟩
  · rw [Nat.testBit_xor, hu.1, hv.2 c h]; rfl
  · rw [Nat.testBit_xor, hu.2 e he, hv.2 e (by omega)]; rfl
/-- rows of unlike lowest bits: a sum that is not zero has one of these -/
theorem spn_low : ∀ {L : List Nat}, (∀ a ∈ L, ∃ c, Low a c) → L.Pairwise (fun a b => ∀ c, Low a c → ¬ Low b c) → ∀ {v : Nat}, Spn L v → v ≠ 0 → ∃ a ∈ L, ∃ c, Low a c ∧ Low v c
  | [], _, _, v, s, nz => by
    exfalso
    have : ∀ u, Spn [] u → u = 0 := fun u hu => by
      induction hu with
      | zero => rfl
      | add _ ha _ => simp at ha
    exact nz (this v s)
  | h :: L, hl, hp, v, s, nz => by
    have hp' := List.pairwise_cons.mp hp
    have hl' : ∀ a ∈ L, ∃ c, Low a c := fun a ha => hl a (List.mem_cons_of_mem _ ha)
    obtain ⟨c, hc⟩ := hl h List.mem_cons_self
    rcases s.cons with s1 | s1
    · obtain ⟨a, ha, d, h1, h2⟩ := spn_low hl' hp'.2 s1 nz
      exact ⟨a, List.mem_cons_of_mem _ ha, d, h1, h2⟩
    · by_cases z : v ^^^ h = 0
      · exact ⟨h, List.mem_cons_self, c, hc, by rw [xor_eq_zero z]; exact hc⟩
      · obtain ⟨a, ha, d, h1, h2⟩ := spn_low hl' hp'.2 s1 z
        have hne : c ≠ d := fun e => by subst e; exact hp'.1 a ha c hc h1
        have ev : v = (v ^^^ h) ^^^ h := (xor_cancel v h).symm
        rcases Nat.lt_or_gt_of_ne hne with q | q
        · refine ⟨h, List.mem_cons_self, c, hc, ?_⟩
          rw [ev, Nat.xor_comm]
          exact low_xor hc h2 q
        · refine ⟨a, List.mem_cons_of_mem _ ha, d, h1, ?_⟩
          rw [ev]
          exact low_xor h2 hc q
/-! ### independent rows: none is a sum of those ahead -/
def Indep (l : List Nat) : Prop := ∀ (i a : Nat), l[i]? = some a → ¬ Spn (l.take i) a
theorem Indep.nil : Indep [] := fun i a h => by simp at h
theorem Indep.snoc {l : List Nat} {a : Nat} (h : Indep l) (ha : ¬ Spn l a) : Indep (l ++ [a]) := by
  intro i b hb
  by_cases q : i < l.length
  · rw [List.getElem?_append_left q] at hb
    rw [List.take_append_of_le_length (by omega)]
    exact h i b hb
  · have hi : i < (l ++ [a]).length := (List.getElem?_eq_some_iff.mp hb).1
    rw [List.length_append] at hi
    have : i = l.length := by simp at hi; omega
    subst this
    rw [List.getElem?_append_right (Nat.le_refl _), Nat.sub_self] at hb
    have : a = b := by simpa using hb
    subst this
    rw [List.take_left']
    · exact ha
    · rfl
theorem Indep.init {l : List Nat} {a : Nat} (h : Indep (l ++ [a])) : Indep l ∧ ¬ Spn l a := by
  refine ⟨fun i b hb => ?_, ?_⟩
  · have hi := (List.getElem?_eq_some_iff.mp hb).1
    have := h i b (by rw [List.getElem?_append_left hi]; exact hb)
    rwa [List.take_append_of_le_length (by omega)] at this
  · have := h l.length a (by rw [List.getElem?_append_right (Nat.le_refl _), Nat.sub_self]; rfl)
    rwa [List.take_left' rfl] at this
/-- the sum of the rows that a mask names -/
def msum (l : List Nat) (m : Nat) : Nat := ((List.range l.length).filter fun i => m >>> i &&& 1 != 0).foldl (fun v i => v ^^^ l.getD i 0) 0
theorem foldl_getD {l : List Nat} {a : Nat} : ∀ (is : List Nat) (v : Nat), (∀ i ∈ is, i < l.length) → is.foldl (fun v i => v ^^^ (l ++ [a]).getD i 0) v = is.foldl (fun v i => v ^^^ l.getD i 0) v
  | [], _, _ => rfl
  | i :: is, v, h => by
    rw [List.foldl_cons, List.foldl_cons, foldl_getD is _ fun j hj => h j (List.mem_cons_of_mem _ hj)]
    congr 2
    have := h i List.mem_cons_self
    rw [List.getD_eq_getElem?_getD, List.getD_eq_getElem?_getD, List.getElem?_append_left this]
theorem shr_ne (m i : Nat) : (m >>> i &&& 1 != 0) = m.testBit i := by
  rw [shr_and]
  cases m.testBit i <;> rfl
theorem msum_snoc (l : List Nat) (a m : Nat) : msum (l ++ [a]) m = msum l m ^^^ if m.testBit l.length then a else 0 := by
  unfold msum
  rw [List.length_append, List.length_singleton, List.range_succ, List.filter_append, List.foldl_append]
  rw [foldl_getD _ _ fun i hi => List.mem_range.mp (List.mem_filter.mp hi).1]
  have e : (l ++ [a]).getD l.length 0 = a := by rw [List.getD_eq_getElem?_getD, List.getElem?_append_right (Nat.le_refl _), Nat.sub_self]; rfl
  cases h : m.testBit l.length with
  | true =>
    rw [List.filter_cons_of_pos (by rw [shr_ne]; exact h), List.filter_nil, List.foldl_cons, List.foldl_nil, e, if_pos rfl]
  | false =>
    rw [List.filter_cons_of_neg (by rw [shr_ne, h]; simp), List.filter_nil, List.foldl_nil]; simp
theorem snoc_ind {P : List Nat → Prop} (h0 : P []) (h1 : ∀ l a, P l → P (l ++ [a])) : ∀ l, P l := by
  have key : ∀ k (l : List Nat), l.length = k → P l := by
    intro k
    induction k with
    | zero => intro l hl; rw [List.eq_nil_of_length_eq_zero hl]; exact h0
    | succ k ih =>
      intro l hl
      have hne : l ≠ [] := by rintro rfl; simp at hl
      rw [← List.dropLast_concat_getLast hne]
      refine h1 _ _ (ih _ ?_)
      rw [List.length_dropLast]; omega
  exact fun l => key _ l rfl
theorem msum_spn (m : Nat) : ∀ l : List Nat, Spn l (msum l m) := by
  refine snoc_ind .zero fun l a ih => ?_
  rw [msum_snoc]
  refine (ih.mono fun x hx => List.mem_append_left _ hx).xor ?_
  split
  · exact .one (List.mem_append_right _ (List.mem_singleton.mpr rfl))
  · exact .zero
theorem msum_inj : ∀ l : List Nat, Indep l → ∀ m m' : Nat, m < 2 ^ l.length → m' < 2 ^ l.length → msum l m = msum l m' → m = m' := by
  have key : ∀ l : List Nat, Indep l → ∀ m m' : Nat, msum l m = msum l m' → ∀ i, i < l.length → m.testBit i = m'.testBit i := by
    refine snoc_ind (fun _ _ _ _ i hi => absurd hi (Nat.not_lt_zero _)) fun l a ih hI m m' he i hi => ?_
    obtain ⟨h1, h2⟩ := hI.init
    rw [msum_snoc, msum_snoc] at he
    have hb : m.testBit l.length = m'.testBit l.length := by
      cases b1 : m.testBit l.length <;> cases b2 : m'.testBit l.length
      · rfl
      · exfalso
        simp only [b1, b2, if_true, Bool.false_eq_true, if_false, Nat.xor_zero] at he
        refine h2 ?_
        have := (msum_spn m l).xor (msum_spn m' l)
        rw [he, Nat.xor_comm, ← Nat.xor_assoc, Nat.xor_self, Nat.zero_xor] at this
        exact this
      · exfalso
        simp only [b1, b2, if_true, Bool.false_eq_true, if_false, Nat.xor_zero] at he
        refine h2 ?_
        have := (msum_spn m' l).xor (msum_spn m l)
        rw [← he, Nat.xor_comm, ← Nat.xor_assoc, Nat.xor_self, Nat.zero_xor] at this
        exact this
      · rfl
    by_cases q : i = l.length
    · subst q; exact hb
    · rw [List.length_append, List.length_singleton] at hi
      refine ih h1 m m' ?_ i (by omega)
      rw [hb] at he
      have := congrArg (· ^^^ (if m'.testBit l.length = true then a else 0)) he
      simp only [xor_cancel] at this
      exact this
  intro l hI m m' hm hm' he
  apply Nat.eq_of_testBit_eq
  intro i
  by_cases q : i < l.length
  · exact key l hI m m' he i q
  · rw [Nat.testBit_lt_two_pow (Nat.lt_of_lt_of_le hm (Nat.pow_le_pow_right (by decide) (by omega))), Nat.testBit_lt_two_pow (Nat.lt_of_lt_of_le hm' (Nat.pow_le_pow_right (by decide) (by omega)))]
/-- every sum has a mask -/
theorem spn_msum : ∀ l : List Nat, ∀ v, Spn l v → ∃ m, m < 2 ^ l.length ∧ msum l m = v := by
  have lowm : ∀ (l : List Nat) (m m' : Nat), (∀ i, i < l.length → m.testBit i = m'.testBit i) → msum l m = msum l m' := by
    intro l m m' h
    unfold msum
    rw [List.filter_congr (q := fun i => m' >>> i &&& 1 != 0) fun i hi => by rw [shr_ne, shr_ne, h i (List.mem_range.mp hi)]]
  refine snoc_ind (fun v hv => ⟨0, Nat.one_pos, ?_⟩) fun l a ih v hv => ?_
  · have : ∀ u, Spn [] u → u = 0 := fun u hu => by
      induction hu with
      | zero => rfl
      | add _ ha _ => simp at ha
    rw [this v hv]; rfl
  · have h2 : Spn (a :: l) v := hv.mono fun x hx => by
      rcases List.mem_append.mp hx with h | h
      · exact List.mem_cons_of_mem _ h
      · rw [List.mem_singleton.mp h]; exact List.mem_cons_self
    rw [List.length_append, List.length_singleton]
    rcases h2.cons with s | s
    · obtain ⟨m, hm, e⟩ := ih v s
      refine ⟨m, Nat.lt_of_lt_of_le hm (Nat.pow_le_pow_right (by decide) (Nat.le_succ _)), ?_⟩
      rw [msum_snoc, Nat.testBit_lt_two_pow hm, e]; simp
    · obtain ⟨m, hm, e⟩ := ih _ s
      refine ⟨m ^^^ 2 ^ l.length, Nat.xor_lt_two_pow (Nat.lt_of_lt_of_le hm (Nat.pow_le_pow_right (by decide) (Nat.le_succ _))) (Nat.pow_lt_pow_right (by decide) (Nat.lt_succ_self _)), ?_⟩
      rw [msum_snoc, Nat.testBit_xor, Nat.testBit_lt_two_pow hm, Nat.testBit_two_pow_self, lowm l (m ^^^ 2 ^ l.length) m ?_, e]
      · simp only [Bool.false_xor, if_true]
        rw [xor_cancel]
      · intro i hi
        rw [Nat.testBit_xor, Nat.testBit_two_pow_of_ne (by omega)]; simp
end Kp
end
section
set_option maxHeartbeats 200000
/-! the kept rows, the masks: what the program finds is what the law finds -/
namespace Kp
def pmk (rows : List Row) (N o : Nat) : Row := prodm rows ((List.range N).filter fun k => o.testBit k)
theorem pmk_zero (rows : List Row) (o : Nat) : pmk rows 0 o = rw0 := rfl
theorem pmk_succ (rows : List Row) (N o : Nat) : pmk rows (N + 1) o = if o.testBit N then mul (pmk rows N o) (rows.getD N rw0) else pmk rows N o := by
  unfold pmk prodm
  rw [List.range_succ, List.filter_append, List.foldl_append]
  cases h : o.testBit N with
  | true => rw [List.filter_cons_of_pos h, List.filter_nil, List.foldl_cons, List.foldl_nil, if_pos rfl]
  | false => rw [List.filter_cons_of_neg (by rw [h]; simp), List.filter_nil, List.foldl_nil]; simp
theorem getD_mem {rows : List Row} {i : Nat} (h : i < rows.length) : rows.getD i rw0 ∈ rows := by
  rw [List.getD_eq_getElem?_getD, List.getElem?_eq_getElem h]
  exact List.getElem_mem h
theorem pmk_gen {rows : List Row} (o : Nat) : ∀ N, N ≤ rows.length → Gen rows (pmk rows N o)
  | 0, _ => .id
  | N + 1, h => by
    rw [pmk_succ]
    have ih := pmk_gen (rows := rows) o N (by omega)
    split
    · exact .mul ih (getD_mem (by omega))
    · exact ih
theorem pmk_xor {rows : List Row} (C : Com rows) (S : Sgn rows) (o o' : Nat) : ∀ N, N ≤ rows.length → pmk rows N (o ^^^ o') = mul (pmk rows N o) (pmk rows N o')
  | 0, _ => (mul_self rw0).symm
  | N + 1, h => by
    rw [pmk_succ, pmk_succ, pmk_succ, Nat.testBit_xor, pmk_xor C S o o' N (by omega)]
    have gA := pmk_gen (rows := rows) o N (by omega)
    have gB := pmk_gen (rows := rows) o' N (by omega)
    have ga : Gen rows (rows.getD N rw0) := .of S (getD_mem (by omega))
    generalize pmk rows N o = A at *
    generalize pmk rows N o' = B at *
    generalize rows.getD N rw0 = a at *
    have cAB := gA.crs C gB
    have cAa := gA.crs C ga
    have cBa := gB.crs C ga
    have caB := ga.crs C gB
    cases o.testBit N <;> cases o'.testBit N
    · simp
    · simp only [Bool.false_xor, if_true, Bool.false_eq_true, if_false]
      exact mul_assoc cAB cAa cBa
    · simp only [Bool.xor_false, if_true, Bool.false_eq_true, if_false]
      rw [mul_assoc cAa cAB caB, mul_comm caB, ← mul_assoc cAB cAa cBa]
    · simp only [Bool.xor_self, if_true, Bool.false_eq_true, if_false]
      rw [mul_comm cBa, ← mul_assoc (crs_mul0 cAa (crs_self a)) (crs_mul0 cAB caB) caB, mul_back cAa gA.s]
theorem pmk_off {rows : List Row} {o : Nat} : ∀ N, (∀ k, k < N → o.testBit k = false) → pmk rows N o = rw0
  | 0, _ => rfl
  | N + 1, h => by
    rw [pmk_succ, h N (Nat.lt_succ_self N), pmk_off N fun k hk => h k (by omega)]; simp
theorem pmk_one {rows : List Row} (S : Sgn rows) {i : Nat} (hi : i < rows.length) : ∀ N, i < N → N ≤ rows.length → pmk rows N (2 ^ i) = rows.getD i rw0
  | 0, h, _ => absurd h (Nat.not_lt_zero _)
  | N + 1, h, h2 => by
    rw [pmk_succ]
    by_cases e : i = N
    · subst e
      rw [Nat.testBit_two_pow_self, if_pos rfl, pmk_off i fun k hk => Nat.testBit_two_pow_of_ne (by omega), id_mul (S _ (getD_mem hi))]
    · rw [Nat.testBit_two_pow_of_ne e, pmk_one S hi N (by omega) (by omega)]; simp
theorem filter_range_lt {p : Nat → Bool} {i : Nat} : ∀ {N : Nat}, i ≤ N → (∀ k, p k = true → k < i) → (List.range N).filter p = (List.range i).filter p := by
  intro N h hp
  obtain ⟨d, rfl⟩ := Nat.exists_eq_add_of_le h
  clear h
  induction d with
  | zero => rfl
  | succ d ih =>
    rw [← Nat.add_assoc, List.range_succ, List.filter_append, ih, List.filter_cons_of_neg, List.filter_nil, List.append_nil]
    intro z
    have := hp _ z
    omega
/-! ### masks -/
def rvec (rows : List Row) (n k : Nat) : Nat := vec n (rows.getD k rw0)
theorem vec_prodm {rows : List Row} {n : Nat} (ks : List Nat) (m : Nat) : vec n (prodm rows (selm ks m)) = msum (ks.map (rvec rows n)) m := by
  have key : ∀ (F : List Nat) (r : Row) (v : Nat), vec n r = v → (∀ i ∈ F, i < ks.length) → vec n ((F.map fun i => ks.getD i 0).foldl (fun m i => mul m (rows.getD i rw0)) r) = F.foldl (fun v i => v ^^^ (ks.map (rvec rows n)).getD i 0) v := by
    intro F
    induction F with
    | nil => intro r v h _; exact h
    | cons i F ih =>
      intro r v h hF
      rw [List.map_cons, List.foldl_cons, List.foldl_cons]
      refine ih _ _ ?_ fun j hj => hF j (List.mem_cons_of_mem _ hj)
      rw [vec_mul, h]
      congr 1
      have := hF i List.mem_cons_self
      simp [List.getD_eq_getElem?_getD, this, rvec]
  unfold prodm selm msum
  rw [List.length_map]
  exact key _ _ _ (vec_id n) fun i hi => List.mem_range.mp (List.mem_filter.mp hi).1
theorem map_getD_range (ks : List Nat) : (List.range ks.length).map (fun i => ks.getD i 0) = ks := by
  apply List.ext_getElem (by simp)
  intro i h1 h2
  simp [List.getD_eq_getElem?_getD, h2]
theorem selm_mask (ks : List Nat) (o : Nat) : selm ks (bsum (fun j => o.testBit (ks.getD j 0)) ks.length) = ks.filter fun k => o.testBit k := by
  have e : (List.range ks.length).filter (fun i => bsum (fun j => o.testBit (ks.getD j 0)) ks.length >>> i &&& 1 != 0) = (List.range ks.length).filter fun i => o.testBit (ks.getD i 0) := by
    refine List.filter_congr fun i hi => ?_
    rw [bsum_bit _ _ i (List.mem_range.mp hi)]
    cases o.testBit (ks.getD i 0) <;> rfl
  unfold selm
  rw [e]
  conv => rhs; rw [← map_getD_range ks, List.filter_map]
  rfl
theorem FirstMask.uniq {rows : List Row} {kept : List Nat} {k m m' : Nat} (h : FirstMask rows kept k m) (h' : FirstMask rows kept k m') : m = m' := by
  rcases Nat.lt_trichotomy m m' with q | q | q
  · exact absurd h.2.1 (h'.2.2 m q)
  · exact q
  · exact absurd h'.2.1 (h.2.2 m' q)
theorem DueSt.uniq {rows : List Row} {k : Nat} {a : List Nat} (h : DueSt rows k a) : ∀ {b : List Nat}, DueSt rows k b → a = b := by
  induction h with
  | nil => intro b hb; cases hb; rfl
  | keep h0 hn ih =>
    intro b hb
    cases hb with
    | keep g0 _ => rw [ih g0]
    | skip g0 gf _ =>
      rw [← ih g0] at gf
      exact absurd gf.2.1 (hn _ gf.1)
  | skip h0 hf hs ih =>
    intro b hb
    cases hb with
    | keep g0 gn =>
      rw [← ih g0] at gn
      exact absurd hf.2.1 (gn _ hf.1)
    | skip g0 _ _ => exact ih g0
theorem DueSt.pre {rows : List Row} {k : Nat} {a : List Nat} (h : DueSt rows k a) : ∀ j, j ≤ k → ∃ b, DueSt rows j b := by
  induction h with
  | nil => intro j hj; rw [Nat.le_zero.mp hj]; exact ⟨_, .nil⟩
  | keep h0 hn ih =>
    intro j hj
    rcases Nat.lt_or_eq_of_le hj with q | q
    · exact ih j (by omega)
    · subst q; exact ⟨_, .keep h0 hn⟩
  | skip h0 hf hs ih =>
    intro j hj
    rcases Nat.lt_or_eq_of_le hj with q | q
    · exact ih j (by omega)
    · subst q; exact ⟨_, .skip h0 hf hs⟩
theorem due_stop {rows : List Row} {k : Nat} {kept : List Nat} {mask : Nat} (h : DueSt rows k kept) (hf : FirstMask rows kept k mask) (hs : (prodm rows (selm kept mask)).s ≠ (rows.getD k rw0).s) {j : Nat} {b : List Nat} (hb : DueSt rows j b) : j ≤ k := by
  apply Nat.le_of_not_lt
  intro q
  obtain ⟨c, hc⟩ := hb.pre (k + 1) q
  cases hc with
  | keep g0 gn =>
    rw [← h.uniq g0] at gn
    exact gn _ hf.1 hf.2.1
  | skip g0 gf gs =>
    have e := h.uniq g0
    subst e
    rw [← hf.uniq gf] at gs
    exact hs gs
theorem DueMinus.uniq {rows : List Row} {a b : List Nat} (h : DueMinus rows a) (h' : DueMinus rows b) : a = b := by
  obtain ⟨k, kept, mask, hk, h1, h2, h3, rfl⟩ := h
  obtain ⟨k', kept', mask', hk', h1', h2', h3', rfl⟩ := h'
  have e : k = k' := Nat.le_antisymm (due_stop h1' h2' h3' h1) (due_stop h1 h2 h3 h1')
  subst e
  have e := h1.uniq h1'
  subst e
  rw [h2.uniq h2']
theorem DueMinus.not {rows : List Row} {a b : List Nat} (h : DueMinus rows a) (h' : DueSt rows rows.length b) : False := by
  obtain ⟨k, kept, mask, hk, h1, h2, h3, rfl⟩ := h
  have := due_stop h1 h2 h3 h'
  omega
/-! ### the program's way -/
structure Inv (rows : List Row) (n i : Nat) (kept : List Row) (hs : Hds) (ks : List Nat) : Prop where
  due : DueSt rows i ks
  kp : kept = ks.map fun k => rows.getD k rw0
  fl : ks = (List.range i).filter fun k => decide (k ∈ ks)
  hd : ∀ q ∈ hs, q.2.1 = pmk rows rows.length q.2.2 ∧ ∀ k, q.2.2.testBit k = true → k ∈ ks
  ind : Indep (ks.map (rvec rows n))
  sp : ∀ v, Spn (ks.map (rvec rows n)) v → Spn (hs.map fun q => vec n q.2.1) v
  dis : hs.Pairwise fun a b => a.1 ≠ b.1
section
variable {rows : List Row} {n : Nat}
theorem RedTo.mask (C : Com rows) (S : Sgn rows) {hs : Hds} {ks : List Nat} (hd : ∀ q ∈ hs, q.2.1 = pmk rows rows.length q.2.2 ∧ ∀ k, q.2.2.testBit k = true → k ∈ ks) {r left : Row} {made : Nat} (hr : Gen rows r) (h : RedTo hs n r left made) :
    left = mul r (pmk rows rows.length made) ∧ (∀ k, made.testBit k = true → k ∈ ks) ∧ Spn (hs.map fun q => vec n q.2.1) (vec n left ^^^ vec n r) := by
  induction h with
  | refl => exact ⟨by rw [pmk_off _ fun k _ => Nat.zero_testBit k, mul_id hr.s], fun k hk => (by rw [Nat.zero_testBit] at hk; cases hk), by rw [Nat.xor_self]; exact .zero⟩
  | @step r' m c h o _ _ l ih =>
    obtain ⟨i1, i2, i3⟩ := ih
    have hm := look_mem l
    obtain ⟨e, hk⟩ := hd _ hm
    dsimp only at e hk
    refine ⟨?_, fun k hb => ?_, ?_⟩
    · rw [pmk_xor C S m o _ (Nat.le_refl _), ← e, i1]
      have gh : Gen rows h := by rw [e]; exact pmk_gen o _ (Nat.le_refl _)
      have gm := pmk_gen (rows := rows) m _ (Nat.le_refl _)
      exact mul_assoc (hr.crs C gm) (hr.crs C gh) (gm.crs C gh)
    · rw [Nat.testBit_xor] at hb
      cases b1 : m.testBit k with
      | true => exact i2 k b1
      | false =>
        rw [b1, Bool.false_xor] at hb
        exact hk k hb
    · rw [vec_mul, Nat.xor_assoc, Nat.xor_comm (vec n h), ← Nat.xor_assoc]
      exact i3.add (List.mem_map.mpr ⟨_, hm, rfl⟩)
theorem Inv.notSpn {i : Nat} {kept : List Row} {hs : Hds} {ks : List Nat} (C : Com rows) (S : Sgn rows) (R : ∀ r ∈ rows, Rw n r) (I : Inv rows n i kept hs ks) (ok : HsOk n hs) {row left : Row} {made c : Nat} (hi : rows[i]? = some row) (hred : RedTo hs n row left made) (hf : firstCol left n = some c) (hl : look hs c = none) : ¬ Spn (ks.map (rvec rows n)) (vec n row) := by
  intro hsp
  have gr : Gen rows row := .of S (List.mem_of_getElem? hi)
  obtain ⟨e, _, h3⟩ := hred.mask C S I.hd gr
  have rl : Rw n left := by rw [e]; exact (gr.rw R).mul ((pmk_gen made _ (Nat.le_refl _)).rw R)
  have hv : Spn (hs.map fun q => vec n q.2.1) (vec n left) := by
    have := h3.xor (I.sp _ hsp)
    rwa [xor_cancel] at this
  have hlow := firstCol_low rl hf
  have rh : ∀ q ∈ hs, Rw n q.2.1 := fun q hq => by rw [(I.hd q hq).1]; exact (pmk_gen _ _ (Nat.le_refl _)).rw R
  obtain ⟨a, ha, d, h1, h2⟩ := spn_low (L := hs.map fun q => vec n q.2.1) (fun a ha => by
    obtain ⟨q, hq, rfl⟩ := List.mem_map.mp ha
    exact ⟨_, firstCol_low (rh q hq) (ok q hq)⟩) (by
    rw [List.pairwise_map]
    refine I.dis.imp_of_mem fun {a b} ha hb hab c h1 h2 => hab ?_
    rw [(firstCol_low (rh a ha) (ok a ha)).uniq h1, (firstCol_low (rh b hb) (ok b hb)).uniq h2]) hv (fun z => by have := hlow.1; rw [z, Nat.zero_testBit] at this; cases this)
  obtain ⟨q, hq, rfl⟩ := List.mem_map.mp ha
  have e1 := (firstCol_low (rh q hq) (ok q hq)).uniq h1
  have e2 := hlow.uniq h2
  exact look_none hl q hq (by omega)
theorem getDr_of {i : Nat} {row : Row} (h : rows[i]? = some row) : rows.getD i rw0 = row := by rw [List.getD_eq_getElem?_getD, h]; rfl
/-- the mask of a row that is made -/
theorem Inv.mask {i : Nat} {kept : List Row} {hs : Hds} {ks : List Nat} (C : Com rows) (S : Sgn rows) (R : ∀ r ∈ rows, Rw n r) (I : Inv rows n i kept hs ks) {row left : Row} {made : Nat} (hi : rows[i]? = some row) (hred : RedTo hs n row left made) (hf : firstCol left n = none) :
    ∃ mask, FirstMask rows ks i mask ∧ prodm rows (selm ks mask) = pmk rows rows.length made ∧ selm ks mask = (List.range i).filter fun k => made.testBit k := by
  have il : i < rows.length := (List.getElem?_eq_some_iff.mp hi).1
  have gr : Gen rows row := .of S (List.mem_of_getElem? hi)
  obtain ⟨e, hk, _⟩ := hred.mask C S I.hd gr
  have gp := pmk_gen (rows := rows) made _ (Nat.le_refl _)
  have rl : Rw n left := by rw [e]; exact (gr.rw R).mul (gp.rw R)
  have hlt : ∀ k ∈ ks, k < i := I.due.len.2
  have esel : selm ks (bsum (fun j => made.testBit (ks.getD j 0)) ks.length) = (List.range i).filter fun k => made.testBit k := by
    rw [selm_mask]
    conv => lhs; rw [I.fl]
    rw [List.filter_filter]
    refine List.filter_congr fun k hk' => ?_
    cases hb : made.testBit k with
    | false => rfl
    | true => rw [decide_eq_true (hk k hb)]; rfl
  have eprod : prodm rows (selm ks (bsum (fun j => made.testBit (ks.getD j 0)) ks.length)) = pmk rows rows.length made := by
    rw [esel]
    unfold pmk
    exact congrArg (prodm rows) (filter_range_lt (p := fun k => made.testBit k) (N := rows.length) (i := i) (by omega) fun k hb => hlt k (hk k hb)).symm
  have evec : vec n (pmk rows rows.length made) = vec n row := by
    have h0 := (firstCol_none_vec rl).mp hf
    rw [e, vec_mul] at h0
    exact (xor_eq_zero h0).symm
  refine ⟨_, ⟨bsum_lt _ _, ?_, fun m hm hs' => ?_⟩, eprod, esel⟩
  · rw [eprod, getDr_of hi]
    exact (vec_same (gp.rw R) (gr.rw R)).mp evec
  · rw [getDr_of hi] at hs'
    have rp : Rw n (prodm rows (selm ks m)) := by
      have key : ∀ (l : List Nat) (m : Row), Rw n m → Rw n (l.foldl (fun m i => mul m (rows.getD i rw0)) m) := by
        intro l
        induction l with
        | nil => intro m h; exact h
        | cons i r ih => intro m hm; exact ih _ (hm.mul (getD_all R (Rw.id n) i))
      exact key _ rw0 (Rw.id n)
    have h1 := (vec_same rp (gr.rw R)).mpr hs'
    rw [vec_prodm] at h1
    have h2 : msum (ks.map (rvec rows n)) (bsum (fun j => made.testBit (ks.getD j 0)) ks.length) = vec n row := by
      rw [← vec_prodm, eprod]; exact evec
    have hb := bsum_lt (fun j => made.testBit (ks.getD j 0)) ks.length
    have := msum_inj _ I.ind _ _ (by rw [List.length_map]; omega) (by rw [List.length_map]; exact hb) (h1.trans h2.symm)
    omega
theorem IndTo.inv (C : Com rows) (S : Sgn rows) (R : ∀ r ∈ rows, Rw n r) {i : Nat} {kept : List Row} {hs : Hds} (h : IndTo rows n i kept hs) : ∃ ks, Inv rows n i kept hs ks := by
  induction h with
  | nil => exact ⟨[], .nil, rfl, rfl, fun q hq => by simp at hq, Indep.nil, fun v hv => hv, .nil⟩
  | @keep i kept hs row left made c h0 hi hred hf hl ih =>
    obtain ⟨ks, I⟩ := ih
    have il : i < rows.length := (List.getElem?_eq_some_iff.mp hi).1
    have gr : Gen rows row := .of S (List.mem_of_getElem? hi)
    obtain ⟨e, hk, h3⟩ := hred.mask C S I.hd gr
    have ns := I.notSpn C S R h0.hsok hi hred hf hl
    have hlt : ∀ k ∈ ks, k < i := I.due.len.2
    have er : rvec rows n i = vec n row := by unfold rvec; rw [getDr_of hi]
    refine ⟨ks ++ [i], ?_, ?_, ?_, ?_, ?_, ?_, ?_⟩
    · refine .keep I.due fun m hm hs' => ns ?_
      rw [getDr_of hi] at hs'
      have : vec n (prodm rows (selm ks m)) = vec n row := by unfold vec; rw [hs'.1, hs'.2]
      rw [← this, vec_prodm]
      exact msum_spn _ _
    · rw [I.kp, List.map_append, List.map_singleton, getDr_of hi]
    · rw [List.range_succ, List.filter_append, List.filter_cons_of_pos (by simp), List.filter_nil]
      congr 1
      conv => lhs; rw [I.fl]
      refine List.filter_congr fun k hk' => ?_
      have := List.mem_range.mp hk'
      exact decide_eq_decide.mpr ⟨fun h => List.mem_append_left _ h, fun h => (List.mem_append.mp h).elim id fun q => by rw [List.mem_singleton.mp q] at this; omega⟩
    · intro q hq
      rcases List.mem_append.mp hq with hq | hq
      · exact ⟨(I.hd q hq).1, fun k hb => List.mem_append_left _ ((I.hd q hq).2 k hb)⟩
      · rw [List.mem_singleton.mp hq]
        dsimp only
        refine ⟨?_, fun k hb => ?_⟩
        · have gp := pmk_gen (rows := rows) made _ (Nat.le_refl _)
          rw [one_shl, pmk_xor C S _ _ _ (Nat.le_refl _), pmk_one S il _ il (Nat.le_refl _), getDr_of hi, e]
          exact mul_comm (gr.crs C gp)
        · rw [one_shl, Nat.testBit_xor] at hb
          by_cases q : k = i
          · exact List.mem_append_right _ (List.mem_singleton.mpr q)
          · rw [Nat.testBit_two_pow_of_ne (by omega), Bool.xor_false] at hb
            exact List.mem_append_left _ (hk k hb)
    · rw [List.map_append, List.map_singleton, er]
      exact I.ind.snoc ns
    · intro v hv
      rw [List.map_append, List.map_singleton, er] at hv
      rw [List.map_append, List.map_singleton]
      have up : ∀ {u}, Spn (hs.map fun q => vec n q.2.1) u → Spn ((hs.map fun q => vec n q.2.1) ++ [vec n left]) u := fun h => h.mono fun x hx => List.mem_append_left _ hx
      refine hv.sub fun a ha => ?_
      rcases List.mem_append.mp ha with q | q
      · exact up (I.sp _ (.one q))
      · rw [List.mem_singleton.mp q]
        have := (up h3).xor (Spn.one (List.mem_append_right _ (List.mem_singleton.mpr rfl) : vec n left ∈ (hs.map fun q => vec n q.2.1) ++ [vec n left]))
        rw [Nat.xor_comm, ← Nat.xor_assoc, Nat.xor_self, Nat.zero_xor] at this
        exact this
    · refine List.pairwise_append.mpr ⟨I.dis, List.pairwise_singleton _ _, fun a ha b hb => ?_⟩
      rw [List.mem_singleton.mp hb]
      exact look_none hl a ha
  | @drop i kept hs row left made h0 hi hred hf hl ih =>
    obtain ⟨ks, I⟩ := ih
    have gr : Gen rows row := .of S (List.mem_of_getElem? hi)
    obtain ⟨e, hk, h3⟩ := hred.mask C S I.hd gr
    obtain ⟨mask, hfm, hp, _⟩ := I.mask C S R hi hred hf
    have gp := pmk_gen (rows := rows) made _ (Nat.le_refl _)
    have hlt : ∀ k ∈ ks, k < i := I.due.len.2
    refine ⟨ks, ?_, I.kp, ?_, I.hd, I.ind, I.sp, I.dis⟩
    · refine .skip I.due hfm ?_
      rw [hp, getDr_of hi]
      have rl : Rw n left := by rw [e]; exact (gr.rw R).mul (gp.rw R)
      obtain ⟨hx, hz⟩ := firstCol_zero rl hf
      have e0 : left = rw0 := by
        have := rl.s
        cases left with
        | mk x z s => simp only at hx hz hl this; rw [hx, hz, show s = 0 by omega]; rfl
      have := mul_back (gr.crs C gp) gr.s
      rw [← e, e0, id_mul gp.s] at this
      rw [this]
    · rw [List.range_succ, List.filter_append, List.filter_cons_of_neg, List.filter_nil, List.append_nil]
      · exact I.fl
      · simp only [decide_eq_true_eq]
        intro hm
        have := hlt i hm
        omega
/-- what is kept: the law keeps the same -/
theorem IndOk.due (C : Com rows) (S : Sgn rows) (R : ∀ r ∈ rows, Rw n r) {kept : List Row} (h : IndOk rows n kept) : ∃ ks, DueSt rows rows.length ks ∧ kept = (ks.map fun k => rows.getD k rw0) ∧ Indep (kept.map (vec n)) := by
  obtain ⟨hs, h⟩ := h
  obtain ⟨ks, I⟩ := h.inv C S R
  refine ⟨ks, I.due, I.kp, ?_⟩
  have := I.ind
  rw [I.kp, List.map_map]
  exact this
theorem IndFail.due (C : Com rows) (S : Sgn rows) (R : ∀ r ∈ rows, Rw n r) {ks : List Nat} (h : IndFail rows n ks) : DueMinus rows ks := by
  obtain ⟨i, kept, hs, row, left, made, h, hi, hred, hf, hs1, rfl⟩ := h
  obtain ⟨js, I⟩ := h.inv C S R
  obtain ⟨mask, hfm, hp, hsel⟩ := I.mask C S R hi hred hf
  have gr : Gen rows row := .of S (List.mem_of_getElem? hi)
  obtain ⟨e, hk, h3⟩ := hred.mask C S I.hd gr
  refine ⟨i, js, mask, (List.getElem?_eq_some_iff.mp hi).1, I.due, hfm, ?_, ?_⟩
  · intro es
    have hxz := hfm.2.1
    rw [hp, getDr_of hi] at hxz es
    have : pmk rows rows.length made = row := by
      obtain ⟨h1, h2⟩ := hxz
      generalize pmk rows rows.length made = p at *
      cases p; cases row
      simp only at h1 h2 es
      rw [h1, h2, es]
    rw [this, mul_self] at e
    rw [e] at hs1
    exact absurd hs1 (by decide)
  · rw [hsel]
    congr 1
    exact List.filter_congr fun k _ => shr_ne made k
end
theorem FirstAnti.uniq {l : List Row} {i j i' j' : Nat} (h : FirstAnti l i j) (h' : FirstAnti l i' j') : i = i' ∧ j = j' := by
  have ej : j = j' := by
    rcases Nat.lt_trichotomy j j' with q | q | q
    · exact absurd (h'.2.2.2.1 j q i h.1) h.2.2.1
    · exact q
    · exact absurd (h.2.2.2.1 j' q i' h'.1) h'.2.2.1
  subst ej
  refine ⟨?_, rfl⟩
  rcases Nat.lt_trichotomy i i' with q | q | q
  · exact absurd (h'.2.2.2.2 i q) h.2.2.1
  · exact q
  · exact absurd (h.2.2.2.2 i' q) h'.2.2.1
theorem Com.commut {l : List Row} (h : Com l) : Commut l := fun j hj i hij => h _ (getD_mem (by omega)) _ (getD_mem hj)
theorem Commut.com {l : List Row} (h : Commut l) : Com l := by
  intro a ha b hb
  obtain ⟨i, hi, rfl⟩ := List.mem_iff_getElem.mp ha
  obtain ⟨j, hj, rfl⟩ := List.mem_iff_getElem.mp hb
  have gd : ∀ {k} (hk : k < l.length), l.getD k rw0 = l[k] := fun {k} hk => by rw [List.getD_eq_getElem?_getD, List.getElem?_eq_getElem hk]; rfl
  rcases Nat.lt_trichotomy i j with q | q | q
  · have := h j hj i q
    rwa [gd hi, gd hj] at this
  · subst q; exact crs_self _
  · have := h i hi j q
    rw [gd hi, gd hj] at this
    rw [crs_comm]; exact this
end Kp
end
section
set_option maxHeartbeats 200000
/-! the reduced table: each row has a column of its own; behind the place nothing is left -/
namespace Kp
structure RInv (n m : Nat) (l : List Row) (p : Nat) : Prop where
  ple : p ≤ l.length
  piv : ∃ ps : Nat → Nat, ∀ i, i < p → ps i < m ∧ ∀ j, j < l.length → col (l.getD j rw0) n (ps i) = if j = i then 1 else 0
  low : ∀ j, p ≤ j → j < l.length → ∀ d, d < m → col (l.getD j rw0) n d = 0
theorem swp_getD {l : List Row} {p f k : Nat} (hp : p < l.length) (hf : f < l.length) : (swp l p f).getD k rw0 = if f = k then l.getD p rw0 else if p = k then l.getD f rw0 else l.getD k rw0 := by
  unfold swp
  rw [List.getD_eq_getElem?_getD, List.getElem?_set, List.getElem?_set, List.length_set]
  by_cases e : f = k
  · rw [if_pos e, if_pos e, if_pos (by omega)]; rfl
  · rw [if_neg e, if_neg e]
    by_cases e2 : p = k
    · rw [if_pos e2, if_pos e2, if_pos (by omega)]; rfl
    · rw [if_neg e2, if_neg e2, List.getD_eq_getElem?_getD]
theorem swp_at {l : List Row} {p f k : Nat} (hpf : p ≤ f) (hf : f < l.length) (hk : k < l.length) : ∃ k', (swp l p f).getD k rw0 = l.getD k' rw0 ∧ (k < p → k' = k) ∧ (p ≤ k → p ≤ k' ∧ k' < l.length) := by
  rw [swp_getD (by omega) hf]
  by_cases e : f = k
  · exact ⟨p, by rw [if_pos e], fun h => by omega, fun _ => ⟨Nat.le_refl _, by omega⟩⟩
  · by_cases e2 : p = k
    · exact ⟨f, by rw [if_neg e, if_pos e2], fun h => by omega, fun _ => ⟨hpf, hf⟩⟩
    · exact ⟨k, by rw [if_neg e, if_neg e2], fun _ => rfl, fun h => ⟨h, hk⟩⟩
theorem clr_getD {l : List Row} {p n c k : Nat} {h : Row} (hk : k < l.length) : (clr l p n c h).getD k rw0 = cl1 p n c h k (l.getD k rw0) := by
  unfold clr
  rw [List.getD_eq_getElem?_getD, List.getElem?_mapIdx, List.getD_eq_getElem?_getD, List.getElem?_eq_getElem hk]; rfl
theorem xor01 {a b : Nat} (hb : b = 0) : a ^^^ b = a := by rw [hb, Nat.xor_zero]
theorem RInv.step {n m p : Nat} {l : List Row} (I : RInv n m l p) : RInv n (m + 1) (colStep n (l, p) m).1 (colStep n (l, p) m).2 := by
  obtain ⟨ps, hps⟩ := I.piv
  have hl0 := colStep_len n (l, p) m
  unfold colStep at *
  dsimp only at *
  cases hf : fnd l p n m with
  | nil =>
    dsimp only
    refine ⟨I.ple, ⟨ps, fun i hi => ⟨by have := (hps i hi).1; omega, (hps i hi).2⟩⟩, fun j h1 h2 d hd => ?_⟩
    by_cases e : d = m
    · subst e; exact fnd_nil hf j h1 h2
    · exact I.low j h1 h2 d (by omega)
  | cons f t =>
    dsimp only
    obtain ⟨f1, f2, f3⟩ := fnd_mem (l := l) (p := p) (n := n) (c := m) (f := f) (by rw [hf]; exact List.mem_cons_self)
    have hpl : p < l.length := by omega
    have hhd : (swp l p f).getD p rw0 = l.getD f rw0 := by
      rw [swp_getD hpl f2]
      by_cases e : f = p
      · subst e; rw [if_pos rfl]
      · rw [if_neg e, if_pos rfl]
    rw [hhd]
    have hh1 : col (l.getD f rw0) n m = 1 := by have := col_01 (l.getD f rw0) n m; omega
    have hlen : (clr (swp l p f) p n m (l.getD f rw0)).length = l.length := by rw [clr_len, swp_len]
    -- a row of the new table
    have hrow : ∀ k, k < l.length → ∃ k', (k < p → k' = k) ∧ (p ≤ k → p ≤ k' ∧ k' < l.length) ∧ (k = p → k' = f) ∧ (∀ d, col (l.getD f rw0) n d = 0 → col ((clr (swp l p f) p n m (l.getD f rw0)).getD k rw0) n d = col (l.getD k' rw0) n d) ∧ col ((clr (swp l p f) p n m (l.getD f rw0)).getD k rw0) n m = if k = p then 1 else 0 := by
      intro k hk
      have hk2 : k < (swp l p f).length := by rw [swp_len]; exact hk
      rw [clr_getD hk2]
      by_cases ekp : k = p
      · subst ekp
        refine ⟨f, fun h => by omega, fun _ => ⟨f1, f2⟩, fun _ => rfl, fun d hd => ?_, ?_⟩
        · unfold cl1
          rw [if_neg (by simp), hhd]
        · unfold cl1
          rw [if_neg (by simp), hhd, hh1, if_pos rfl]
      · obtain ⟨k', h1, h2, h3⟩ := swp_at (k := k) f1 f2 hk
        refine ⟨k', h2, h3, fun h => absurd h ekp, fun d hd => ?_, ?_⟩
        · unfold cl1
          split
          · rw [col_mul, xor01 hd, h1]
          · rw [h1]
        · unfold cl1
          rw [if_neg ekp]
          have h01 := col_01 ((swp l p f).getD k rw0) n m
          split
          · rename_i q
            rw [col_mul, hh1, show col ((swp l p f).getD k rw0) n m = 1 by omega]; rfl
          · rename_i q
            apply Classical.byContradiction
            intro z
            exact q ⟨ekp, z⟩
    refine ⟨by rw [hlen]; exact hpl, ⟨fun i => if i = p then m else ps i, fun i hi => ?_⟩, fun j h1 h2 d hd => ?_⟩
    · dsimp only
      by_cases e : i = p
      · subst e
        simp only [if_true]
        refine ⟨Nat.lt_succ_self m, fun j hj => ?_⟩
        rw [hlen] at hj
        obtain ⟨k', _, _, _, _, h⟩ := hrow j hj
        exact h
      · have hip : i < p := by omega
        simp only [if_neg e]
        refine ⟨by have := (hps i hip).1; omega, fun j hj => ?_⟩
        rw [hlen] at hj
        have hz : col (l.getD f rw0) n (ps i) = 0 := by rw [(hps i hip).2 f f2, if_neg (by omega)]
        obtain ⟨k', h1, h2, _, h3, _⟩ := hrow j hj
        rw [h3 _ hz]
        by_cases q : j < p
        · rw [h1 q]; exact (hps i hip).2 j hj
        · obtain ⟨g1, g2⟩ := h2 (by omega)
          rw [(hps i hip).2 k' g2, if_neg (by omega), if_neg (by omega)]
    · rw [hlen] at h2
      obtain ⟨k', _, g2, _, g3, g4⟩ := hrow j h2
      by_cases e : d = m
      · subst e; rw [g4, if_neg (by omega)]
      · have hz : col (l.getD f rw0) n d = 0 := I.low f f1 f2 d (by omega)
        rw [g3 d hz]
        obtain ⟨g5, g6⟩ := g2 (by omega)
        exact I.low k' g5 g6 d (by omega)
theorem redSt_inv (l : List Row) (n : Nat) : ∀ m, RInv n m (redSt l n m).1 (redSt l n m).2
  | 0 => ⟨Nat.zero_le _, ⟨fun _ => 0, fun i hi => absurd hi (Nat.not_lt_zero _)⟩, fun j _ _ d hd => absurd hd (Nat.not_lt_zero _)⟩
  | m + 1 => by
    rw [redSt_succ]
    exact (redSt_inv l n m).step
theorem redRows_piv (l : List Row) (n : Nat) : ∃ ps : Nat → Nat, ∀ i, i < (redRows l n).length → ps i < 2 * n ∧ ∀ j, j < (redRows l n).length → col ((redRows l n).getD j rw0) n (ps i) = if j = i then 1 else 0 := by
  have I := redSt_inv l n (2 * n)
  obtain ⟨ps, hps⟩ := I.piv
  have hlen : (redRows l n).length = (redSt l n (2 * n)).2 := by
    unfold redRows
    rw [List.length_take, Nat.min_eq_left I.ple]
  have hg : ∀ j, j < (redRows l n).length → (redRows l n).getD j rw0 = (redSt l n (2 * n)).1.getD j rw0 := fun j hj => by
    rw [hlen] at hj
    unfold redRows
    rw [List.getD_eq_getElem?_getD, List.getElem?_take_of_lt hj, List.getD_eq_getElem?_getD]
  refine ⟨ps, fun i hi => ?_⟩
  rw [hlen] at hi
  refine ⟨(hps i hi).1, fun j hj => ?_⟩
  rw [hg j hj]
  rw [hlen] at hj
  exact (hps i hi).2 j (Nat.lt_of_lt_of_le hj I.ple)
theorem redRows_mem {l : List Row} {n : Nat} : ∀ r ∈ redRows l n, r ∈ (redSt l n (2 * n)).1 := fun r hr => List.mem_of_mem_take hr
theorem redRows_sub {L : List Row} {n : Nat} (C : Com L) (S : Sgn L) : ∀ r ∈ redRows L n, Gen L r := fun r hr => (redSt_gen C S n (2 * n)).1 r (redRows_mem r hr)
/-- a good group: the table generates it -/
theorem redRows_gen {L : List Row} {n : Nat} (C : Com L) (S : Sgn L) (R : ∀ r ∈ L, Rw n r) (g : NoMinus L) : GenEq L (redRows L n) := by
  have G := redSt_gen C S n (2 * n)
  have I := redSt_inv L n (2 * n)
  have hsub : ∀ r ∈ redRows L n, Gen L r := redRows_sub C S
  have S' := Sgn.of_gen hsub
  have C' := C.of_gen hsub
  refine ⟨hsub, fun r hr => ?_⟩
  have hr' := G.2 r hr
  refine Gen.sub C' S' (fun a ha => ?_) hr'
  obtain ⟨j, hj⟩ := List.mem_iff_getElem?.mp ha
  have hjl := (List.getElem?_eq_some_iff.mp hj).1
  by_cases q : j < (redSt L n (2 * n)).2
  · refine .of S' (List.mem_of_getElem? (i := j) ?_)
    unfold redRows
    rw [List.getElem?_take_of_lt q]; exact hj
  · have ga : Gen L a := G.1 a ha
    have ea : (redSt L n (2 * n)).1.getD j rw0 = a := by rw [List.getD_eq_getElem?_getD, hj]; rfl
    have hz := I.low j (by omega) hjl
    rw [ea] at hz
    obtain ⟨hx, hz⟩ := firstCol_zero (ga.rw R) (firstCol_none hz)
    have hs := g a ga hx hz
    have : a = rw0 := by
      cases a
      simp only at hx hz hs
      rw [hx, hz, hs]; rfl
    rw [this]; exact .id
theorem piv_bit {n : Nat} {red : List Row} (R : ∀ r ∈ red, Rw n r) {ps : Nat → Nat} (hps : ∀ i, i < red.length → ps i < 2 * n ∧ ∀ j, j < red.length → col (red.getD j rw0) n (ps i) = if j = i then 1 else 0) {i j : Nat} {a : Nat} (hi : i < red.length) (hj : (red.map (vec n))[j]? = some a) : a.testBit (ps i) = decide (j = i) := by
  rw [List.getElem?_map] at hj
  obtain ⟨r, hr, rfl⟩ := Option.map_eq_some_iff.mp hj
  have hjl := (List.getElem?_eq_some_iff.mp hr).1
  have er : red.getD j rw0 = r := by rw [List.getD_eq_getElem?_getD, hr]; rfl
  have := (hps i hi).2 j hjl
  rw [er, col_vec (R r (List.mem_of_getElem? hr))] at this
  by_cases e : j = i
  · rw [decide_eq_true e]
    rw [if_pos e] at this
    cases h : (vec n r).testBit (ps i) with
    | true => rfl
    | false => rw [h] at this; cases this
  · rw [decide_eq_false e]
    rw [if_neg e] at this
    cases h : (vec n r).testBit (ps i) with
    | false => rfl
    | true => rw [h] at this; cases this
theorem redRows_indep {l : List Row} {n : Nat} (R : ∀ r ∈ l, Rw n r) : Indep ((redRows l n).map (vec n)) := by
  obtain ⟨ps, hps⟩ := redRows_piv l n
  have R' := redRows_all R
  intro i a hi hs
  have hil : i < (redRows l n).length := by
    have := (List.getElem?_eq_some_iff.mp hi).1
    rwa [List.length_map] at this
  have h1 := piv_bit R' hps hil hi
  rw [decide_eq_true rfl] at h1
  have := hs.bit (k := ps i) fun b hb => by
    obtain ⟨j, hj⟩ := List.mem_iff_getElem?.mp hb
    have hj2 := (List.getElem?_eq_some_iff.mp hj).1
    rw [List.length_take] at hj2
    rw [List.getElem?_take_of_lt (by omega)] at hj
    rw [piv_bit R' hps hil hj]
    exact decide_eq_false (by omega)
  rw [h1] at this; cases this
end Kp
end
section
set_option maxHeartbeats 200000
/-! drawn strings are good: gates keep crossings; a mark's partner tells it -/
namespace Kp
theorem dot_comm (a b : Nat) : dot a b = dot b a := by unfold dot; rw [Nat.and_comm]
theorem dot_pow (k z : Nat) : dot (2 ^ k) z = z.testBit k := by
  unfold dot
  cases h : z.testBit k with
  | true =>
    have : 2 ^ k &&& z = 2 ^ k := by
      apply Nat.eq_of_testBit_eq
      intro i
      rw [Nat.testBit_and, Nat.testBit_two_pow]
      by_cases e : k = i
      · subst e; rw [h]; simp
      · rw [decide_eq_false e]; rfl
    rw [this, par_pow]
  | false =>
    have : 2 ^ k &&& z = 0 := by
      apply Nat.eq_of_testBit_eq
      intro i
      rw [Nat.testBit_and, Nat.testBit_two_pow, Nat.zero_testBit]
      by_cases e : k = i
      · subst e; rw [h]; simp
      · rw [decide_eq_false e]; rfl
    rw [this, par_zero]
theorem dot_shl (b : Bool) (k z : Nat) : dot (b.toNat <<< k) z = (b && z.testBit k) := by
  cases b with
  | false => show dot (0 <<< k) z = _; rw [Nat.zero_shiftLeft, dot_zero_left]; rfl
  | true => show dot (1 <<< k) z = _; rw [one_shl, dot_pow]; simp
theorem dot_shl' (b : Bool) (k z : Nat) : dot z (b.toNat <<< k) = (b && z.testBit k) := by rw [dot_comm, dot_shl]
theorem tb_shl (b : Bool) (k j : Nat) : (b.toNat <<< k).testBit j = (decide (k = j) && b) := by
  cases b with
  | false => show (0 <<< k).testBit j = _; rw [Nat.zero_shiftLeft, Nat.zero_testBit]; simp
  | true => show (1 <<< k).testBit j = _; rw [one_shl, Nat.testBit_two_pow]; simp
theorem bt_tb (v k : Nat) : bt v k = (v.testBit k).toNat := shr_and v k
theorem toNat_xor (a b : Bool) : a.toNat ^^^ b.toNat = (a ^^ b).toNat := by cases a <;> cases b <;> rfl
def sy (a b : Row) : Bool := dot a.x b.z ^^ dot a.z b.x
theorem crs_sy (a b : Row) : crs a b = (sy a b).toNat := crs_par a b
theorem gate_sy (g : Gk) {a b : Nat} (h : g.two = true → a ≠ b) (r s : Row) : sy (gate g a b r) (gate g a b s) = sy r s := by
  unfold sy gate
  cases g
  · simp only [bt_tb, toNat_xor, dot_xor_left, dot_xor_right, dot_shl, dot_shl', tb_shl, Nat.testBit_xor]
    generalize dot r.x s.z = A
    generalize dot r.z s.x = B
    generalize r.x.testBit a = x1
    generalize r.z.testBit a = z1
    generalize s.x.testBit a = x2
    generalize s.z.testBit a = z2
    simp only [decide_true, Bool.true_and]
    cases A <;> cases B <;> cases x1 <;> cases z1 <;> cases x2 <;> cases z2 <;> rfl
  · simp only [bt_tb, toNat_xor, dot_xor_left, dot_xor_right, dot_shl, dot_shl', tb_shl, Nat.testBit_xor]
    generalize dot r.x s.z = A
    generalize dot r.z s.x = B
    generalize r.x.testBit a = x1
    generalize s.x.testBit a = x2
    cases A <;> cases B <;> cases x1 <;> cases x2 <;> rfl
  · have hab := h rfl
    have e1 : decide (a = b) = false := decide_eq_false hab
    have e2 : decide (b = a) = false := decide_eq_false (Ne.symm hab)
    simp only [bt_tb, toNat_xor, dot_xor_left, dot_xor_right, dot_shl, dot_shl', tb_shl, Nat.testBit_xor, e1, e2, Bool.false_and]
    generalize dot r.x s.z = A
    generalize dot r.z s.x = B
    generalize r.x.testBit a = x1
    generalize s.x.testBit a = x2
    generalize r.z.testBit b = z1
    generalize s.z.testBit b = z2
    cases A <;> cases B <;> cases x1 <;> cases z1 <;> cases x2 <;> cases z2 <;> rfl
  · have hab := h rfl
    simp only [bt_tb, toNat_xor, dot_xor_left, dot_xor_right, dot_shl, dot_shl', tb_shl, Nat.testBit_xor]
    generalize dot r.x s.z = A
    generalize dot r.z s.x = B
    generalize r.x.testBit a = x1
    generalize s.x.testBit a = x2
    generalize r.x.testBit b = z1
    generalize s.x.testBit b = z2
    cases A <;> cases B <;> cases x1 <;> cases z1 <;> cases x2 <;> cases z2 <;> rfl
  · have hab := h rfl
    have e1 : decide (a = b) = false := decide_eq_false hab
    have e2 : decide (b = a) = false := decide_eq_false (Ne.symm hab)
    simp only [bt_tb, toNat_xor, dot_xor_left, dot_xor_right, dot_shl, dot_shl', tb_shl, Nat.testBit_xor, e1, e2, Bool.false_and, decide_true, Bool.true_and]
    generalize dot r.x s.z = A
    generalize dot r.z s.x = B
    generalize r.x.testBit a = x1
    generalize s.x.testBit a = x2
    generalize r.x.testBit b = x3
    generalize s.x.testBit b = x4
    generalize r.z.testBit a = z1
    generalize s.z.testBit a = z2
    generalize r.z.testBit b = z3
    generalize s.z.testBit b = z4
    revert A B x1 x2 x3 x4 z1 z2 z3 z4
    decide +kernel
  · rfl
  · rfl
theorem gate_crs (g : Gk) {a b : Nat} (h : g.two = true → a ≠ b) (r s : Row) : crs (gate g a b r) (gate g a b s) = crs r s := by rw [crs_sy, crs_sy, gate_sy g h]
theorem appG_crs {n : Nat} : ∀ {gs : List Gt}, (∀ t ∈ gs, t.ok n) → ∀ r s : Row, crs (appG gs r) (appG gs s) = crs r s
  | [], _, _, _ => rfl
  | t :: gs, h, r, s => by
    show crs (appG gs (gate t.g t.a t.b r)) (appG gs (gate t.g t.a t.b s)) = _
    rw [appG_crs (fun u hu => h u (List.mem_cons_of_mem _ hu)), gate_crs t.g (h t List.mem_cons_self).2.2]
/-- the partner of a mark -/
def part0 (k : Nat) : Row := ⟨2 ^ k, 0, 0⟩
theorem mark_part (j k : Nat) : crs ⟨0, 2 ^ j, 0⟩ (part0 k) = if j = k then 1 else 0 := by
  rw [crs_sy]
  unfold sy part0
  dsimp only
  rw [dot_zero_left, dot_pow, Nat.testBit_two_pow]
  by_cases e : j = k
  · subst e; simp
  · rw [if_neg e, decide_eq_false fun z => e z.symm]; rfl
theorem mark_mark (j k : Nat) : crs ⟨0, 2 ^ j, 0⟩ ⟨0, 2 ^ k, 0⟩ = 0 := by
  rw [crs_sy]
  unfold sy
  dsimp only
  rw [dot_zero_left, dot_zero_right]; rfl
theorem crs_xz {a b q : Row} (hx : a.x = b.x) (hz : a.z = b.z) : crs a q = crs b q := by unfold crs; rw [hx, hz]
/-- what commutes with the marks commutes with the rows -/
theorem Built.crs0 {ms R : List Row} (h : Built ms R) {q : Row} (hq : ∀ m ∈ ms, crs m q = 0) : ∀ r ∈ R, crs r q = 0 := by
  induction h with
  | nil => intro r hr; simp at hr
  | @snoc ms R m o s h0 hs ho ih =>
    have i := ih fun m hm => hq m (List.mem_append_left _ hm)
    have hm2 := hq m (List.mem_append_right _ List.mem_cons_self)
    intro r hr
    rcases List.mem_append.mp hr with q1 | q1
    · exact i r q1
    · rw [List.mem_singleton.mp q1, crs_xz (a := ⟨o.x, o.z, s⟩) (b := o) rfl rfl]
      rcases ho with rfl | ⟨r', hr', rfl⟩
      · exact hm2
      · exact crs_mul0 hm2 (i r' hr')
theorem Built.com {ms R : List Row} (h : Built ms R) (hc : Com ms) : Com R := fun a ha b hb =>
  h.crs0 (fun m hm => (crs_comm _ _).trans (h.crs0 (fun m' hm' => hc m' hm' m hm) b hb)) a ha
theorem Built.sgn {ms R : List Row} (h : Built ms R) : Sgn R := by
  induction h with
  | nil => intro r hr; simp at hr
  | snoc _ hs _ ih =>
    intro r hr
    rcases List.mem_append.mp hr with q | q
    · exact ih r q
    · rw [List.mem_singleton.mp q]; exact hs
/-- the partners tell the rows -/
theorem Built.part {ms R : List Row} (h : Built ms R) {p : Nat → Row} (hp : ∀ j, j < ms.length → ∀ k, crs (ms.getD j rw0) (p k) = if j = k then 1 else 0) : ∀ j, j < R.length → ∀ k, j ≤ k → crs (R.getD j rw0) (p k) = if j = k then 1 else 0 := by
  induction h with
  | nil => intro j hj; simp at hj
  | @snoc ms R m o s h0 hs ho ih =>
    have hl := h0.len
    have gl : ∀ j, j < ms.length → (ms ++ [m]).getD j rw0 = ms.getD j rw0 := fun j hj => by rw [List.getD_eq_getElem?_getD, List.getElem?_append_left hj, List.getD_eq_getElem?_getD]
    have i := ih fun j hj k => by
      rw [← gl j hj]
      exact hp j (by rw [List.length_append]; omega) k
    intro j hj k hk
    rw [List.length_append, List.length_singleton] at hj
    by_cases e : j < R.length
    · rw [List.getD_eq_getElem?_getD, List.getElem?_append_left e, ← List.getD_eq_getElem?_getD]
      exact i j e k hk
    · have ej : j = R.length := by omega
      have em : (ms ++ [m]).getD j rw0 = m := by rw [ej, hl, List.getD_eq_getElem?_getD, List.getElem?_append_right (Nat.le_refl _), Nat.sub_self]; rfl
      have hm := hp j (by rw [List.length_append, List.length_singleton]; omega) k
      rw [em] at hm
      have er : (R ++ [(⟨o.x, o.z, s⟩ : Row)]).getD j rw0 = ⟨o.x, o.z, s⟩ := by rw [ej, List.getD_eq_getElem?_getD, List.getElem?_append_right (Nat.le_refl _), Nat.sub_self]; rfl
      rw [er, crs_xz (a := ⟨o.x, o.z, s⟩) (b := o) rfl rfl]
      rcases ho with rfl | ⟨r', hr', rfl⟩
      · exact hm
      · obtain ⟨t, ht⟩ := List.mem_iff_getElem?.mp hr'
        have htl := (List.getElem?_eq_some_iff.mp ht).1
        have h2 := i t htl k (by omega)
        rw [List.getD_eq_getElem?_getD, ht, if_neg (by omega)] at h2
        rw [crs_mul, hm, show crs r' (p k) = 0 from h2]
        split <;> rfl
/-- every generated row has a mask -/
theorem gen_pmk {rows : List Row} (C : Com rows) (S : Sgn rows) {a : Row} (h : Gen rows a) : ∃ o, a = pmk rows rows.length o := by
  induction h with
  | id => exact ⟨0, (pmk_off _ fun k _ => Nat.zero_testBit k).symm⟩
  | @mul a r _ hr ih =>
    obtain ⟨o, ho⟩ := ih
    obtain ⟨i, hi⟩ := List.mem_iff_getElem?.mp hr
    have hil := (List.getElem?_eq_some_iff.mp hi).1
    refine ⟨o ^^^ 2 ^ i, ?_⟩
    rw [pmk_xor C S _ _ _ (Nat.le_refl _), pmk_one S hil _ hil (Nat.le_refl _), ← ho]
    congr 1
    rw [List.getD_eq_getElem?_getD, hi]; rfl
theorem pmk_crs {R : List Row} {p : Nat → Row} (hp : ∀ j, j < R.length → ∀ k, j ≤ k → crs (R.getD j rw0) (p k) = if j = k then 1 else 0) (o k : Nat) : ∀ N, N ≤ R.length → (N ≤ k → crs (pmk R N o) (p k) = 0) ∧ (k < N → (∀ j, k < j → j < N → o.testBit j = false) → crs (pmk R N o) (p k) = (o.testBit k).toNat)
  | 0, _ => ⟨fun _ => (crs_comm _ _).trans (crs_id _), fun h => absurd h (Nat.not_lt_zero _)⟩
  | N + 1, hN => by
    obtain ⟨i1, i2⟩ := pmk_crs hp o k N (by omega)
    rw [pmk_succ]
    refine ⟨fun h => ?_, fun h hb => ?_⟩
    · split
      · exact crs_mul0 (i1 (by omega)) (by rw [hp N (by omega) k (by omega), if_neg (by omega)])
      · exact i1 (by omega)
    · by_cases e : N = k
      · subst e
        cases q : o.testBit N with
        | true => rw [if_pos rfl, crs_mul, i1 (Nat.le_refl _), hp N (by omega) N (Nat.le_refl _), if_pos rfl]; rfl
        | false => rw [if_neg (by simp)]; exact i1 (Nat.le_refl _)
      · rw [hb N (by omega) (Nat.lt_succ_self N), if_neg (by simp)]
        exact i2 (by omega) fun j h1 h2 => hb j h1 (by omega)
theorem part_noMinus {R : List Row} (C : Com R) (S : Sgn R) {p : Nat → Row} (hp : ∀ j, j < R.length → ∀ k, j ≤ k → crs (R.getD j rw0) (p k) = if j = k then 1 else 0) : NoMinus R := by
  intro a ha hx hz
  obtain ⟨o, rfl⟩ := gen_pmk C S ha
  have h0 : ∀ q, crs (pmk R R.length o) q = 0 := fun q => by
    rw [crs_xz (b := rw0) hx hz, crs_comm, crs_id]
  have bits : ∀ d k, k < R.length → R.length - k ≤ d → o.testBit k = false := by
    intro d
    induction d with
    | zero => intro k h1 h2; omega
    | succ d ih =>
      intro k h1 h2
      have := (pmk_crs hp o k R.length (Nat.le_refl _)).2 h1 fun j g1 g2 => ih j g2 (by omega)
      rw [h0] at this
      cases q : o.testBit k with
      | false => rfl
      | true => rw [q] at this; cases this
  rw [pmk_off _ fun k hk => bits _ k hk (Nat.le_refl _)]; rfl
theorem GenEq.noMinus {L M : List Row} (C : Com L) (S : Sgn L) (h : GenEq L M) (g : NoMinus L) : NoMinus M := g.sub C S h.1
theorem GenEq.of_mem {L M : List Row} (S : Sgn L) (h : ∀ r, r ∈ M ↔ r ∈ L) : GenEq L M := ⟨fun r hr => .of S ((h r).mp hr), fun r hr => .of (fun a ha => S a ((h a).mp ha)) ((h r).mpr hr)⟩
structure Good (n : Nat) (L : List Row) : Prop where
  C : Com L
  S : Sgn L
  R : ∀ r ∈ L, Rw n r
  g : NoMinus L
theorem Good.eq {n : Nat} {L M : List Row} (h : Good n L) (e : GenEq L M) : Good n M := ⟨h.C.of_gen e.1, Sgn.of_gen e.1, fun r hr => (e.1 r hr).rw h.R, e.noMinus h.C h.S h.g⟩
theorem Good.sub {n : Nat} {L M : List Row} (h : Good n L) (e : ∀ r ∈ M, Gen L r) : Good n M := ⟨h.C.of_gen e, Sgn.of_gen e, fun r hr => (e r hr).rw h.R, h.g.sub h.C h.S e⟩
theorem Drawn.good {n rk : Nat} {L : List Row} (h : Drawn n rk L) (hk : rk ≤ n) : Good n L := by
  have hR := h.rw hk
  obtain ⟨gs, R, h1, h2, h3⟩ := h
  have C : Com R := h2.com fun a ha b hb => by
    obtain ⟨m, hm, rfl⟩ := List.mem_map.mp ha
    obtain ⟨m', hm', rfl⟩ := List.mem_map.mp hb
    rw [appG_crs h1]
    unfold marks0 at hm hm'
    obtain ⟨j, _, rfl⟩ := List.mem_map.mp hm
    obtain ⟨k, _, rfl⟩ := List.mem_map.mp hm'
    exact mark_mark j k
  have S : Sgn R := h2.sgn
  have g : NoMinus R := part_noMinus C S (p := fun k => appG gs (part0 k)) (h2.part fun j hj k => by
    rw [List.length_map] at hj
    have hj' : j < rk := by unfold marks0 at hj; simpa using hj
    have e : ((marks0 rk).map (appG gs)).getD j rw0 = appG gs ⟨0, 2 ^ j, 0⟩ := by
      unfold marks0
      rw [List.getD_eq_getElem?_getD, List.getElem?_map, List.getElem?_map, List.getElem?_range hj']; rfl
    rw [e, appG_crs h1]
    exact mark_part j k)
  have GR : Good n R := ⟨C, S, fun r hr => hR r (h3.mem_iff.mpr hr), g⟩
  exact GR.eq (.of_mem S fun r => h3.mem_iff)
theorem Pr.gen {L : List Row} {m : Row} (h : Pr L m) : Gen L m := by
  induction h with
  | id => exact .id
  | mul _ hr ih => exact .mul ih hr
theorem Strs.good {n : Nat} {D L : List Row} (h : Strs D L) (hD : Good n D) : Good n L := by
  induction h with
  | base => exact hD
  | @snoc L m _ hm ih =>
    refine ih.sub fun r hr => ?_
    rcases List.mem_append.mp hr with q | q
    · exact .of ih.S q
    · rw [List.mem_singleton.mp q]; exact hm.gen
theorem Strings.good {n many : Nat} {L : List Row} (h : Strings n many L) : Good n L := by
  obtain ⟨D, L0, h1, h2, h3, h4⟩ := h
  have g := h2.good (h1.good (Nat.min_le_right _ _))
  exact g.eq (.of_mem g.S fun r => h4.mem_iff)
end Kp
end
section
set_option maxHeartbeats 4000000
/-! the commutant: the rows of the kernel -/
namespace Kp
def xs (f : Nat → Bool) : Nat → Bool
  | 0 => false
  | w + 1 => xs f w ^^ f w
theorem xs_congr {f g : Nat → Bool} : ∀ {w : Nat}, (∀ k, k < w → f k = g k) → xs f w = xs g w
  | 0, _ => rfl
  | w + 1, h => by
    show (xs f w ^^ f w) = (xs g w ^^ g w)
    rw [xs_congr (w := w) fun k hk => h k (by omega), h w (Nat.lt_succ_self w)]
theorem xs_split (f : Nat → Bool) (n : Nat) : ∀ m, xs f (n + m) = (xs f n ^^ xs (fun k => f (n + k)) m)
  | 0 => by show xs f n = _; simp [xs]
  | m + 1 => by
    show (xs f (n + m) ^^ f (n + m)) = (xs f n ^^ (xs (fun k => f (n + k)) m ^^ f (n + m)))
    rw [xs_split f n m, Bool.xor_assoc]
theorem xs_rev : ∀ (w : Nat) (f : Nat → Bool), xs f w = xs (fun k => f (w - 1 - k)) w
  | 0, _ => rfl
  | w + 1, f => by
    have h := xs_split (fun k => f (w + 1 - 1 - k)) 1 w
    rw [show 1 + w = w + 1 by omega] at h
    rw [h]
    show (xs f w ^^ f w) = _
    rw [xs_rev w f]
    have e1 : xs (fun k => f (w + 1 - 1 - k)) 1 = f w := by
      show (false ^^ f (w + 1 - 1 - 0)) = f w
      simp
    have e2 : xs (fun k => f (w + 1 - 1 - (1 + k))) w = xs (fun k => f (w - 1 - k)) w := xs_congr fun k hk => by
      congr 1; omega
    rw [e1, e2, Bool.xor_comm]
theorem par_xs : ∀ (w a : Nat), a < 2 ^ w → par a = xs a.testBit w
  | 0, a, h => by
    have : a = 0 := by simpa using h
    subst this; exact par_zero
  | w + 1, a, h => by
    show par a = (xs a.testBit w ^^ a.testBit w)
    cases hb : a.testBit w with
    | false =>
      have hl : a < 2 ^ w := Nat.lt_pow_two_of_testBit _ fun i hi => by
        by_cases e : i = w
        · subst e; exact hb
        · exact Nat.testBit_lt_two_pow (Nat.lt_of_lt_of_le h (Nat.pow_le_pow_right (by decide) (by omega)))
      rw [par_xs w a hl, Bool.xor_false]
    | true =>
      have hl : a ^^^ 2 ^ w < 2 ^ w := Nat.lt_pow_two_of_testBit _ fun i hi => by
        rw [Nat.testBit_xor, Nat.testBit_two_pow]
        by_cases e : i = w
        · subst e; rw [hb]; simp
        · rw [decide_eq_false (by omega), Nat.testBit_lt_two_pow (Nat.lt_of_lt_of_le h (Nat.pow_le_pow_right (by decide) (by omega)))]; rfl
      have h1 := par_xs w _ hl
      rw [par_xor, par_pow] at h1
      have h2 : xs (a ^^^ 2 ^ w).testBit w = xs a.testBit w := xs_congr fun k hk => by
        rw [Nat.testBit_xor, Nat.testBit_two_pow_of_ne (by omega), Bool.xor_false]
      rw [h2] at h1
      rw [← h1]
      cases par a <;> rfl
theorem dot_xs {w a : Nat} (b : Nat) (h : a < 2 ^ w) : dot a b = xs (fun k => a.testBit k && b.testBit k) w := by
  unfold dot
  rw [par_xs w _ (Nat.lt_of_le_of_lt Nat.and_le_left h)]
  exact xs_congr fun k _ => Nat.testBit_and a b k
theorem numOf_bit : ∀ bs : List Nat, (∀ b ∈ bs, b ≤ 1) → ∀ k, k < bs.length → (numOf bs).testBit (bs.length - 1 - k) = (bs.getD k 0).testBit 0 := by
  refine snoc_ind (fun _ k hk => absurd hk (Nat.not_lt_zero _)) fun l a ih hb k hk => ?_
  rw [List.length_append, List.length_singleton] at hk
  rw [numOf_snoc, List.length_append, List.length_singleton]
  have ha := hb a (List.mem_append_right _ List.mem_cons_self)
  by_cases e : k = l.length
  · subst e
    rw [show l.length + 1 - 1 - l.length = 0 by omega, List.getD_eq_getElem?_getD, List.getElem?_append_right (Nat.le_refl _), Nat.sub_self, Nat.testBit_zero]
    show _ = a.testBit 0
    rw [Nat.testBit_zero]
    congr 1
    apply propext
    omega
  · have hk2 : k < l.length := by omega
    rw [show l.length + 1 - 1 - k = (l.length - 1 - k) + 1 by omega, Nat.testBit_succ, show (2 * numOf l + a) / 2 = numOf l by omega, ih (fun b h => hb b (List.mem_append_left _ h)) k hk2, List.getD_eq_getElem?_getD, List.getD_eq_getElem?_getD, List.getElem?_append_left hk2]
section
variable {n : Nat}
theorem cbits_at (r : Row) {k : Nat} (hk : k < 2 * n) : (cbits n r).getD k 0 = if k < n then r.z >>> k &&& 1 else r.x >>> (k - n) &&& 1 := by
  unfold cbits
  rw [List.getD_eq_getElem?_getD]
  by_cases q : k < n
  · rw [if_pos q, List.getElem?_append_left (by simpa using q), List.getElem?_map, List.getElem?_range q]; rfl
  · rw [if_neg q, List.getElem?_append_right (by simpa using q), List.length_map, List.length_range, List.getElem?_map, List.getElem?_range (by omega)]; rfl
theorem tb01 (x k : Nat) : (x >>> k &&& 1).testBit 0 = x.testBit k := by
  rw [shr_and, Nat.testBit_zero]
  cases x.testBit k <;> rfl
theorem cn_bit (r : Row) {k : Nat} (hk : k < 2 * n) : (numOf (cbits n r)).testBit (2 * n - 1 - k) = if k < n then r.z.testBit k else r.x.testBit (k - n) := by
  have h := numOf_bit (cbits n r) (cbits_le n r) k (by rw [cbits_len]; exact hk)
  rw [cbits_len] at h
  rw [h, cbits_at r hk]
  split <;> exact tb01 _ _
theorem cn_lt (r : Row) : numOf (cbits n r) < 2 ^ (2 * n) := by
  have := numOf_lt (cbits n r) (cbits_le n r)
  rwa [cbits_len] at this
theorem bsum_tb (p : Nat → Bool) {k w : Nat} (hk : k < w) : (bsum p w).testBit k = p k := by
  have h := bsum_bit p w k hk
  rw [shr_and] at h
  cases h1 : (bsum p w).testBit k <;> cases h2 : p k
  · rfl
  · rw [h1, h2] at h; cases h
  · rw [h1, h2] at h; cases h
  · rfl
theorem rowM_x (m : Nat) {k : Nat} (hk : k < n) : (rowM n m).x.testBit k = m.testBit (2 * n - 1 - k) := by
  show (bsum _ n).testBit k = _
  rw [bsum_tb _ hk, shr_ne]
theorem rowM_z (m : Nat) {k : Nat} (hk : k < n) : (rowM n m).z.testBit k = m.testBit (n - 1 - k) := by
  show (bsum _ n).testBit k = _
  rw [bsum_tb _ hk, shr_ne]
theorem rowM_rw (m : Nat) : Rw n (rowM n m) := ⟨bsum_lt _ _, bsum_lt _ _, Nat.zero_le _⟩
theorem crs_dot {r : Row} (h : Rw n r) (m : Nat) : crs r (rowM n m) = (dot (numOf (cbits n r)) m).toNat := by
  rw [crs_par, dot_xs m (cn_lt r), xs_rev, Nat.two_mul, xs_split]
  congr 1
  rw [dot_xs _ h.x, dot_xs _ h.z, Bool.xor_comm]
  congr 1
  · refine xs_congr fun k hk => ?_
    have e := cn_bit (n := n) r (k := k) (by omega)
    rw [Nat.two_mul] at e
    rw [e, if_pos hk, rowM_x m hk, Nat.two_mul]
  · refine xs_congr fun k hk => ?_
    have e := cn_bit (n := n) r (k := n + k) (by omega)
    rw [Nat.two_mul] at e
    rw [e, if_neg (by omega), show n + k - n = k by omega, rowM_z m hk, show n + n - 1 - (n + k) = n - 1 - k by omega]
/-- reversed -/
def rv (w v : Nat) : Nat := bsum (fun k => v.testBit (w - 1 - k)) w
theorem rv_lt (w v : Nat) : rv w v < 2 ^ w := bsum_lt _ _
theorem rv_bit (w v k : Nat) : (rv w v).testBit k = (decide (k < w) && v.testBit (w - 1 - k)) := by
  by_cases h : k < w
  · unfold rv
    rw [bsum_tb _ h, decide_eq_true h]; rfl
  · rw [Nat.testBit_lt_two_pow (Nat.lt_of_lt_of_le (rv_lt w v) (Nat.pow_le_pow_right (by decide) (by omega))), decide_eq_false h]; rfl
theorem rv_zero (w : Nat) : rv w 0 = 0 := by
  apply Nat.eq_of_testBit_eq
  intro k
  rw [rv_bit, Nat.zero_testBit, Nat.zero_testBit]; simp
theorem rv_xor (w a b : Nat) : rv w (a ^^^ b) = rv w a ^^^ rv w b := by
  apply Nat.eq_of_testBit_eq
  intro k
  rw [Nat.testBit_xor, rv_bit, rv_bit, rv_bit, Nat.testBit_xor]
  cases decide (k < w) <;> simp
theorem rv_rv {w v : Nat} (h : v < 2 ^ w) : rv w (rv w v) = v := by
  apply Nat.eq_of_testBit_eq
  intro k
  rw [rv_bit, rv_bit]
  by_cases q : k < w
  · rw [decide_eq_true q, decide_eq_true (show w - 1 - k < w by omega), show w - 1 - (w - 1 - k) = k by omega]; simp
  · rw [decide_eq_false q, Bool.false_and, Nat.testBit_lt_two_pow (Nat.lt_of_lt_of_le h (Nat.pow_le_pow_right (by decide) (by omega)))]
theorem vec_rowM (m : Nat) : vec n (rowM n m) = rv (2 * n) m := by
  apply Nat.eq_of_testBit_eq
  intro k
  rw [vec_bit (rowM_rw m), rv_bit]
  by_cases q : k < n
  · rw [if_pos q, rowM_x m q, decide_eq_true (by omega)]; rfl
  · rw [if_neg q]
    by_cases q2 : k < 2 * n
    · rw [rowM_z m (by omega), decide_eq_true q2, show n - 1 - (k - n) = 2 * n - 1 - k by omega]; rfl
    · rw [decide_eq_false q2, Nat.testBit_lt_two_pow (Nat.lt_of_lt_of_le (rowM_rw (n := n) m).z (Nat.pow_le_pow_right (by decide) (by omega)))]; rfl
theorem Spn.rv {L : List Nat} {v : Nat} (w : Nat) (h : Spn L v) : Spn (L.map (rv w)) (Kp.rv w v) := by
  induction h with
  | zero => rw [rv_zero]; exact .zero
  | add _ ha ih => rw [rv_xor]; exact ih.add (List.mem_map.mpr ⟨_, ha, rfl⟩)
/-! ### the kernel of a table -/
abbrev kerL (n : Nat) (red : List Row) : List Nat := kern ((red.map (cbits n)).map numOf) (2 * n)
theorem ker_hyp (red : List Row) : ∀ a ∈ (red.map (cbits n)).map numOf, a < 2 ^ (2 * n) := by
  intro a ha
  obtain ⟨b, hb, rfl⟩ := List.mem_map.mp ha
  obtain ⟨r, _, rfl⟩ := List.mem_map.mp hb
  exact cn_lt r
theorem ker_iff {red : List Row} (R : ∀ r ∈ red, Rw n r) (m : Nat) : Spn (kerL n red) m ↔ m < 2 ^ (2 * n) ∧ ∀ r ∈ red, crs r (rowM n m) = 0 := by
  rw [kern_sp (ker_hyp red)]
  refine and_congr_right fun _ => ⟨fun h r hr => ?_, fun h a ha => ?_⟩
  · rw [crs_dot (R r hr), h _ (List.mem_map.mpr ⟨_, List.mem_map.mpr ⟨r, hr, rfl⟩, rfl⟩)]; rfl
  · obtain ⟨b, hb, rfl⟩ := List.mem_map.mp ha
    obtain ⟨r, hr, rfl⟩ := List.mem_map.mp hb
    have := h r hr
    rw [crs_dot (R r hr)] at this
    cases q : dot (numOf (cbits n r)) m with
    | false => rfl
    | true => rw [q] at this; cases this
/-- as many rows as are due -/
theorem com_len {l : List Row} (R : ∀ r ∈ l, Rw n r) : (redRows l n).length ≤ 2 * n ∧ (comRows n (redRows l n)).length = 2 * n - (redRows l n).length := by
  obtain ⟨ps, hps⟩ := redRows_piv l n
  have R' := redRows_all R
  generalize redRows l n = red at *
  have hk := kern_len (ker_hyp (n := n) red)
  have hr : (redNums ((red.map (cbits n)).map numOf)).length = red.length := by
    rw [redNums_len_bits, List.length_map, List.length_map]
    intro i a ha
    rw [List.getElem?_map, List.getElem?_map] at ha
    cases hi : red[i]? with
    | none => rw [hi] at ha; cases ha
    | some r =>
      rw [hi] at ha
      have ea : numOf (cbits n r) = a := Option.some.inj ha
      subst ea
      have il := (List.getElem?_eq_some_iff.mp hi).1
      obtain ⟨p1, p2⟩ := hps i il
      -- the bit of column c
      have key : ∀ (r : Row), Rw n r → (numOf (cbits n r)).testBit (if ps i < n then n - 1 - ps i else 3 * n - 1 - ps i) = (vec n r).testBit (ps i) := fun r hr => by
        rw [vec_bit hr]
        by_cases q : ps i < n
        · rw [if_pos q, if_pos q]
          have := cn_bit (n := n) r (k := n + ps i) (by omega)
          rw [if_neg (by omega), show n + ps i - n = ps i by omega, show 2 * n - 1 - (n + ps i) = n - 1 - ps i by omega] at this
          exact this
        · rw [if_neg q, if_neg q]
          have := cn_bit (n := n) r (k := ps i - n) (by omega)
          rw [if_pos (by omega), show 2 * n - 1 - (ps i - n) = 3 * n - 1 - ps i by omega] at this
          exact this
      refine ⟨if ps i < n then n - 1 - ps i else 3 * n - 1 - ps i, ?_, fun j b hj hb => ?_⟩
      · rw [key r (R' r (List.mem_of_getElem? hi)), piv_bit R' hps il (by rw [List.getElem?_map, hi]; rfl)]; simp
      · rw [List.getElem?_map, List.getElem?_map] at hb
        cases hj' : red[j]? with
        | none => rw [hj'] at hb; cases hb
        | some r' =>
          rw [hj'] at hb
          have eb : numOf (cbits n r') = b := Option.some.inj hb
          subst eb
          rw [key r' (R' r' (List.mem_of_getElem? hj')), piv_bit R' hps il (by rw [List.getElem?_map, hj']; rfl)]
          exact decide_eq_false (by omega)
  rw [hr] at hk
  refine ⟨by omega, ?_⟩
  unfold comRows
  rw [List.length_map]
  show (kerL n red).length = _
  have : (kerL n red).length + red.length = 2 * n := hk
  omega
theorem ker_lt (red : List Row) {m : Nat} (h : m ∈ kerL n red) : m < 2 ^ (2 * n) := ((kern_sp (ker_hyp red) m).mp (.one h)).1
theorem com_rw (red : List Row) : ∀ r ∈ comRows n red, Rw n r ∧ r.s = 0 := by
  intro r hr
  unfold comRows at hr
  obtain ⟨m, _, rfl⟩ := List.mem_map.mp hr
  exact ⟨rowM_rw m, rfl⟩
theorem low_rv {w m : Nat} (hm : m ≠ 0) (hl : m < 2 ^ w) : Low (rv w m) (w - 1 - m.log2) := by
  have hlog : m.log2 < w := (Nat.log2_lt hm).mpr hl
  refine ⟨?_, fun d hd => ?_⟩
  · rw [rv_bit, decide_eq_true (by omega), show w - 1 - (w - 1 - m.log2) = m.log2 by omega, Nat.testBit_log2 hm]; rfl
  · rw [rv_bit, Nat.testBit_lt_two_pow (x := m) (i := w - 1 - d)]
    · simp
    · exact Nat.lt_of_lt_of_le Nat.lt_log2_self (Nat.pow_le_pow_right (by decide) (by omega))
theorem com_first (red : List Row) {m : Nat} (h : m ∈ kerL n red) : firstCol (rowM n m) n = some (2 * n - 1 - m.log2) := by
  have nz := kern_rd.nz m h
  refine low_firstCol (rowM_rw m) ?_
  rw [vec_rowM]
  exact low_rv nz (ker_lt red h)
theorem paired_map2 {α β γ : Type} {F : β → γ → Prop} (f : α → β) (g : α → γ) : ∀ l : List α, (∀ a ∈ l, F (f a) (g a)) → PySem.Paired F (l.map f) (l.map g)
  | [], _ => .nil
  | a :: l, h => .cons (h a List.mem_cons_self) (paired_map2 f g l fun b hb => h b (List.mem_cons_of_mem _ hb))
theorem com_redl (red : List Row) : RedL n (comRows n red) ((kerL n red).map fun m => 2 * n - 1 - m.log2) := by
  refine ⟨?_, ?_, ?_⟩
  · unfold comRows
    exact paired_map2 _ _ _ fun m hm => com_first red hm
  · rw [List.pairwise_map]
    refine (kern_sorted (L := (red.map (cbits n)).map numOf) (w := 2 * n)).imp_of_mem fun {a b} ha hb hab => ?_
    have na := kern_rd.nz a ha
    have nb := kern_rd.nz b hb
    have : b.log2 ≤ a.log2 := (Nat.le_log2 na).mpr (Nat.le_trans (Nat.log2_self_le nb) hab)
    omega
  · intro r hr r' hr' hne c hc
    unfold comRows at hr hr'
    obtain ⟨m, hm, rfl⟩ := List.mem_map.mp hr
    obtain ⟨m', hm', rfl⟩ := List.mem_map.mp hr'
    rw [com_first red hm] at hc
    have ec : 2 * n - 1 - m.log2 = c := Option.some.inj hc
    subst ec
    have nz := kern_rd.nz m hm
    have hlog : m.log2 < 2 * n := (Nat.log2_lt nz).mpr (ker_lt red hm)
    rw [col_z (rowM_rw m'), vec_rowM, rv_bit, decide_eq_true (by omega), show 2 * n - 1 - (2 * n - 1 - m.log2) = m.log2 by omega, Bool.true_and]
    cases q : m'.testBit m.log2 with
    | false => rfl
    | true => exact absurd (by rw [kern_rd.only hm' hm q]) hne
theorem com_crs {L red : List Row} (R : ∀ r ∈ red, Rw n r) (hg : ∀ r ∈ L, Gen red r) : ∀ r ∈ L, ∀ c ∈ comRows n red, crs r c = 0 := by
  intro r hr c hc
  unfold comRows at hc
  obtain ⟨m, hm, rfl⟩ := List.mem_map.mp hc
  exact (hg r hr).crs1 ((ker_iff R m).mp (.one hm)).2
/-! ### sums -/
def sps (l : List Nat) : List Nat := l.foldl (fun G v => G ++ G.map (· ^^^ v)) [0]
theorem sps_snoc (l : List Nat) (v : Nat) : sps (l ++ [v]) = sps l ++ (sps l).map (· ^^^ v) := by unfold sps; rw [List.foldl_append]; rfl
theorem sps_mem : ∀ l : List Nat, ∀ v, v ∈ sps l ↔ Spn l v := by
  refine snoc_ind (fun v => ?_) fun l a ih v => ?_
  · constructor
    · intro h
      have : v = 0 := by simpa [sps] using h
      subst this; exact .zero
    · intro h
      have : v = 0 := by
        induction h with
        | zero => rfl
        | add _ ha _ => simp at ha
      subst this; simp [sps]
  · rw [sps_snoc, List.mem_append]
    have hsw : ∀ u, Spn (l ++ [a]) u ↔ Spn (a :: l) u := fun u => ⟨fun h => h.mono fun x hx => by
      rcases List.mem_append.mp hx with q | q
      · exact List.mem_cons_of_mem _ q
      · rw [List.mem_singleton.mp q]; exact List.mem_cons_self, fun h => h.mono fun x hx => by
      rcases List.mem_cons.mp hx with q | q
      · rw [q]; exact List.mem_append_right _ (List.mem_singleton.mpr rfl)
      · exact List.mem_append_left _ q⟩
    constructor
    · rintro (h | h)
      · exact ((ih v).mp h).mono fun x hx => List.mem_append_left _ hx
      · obtain ⟨u, hu, rfl⟩ := List.mem_map.mp h
        exact (((ih u).mp hu).mono fun x hx => List.mem_append_left _ hx).add (List.mem_append_right _ (List.mem_singleton.mpr rfl))
    · intro h
      rcases ((hsw v).mp h).cons with s | s
      · exact .inl ((ih v).mpr s)
      · exact .inr (List.mem_map.mpr ⟨v ^^^ a, (ih _).mpr s, xor_cancel v a⟩)
theorem sps_nodup : ∀ l : List Nat, Indep l → (sps l).Nodup := by
  refine snoc_ind (fun _ => by simp [sps]) fun l a ih h => ?_
  obtain ⟨h1, h2⟩ := h.init
  have i := ih h1
  rw [sps_snoc, List.nodup_append]
  refine ⟨i, ?_, fun x hx y hy => ?_⟩
  · unfold List.Nodup
    rw [List.pairwise_map]
    refine i.imp fun {x y} hne he => hne ?_
    have := congrArg (· ^^^ a) he
    simpa only [xor_cancel] using this
  · obtain ⟨u, hu, rfl⟩ := List.mem_map.mp hy
    intro e
    subst e
    refine h2 ?_
    have := ((sps_mem l u).mp hu).xor ((sps_mem l _).mp hx)
    rw [← Nat.xor_assoc, Nat.xor_self, Nat.zero_xor] at this
    exact this
theorem snoc_ind_row {P : List Row → Prop} (h0 : P []) (h1 : ∀ l a, P l → P (l ++ [a])) : ∀ l, P l := by
  have key : ∀ k (l : List Row), l.length = k → P l := by
    intro k
    induction k with
    | zero => intro l hl; rw [List.eq_nil_of_length_eq_zero hl]; exact h0
    | succ k ih =>
      intro l hl
      have hne : l ≠ [] := by rintro rfl; simp at hl
      rw [← List.dropLast_concat_getLast hne]
      refine h1 _ _ (ih _ ?_)
      rw [List.length_dropLast]; omega
  exact fun l => key _ l rfl
theorem spr_vec (l : List Row) : (spr l).map (vec n) = sps (l.map (vec n)) := by
  refine snoc_ind_row (P := fun l => (spr l).map (vec n) = sps (l.map (vec n))) ?_ ?_ l
  · simp [spr, sps, vec_id]
  · intro l a ih
    rw [spr_snoc, List.map_append, List.map_singleton, sps_snoc, ← ih]
    unfold spS
    rw [List.map_append, List.map_map, List.map_map]
    congr 1
    refine List.map_congr_left fun g _ => ?_
    show vec n ⟨g.x ^^^ a.x, g.z ^^^ a.z, 0⟩ = vec n g ^^^ vec n a
    exact vec_mul n g a
end
end Kp
end
section
set_option maxHeartbeats 4000000
/-! the commutant, told whole; the group as the law makes it -/
namespace Kp
section
variable {n : Nat}
theorem com_vec (red : List Row) : (comRows n red).map (vec n) = (kerL n red).map (rv (2 * n)) := by
  unfold comRows
  rw [List.map_map]
  exact List.map_congr_left fun m _ => vec_rowM m
theorem com_indep (red : List Row) : Indep ((comRows n red).map (vec n)) := by
  rw [com_vec]
  intro i a hi hs
  rw [List.getElem?_map] at hi
  obtain ⟨m, hm, rfl⟩ := Option.map_eq_some_iff.mp hi
  have hmm := List.mem_of_getElem? hm
  have nz := kern_rd.nz m hmm
  have hlog : m.log2 < 2 * n := (Nat.log2_lt nz).mpr (ker_lt red hmm)
  have h1 : (rv (2 * n) m).testBit (2 * n - 1 - m.log2) = true := (low_rv nz (ker_lt red hmm)).1
  have := hs.bit (k := 2 * n - 1 - m.log2) fun b hb => by
    obtain ⟨j, hj⟩ := List.mem_iff_getElem?.mp hb
    have hj2 := (List.getElem?_eq_some_iff.mp hj).1
    rw [List.length_take] at hj2
    have hji : j < i := by omega
    rw [List.getElem?_take_of_lt hji, List.getElem?_map] at hj
    obtain ⟨m', hm', rfl⟩ := Option.map_eq_some_iff.mp hj
    rw [rv_bit, decide_eq_true (show 2 * n - 1 - m.log2 < 2 * n by omega), show 2 * n - 1 - (2 * n - 1 - m.log2) = m.log2 by omega, Bool.true_and]
    obtain ⟨g1, g2⟩ := List.getElem?_eq_some_iff.mp hm
    obtain ⟨g3, g4⟩ := List.getElem?_eq_some_iff.mp hm'
    have := List.pairwise_iff_getElem.mp (kern_rd (L := (red.map (cbits n)).map numOf) (w := 2 * n)).ap j i g3 g1 hji
    rw [g2, g4] at this
    exact this.1
  rw [h1] at this; cases this
theorem vec_xzP {a b : Row} (h : xzP a = xzP b) : vec n a = vec n b := by
  unfold xzP at h
  injection h with h1 h2
  unfold vec
  rw [h1, h2]
theorem nodup_xz {G : List Row} (h : (G.map (vec n)).Nodup) : (G.map xzP).Nodup := by
  unfold List.Nodup at *
  rw [List.pairwise_map] at *
  exact h.imp fun hne he => hne (vec_xzP he)
theorem nodup_vec {G : List Row} (R : ∀ g ∈ G, Rw n g) (h : (G.map xzP).Nodup) : (G.map (vec n)).Nodup := by
  unfold List.Nodup at *
  rw [List.pairwise_map] at *
  refine h.imp_of_mem fun {a b} ha hb hne he => hne ?_
  have := (vec_same (R a ha) (R b hb)).mp he
  unfold xzP
  rw [this.1, this.2]
theorem com_nodup (red : List Row) : ((spr (comRows n red)).map xzP).Nodup := by
  refine nodup_xz (n := n) ?_
  rw [spr_vec]
  exact sps_nodup _ (com_indep red)
theorem spr_rw {l : List Row} (h : ∀ r ∈ l, Rw n r) : ∀ r ∈ spr l, Rw n r := by
  have key : ∀ (l G : List Row), (∀ r ∈ l, Rw n r) → (∀ r ∈ G, Rw n r) → ∀ r ∈ l.foldl spS G, Rw n r := by
    intro l
    induction l with
    | nil => intro G _ hG; exact hG
    | cons a l ih =>
      intro G hl hG
      rw [List.foldl_cons]
      refine ih _ (fun r hr => hl r (List.mem_cons_of_mem _ hr)) fun r hr => ?_
      unfold spS at hr
      rcases List.mem_append.mp hr with q | q
      · exact hG r q
      · obtain ⟨g, hg, rfl⟩ := List.mem_map.mp q
        exact ⟨xor_lt (hG g hg).x (hl a List.mem_cons_self).x, xor_lt (hG g hg).z (hl a List.mem_cons_self).z, Nat.zero_le _⟩
  exact key l [rw0] h fun r hr => by rw [List.mem_singleton.mp hr]; exact Rw.id n
theorem com_all {L red : List Row} (R : ∀ r ∈ red, Rw n r) (hg : ∀ r ∈ L, Gen red r) (hg' : ∀ r ∈ red, Gen L r) (t : Row) (ht : Rw n t) : xzP t ∈ (spr (comRows n red)).map xzP ↔ ∀ r ∈ L, crs r t = 0 := by
  have h1 : xzP t ∈ (spr (comRows n red)).map xzP ↔ Spn ((kerL n red).map (rv (2 * n))) (vec n t) := by
    rw [← com_vec, ← sps_mem, ← spr_vec]
    constructor
    · intro h
      obtain ⟨g, hg, e⟩ := List.mem_map.mp h
      exact List.mem_map.mpr ⟨g, hg, vec_xzP e⟩
    · intro h
      obtain ⟨g, hg, e⟩ := List.mem_map.mp h
      refine List.mem_map.mpr ⟨g, hg, ?_⟩
      have := (vec_same (spr_rw (fun r hr => (com_rw red r hr).1) g hg) ht).mp e
      unfold xzP
      rw [this.1, this.2]
  have h2 : Spn ((kerL n red).map (rv (2 * n))) (vec n t) ↔ Spn (kerL n red) (rv (2 * n) (vec n t)) := by
    constructor
    · intro h
      have := h.rv (2 * n)
      rw [List.map_map] at this
      have e : (kerL n red).map (rv (2 * n) ∘ rv (2 * n)) = kerL n red := by
        conv => rhs; rw [← List.map_id (kerL n red)]
        exact List.map_congr_left fun m hm => rv_rv (ker_lt red hm)
      rwa [e] at this
    · intro h
      have := h.rv (2 * n)
      rwa [rv_rv (vec_lt ht)] at this
  have h3 : sameXZ (rowM n (rv (2 * n) (vec n t))) t := by
    refine (vec_same (rowM_rw _) ht).mp ?_
    rw [vec_rowM, rv_rv (vec_lt ht)]
  have h4 : ∀ r, crs r (rowM n (rv (2 * n) (vec n t))) = crs r t := fun r => by
    rw [crs_comm, crs_xz (b := t) h3.1 h3.2, crs_comm]
  rw [h1, h2, ker_iff R]
  constructor
  · rintro ⟨_, h⟩ r hr
    exact (hg r hr).crs1 fun r' hr' => by rw [← h4]; exact h r' hr'
  · intro h
    exact ⟨rv_lt _ _, fun r hr => by rw [h4]; exact (hg' r hr).crs1 h⟩
/-! ### the group as the law makes it -/
structure GI (n : Nat) (done G : List Row) : Prop where
  gen : ∀ g ∈ G, Gen done g
  nd : (G.map (vec n)).Nodup
  id : rw0 ∈ G
  cl : ∀ a ∈ G, ∀ b ∈ G, mul a b ∈ G
  dn : ∀ r ∈ done, r ∈ G
  len : G.length ≤ 2 ^ done.length
theorem GI.all {done G : List Row} (I : GI n done G) {a : Row} (h : Gen done a) : a ∈ G := by
  induction h with
  | id => exact I.id
  | mul _ hr ih => exact I.cl _ ih _ (I.dn _ hr)
theorem GI.base : GI n [] [rw0] := ⟨fun g hg => by rw [List.mem_singleton.mp hg]; exact .id, by simp, List.mem_singleton.mpr rfl, fun a ha b hb => by rw [List.mem_singleton.mp ha, List.mem_singleton.mp hb, mul_self]; exact List.mem_singleton.mpr rfl, fun r hr => by simp at hr, Nat.le_refl _⟩
theorem xz_eq {a b : Row} (h : xzP a = xzP b) (hs : a.s = b.s) : a = b := by
  unfold xzP at h
  injection h with h1 h2
  cases a; cases b
  simp only at h1 h2 hs
  rw [h1, h2, hs]
theorem vec_joinR (G : List Row) (r : Row) : (joinR G r).map (vec n) = G.map (vec n) ++ (G.map (vec n)).map (· ^^^ vec n r) := by
  unfold joinR
  rw [List.map_append, List.map_map, List.map_map]
  congr 1
  exact List.map_congr_left fun g _ => vec_mul n g r
/-- one row more -/
theorem GI.join {done G : List Row} {r : Row} (C : Com (done ++ [r])) (S : Sgn (done ++ [r])) (R : ∀ a ∈ done ++ [r], Rw n a) (I : GI n done G) (hr : xzP r ∉ G.map xzP) : GI n (done ++ [r]) (joinR G r) := by
  have rr : r ∈ done ++ [r] := List.mem_append_right _ (List.mem_singleton.mpr rfl)
  have up : ∀ {a}, Gen done a → Gen (done ++ [r]) a := fun h => h.mono fun x hx => List.mem_append_left _ hx
  have gr : Gen (done ++ [r]) r := .of S rr
  have gG : ∀ g ∈ G, Gen (done ++ [r]) g := fun g hg => up (I.gen g hg)
  have rG : ∀ g ∈ G, Rw n g := fun g hg => (gG g hg).rw R
  have hrv : vec n r ∉ G.map (vec n) := fun h => hr (by
    obtain ⟨g, hg, e⟩ := List.mem_map.mp h
    have := (vec_same (rG g hg) (R r rr)).mp e
    exact List.mem_map.mpr ⟨g, hg, by unfold xzP; rw [this.1, this.2]⟩)
  refine ⟨fun g hg => ?_, ?_, List.mem_append_left _ I.id, ?_, fun a ha => ?_, ?_⟩
  · unfold joinR at hg
    rcases List.mem_append.mp hg with q | q
    · exact gG g q
    · obtain ⟨g', hg', rfl⟩ := List.mem_map.mp q
      exact .mul (gG g' hg') rr
  · rw [vec_joinR, List.nodup_append]
    refine ⟨I.nd, ?_, fun x hx y hy => ?_⟩
    · have := I.nd
      unfold List.Nodup at *
      rw [List.pairwise_map]
      refine this.imp fun {x y} hne he => hne ?_
      have := congrArg (· ^^^ vec n r) he
      simpa only [xor_cancel] using this
    · obtain ⟨u, hu, rfl⟩ := List.mem_map.mp hy
      obtain ⟨g, hg, rfl⟩ := List.mem_map.mp hu
      obtain ⟨g', hg', rfl⟩ := List.mem_map.mp hx
      intro e
      refine hrv (List.mem_map.mpr ⟨mul g g', I.cl _ hg _ hg', ?_⟩)
      rw [vec_mul, e, ← Nat.xor_assoc, Nat.xor_self, Nat.zero_xor]
  · have cl2 : ∀ a ∈ G, ∀ b ∈ G, mul a b ∈ G := I.cl
    intro a ha b hb
    unfold joinR at *
    rcases List.mem_append.mp ha with qa | qa <;> rcases List.mem_append.mp hb with qb | qb
    · exact List.mem_append_left _ (cl2 a qa b qb)
    · obtain ⟨b', hb', rfl⟩ := List.mem_map.mp qb
      refine List.mem_append_right _ (List.mem_map.mpr ⟨mul a b', cl2 a qa b' hb', ?_⟩)
      exact mul_assoc ((gG a qa).crs C (gG b' hb')) ((gG a qa).crs C gr) ((gG b' hb').crs C gr)
    · obtain ⟨a', ha', rfl⟩ := List.mem_map.mp qa
      refine List.mem_append_right _ (List.mem_map.mpr ⟨mul a' b, cl2 a' ha' b qb, ?_⟩)
      have c1 := (gG a' ha').crs C (gG b qb)
      have c2 := (gG a' ha').crs C gr
      have c3 := (gG b qb).crs C gr
      rw [mul_assoc c1 c2 c3, mul_comm c3, ← mul_assoc c2 c1 (gr.crs C (gG b qb))]
    · obtain ⟨a', ha', rfl⟩ := List.mem_map.mp qa
      obtain ⟨b', hb', rfl⟩ := List.mem_map.mp qb
      refine List.mem_append_left _ ?_
      have c1 := (gG a' ha').crs C (gG b' hb')
      have c2 := (gG a' ha').crs C gr
      have c3 := (gG b' hb').crs C gr
      have c4 := gr.crs C (gG b' hb')
      have e : mul (mul a' r) (mul b' r) = mul a' b' := by
        rw [mul_comm c3, ← mul_assoc (crs_mul0 c2 (crs_self r)) (crs_mul0 c1 c4) c4, mul_back c2 (gG a' ha').s]
      rw [e]
      exact cl2 a' ha' b' hb'
  · rcases List.mem_append.mp ha with q | q
    · exact List.mem_append_left _ (I.dn a q)
    · rw [List.mem_singleton.mp q]
      exact List.mem_append_right _ (List.mem_map.mpr ⟨rw0, I.id, id_mul (S r rr)⟩)
  · unfold joinR
    rw [List.length_append, List.length_map, List.length_append, List.length_singleton, Nat.pow_succ]
    have := I.len
    omega
theorem GI.more {done G : List Row} {r : Row} (I : GI n done G) (hr : r ∈ G) : GI n (done ++ [r]) G :=
  ⟨fun g hg => (I.gen g hg).mono fun x hx => List.mem_append_left _ hx, I.nd, I.id, I.cl, fun a ha => (List.mem_append.mp ha).elim (I.dn a) fun q => by rw [List.mem_singleton.mp q]; exact hr, Nat.le_trans I.len (Nat.pow_le_pow_right (by decide) (by rw [List.length_append]; omega))⟩
theorem grp_go (rest : List Row) : ∀ {done G : List Row}, (done ++ rest).length ≤ 16 → Com (done ++ rest) → Sgn (done ++ rest) → (∀ a ∈ done ++ rest, Rw n a) → GI n done G → ∃ o, GrpD G rest o ∧ (∀ Gf, o = some Gf → GI n (done ++ rest) Gf ∧ (Indep ((done ++ rest).map (vec n)) → G.length = 2 ^ done.length → Gf.length = 2 ^ (done ++ rest).length)) ∧ (NoMinus (done ++ rest) → ∃ Gf, o = some Gf) := by
  induction rest with
  | nil =>
    intro done G _ C S R I
    rw [List.append_nil] at *
    exact ⟨some G, .nil, fun Gf e => by cases e; exact ⟨I, fun _ h => h⟩, fun _ => ⟨G, rfl⟩⟩
  | cons r rest ih =>
    intro done G hl C S R I
    have e : done ++ r :: rest = (done ++ [r]) ++ rest := by rw [List.append_assoc]; rfl
    have hrm : r ∈ done ++ r :: rest := List.mem_append_right _ List.mem_cons_self
    have hsub : ∀ a ∈ done ++ [r], a ∈ done ++ r :: rest := fun a ha => by rw [e]; exact List.mem_append_left _ ha
    have C1 : Com (done ++ [r]) := fun a ha b hb => C a (hsub a ha) b (hsub b hb)
    have S1 : Sgn (done ++ [r]) := fun a ha => S a (hsub a ha)
    have R1 : ∀ a ∈ done ++ [r], Rw n a := fun a ha => R a (hsub a ha)
    have gG : ∀ g ∈ G, Gen (done ++ r :: rest) g := fun g hg => (I.gen g hg).mono fun x hx => List.mem_append_left _ hx
    by_cases hx : xzP r ∈ G.map xzP
    · obtain ⟨g, hg, hgr⟩ := List.mem_map.mp hx
      by_cases hs : g.s = r.s
      · have er : g = r := xz_eq hgr hs
        have I2 := I.more (r := r) (by rw [← er]; exact hg)
        rw [e] at hl C S R
        obtain ⟨o, h1, h2, h3⟩ := ih hl C S R I2
        refine ⟨o, .same hg hgr hs h1, ?_, ?_⟩
        · rw [e]
          intro Gf eo
          refine ⟨(h2 Gf eo).1, fun hi hlen => ?_⟩
          exfalso
          have hn := hi done.length (vec n r) (by rw [List.append_assoc, List.map_append, List.getElem?_append_right (by rw [List.length_map]; exact Nat.le_refl _), List.length_map, Nat.sub_self]; rfl)
          refine hn ?_
          have et : ((done ++ [r] ++ rest).map (vec n)).take done.length = done.map (vec n) := by
            rw [List.append_assoc, List.map_append, List.take_left' (by rw [List.length_map])]
          rw [et]
          have gen := I.gen g hg
          rw [er] at gen
          have key : ∀ {a : Row}, Gen done a → Spn (done.map (vec n)) (vec n a) := fun h => by
            induction h with
            | id => rw [vec_id]; exact .zero
            | mul _ hr ih => rw [vec_mul]; exact ih.add (List.mem_map.mpr ⟨_, hr, rfl⟩)
          exact key gen
        · rw [e]; exact h3
      · refine ⟨none, .diff hg hgr hs, fun Gf eo => (nomatch eo), fun g0 => ?_⟩
        exfalso
        unfold xzP at hgr
        injection hgr with q1 q2
        exact hs (by rw [g0.sign C S (gG g hg) (.of S hrm) q1 q2])
    · have I2 := I.join C1 S1 R1 hx
      have hdl : done.length ≤ 16 := by rw [List.length_append] at hl; omega
      have hGl : G.length ≤ 100000 := Nat.le_trans I.len (Nat.le_trans (Nat.pow_le_pow_right (by decide) hdl) (by decide))
      rw [e] at hl C S R
      obtain ⟨o, h1, h2, h3⟩ := ih hl C S R I2
      refine ⟨o, .join hx (nodup_xz I2.nd) hGl h1, ?_, ?_⟩
      · rw [e]
        intro Gf eo
        refine ⟨(h2 Gf eo).1, fun hi hlen => (h2 Gf eo).2 hi ?_⟩
        unfold joinR
        rw [List.length_append, List.length_map, hlen, List.length_append, List.length_singleton, Nat.pow_succ]; omega
      · rw [e]; exact h3
/-- what _law_group gives -/
structure GF (n : Nat) (L G : List Row) : Prop where
  mem : ∀ a, a ∈ G ↔ Gen L a
  nd : (G.map xzP).Nodup
  good : NoMinus L
  len : Indep (L.map (vec n)) → G.length = 2 ^ L.length
theorem grp_all {L : List Row} (hl : L.length ≤ 16) (C : Com L) (S : Sgn L) (R : ∀ a ∈ L, Rw n a) : ∃ o, GrpD [rw0] L o ∧ (∀ G, o = some G → GF n L G) ∧ (NoMinus L → ∃ G, o = some G) := by
  obtain ⟨o, h1, h2, h3⟩ := grp_go (n := n) L (done := []) (G := [rw0]) hl C S R GI.base
  refine ⟨o, h1, fun G e => ?_, h3⟩
  obtain ⟨I, hlen⟩ := h2 G e
  rw [List.nil_append] at I hlen
  have nd := nodup_xz I.nd
  refine ⟨fun a => ⟨I.gen a, I.all⟩, nd, fun a ha hx hz => ?_, fun hi => hlen hi rfl⟩
  -- the identity's letters stand once
  have h1 := I.all ha
  have h2 := I.id
  have key : ∀ {l : List Row}, (l.map xzP).Nodup → ∀ {a b : Row}, a ∈ l → b ∈ l → xzP a = xzP b → a = b := by
    intro l
    induction l with
    | nil => intro _ a b h; simp at h
    | cons c l ih =>
      intro nd a b ha hb e
      rw [List.map_cons, List.nodup_cons] at nd
      rcases List.mem_cons.mp ha with q1 | q1 <;> rcases List.mem_cons.mp hb with q2 | q2
      · rw [q1, q2]
      · exact absurd (List.mem_map.mpr ⟨b, q2, by rw [← e, q1]⟩) nd.1
      · exact absurd (List.mem_map.mpr ⟨a, q1, by rw [e, q2]⟩) nd.1
      · exact ih nd.2 q1 q2 e
  have := key nd h1 h2 (by unfold xzP; rw [hx, hz]; rfl)
  rw [this]; rfl
end
end Kp
end
section
set_option maxHeartbeats 4000000
/-! what the law's walk asks for, put together -/
namespace Kp
theorem pmk_spn {n : Nat} {rows : List Row} (o : Nat) : ∀ N, N ≤ rows.length → Spn ((rows.map (vec n)).take N) (vec n (pmk rows N o))
  | 0, _ => by rw [pmk_zero, vec_id]; exact .zero
  | N + 1, h => by
    have hN : N < rows.length := by omega
    have e : (rows.map (vec n))[N]? = some (vec n (rows.getD N rw0)) := by rw [List.getElem?_map, List.getD_eq_getElem?_getD, List.getElem?_eq_getElem hN]; rfl
    have et : (rows.map (vec n)).take (N + 1) = (rows.map (vec n)).take N ++ [vec n (rows.getD N rw0)] := by rw [List.take_add_one, e]; rfl
    rw [pmk_succ, et]
    have ih := (pmk_spn (n := n) (rows := rows) o N (by omega)).mono (L' := (rows.map (vec n)).take N ++ [vec n (rows.getD N rw0)]) fun a ha => List.mem_append_left _ ha
    split
    · rw [vec_mul]; exact ih.add (List.mem_append_right _ (List.mem_singleton.mpr rfl))
    · exact ih
theorem pmk_indep {n : Nat} {rows : List Row} (hi : Indep (rows.map (vec n))) (o : Nat) : ∀ N, N ≤ rows.length → vec n (pmk rows N o) = 0 → ∀ k, k < N → o.testBit k = false
  | 0, _, _, k, hk => absurd hk (Nat.not_lt_zero _)
  | N + 1, h, h0, k, hk => by
    have hN : N < rows.length := by omega
    have e : (rows.map (vec n))[N]? = some (vec n (rows.getD N rw0)) := by rw [List.getElem?_map, List.getD_eq_getElem?_getD, List.getElem?_eq_getElem hN]; rfl
    have hb : o.testBit N = false := by
      cases q : o.testBit N with
      | false => rfl
      | true =>
        exfalso
        rw [pmk_succ, q, if_pos rfl, vec_mul] at h0
        refine hi N _ e ?_
        rw [← xor_eq_zero h0]
        exact pmk_spn o N (by omega)
    by_cases ek : k = N
    · subst ek; exact hb
    · rw [pmk_succ, hb, if_neg (by simp)] at h0
      exact pmk_indep hi o N (by omega) h0 k (by omega)
theorem indep_noMinus {n : Nat} {rows : List Row} (C : Com rows) (S : Sgn rows) (hi : Indep (rows.map (vec n))) : NoMinus rows := by
  intro a ha hx hz
  obtain ⟨o, rfl⟩ := gen_pmk C S ha
  rw [pmk_off _ (pmk_indep hi o _ (Nat.le_refl _) (vec_of_zero hx hz))]; rfl
/-- the table that Group makes -/
def Red (n : Nat) (L red : List Row) : Prop := ∃ kept, IndOk L n kept ∧ red = redRows kept n
structure RedOk (n : Nat) (L red : List Row) : Prop where
  good : Good n red
  ge : GenEq L red
  ind : Indep (red.map (vec n))
  len : red.length ≤ L.length
  lenn : red.length ≤ 2 * n
  com : (comRows n red).length = 2 * n - red.length
  L : Good n L
/-- commuting rows for which Group makes a table are good -/
theorem Red.ok {n : Nat} {L red : List Row} (C : Com L) (S : Sgn L) (R : ∀ r ∈ L, Rw n r) (h : Red n L red) : RedOk n L red := by
  obtain ⟨kept, hk, rfl⟩ := h
  obtain ⟨ks, hd, ek, hi⟩ := hk.due C S R
  have hsub : ∀ r ∈ kept, r ∈ L := by
    obtain ⟨hs, h⟩ := hk
    exact h.mem
  have Sk : Sgn kept := fun r hr => S r (hsub r hr)
  have Ck : Com kept := fun a ha b hb => C a (hsub a ha) b (hsub b hb)
  have Rk : ∀ r ∈ kept, Rw n r := fun r hr => R r (hsub r hr)
  have gk : NoMinus kept := indep_noMinus Ck Sk hi
  have hg := hk.gen C S R
  have ge1 : GenEq L kept := ⟨fun r hr => .of S (hsub r hr), hg⟩
  have gL : NoMinus L := gk.sub Ck Sk hg
  have ge2 := redRows_gen (n := n) Ck Sk Rk gk
  have ge : GenEq L (redRows kept n) := ge1.trans C S ge2
  have GL : Good n L := ⟨C, S, R, gL⟩
  have hl := com_len (n := n) Rk
  refine ⟨GL.eq ge, ge, redRows_indep Rk, ?_, hl.1, hl.2, GL⟩
  have h1 := redRows_len kept n
  obtain ⟨hs, h⟩ := hk
  have := h.len.2
  omega
theorem Red.uniq {n : Nat} {L a b : List Row} (C : Com L) (S : Sgn L) (R : ∀ r ∈ L, Rw n r) (ha : Red n L a) (hb : Red n L b) : a = b := by
  obtain ⟨k, hk, rfl⟩ := ha
  obtain ⟨k', hk', rfl⟩ := hb
  obtain ⟨ks, hd, ek, _⟩ := hk.due C S R
  obtain ⟨ks', hd', ek', _⟩ := hk'.due C S R
  rw [ek, ek', hd.uniq hd']
theorem nodup_sub {α : Type} [DecidableEq α] : ∀ {l m : List α}, l.Nodup → (∀ a ∈ l, a ∈ m) → l.length ≤ m.length
  | [], _, _, _ => Nat.zero_le _
  | a :: l, m, nd, h => by
    have hn := List.nodup_cons.mp nd
    have ha := h a List.mem_cons_self
    have := nodup_sub (l := l) (m := m.erase a) hn.2 fun b hb => (List.mem_erase_of_ne (fun e => hn.1 (by rw [← e]; exact hb))).mpr (h b (List.mem_cons_of_mem _ hb))
    rw [List.length_erase_of_mem ha] at this
    have hp : 0 < m.length := List.length_pos_of_mem ha
    rw [List.length_cons]; omega
theorem nodup_of_map {α β : Type} {f : α → β} {l : List α} (h : (l.map f).Nodup) : l.Nodup := by
  unfold List.Nodup at *
  rw [List.pairwise_map] at h
  exact h.imp fun hne he => hne (by rw [he])
/-- two groups of the same rows: the same entries -/
theorem GF.same {n : Nat} {L M G G' : List Row} (C : Com L) (S : Sgn L) (ge : GenEq L M) (h : GF n L G) (h' : GF n M G') : (∀ a, a ∈ G' ↔ a ∈ G) ∧ G'.length = G.length := by
  have CM := C.of_gen ge.1
  have SM := Sgn.of_gen ge.1
  have key : ∀ a, a ∈ G' ↔ a ∈ G := fun a => by
    rw [h.mem, h'.mem]
    exact ⟨fun q => q.sub C S ge.1, fun q => q.sub CM SM ge.2⟩
  exact ⟨key, Nat.le_antisymm (nodup_sub (nodup_of_map h'.nd) fun a ha => (key a).mp ha) (nodup_sub (nodup_of_map h.nd) fun a ha => (key a).mpr ha)⟩
theorem GF.ne {n : Nat} {L M G G' : List Row} (C : Com L) (S : Sgn L) (ge : GenEq L M) (h : GF n L G) (h' : GF n M G') : (G'.map kvR).length = (G.map kvR).length ∧ ∀ p ∈ G'.map kvR, (∃ i : Int, p.2 = .int i) ∧ p ∈ G.map kvR := by
  obtain ⟨h1, h2⟩ := h.same C S ge h'
  refine ⟨by rw [List.length_map, List.length_map, h2], fun p hp => ?_⟩
  obtain ⟨g, hg, rfl⟩ := List.mem_map.mp hp
  exact ⟨⟨_, rfl⟩, List.mem_map.mpr ⟨g, (h1 g).mp hg, rfl⟩⟩
/-- what is further given to the second group -/
structure More (n : Nat) (L : List Row) : Prop where
  C : Com L
  S : Sgn L
  R : ∀ r ∈ L, Rw n r
  len : L.length ≤ 7
theorem More.grp {n : Nat} {L : List Row} (h : More n L) : ∃ o, GrpD [rw0] L o ∧ (∀ G, o = some G → GF n L G) ∧ (NoMinus L → ∃ G, o = some G) := grp_all (n := n) (by have := h.len; omega) h.C h.S h.R
theorem More.sub {n : Nat} {L M : List Row} (h : More n L) (hs : ∀ r ∈ M, r ∈ L) (hl : M.length ≤ L.length) : More n M := ⟨fun a ha b hb => h.C a (hs a ha) b (hs b hb), fun a ha => h.S a (hs a ha), fun a ha => h.R a (hs a ha), by have := h.len; omega⟩
theorem More.red {n : Nat} {L : List Row} (h : More n L) : More n (redRows L n) :=
  ⟨h.C.of_gen (redRows_sub h.C h.S), Sgn.of_gen (redRows_sub h.C h.S), redRows_all h.R, by have := redRows_len L n; have := h.len; omega⟩
/-- signs changed -/
theorem More.flip {n : Nat} {L : List Row} (h : More n L) {M : List Row} (hm : PySem.Paired (fun (a b : Row) => a.x = b.x ∧ a.z = b.z ∧ a.s ≤ 1) M L) : More n M := by
  have hl : M.length = L.length := paired_len hm
  have hmem : ∀ a ∈ M, ∃ b ∈ L, a.x = b.x ∧ a.z = b.z ∧ a.s ≤ 1 := fun a ha => by
    obtain ⟨i, hi⟩ := List.mem_iff_getElem?.mp ha
    obtain ⟨b, hb, q⟩ := paired_at hm hi
    exact ⟨b, List.mem_of_getElem? hb, q⟩
  refine ⟨fun a ha b hb => ?_, fun a ha => ?_, fun a ha => ?_, by have := h.len; omega⟩
  · obtain ⟨a', ha', h1, h2, _⟩ := hmem a ha
    obtain ⟨b', hb', h3, h4, _⟩ := hmem b hb
    rw [crs_xz h1 h2, crs_comm, crs_xz h3 h4, crs_comm]
    exact h.C a' ha' b' hb'
  · obtain ⟨a', _, _, _, q⟩ := hmem a ha
    exact q
  · obtain ⟨a', ha', h1, h2, q⟩ := hmem a ha
    have := h.R a' ha'
    exact ⟨by rw [h1]; exact this.x, by rw [h2]; exact this.z, q⟩
theorem Strings.more {n many : Nat} {L : List Row} (h : Strings n many L) (hm : many ≤ 4) : More n L := by
  have g := h.good
  have hl := h.len
  exact ⟨g.C, g.S, g.R, by omega⟩
theorem drop_mem {α : Type} {l : List α} {m : Nat} : ∀ r ∈ l.drop m, r ∈ l := fun _ h => List.mem_of_mem_drop h
end Kp
end
section
set_option maxHeartbeats 4000000
namespace Kp
open PySem PySem.Spec PyProof.Rows L2 Evl
local macro_rules | `(tactic| walk_at "ht") => `(tactic| first | assumption | solve_by_elim (config := { maxDepth := 12 }))
local macro_rules | `(tactic| walk_at "ev") => `(tactic| repeat' (first
  | exact ea_nil
  | exact ev_var rfl
  | exact ev_n (n := 0) rfl | exact ev_n (n := 1) rfl | exact ev_n (n := 2) rfl
  | exact rv_andN | exact rv_xorN | exact rv_orN | exact rv_addN | exact rv_shrN | (exact rv_mulN (by decide)) | exact rv_eqN | exact rv_neN | exact rv_ltN
  | (refine' rv_ixT (st_of (by walk_at "ht")) (by rfl))
  | walk_at "evx"
  | refine' ev_op ?_ ?_ ?_
  | refine' ea_cons ?_ ?_))
section
variable {P : Program} {w : World} {K : PySem.W.Frag} {mg : Str → Option Value} {base : Heap}
section
variable {σ : L2.St} {H H' : Hp} {ta tb tc td te to tl tv tx th tp tn : TE} {t u : TT} {x y z v : V} {D : Ends} {tz tu : TS} {g : TG} {p c : Addr} {N n : Nat} {xs : List V}
theorem td_eq0 {M : Hp → Prop} {Q : Bool → Hp → Prop} (hM : ∀ H1 H2, Ex H1 H2 → M H1 → M H2) (h : EvD p te σ H (fun v H' => M H' ∧ ∃ r : Nat, v = nv r)) (k : ∀ b H1, ExB p H H1 → M H1 → Q b H1) : tTest (tOp rEq te (tC (.int 0))) σ H Q := by
  unfold tTest tOp
  refine h H (Ex.refl _) _ fun v H1 b1 ⟨m, r, ev⟩ => ?_
  subst ev
  refine (ev_n (n := 0) rfl : Ev (tC (.int 0)) σ H1 (nv 0)) H1 (Ex.refl _) _ fun H2 e2 => ?_
  refine (rv_eqN (H := H2) (a := r) (b := 0)) H2 (Ex.refl _) _ fun H3 e3 => ⟨_, rfl, ?_⟩
  exact k _ H3 (b1.trans (.of (e2.trans e3))) (hM _ _ (e2.trans e3) m)
theorem evd_size (hp : ∀ H, Ev tp σ H (.ref p)) (pn : PenAt H p c N) (hN : N ≤ 999999990) : EvD p (tIf (tTest (tOp rEq (tCall sp_law_draw [] E0 (tCons tp (tCons (tC (.int 9)) tNil))) (tC (.int 0)))) (tC (.int 23)) (tOp (rI0 fun i j => .int (i + j)) (tC (.int 1)) (tCall sp_law_draw [] E0 (tCons tp (tCons (tC (.int 4)) tNil))))) σ H (fun v H' => PenAt H' p c (N + 2) ∧ ∃ n, v = nv n ∧ 1 ≤ n ∧ (n = 23 ∨ n ≤ 4)) := fun H1 e Q kk => by
  unfold tIf
  refine td_eq0 (p := p) (M := fun H' => PenAt H' p c (N + 1)) (fun _ _ e q => q.ex e) ((evd_draw (m := 9) (hp H1) (ev_n (n := 9) rfl) (pn.ex e) (by omega) (by omega) (by omega)).imp fun v H' b ⟨q1, r, _, ev⟩ => ⟨q1, r, ev⟩) fun b H2 b2 pn2 => ?_
  cases b
  · rw [if_neg (by decide)]
    refine (evd_op (ev_n (n := 1) rfl) (evd_draw (m := 4) (hp H2) (ev_n (n := 4) rfl) pn2 (by omega) (by omega) (by omega)) (P' := fun v H' => PenAt H' p c (N + 2) ∧ ∃ n, v = nv n ∧ 1 ≤ n ∧ (n = 23 ∨ n ≤ 4)) fun y H3 b3 ⟨pn3, r, hr, ev⟩ => ?_) H2 (Ex.refl _) _ fun v H3 b3 q => kk v H3 (b2.trans b3) q
    subst ev
    exact ⟨nv (1 + r), rv_addN, fun H4 e4 => ⟨pn3.ex e4, 1 + r, rfl, by omega, by omega⟩⟩
  · rw [if_pos rfl]
    exact (ev_n (n := 23) rfl : Ev (tC (.int 23)) σ H2 (nv 23)) H2 (Ex.refl _) _ fun H3 e3 => kk _ H3 (b2.trans (.of e3)) ⟨(pn2.ex e3).mono (by omega), 23, rfl, by omega, .inl rfl⟩
theorem ev_min4 (hn : Ev tn σ H (nv n)) : Ev (tCB (rMin K) (tCons (tLst (tCons tn (tCons (tC (.int 4)) tNil))) tNil)) σ H (nv (min n 4)) := fun H1 e Q k => by
  show (tLst (tCons tn (tCons (tC (.int 4)) tNil))) σ H1 (fun x H2 => rMin K [x] H2 Q)
  refine (el_lst (ea_cons hn (ea_cons (ev_n (n := 4) rfl) ea_nil)) (by show 2 ≤ 100000; decide) : EvL (tLst (tCons tn (tCons (tC (.int 4)) tNil))) σ H [nv n, nv 4]) H1 e _ fun q H2 nq e2 hq => ?_
  refine ⟨q, [(n : Int), 4], rfl, sq_of hq, Nat.succ_pos _, fun m hm hl => ?_⟩
  have : m = ((min n 4 : Nat) : Int) := by
    have h1 := hl n List.mem_cons_self
    have h2 := hl 4 (by simp)
    simp only [List.mem_cons, List.not_mem_nil, or_false] at hm
    omega
  rw [this]; exact k H2 e2
theorem evd_strings (hp : ∀ H, Ev tp σ H (.ref p)) (hn : ∀ H, Ev tn σ H (nv n)) (pn : PenAt H p c N) (h1 : 1 ≤ n) (h2 : n ≤ 64) (hN : N ≤ 9000000) : EvD p (tCall sp_law_strings [] E0 (tCons tp (tCons tn (tCons (tCall sp_law_draw [] E0 (tCons tp (tCons (tOp (rI0 fun i j => .int (i + j)) (tCB (rMin K) (tCons (tLst (tCons tn (tCons (tC (.int 4)) tNil))) tNil)) (tC (.int 1))) tNil))) tNil)))) σ H (fun v H' => ∃ l L many, v = .ref l ∧ IsRl H' l L ∧ Strings n many L ∧ many ≤ 4 ∧ PenAt H' p c (N + 200001)) := fun H1 e Q kk => by
  show tp σ H1 _
  refine (hp H1) H1 (Ex.refl _) _ fun H2 e2 => (hn H2) H2 (Ex.refl _) _ fun H3 e3 => ?_
  refine (evd_draw (m := min n 4 + 1) (hp H3) (ev_op (ev_min4 (hn H3)) (ev_n (n := 1) rfl) rv_addN) ((pn.ex e).ex (e2.trans e3)) (by omega) (by omega) (by omega)) H3 (Ex.refl _) _ fun v H4 b4 ⟨pn4, r, hr, ev⟩ => ?_
  subst ev
  exact ⟨p, c, n, r, N + 1, rfl, h1, h2, pn4, by omega, fun l L H' hl hS b pn' => kk _ H' (((ExB.of (e2.trans e3)).trans b4).trans b) ⟨l, L, r, rfl, hl, hS, by omega, pn'.mono (by omega)⟩⟩
/-- the strings' objects -/
theorem evp_paulis {vs : List Nat} {L : List Row} {rl : Addr} (hl : ∀ H, Ev tl σ H (.ref rl)) (hr : IsRl H rl L) (h13 : ∀ x, ((wipe σ vs).set 13 (some x))[13]? = some (some x)) (h3 : ∀ x, ((wipe σ vs).set 13 (some x))[3]? = some (some (nv n))) (hw : ∀ x, wipe ((wipe σ vs).set 13 (some x)) vs = wipe σ vs)
    (hn1 : 1 ≤ n) (hn : n ≤ 64) (hL : L.length ≤ 1000) (hs : ∀ r ∈ L, r.s ≤ 1) : EvP (tLc (iList K tl) (gName 13) tYes (tCall (sp_law_pauli K) [] E0 (tCons (tVar 13) (tCons (tVar 3) tNil))) vs) σ H (fun v H' => ∃ q xs, v = .ref q ∧ H' q = some (.lst xs) ∧ PRs K n H' xs L) := by
  obtain ⟨xs, ha, hx⟩ := hr
  have hxl := paired_len hx
  refine (evp_lc (wk_list (hl H) (sq_of ha)) (fun _ => true) (fun i v H' => ∃ r, L[i]? = some r ∧ IsPR K n H' v r) (by omega) (fun i v H H' e ⟨r, h1, h2⟩ => ⟨r, h1, h2.kx e⟩) fun i x Hb hi eb hx' Q' kk => ?_).imp fun v H4 e4 ⟨q, ys, h1, h2, h3⟩ => ?_
  · obtain ⟨r, hr1, hr2⟩ := paired_at hx hx'
    exact tg_name (i := i) (hw _) et_yes (fun _ => (evp_law_pauli (ev_var (h13 _)) (ev_var (h3 _)) hn1 (by omega) (hs r (List.mem_of_getElem? hr1)) (hr2.ex eb)).imp fun v H' _ q => ⟨r, hr1, q⟩) kk
  · refine ⟨q, ys, h1, h2, ?_⟩
    rw [filter_all, hxl] at h3
    have := paired_range (g := fun r : Row => r) h3 (F := IsPR K n H4) fun i d x hd ⟨r, h4, h5⟩ => by rw [hd] at h4; rw [Option.some.inj h4]; exact h5
    rw [List.map_id'] at this
    exact this
/-- what Group makes of good strings -/
theorem grp_res {H : Hp} {L : List Row} {Q : VK} (g : Good n L) (k : ∀ v H' red, Ex H H' → IsGrp K H' v n red → Red n L red → Q v H') : GrpRes K H n L (fun red => ∀ v H', Ex H H' → IsGrp K H' v n red → Q v H') E0 :=
  ⟨fun i j f _ _ _ _ => not_firstAnti g.C.commut f, fun _ ks f _ _ _ _ _ _ => NoMinus.noFail g.C g.S g.R g.g f, fun _ kept hk v H' e' hg => k v H' _ e' hg ⟨kept, hk, rfl⟩⟩
theorem evp_group {vs : List Nat} {L : List Row} {rl : Addr} (hn' : ∀ H, Ev tn σ H (nv n)) (hl : ∀ H, Ev tl σ H (.ref rl)) (hr : IsRl H rl L) (h13 : ∀ x, ((wipe σ vs).set 13 (some x))[13]? = some (some x)) (h3 : ∀ x, ((wipe σ vs).set 13 (some x))[3]? = some (some (nv n))) (hw : ∀ x, wipe ((wipe σ vs).set 13 (some x)) vs = wipe σ vs)
    (hn1 : 1 ≤ n) (hn : n ≤ 64) (hL : L.length ≤ 1000) (g : Good n L) : EvP (tMake (CG K) (sp_GroupInit K) [] E0 (tCons tn (tCons (tLc (iList K tl) (gName 13) tYes (tCall (sp_law_pauli K) [] E0 (tCons (tVar 13) (tCons (tVar 3) tNil))) vs) tNil))) σ H (fun v H' => ∃ red, IsGrp K H' v n red ∧ Red n L red) := fun H1 e Q kk => by
  refine tmake_grp (n := n) (rows := L) (P := fun vs H' => ∃ q xs, vs = [nv n, .ref q] ∧ H' q = some (.lst xs) ∧ PRs K n H' xs L) ?_ (fun vs H' e' ⟨q, xs, ev, hq, hp⟩ => ⟨q, xs, ev, .inl (sq_of hq), hp⟩) hn1 (by omega) g.R hL (grp_res g fun v H' red e' hg hR => kk v H' e' ⟨red, hg, hR⟩)
  refine eap_cons (P := fun v _ => v = nv n) (Ev.p (hn' H1)) (eap_cons (Pr := fun vs _ => vs = []) (P' := fun vs H' => ∃ q xs, vs = [.ref q] ∧ H' q = some (.lst xs) ∧ PRs K n H' xs L) (evp_paulis hl (hr.ex e) h13 h3 hw hn1 hn hL fun r h => g.S r h) eap_nil ?_) ?_
  · rintro v vs H3 H4 e3 ⟨q, xs, rfl, hq, hp⟩ e4 rfl
    exact ⟨q, xs, rfl, e4 _ _ hq, hp.ex e4⟩
  · rintro v vs H3 H4 e3 rfl e4 ⟨q, xs, rfl, hq, hp⟩
    exact ⟨q, xs, rfl, hq, hp⟩
theorem evp_joined {v1 v2 : V} {r1 r2 : List Row} (h1 : Ev ta σ H v1) (h2 : Ev tb σ H v2) (g1 : IsGrp K H v1 n r1) (g2 : IsGrp K H v2 n r2) (hn1 : 1 ≤ n) (hn : n ≤ 64) (R1 : ∀ r ∈ r1, Rw n r) (R2 : ∀ r ∈ r2, Rw n r) (hl : r1.length + r2.length ≤ 1000) (hc : Commut (r1 ++ r2)) (hf : ∀ ks, ¬ IndFail (r1 ++ r2) n ks) :
    EvP (tCall (sp_joined_group K) [] E0 (tCons ta (tCons tb tNil))) σ H (fun v H' => ∃ red, IsGrp K H' v n red ∧ Red n (r1 ++ r2) red) :=
  evp_call (ea_cons h1 (ea_cons h2 ea_nil)) fun H1 e Q kk => ⟨v1, v2, n, n, r1, r2, rfl, g1.ex e, g2.ex e, hn1, by omega, R1, fun _ => R2, hl, fun h => absurd rfl h, fun _ => ⟨fun i j f _ _ _ _ => not_firstAnti hc f, fun _ ks f _ _ _ _ _ _ => hf ks f, fun _ kept hk v H' e' hg => kk v H' e' ⟨_, hg, kept, hk, rfl⟩⟩⟩
/-- the group as a dict, or None -/
theorem evp_lgroup {L : List Row} {a : Addr} {o : Option (List Row)} (h : Ev ta σ H (.ref a)) (hr : IsRl H a L) (hn : n ≤ 23) (R : ∀ r ∈ L, Rw n r) (ho : GrpD [rw0] L o) :
    EvP (tCall sp_law_group [] E0 (tCons ta tNil)) σ H (fun v H' => (∃ q G, o = some G ∧ v = .ref q ∧ H' q = some (.dT (G.map kvR))) ∨ (o = none ∧ v = .non)) := by
  obtain ⟨xs, h1, h2⟩ := hr
  exact evp_call (ea_cons h ea_nil) fun H1 e Q kk => ⟨a, xs, n, L, o, rfl, e _ _ h1, h2.ex e, hn, R, ho, fun q H' G e' eo _ _ _ hq => kk _ H' e' (.inl ⟨q, G, eo, rfl, hq⟩), fun H' e' eo => kk _ H' e' (.inr ⟨eo, rfl⟩)⟩
/-- x is None -/
theorem et_none {b : Bool} {Pv : V → Hp → Prop} (h : EvP te σ H Pv) (k : ∀ v H1, Ex H H1 → Pv v H1 → decide (v = .non) = b) : EvT (tTest (tOp (fun x y H Q => y = V.non ∧ Q (V.bl (decide (x = V.non))) H) te (tC .non))) σ H b := fun H1 e Q kk => by
  unfold tTest tOp
  refine h H1 e _ fun v H2 e2 hv => ?_
  refine (ev_c : Ev (tC V.non) σ H2 .non) H2 (Ex.refl _) _ fun H3 e3 => ⟨rfl, b, ?_, kk H3 (e2.trans e3)⟩
  rw [k v H2 (e.trans e2) hv]
end
/-- strings of the group's rows -/
theorem evp_texts {σ : L2.St} {H : Hp} {te : TE} {vs : List Nat} {n : Nat} {rows : List Row} (h : EvP te σ H (fun v H' => ∃ q ys, v = .ref q ∧ H' q = some (.tup ys) ∧ PRs K n H' ys rows)) (h13 : ∀ x, ((wipe σ vs).set 13 (some x))[13]? = some (some x)) (hw : ∀ x, wipe ((wipe σ vs).set 13 (some x)) vs = wipe σ vs)
    (hn1 : 1 ≤ n) (hn : n ≤ 64) (hl : rows.length ≤ 1000) (R : ∀ r ∈ rows, Rw n r) : EvP (tLc (iTup K te) (gName 13) tYes (tCall (sp_law_of_text K) [] E0 (tCons (tCall (sp_pauli_text K) [] E0 (tCons (tVar 13) tNil)) tNil)) vs) σ H (fun v H' => ∃ a, v = .ref a ∧ IsRl H' a rows) := fun H1 e Q kk => by
  unfold tLc iTup
  refine h H1 e _ fun v H2 e2 ⟨q, ys, ev, hq, hys⟩ => ?_
  subst ev
  have key : EvP (tLc (iTup K (tC (.ref q))) (gName 13) tYes (tCall (sp_law_of_text K) [] E0 (tCons (tCall (sp_pauli_text K) [] E0 (tCons (tVar 13) tNil)) tNil)) vs) σ H2 (fun v H' => ∃ a, v = .ref a ∧ IsRl H' a rows) := by
    have hyl := paired_len hys
    refine (evp_lc (wk_tup ev_c (st_of hq)) (fun _ => true) (fun i v H' => ∃ r, rows[i]? = some r ∧ IsRow H' v r) (by omega) (fun i v H H' e ⟨r, h1, h2⟩ => ⟨r, h1, h2.kx e⟩) fun i x Hb hi eb hx' Q' kk => ?_).imp fun v H4 e4 ⟨q, ys, h1, h2, h3⟩ => ?_
    · obtain ⟨r, hr1, hr2⟩ := paired_at hys hx'
      have hrr := R r (List.mem_of_getElem? hr1)
      exact tg_name (i := i) (hw _) et_yes (fun _ => (evp_law_of_text (r := r) (ev_pauli_text (ev_var (h13 _)) hrr.s (by rw [letN_len]; omega) (IsPau.ex eb hr2)) hn1 (by omega) hrr).imp fun v Hc ec q => ⟨r, hr1, q⟩) kk
    · refine ⟨q, h1, ys, h2, ?_⟩
      rw [filter_all, hyl] at h3
      have := paired_range (g := fun r : Row => r) h3 (F := IsRow H4) fun i d x hd ⟨r, h4, h5⟩ => by rw [hd] at h4; rw [Option.some.inj h4]; exact h5
      rw [List.map_id'] at this
      exact this
  exact key H2 (Ex.refl _) Q fun v H' e' q => kk v H' (e2.trans e') q
end
end Kp
end
section
set_option maxHeartbeats 4000000
namespace Kp
open PySem PySem.Spec PyProof.Rows L2 Evl
local macro_rules | `(tactic| walk_at "ht") => `(tactic| first | assumption | solve_by_elim (config := { maxDepth := 12 }))
local macro_rules | `(tactic| walk_at "ev") => `(tactic| repeat' (first
  | exact ea_nil
  | exact ev_var rfl
  | exact ev_n (n := 0) rfl | exact ev_n (n := 1) rfl | exact ev_n (n := 2) rfl
  | exact rv_andN | exact rv_xorN | exact rv_orN | exact rv_addN | exact rv_shrN | (exact rv_mulN (by decide)) | exact rv_eqN | exact rv_neN | exact rv_ltN
  | (refine' rv_ixT (st_of (by walk_at "ht")) (by rfl))
  | walk_at "evx"
  | refine' ev_op ?_ ?_ ?_
  | refine' ea_cons ?_ ?_))
section
variable {P : Program} {w : World} {K : PySem.W.Frag} {mg : Str → Option Value} {base : Heap}
section
variable {σ : L2.St} {H H' : Hp} {ta tb tc td te to tl tv tx th tp tn : TE} {t u : TT} {x y z v : V} {D : Ends} {tz tu : TS} {g : TG} {p c : Addr} {N n : Nat} {xs : List V}
/-- int(e == 0), e draws -/
theorem evd_bit (hp : ∀ H, Ev tp σ H (.ref p)) (pn : PenAt H p c N) (hN : N ≤ 999999990) : EvD p (tCB rInt1 (tCons (tOp rEq (tCall sp_law_draw [] E0 (tCons tp (tCons (tC (.int 5)) tNil))) (tC (.int 0))) tNil)) σ H (fun v H' => PenAt H' p c (N + 1) ∧ ∃ b : Nat, b ≤ 1 ∧ v = nv b) := fun H1 e Q kk => by
  show (tOp rEq (tCall sp_law_draw [] E0 (tCons tp (tCons (tC (.int 5)) tNil))) (tC (.int 0))) σ H1 (fun x H2 => rInt1 [x] H2 Q)
  unfold tOp
  refine (evd_draw (m := 5) (hp H1) (ev_n (n := 5) rfl) (pn.ex e) (by omega) (by omega) (by omega)) H1 (Ex.refl _) _ fun v H2 b2 ⟨pn2, r, hr, ev⟩ => ?_
  subst ev
  refine (ev_n (n := 0) rfl : Ev (tC (.int 0)) σ H2 (nv 0)) H2 (Ex.refl _) _ fun H3 e3 => ?_
  refine (rv_eqN (H := H3) (a := r) (b := 0)) H3 (Ex.refl _) _ fun H4 e4 => ?_
  refine .inr ⟨_, rfl, kk _ H4 (b2.trans (.of (e3.trans e4))) ⟨pn2.ex (e3.trans e4), if decide (r = 0) = true then 1 else 0, ?_, ?_⟩⟩
  · split <;> omega
  · cases decide (r = 0) <;> rfl
/-- the signs changed by draws -/
theorem evd_flip {vs : List Nat} {L : List Row} {rl : Addr} (hl : ∀ H, Ev tl σ H (.ref rl)) (hr : IsRl H rl L) (h13 : ∀ x, ((wipe σ vs).set 13 (some x))[13]? = some (some x)) (h1 : ∀ x, ((wipe σ vs).set 13 (some x))[1]? = some (some (.ref p))) (hw : ∀ x, wipe ((wipe σ vs).set 13 (some x)) vs = wipe σ vs)
    (hL : L.length ≤ 1000) (hs : ∀ r ∈ L, r.s ≤ 1) (pn : PenAt H p c N) (hN : N ≤ 999990000) : EvD p (tLc (iList K tl) (gName 13) tYes (tTup (tCons (tOp (rIxT K) (tVar 13) (tC (.int 0))) (tCons (tOp (rIxT K) (tVar 13) (tC (.int 1))) (tCons (tOp (rI0 fun i j => .int (Builtin.bitXor i j)) (tOp (rIxT K) (tVar 13) (tC (.int 2))) (tCB rInt1 (tCons (tOp rEq (tCall sp_law_draw [] E0 (tCons (tVar 1) (tCons (tC (.int 5)) tNil))) (tC (.int 0))) tNil))) tNil)))) vs) σ H
      (fun v H' => ∃ a M, v = .ref a ∧ IsRl H' a M ∧ PySem.Paired (fun (a b : Row) => a.x = b.x ∧ a.z = b.z ∧ a.s ≤ 1) M L ∧ PenAt H' p c (N + L.length)) := fun H1 e Q kk => by
  obtain ⟨xs, ha, hx⟩ := hr
  have hxl := paired_len hx
  unfold tLc iList
  refine (hl H1) H1 (Ex.refl _) _ fun H2 e2 => ?_
  have ha2 := (e.trans e2) _ _ ha
  have hx2 : Rows H2 xs L := hx.ex (e.trans e2)
  have pn2 := pn.ex (e.trans e2)
  refine ⟨rl, rfl, ⟨xs, sq_of ha2⟩, fun Dl nD => ?_⟩
  refine lc_it (walk_list (K := K) (a := rl) (xs := xs)) (fun i H' => ExB p H2 H' ∧ PenAt H' p c (N + i) ∧ ∃ acc M, H' Dl = some (.lst acc) ∧ Rows H' acc M ∧ PySem.Paired (fun (a b : Row) => a.x = b.x ∧ a.z = b.z ∧ a.s ≤ 1) M (L.take i))
    ⟨.of (Ex.new nD), pn2.ex (Ex.new nD), [], [], upd_same, .nil, .nil⟩ (fun i H' _ q => sq_of (pn2.lst q.1 ha2)) ?_ ?_
  · rintro i x Ha0 Hb hi ⟨ba, pna, acc, M, hD, hM, hrel⟩ ⟨rfl, hx'⟩
    obtain ⟨r, hr1, hr2⟩ := paired_at (hx2.kx (pn2.kx ba)) hx'
    obtain ⟨tq, rfl, htq⟩ := hr2
    refine ⟨hw _, et_yes Hb (Ex.refl _) _ fun Ha ea0 => ?_⟩
    rw [if_pos rfl]
    have htq := ea0 _ _ htq
    have hD := ea0 _ _ hD
    have hM := hM.ex ea0
    have pna := pna.ex ea0
    have ba := ba.trans (.of ea0)
    clear ea0
    refine (ev_op (ev_var (h13 _)) ev_c (rv_ixT (st_of htq) (by rfl)) : Ev (tOp (rIxT K) (tVar 13) (tC (.int 0))) _ Ha (nv r.x)) Ha (Ex.refl _) _ fun H3 e3 => ?_
    refine (ev_op (ev_var (h13 _)) ev_c (rv_ixT (st_of (e3 _ _ htq)) (by rfl)) : Ev (tOp (rIxT K) (tVar 13) (tC (.int 1))) _ H3 (nv r.z)) H3 (Ex.refl _) _ fun H4 e4 => ?_
    have e34 := e3.trans e4
    refine (evd_op (P' := fun v H' => PenAt H' p c (N + i + 1) ∧ ∃ b : Nat, b ≤ 1 ∧ v = nv b) (ev_op (ev_var (h13 _)) ev_c (rv_ixT (st_of (e34 _ _ htq)) (by rfl)) : Ev (tOp (rIxT K) (tVar 13) (tC (.int 2))) _ H4 (nv r.s)) (evd_bit (tp := tVar 1) (fun _ => ev_var (h1 _)) (pna.ex e34) (by omega)) fun y H5 b5 ⟨pn5, b, hb, ev⟩ => ?_) H4 (Ex.refl _) _ fun v H5 b5 ⟨pn5, b, hb, ev⟩ => ?_
    · subst ev
      exact ⟨nv (r.s ^^^ b), rv_xorN, fun H6 e6 => ⟨pn5.ex e6, r.s ^^^ b, xor_le1 (hs r (List.mem_of_getElem? hr1)) hb, rfl⟩⟩
    · subst ev
      refine ⟨sz_of (by show 3 ≤ 100000; decide), fun q nq => ?_⟩
      have b4 : ExB p Ha H5 := (ExB.of e34).trans b5
      have hD5 := pna.lst b4 hD
      have k5 := pna.kx b4
      have eq5 : Ex H5 (upd H5 q (.tup [nv r.x, nv r.z, nv b])) := Ex.new nq
      have hDq := eq5 _ _ hD5
      have hal := paired_len hM
      have hrl := paired_len hrel
      rw [List.length_take] at hrl
      refine ⟨acc, hDq, sz_lt (by omega), ?_, ?_, acc ++ [.ref q], M ++ [⟨r.x, r.z, b⟩], upd_same, ?_, ?_⟩
      · intro b' o hb' ho
        have hne : b' ≠ Dl := by rintro rfl; rw [nD] at ho; cases ho
        rw [upd_ne hne]
        exact eq5 _ _ (b4 _ _ hb' (ba _ _ hb' ho))
      · have hDp : Dl ≠ p := (pna.ne hD)
        have hnc := pn2.new nD
        exact (pn5.ex eq5).upd (.upd) hnc.1 hnc.2
      · have kx : Kx (upd H5 q (.tup [nv r.x, nv r.z, nv b])) (upd (upd H5 q (.tup [nv r.x, nv r.z, nv b])) Dl (.lst (acc ++ [.ref q]))) := Kx.lst hDq
        exact paired_app (((hM.kx k5).ex eq5).kx kx) (.cons ⟨q, rfl, kx.1 _ _ upd_same⟩ .nil)
      · rw [take_succ_of hr1]
        exact paired_app hrel (.cons ⟨rfl, rfl, hb⟩ .nil)
  · rintro H3 ⟨b3, pn3, acc, M, hD, hM, hrel⟩
    rw [hxl, List.take_length] at hrel
    rw [hxl] at pn3
    exact kk _ H3 ((ExB.of e2).trans b3) ⟨Dl, M, rfl, ⟨acc, hD, hM⟩, hrel, pn3⟩
/-- l[e:], e draws -/
theorem evd_slFrom {L : List Row} {rl : Addr} (hl : ∀ H, Ev tl σ H (.ref rl)) (hp : ∀ H, Ev tp σ H (.ref p)) (hr : IsRl H rl L) (hL : L.length ≤ 1000) (pn : PenAt H p c N) (hN : N ≤ 999990000) :
    EvD p (tSl (rSlL K) tl (tPart (tCall sp_law_draw [] E0 (tCons tp (tCons (tOp (rI0 fun i j => .int (i + j)) (tCB (rLenV K) (tCons tl tNil)) (tC (.int 1))) tNil)))) tNoPart) σ H (fun v H' => ∃ a m, v = .ref a ∧ IsRl H' a (L.drop m) ∧ PenAt H' p c (N + 1)) := fun H1 e Q kk => by
  obtain ⟨xs, ha, hx⟩ := hr
  have hxl := paired_len hx
  unfold tSl tPart tNoPart
  refine (hl H1) H1 (Ex.refl _) _ fun H2 e2 => ?_
  have ha2 := (e.trans e2) _ _ ha
  refine (evd_draw (m := L.length + 1) (hp H2) (ev_op (y := nv 1) (by rw [← hxl]; exact ev_lenL (hl H2) (sq_of ha2)) (ev_n (n := 1) rfl) rv_addN) (pn.ex (e.trans e2)) (by omega) (by omega) (by omega)) H2 (Ex.refl _) _ fun v H3 b3 ⟨pn3, r, hr, ev⟩ => ?_
  subst ev
  have pn2 := pn.ex (e.trans e2)
  have ha3 := pn2.lst b3 ha2
  refine ⟨(r : Int), rfl, rl, xs, rfl, sq_of ha3, fun q nq => ?_⟩
  have eq3 : Ex H3 (upd H3 q (.lst (cutV xs (some (r : Int)) none))) := Ex.new nq
  refine kk _ _ (((ExB.of e2).trans b3).trans (.of eq3)) ⟨q, r, rfl, ⟨xs.drop r, ?_, ?_⟩, pn3.ex eq3⟩
  · rw [upd_same, cutV_from]
  · have h3 : Rows H3 xs L := (hx.ex (e.trans e2)).kx (pn2.kx b3)
    have : ∀ {l1 : List V} {l2 : List Row} (k : Nat), Rows H3 l1 l2 → Rows H3 (l1.drop k) (l2.drop k) := fun {l1 l2} k h => by
      refine paired_of (by rw [List.length_drop, List.length_drop, paired_len h]) fun i x y hx hy => ?_
      rw [List.getElem?_drop] at hx hy
      obtain ⟨y', h1, h2⟩ := paired_at h hx
      rw [hy] at h1
      cases h1
      exact h2
    exact (this r h3).ex eq3
/-- the table, if -1 is made -/
theorem evp_ifRed {L : List Row} {rl : Addr} (hl : ∀ H, Ev tl σ H (.ref rl)) (hn : ∀ H, Ev tn σ H (nv n)) (hr : IsRl H rl L) (hn2 : n ≤ 23) (m : More n L) :
    EvP (tIf (tTest (tOp (fun x y H Q => y = V.non ∧ Q (V.bl (decide (x = V.non))) H) (tCall sp_law_group [] E0 (tCons tl tNil)) (tC .non))) (tCall sp_law_reduced [] E0 (tCons tl (tCons tn tNil))) tl) σ H (fun v H' => ∃ a M, v = .ref a ∧ IsRl H' a M ∧ More n M) := fun H1 e Q kk => by
  obtain ⟨o, ho, _, _⟩ := m.grp
  unfold tIf
  refine (et_none (b := decide (o = none)) (evp_lgroup (hl H) hr hn2 m.R ho) fun v H2 e2 hv => ?_) H1 e _ fun H2 e2 => ?_
  · rcases hv with ⟨q, G, rfl, rfl, _⟩ | ⟨rfl, rfl⟩
    · rfl
    · rfl
  · have hr2 := hr.ex (e.trans e2)
    by_cases h : o = none
    · rw [decide_eq_true h, if_pos rfl]
      refine (evp_call (P := fun v H' => ∃ a M, v = .ref a ∧ IsRl H' a M ∧ More n M) (ea_cons (hl H2) (ea_cons (hn H2) ea_nil)) fun H3 e3 Q2 k2 => ?_) H2 (Ex.refl _) Q fun v H' e' q => kk v H' (e2.trans e') q
      obtain ⟨xs, h1, h2⟩ := hr2.ex e3
      exact ⟨.ref rl, L, n, rfl, ⟨rl, xs, rfl, h1, h2⟩, by have := m.len; omega, by omega, m.R, fun v H' e' ⟨q, ys, ev, g1, g2⟩ => k2 v H' e' ⟨q, _, ev, ⟨ys, g1, g2⟩, m.red⟩⟩
    · rw [decide_eq_false h, if_neg (by decide)]
      exact (hl H2) H2 (Ex.refl _) Q fun H3 e3 => kk _ H3 (e2.trans e3) ⟨rl, L, rfl, hr2.ex e3, m⟩
/-- the identity left out -/
theorem evp_out {vs : List Nat} {L : List Row} {rl : Addr} (hl : ∀ H, Ev tl σ H (.ref rl)) (hr : IsRl H rl L) (h13 : ∀ x, ((wipe σ vs).set 13 (some x))[13]? = some (some x)) (hw : ∀ x, wipe ((wipe σ vs).set 13 (some x)) vs = wipe σ vs) (m : More n L) :
    EvP (tLc (iList K tl) (gName 13) (tTest (tOp (rNeD K) (tTup (tCons (tOp (rIxT K) (tVar 13) (tC (.int 0))) (tCons (tOp (rIxT K) (tVar 13) (tC (.int 1))) tNil))) (tTup (tCons (tC (.int 0)) (tCons (tC (.int 0)) tNil))))) (tVar 13) vs) σ H (fun v H' => ∃ a M, v = .ref a ∧ IsRl H' a M ∧ More n M) := by
  obtain ⟨xs, ha, hx⟩ := hr
  have hxl := paired_len hx
  have hml := m.len
  refine (evp_lc (wk_list (hl H) (sq_of ha)) (fun i => !decide ([(L.getD i rw0).x, (L.getD i rw0).z] = [0, 0])) (fun i v H' => ∃ r, L[i]? = some r ∧ IsRow H' v r) (by omega) (fun i v H H' e ⟨r, h1, h2⟩ => ⟨r, h1, h2.kx e⟩) fun i x Hb hi eb hx' Q' kk => ?_).imp fun v H4 e4 ⟨q, ys, h1, h2, h3⟩ => ?_
  · obtain ⟨r, hr1, hr2⟩ := paired_at hx hx'
    have er : L.getD i rw0 = r := by rw [List.getD_eq_getElem?_getD, hr1]; rfl
    exact tg_name (i := i) (hw _) (et_is (et_test (ev_neTT (ns := [r.x, r.z]) (ms := [0, 0]) (eu_xz (ev_var (h13 _)) (ev_var (h13 _)) (hr2.ex eb)) fun H1 _ => eu_tup (ea_cons (ev_n (n := 0) rfl) (ea_cons (ev_n (n := 0) rfl) ea_nil)) (by show 2 ≤ 100000; decide))) (by simp only [er])) (fun _ => Ev.p (ev_var (h13 _)) |>.imp fun v Hc ec ev => ⟨r, hr1, by rw [ev]; exact (hr2.ex eb).ex ec⟩) kk
  · refine ⟨q, ((List.range xs.length).filter fun i => !decide ([(L.getD i rw0).x, (L.getD i rw0).z] = [0, 0])).map fun i => L.getD i rw0, h1, ⟨ys, h2, ?_⟩, m.sub (fun r hr => ?_) ?_⟩
    · refine paired_of (by rw [List.length_map, paired_len h3]) fun i x y hx hy => ?_
      obtain ⟨j, hj, r, g1, g2⟩ := paired_at h3 hx
      rw [List.getElem?_map, hj] at hy
      have : L.getD j rw0 = y := Option.some.inj hy
      rw [← this, List.getD_eq_getElem?_getD, g1]
      exact g2
    · obtain ⟨i, hi, rfl⟩ := List.mem_map.mp hr
      exact getD_mem (by have := List.mem_range.mp (List.mem_filter.mp hi).1; omega)
    · rw [List.length_map]
      have := List.length_filter_le (fun i => !decide ([(L.getD i rw0).x, (L.getD i rw0).z] = [0, 0])) (List.range xs.length)
      rw [List.length_range] at this
      omega
end
end
end Kp
end
section
set_option maxHeartbeats 4000000
namespace Kp
open PySem PySem.Spec PyProof.Rows L2 Evl
local macro_rules | `(tactic| walk_at "ht") => `(tactic| first | assumption | solve_by_elim (config := { maxDepth := 12 }))
local macro_rules | `(tactic| walk_at "ev") => `(tactic| repeat' (first
  | exact ea_nil
  | exact ev_var rfl
  | exact ev_n (n := 0) rfl | exact ev_n (n := 1) rfl | exact ev_n (n := 2) rfl
  | exact rv_andN | exact rv_xorN | exact rv_orN | exact rv_addN | exact rv_shrN | (exact rv_mulN (by decide)) | exact rv_eqN | exact rv_neN | exact rv_ltN
  | (refine' rv_ixT (st_of (by walk_at "ht")) (by rfl))
  | walk_at "evx"
  | refine' ev_op ?_ ?_ ?_
  | refine' ea_cons ?_ ?_))
theorem PenAt.extn {H H' : Hp} {p c : Addr} {N : Nat} (pn : PenAt H p c N) (e : LamX.ExtN H H') : PenAt H' p c N := by
  obtain ⟨es, cs, a, d, n, f, E, q⟩ := pn
  exact ⟨es, cs, a, d, n, f, ⟨e _ _ E.p (fun _ h => nomatch h), E.len, E.cells, e _ _ E.c (fun _ h => nomatch h), E.at_, E.digits, E.count, E.fold⟩, q⟩
theorem kx_extn {H H' : Hp} (e : LamX.ExtN H H') : Kx H H' := ⟨fun a xs h => e _ _ h (fun _ h => nomatch h), fun a C d fs h => e _ _ h (fun _ h => nomatch h)⟩
theorem shaped_w1 (w z : Str) (h1 : PyData.canLay0 (.str w) = true) (h2 : PyData.canLay0 (.str z) = true) : SeqAt.shaped (.tuple [.str w, .str z]) = true := by
  unfold SeqAt.shaped
  rw [Bool.and_eq_true, decide_eq_true_eq]
  refine ⟨?_, by simp only [PyData.depth, PyData.depthAll]; omega⟩
  simp only [PyData.canLay0, PyData.canLayAll0] at *
  rw [h1, h2]; rfl
theorem shaped_w2 (w : Str) (i j : Nat) (h1 : PyData.canLay0 (.str w) = true) : SeqAt.shaped (.tuple [.str w, .int (i : Int), .int (j : Int)]) = true := by
  unfold SeqAt.shaped
  rw [Bool.and_eq_true, decide_eq_true_eq]
  refine ⟨?_, by simp only [PyData.depth, PyData.depthAll]; omega⟩
  simp only [PyData.canLay0, PyData.canLayAll0] at *
  rw [h1]; rfl
theorem shaped_wT (w : Str) (l : List Nat) (h1 : PyData.canLay0 (.str w) = true) : SeqAt.shaped (.tuple [.str w, .tuple (l.map fun n : Nat => PyData.int (n : Int))]) = true := by
  unfold SeqAt.shaped
  have hd := depth_ints l
  have hl := lay_ints l
  unfold dInt at hd hl
  rw [Bool.and_eq_true, decide_eq_true_eq]
  refine ⟨?_, by simp only [PyData.depth, PyData.depthAll]; omega⟩
  simp only [PyData.canLay0, PyData.canLayAll0] at *
  rw [h1, hl]; rfl
section
variable {P : Program} {w : World} {K : PySem.W.Frag} {mg : Str → Option Value} {base : Heap}
section
variable {σ : L2.St} {H H' : Hp} {ta tb tc td te to tl tv tx th tp tn : TE} {t u : TT} {x y z v : V} {D : Ends} {tz tu : TS} {g : TG} {p c : Addr} {N n : Nat} {xs : List V}
theorem et_some (h : Ev te σ H v) : EvT (tTest (tOp (fun x y H Q => y = V.non ∧ Q (V.bl !decide (x = V.non)) H) te (tC .non))) σ H (!decide (v = .non)) := fun H1 e Q kk => by
  unfold tTest tOp
  refine h H1 e _ fun H2 e2 => ?_
  exact (ev_c : Ev (tC V.non) σ H2 .non) H2 (Ex.refl _) _ fun H3 e3 => ⟨rfl, _, rfl, kk H3 (e2.trans e3)⟩
/-- if why(lambda: ..) != x: ..: the same data -/
theorem s_why {Tl : List (Addr × Str)} {tl : XK → TE} {d : PyData} (tb : LamX.Tabs Tl H) (hs : SeqAt.shaped d = true) (ht : ∀ H2, LamX.ExtN H H2 → ∀ (Q : VK) Qn, (∀ tt H', Ex H2 H' → (∀ H3, Ex H' H3 → Dp K H3 (.ref tt) d) → Q (.ref tt) H') → tl (WhyOf K Q) σ H2 Qn)
    (hd : ∀ H2, LamX.ExtN H H2 → EvP td σ H2 (fun v H' => ∀ H3, Ex H' H3 → Dp K H3 v d)) (k : ∀ H', LamX.ExtN H H' → LamX.Tabs Tl H' → D.nx σ H') : tIfS (tTest (tOp (rNeD K) (LamX.tLam Tl (TTwhy K) tl) td)) (tRet te) tNext D σ H := by
  unfold tIfS tTest tOp LamX.tLam
  refine ⟨tb, fun H1 n1 t1 H2 Qn e2 => ht H2 (n1.trans (.of e2)) _ Qn fun tt H' e' hdp => ?_⟩
  refine hd H' (n1.trans (.of (e2.trans e'))) H' (Ex.refl _) _ fun y H3 e3 hy => ?_
  refine (rv_neDp (H := H3) (fun H4 e4 => hdp H4 (e3.trans e4)) (fun H4 e4 => hy H4 e4) hs) H3 (Ex.refl _) _ fun H4 e4 => ⟨false, rfl, ?_⟩
  show tNext D σ H4
  exact k H4 (n1.trans (.of (e2.trans (e'.trans (e3.trans e4))))) (t1.ext (e2.trans (e'.trans (e3.trans e4))))
/-- the lambda's call, where two strings anticommute -/
theorem why_anti {v1 v2 : V} {r1 r2 : List Row} {i j : Nat} {Q Qn : VK} (h1 : Ev ta σ H v1) (h2 : Ev tb σ H v2) (g1 : IsGrp K H v1 n r1) (g2 : IsGrp K H v2 n r2) (hn1 : 1 ≤ n) (hn : n ≤ 64) (R1 : ∀ r ∈ r1, Rw n r) (R2 : ∀ r ∈ r2, Rw n r) (hl : r1.length + r2.length ≤ 1000) (fa : FirstAnti (r1 ++ r2) i j)
    (k : ∀ tt H', Ex H H' → (∀ H3, Ex H' H3 → Dp K H3 (.ref tt) (.tuple [.str "anticommute", .int (i : Int), .int (j : Int)])) → Q (.ref tt) H') : tCall (sp_joined_group K) [] (WhyOf K Q) (tCons ta (tCons tb tNil)) σ H Qn := by
  unfold tCall
  refine (ea_cons h1 (ea_cons h2 ea_nil) : EvA (tCons ta (tCons tb tNil)) σ H [v1, v2]) H (Ex.refl _) _ fun H5 e5 => ?_
  refine ⟨v1, v2, n, n, r1, r2, rfl, g1.ex e5, g2.ex e5, hn1, by omega, R1, fun _ => R2, hl, fun h => absurd rfl h, fun _ => ⟨fun i2 j2 fa2 d H' e' hd => ?_, fun hc => (not_firstAnti hc fa).elim, fun hc => (not_firstAnti hc fa).elim⟩⟩
  obtain ⟨rfl, rfl⟩ := fa.uniq fa2
  exact ⟨d, _, rfl, hd, .inr (.inl ⟨rfl, nv i, nv j, rfl, rfl, fun t H'' e'' ht => k t H'' (e5.trans (e'.trans e'')) fun H3 e3 => dp_word2 (e3 _ _ ht)⟩)⟩
/-- .. where -1 is made -/
theorem why_minus {v1 v2 : V} {r1 r2 : List Row} {ks : List Nat} {Q Qn : VK} (h1 : Ev ta σ H v1) (h2 : Ev tb σ H v2) (g1 : IsGrp K H v1 n r1) (g2 : IsGrp K H v2 n r2) (hn1 : 1 ≤ n) (hn : n ≤ 64) (R1 : ∀ r ∈ r1, Rw n r) (R2 : ∀ r ∈ r2, Rw n r) (hl : r1.length + r2.length ≤ 1000) (hc : Commut (r1 ++ r2)) (hd : DueMinus (r1 ++ r2) ks)
    (k : ∀ tt H', Ex H H' → (∀ H3, Ex H' H3 → Dp K H3 (.ref tt) (.tuple [.str "minus", .tuple (ks.map fun n : Nat => PyData.int (n : Int))])) → Q (.ref tt) H') : tCall (sp_joined_group K) [] (WhyOf K Q) (tCons ta (tCons tb tNil)) σ H Qn := by
  have Rb : ∀ r ∈ r1 ++ r2, Rw n r := fun r hr => (List.mem_append.mp hr).elim (R1 r) (R2 r)
  have Sb : Sgn (r1 ++ r2) := fun r hr => (Rb r hr).s
  unfold tCall
  refine (ea_cons h1 (ea_cons h2 ea_nil) : EvA (tCons ta (tCons tb tNil)) σ H [v1, v2]) H (Ex.refl _) _ fun H5 e5 => ?_
  refine ⟨v1, v2, n, n, r1, r2, rfl, g1.ex e5, g2.ex e5, hn1, by omega, R1, fun _ => R2, hl, fun h => absurd rfl h, fun _ => ⟨fun i2 j2 fa2 d H' e' hd => (not_firstAnti hc fa2).elim, fun _ ks2 hf2 d t2 H' e' hdd ht2 => ?_, fun _ kept hk => ?_⟩⟩
  · have := (hf2.due hc.com Sb Rb).uniq hd
    subst this
    exact ⟨d, _, rfl, hdd, .inr (.inr ⟨rfl, .ref t2, rfl, fun tt H'' e'' htt => k tt H'' (e5.trans (e'.trans e'')) fun H3 e3 => dp_wordT (e3 _ _ htt) (e3 _ _ (e'' _ _ ht2))⟩)⟩
  · obtain ⟨ks', hdu, _⟩ := hk.due hc.com Sb Rb
    exact (hd.not hdu).elim
/-- .. of unlike sizes -/
theorem why_unlike {v1 : V} {r1 : List Row} {Q Qn : VK} (h1 : ∀ H', Ev ta σ H' v1) (h2 : ∀ H', Ev tn σ H' (nv n)) (g1 : IsGrp K H v1 n r1) (hn1 : 1 ≤ n) (hn : n ≤ 64) (R1 : ∀ r ∈ r1, Rw n r) (hl : r1.length ≤ 1000)
    (k : ∀ tt H', Ex H H' → (∀ H3, Ex H' H3 → Dp K H3 (.ref tt) (.tuple [.str "unlike", .str "size"])) → Q (.ref tt) H') : tCall (sp_joined_group K) [] (WhyOf K Q) (tCons ta (tCons (tMake (CG K) (sp_GroupInit K) [] (WhyOf K Q) (tCons (tOp (rI0 fun i j => .int (i + j)) tn (tC (.int 1))) (tCons (tLst tNil) tNil))) tNil)) σ H Qn := by
  show ta σ H _
  refine (h1 H) H (Ex.refl _) _ fun H2 e2 => ?_
  show (tMake (CG K) (sp_GroupInit K) [] (WhyOf K Q) (tCons (tOp (rI0 fun i j => .int (i + j)) tn (tC (.int 1))) (tCons (tLst tNil) tNil))) σ H2 (fun x H3 => sp_joined_group K [v1, x] H3 Qn (WhyOf K Q))
  refine tmake_grp (n := n + 1) (rows := []) (P := fun vs H' => ∃ q, vs = [nv (n + 1), .ref q] ∧ H' q = some (.lst [])) ?_ (fun vs H' e' ⟨q, ev, hq⟩ => ⟨q, [], ev, .inl (sq_of hq), .nil⟩) (by omega) (by omega) (fun r hr => by simp at hr) (by show 0 ≤ 1000; omega) ?_
  · refine eap_cons (P := fun v _ => v = nv (n + 1)) (Ev.p (ev_op (h2 H2) (ev_n (n := 1) rfl) rv_addN)) (eap_cons (Pr := fun vs _ => vs = []) (P' := fun vs H' => ∃ q, vs = [.ref q] ∧ H' q = some (.lst [])) (EvL.pf el_nil) eap_nil ?_) ?_
    · rintro v vs H3 H4 e3 ⟨q, rfl, _, hq⟩ e4 rfl
      exact ⟨q, rfl, e4 _ _ hq⟩
    · rintro v vs H3 H4 e3 rfl e4 ⟨q, rfl, hq⟩
      exact ⟨q, rfl, hq⟩
  · refine ⟨fun i j f => ?_, fun _ ks f => ?_, fun _ kept hk v4 H' e' hg => ?_⟩
    · exfalso
      have := f.2.1
      simp at this
    · exfalso
      obtain ⟨i, _, _, row, _, _, _, hi, _⟩ := f
      simp at hi
    · refine ⟨v1, v4, n, n + 1, r1, _, rfl, g1.ex (e2.trans e'), hg, hn1, by omega, R1, fun h => by omega, ?_, fun _ d H'' e'' hd => ?_, fun h => by omega⟩
      · obtain ⟨hs, h⟩ := hk
        have h1 := h.len.2
        have h2 := redRows_len kept (n + 1)
        have h3 : ([] : List Row).length = 0 := rfl
        omega
      · exact ⟨d, _, rfl, hd, .inl ⟨rfl, .str "size", rfl, fun t H3 e3 ht => k t H3 ((e2.trans e').trans (e''.trans e3)) fun H4 e4 => dp_word1 (e4 _ _ ht)⟩⟩
end
end
end Kp
end
section
set_option maxHeartbeats 4000000
namespace Kp
open PySem PySem.Spec PyProof.Rows L2 Evl
local macro_rules | `(tactic| walk_at "ht") => `(tactic| first | assumption | solve_by_elim (config := { maxDepth := 12 }))
local macro_rules | `(tactic| walk_at "ev") => `(tactic| repeat' (first
  | exact ea_nil
  | exact ev_var rfl
  | exact ev_n (n := 0) rfl | exact ev_n (n := 1) rfl | exact ev_n (n := 2) rfl
  | exact rv_andN | exact rv_xorN | exact rv_orN | exact rv_addN | exact rv_shrN | (exact rv_mulN (by decide)) | exact rv_eqN | exact rv_neN | exact rv_ltN
  | (refine' rv_ixT (st_of (by walk_at "ht")) (by rfl))
  | walk_at "evx"
  | refine' ev_op ?_ ?_ ?_
  | refine' ea_cons ?_ ?_))
/-- a def whose code object is known -/
theorem okfC {P : Program} {w : World} {K : PySem.W.Frag} {mg : Str → Option Value} {base : Heap} {k : Nat} {N ps : List Str} {sp : L2.Sp} (d : He.DefD) (x : Str) {fd : FuncData} (F : FnP K d (He.fAd K d.at_) fd) (ha : d.at_ = (x, none)) (S : FnScope N ps d.scope)
    (len : ∀ vs H Q E, sp vs H Q E → vs.length = ps.length)
    (hbody : ∀ (f : Addr) (A : Around) (outer : List Env) (s : Shared) (H : Hp) (vs : List V) (Q : VK) (E : XK), Room k (A.deeper (envOfC d.qual d.scope s.heap.objs.size f (.ref (He.codeOf K d.at_)))) → sp vs H Q E →
      ∃ t, PSs (cxOf CX0 P w K mg base N d.qual d.scope f (.ref (He.codeOf K d.at_)) A outer s H E).nox d.body t ∧ t { nx := fun _ H' => Q .non H', rt := Q } (L2.start N vs) H) : FnOk P w K mg base CX0 (k + 1) (He.ga K x) fd ps sp := by
  obtain ⟨oc, od, dV, kV, doc, pm, an, cdv, ct, osl, rfl, lk, hcd, _, _⟩ := F.ex
  obtain ⟨c, rfl⟩ := He.codeIn_ref hcd
  have ec := He.codeOf_eq lk (c := c) rfl
  have e : He.fAd K d.at_ = He.ga K x := by rw [ha]; rfl
  rw [e] at lk
  subst ec
  exact fn_of lk hcd S len (fun A outer s H vs Q E hr h => let ⟨t, h1, h2⟩ := hbody _ A outer s H vs Q E hr h; ⟨t, PSs.nox h1, h2⟩)
/-! ### tables of code objects, and the pen -/
theorem tabs_exb {T : List (Addr × Str)} {H H' : Hp} {p c : Addr} {N : Nat} (pn : PenAt H p c N) (b : ExB p H H') (t : LamX.Tabs T H) : LamX.Tabs T H' := fun q hq => by
  obtain ⟨es, cs, a, d, n, f, E, _⟩ := pn
  obtain ⟨ps, h1, h2, h3⟩ := t q hq
  refine ⟨ps, b _ _ (by intro z; rw [z, E.p] at h1; cases h1) h1, h2, fun pos cv hc => ?_⟩
  obtain ⟨c', e1, e2⟩ := h3 pos cv hc
  refine ⟨c', e1, b _ _ (by
    intro z
    rw [z, E.p] at e2
    injection e2 with e2
    unfold LamX.CodeO at e2
    cases e2) e2⟩
section
variable {P : Program} {w : World} {K : PySem.W.Frag} {mg : Str → Option Value} {base : Heap}
/-! ### law -/
def sp_law (K : PySem.W.Frag) (Pt : Addr) : L2.Sp := fun vs H Q _ => ∃ (a : Addr) (cs : List Int), vs = [.ref a] ∧ SqL K H a (cs.map V.int) ∧ cs.length ≤ 1000 ∧ H Pt = some (.tbl #[]) ∧ ∀ H', Q (.bl true) H'
abbrev N_law : List Str := ["_law_script", "_law_pen_here", "_law_lap", "_law_size", "_law_rows", "_law_made", "_law_more", "_law_some", "_law_other", "_law_both", "_law_due", "_law_told", "_law_whole", "_law_row"]
theorem sc_law : FnScope N_law ["_law_script"] (defScope s_law) := ⟨rfl, rfl, rfl, by decide +kernel, rfl, by decide +kernel, by decide +kernel⟩
theorem o_law (T : Tx K mg) (hxf : ∀ x ∈ errN, XfC K (He.ga K x)) {Pt : Addr} (TB : LamX.TabB base mg (He.codeOf K d_law.at_) Pt) {fd : FuncData} (F : FnP K d_law (He.fAd K d_law.at_) fd) : FnOk P w K mg base CX0 24 (He.ga K "law") fd ["_law_script"] (sp_law K Pt) := by
  have o_GroupInit := o_GroupInit (P := P) (w := w) (K := K) (mg := mg) (base := base) T
  have o_joined_group : OkF P w K mg base (L2.CX P w) 11 "joined_group" ["group", "other"] (sp_joined_group K) := o_joined_group T
  have o_law_commutant_right : OkF P w K mg base CX0 12 "_law_commutant_right" ["_law_made", "_law_size", "_law_rows"] (sp_law_commutant_right K) := o_law_commutant_right T
  have o_law_draw : OkF P w K mg base CX0 1 "_law_draw" ["_law_pen_here", "_law_many"] sp_law_draw := o_law_draw T
  have o_law_group : OkF P w K mg base CX0 4 "_law_group" ["_law_strings_here"] sp_law_group := o_law_group T
  have o_law_joined_due : OkF P w K mg base CX0 3 "_law_joined_due" ["_law_rows", "_law_size"] sp_law_joined_due := o_law_joined_due T
  have o_law_of_text : OkF P w K mg base CX0 1 "_law_of_text" ["_law_text_here"] (sp_law_of_text K) := o_law_of_text T
  have o_law_pauli : OkF P w K mg base CX0 6 "_law_pauli" ["_law_string", "_law_size"] (sp_law_pauli K) := o_law_pauli T
  have o_law_pen : OkF P w K mg base CX0 1 "_law_pen" ["_law_script"] (sp_law_pen K) := o_law_pen T
  have o_law_reduced : OkF P w K mg base CX0 4 "_law_reduced" ["_law_strings_here", "_law_size"] sp_law_reduced := o_law_reduced T
  have o_law_strings : OkF P w K mg base CX0 5 "_law_strings" ["_law_pen_here", "_law_size", "_law_many"] sp_law_strings := o_law_strings T
  have o_pauli_text : OkF P w K mg base CX0 1 "pauli_text" ["string"] (sp_pauli_text K) := o_pauli_text T
  have oGE := o_GroupEq (P := P) (w := w) (K := K) (mg := mg) (base := base) T
  obtain ⟨fdw, Fw⟩ := T.defs d_law_why (List.mem_of_getElem? (i := 50) rfl)
  have hbw := Fw.bindsN (ps := ["_law_call"]) fun _ _ _ _ _ _ us hl => match us, hl with | [_], _ => rfl
  have kpw := Fw.kp
  obtain ⟨ocw, odw, dVw, kVw, docw, pmw, anw, cdw, ctw, oslw, rfl, lkw, hcw, _, _⟩ := Fw.ex
  have ew : He.fAd K d_law_why.at_ = He.ga K "_law_why" := rfl
  rw [ew] at lkw kpw
  refine okfC d_law "law" F rfl sc_law (fun vs H Q E h => ?_) (fun f A outer s H vs Q E hr h => ?_)
  · (obtain ⟨_, _, rfl, _⟩ := h; rfl)
  obtain ⟨a, cs, rfl, hcs, hcl, htb, k⟩ := h
  refine ⟨_, (pss_cons (ps_set (i := 1) sc_law.nd rfl (Or.inr rfl) (pe_cl o_law_pen (hr.mono (by decide)) (by rfl) pass0 (pa_cons (pv 0) pa_nil)))
      (pss_cons (ps_for PassesOwn.never rfl (pi_range1 (by rfl) T.m_range (pa_cons pe_int pa_nil)) (pg_name (i := 2) sc_law.nd rfl (Or.inl rfl))
        (pss_cons (ps_set (i := 3) sc_law.nd rfl (Or.inr rfl) (pe_ifExp (pt_cmpR op_eq (pe_cl o_law_draw (hr.mono (by decide)) (by rfl) pass0 (pa_cons (pv 1) (pa_cons pe_int pa_nil))) pe_int (nomark _)) pe_int (pe_op op_add pe_int (pe_cl o_law_draw (hr.mono (by decide)) (by rfl) pass0 (pa_cons (pv 1) (pa_cons pe_int pa_nil))))))
        (pss_cons (ps_set (i := 4) sc_law.nd rfl (Or.inl rfl) (pe_cl o_law_strings (hr.mono (by decide)) (by rfl) pass0 (pa_cons (pv 1) (pa_cons (pv 3) (pa_cons (pe_cl o_law_draw (hr.mono (by decide)) (by rfl) pass0 (pa_cons (pv 1) (pa_cons (pe_op op_add (pe_callB (cr_minK K rfl) (by rfl) T.m_min (by decide +kernel) (pa_cons (pe_lst (pa_cons (pv 3) (pa_cons pe_int pa_nil))) pa_nil)) pe_int) pa_nil))) pa_nil)))))
        (pss_cons (ps_set (i := 5) sc_law.nd rfl (Or.inr rfl) (pe_mkO T.mkG o_GroupInit (hr.mono (by decide)) (by rfl) (T.glo "Group" (List.mem_of_getElem? (i := 55) rfl)) pass0X (pa_cons (pv 3) (pa_cons (pe_lc (own := [("_law_row", 13)]) rfl sc_law.nd (pi_listK K (pv 4)) (blkOk_by (own := [("_law_row", 13)]) (N := N_law) (sc := defScope s_law) (by decide +kernel)) (fun _ _ _ _ _ => (pg_name (i := 13) sc_law.nd rfl (Or.inl rfl))) (fun _ _ _ _ _ => pts_nil) (fun _ _ _ _ _ => (pe_cl o_law_pauli (hr.mono (by decide)) (by rfl) pass0 (pa_cons (pv 13) (pa_cons (pv 3) pa_nil))))) pa_nil))))
        (pss_cons (ps_if (pt_not (pt_val (pe_cl o_law_commutant_right (hr.mono (by decide)) (by rfl) pass0 (pa_cons (pv 5) (pa_cons (pv 3) (pa_cons (pv 4) pa_nil)))))) (pss_one (ps_ret pe_bl)) pss_nil)
        (pss_cons (ps_set (i := 6) sc_law.nd rfl (Or.inl rfl) (pe_cl o_law_strings (hr.mono (by decide)) (by rfl) pass0 (pa_cons (pv 1) (pa_cons (pv 3) (pa_cons (pe_cl o_law_draw (hr.mono (by decide)) (by rfl) pass0 (pa_cons (pv 1) (pa_cons (pe_op op_add (pe_callB (cr_minK K rfl) (by rfl) T.m_min (by decide +kernel) (pa_cons (pe_lst (pa_cons (pv 3) (pa_cons pe_int pa_nil))) pa_nil)) pe_int) pa_nil))) pa_nil)))))
        (Evl.pss_cut (ps_if (pt_cmpR op_eq (pe_cl o_law_draw (hr.mono (by decide)) (by rfl) pass0 (pa_cons (pv 1) (pa_cons pe_int pa_nil))) pe_int (nomark _)) (pss_cons (ps_set (i := 7) sc_law.nd rfl (Or.inl rfl) (pe_slice (sl_listK K) (pv 4) (po_some (pe_cl o_law_draw (hr.mono (by decide)) (by rfl) pass0 (pa_cons (pv 1) (pa_cons (pe_op op_add (pe_callB (call_lenK K) (by rfl) T.m_len PySem.boot_len (pa_cons (pv 4) pa_nil)) pe_int) pa_nil)))) po_none))
          (pss_cons (ps_setLc (i := 6) (own := [("_law_row", 13)]) rfl sc_law.nd rfl rfl (sw_true rfl rfl rfl (by decide +kernel)) (pi_listK K (pv 7)) (blkOk_by (own := [("_law_row", 13)]) (N := N_law) (sc := defScope s_law) (by decide +kernel)) (fun _ _ _ _ _ => (pg_name (i := 13) sc_law.nd rfl (Or.inl rfl))) (fun _ _ _ _ _ => pts_nil) (fun _ _ _ _ _ => (pe_tup (pa_cons (pe_ix (ix_tupK K) (pv 13) pe_int (fun _ _ => rfl)) (pa_cons (pe_ix (ix_tupK K) (pv 13) pe_int (fun _ _ => rfl)) (pa_cons (pe_op op_xor (pe_ix (ix_tupK K) (pv 13) pe_int (fun _ _ => rfl)) (pe_callTy call_intK (by rfl) T.m_int (by decide +kernel) (pa_cons (pe_cmpR op_eq (pe_cl o_law_draw (hr.mono (by decide)) (by rfl) pass0 (pa_cons (pv 1) (pa_cons pe_int pa_nil))) pe_int (nomark _)) pa_nil))) pa_nil))))))
          (pss_cons (ps_set (i := 6) sc_law.nd rfl (Or.inl rfl) (pe_ifExp (pt_cmpR op_isN (pe_cl o_law_group (hr.mono (by decide)) (by rfl) pass0 (pa_cons (pv 6) pa_nil)) pe_non (nomark _)) (pe_cl o_law_reduced (hr.mono (by decide)) (by rfl) pass0 (pa_cons (pv 6) (pa_cons (pv 3) pa_nil))) (pv 6)))
          (pss_one (ps_setLc (i := 6) (own := [("_law_row", 13)]) rfl sc_law.nd rfl rfl (sw_true rfl rfl rfl (by decide +kernel)) (pi_listK K (pv 6)) (blkOk_by (own := [("_law_row", 13)]) (N := N_law) (sc := defScope s_law) (by decide +kernel)) (fun _ _ _ _ _ => (pg_name (i := 13) sc_law.nd rfl (Or.inl rfl))) (fun _ _ _ _ _ => (pts_one (pt_cmpR (op_neDK K hr.units) (pe_tup (pa_cons (pe_ix (ix_tupK K) (pv 13) pe_int (fun _ _ => rfl)) (pa_cons (pe_ix (ix_tupK K) (pv 13) pe_int (fun _ _ => rfl)) pa_nil))) (pe_tup (pa_cons pe_int (pa_cons pe_int pa_nil))) (nomark _)))) (fun _ _ _ _ _ => (pv 13))))))) pss_nil)
        (pss_cons (ps_if (pt_cmpR op_isN (pe_cl o_law_group (hr.mono (by decide)) (by rfl) pass0 (pa_cons (pv 6) pa_nil)) pe_non (nomark _)) (pss_one ps_continue) pss_nil)
        (pss_cons (ps_set (i := 8) sc_law.nd rfl (Or.inr rfl) (pe_mkO T.mkG o_GroupInit (hr.mono (by decide)) (by rfl) (T.glo "Group" (List.mem_of_getElem? (i := 55) rfl)) pass0X (pa_cons (pv 3) (pa_cons (pe_lc (own := [("_law_row", 13)]) rfl sc_law.nd (pi_listK K (pv 6)) (blkOk_by (own := [("_law_row", 13)]) (N := N_law) (sc := defScope s_law) (by decide +kernel)) (fun _ _ _ _ _ => (pg_name (i := 13) sc_law.nd rfl (Or.inl rfl))) (fun _ _ _ _ _ => pts_nil) (fun _ _ _ _ _ => (pe_cl o_law_pauli (hr.mono (by decide)) (by rfl) pass0 (pa_cons (pv 13) (pa_cons (pv 3) pa_nil))))) pa_nil))))
        (pss_cons (ps_setLc (i := 9) (own := [("_law_row", 13)]) rfl sc_law.nd rfl rfl (sw_true rfl rfl rfl (by decide +kernel)) (pi_tupK K (pe_op (op_catAK K) (pe_fldK K (pv 5)) (pe_fldK K (pv 8)))) (blkOk_by (own := [("_law_row", 13)]) (N := N_law) (sc := defScope s_law) (by decide +kernel)) (fun _ _ _ _ _ => (pg_name (i := 13) sc_law.nd rfl (Or.inl rfl))) (fun _ _ _ _ _ => pts_nil) (fun _ _ _ _ _ => (pe_cl o_law_of_text (hr.mono (by decide)) (by rfl) pass0 (pa_cons (pe_cl o_pauli_text (hr.mono (by decide)) (by rfl) pass0 (pa_cons (pv 13) pa_nil)) pa_nil))))
        (pss_cons (ps_set (i := 10) sc_law.nd rfl (Or.inl rfl) (pe_cl o_law_joined_due (hr.mono (by decide)) (by rfl) pass0 (pa_cons (pv 9) (pa_cons (pv 3) pa_nil))))
        (pss_cons (ps_if (pt_cmpR op_notN (pv 10) pe_non (nomark _)) (pss_cons (ps_if (pt_cmpR (op_neDK K hr.units) (LamX.pe_lamcall (T := [(Pt, _)]) (TT := TTwhy K) (k := 12) (by rfl) (T.glo "_law_why" (List.mem_of_getElem? (i := 41) rfl)) kpw lkw hcw hbw sc_law_why rfl (by first | exact .inl rfl | exact .inr (.inl rfl)) (law_why_gives T hxf) TB rfl (List.mem_singleton.mpr rfl) (fun p hp _ => congrArg Prod.snd (List.mem_singleton.mp hp)) (hr.mono (by decide)) (show LamX.LamS (defScope s_law) _ from LamX.lamS_by (by decide +kernel)) (by rfl) (fun _ _ _ _ _ => rfl) (fun A outer s H E f c' hr => (pe_cl o_joined_group (hr.mono (by decide)) (by rfl) (passes_call (takes_of rfl rfl rfl rfl) (fun _ _ _ _ h => h)) (pa_cons (pv 5) (pa_cons (pv 8) pa_nil))))) (pv 10) (nomark _)) (pss_one (ps_ret pe_bl)) pss_nil)
          (pss_one ps_continue)) pss_nil)
        (pss_cons (ps_asg (pe_tup (pa_cons (pe_cl o_joined_group (hr.mono (by decide)) (by rfl) pass0X (pa_cons (pv 5) (pa_cons (pv 8) pa_nil))) (pa_cons (pe_cl o_law_group (hr.mono (by decide)) (by rfl) pass0 (pa_cons (pv 9) pa_nil)) pa_nil))) (pg_tup rfl (pgs_cons (pg_name (i := 11) sc_law.nd rfl (Or.inr rfl)) (pgs_cons (pg_name (i := 12) sc_law.nd rfl (Or.inl rfl)) pgs_nil))))
        (pss_cons (ps_if (PW.pt (pw_or (pt_not (pt_val (pe_callB (call_isiU K) (by rfl) T.m_isinstance (by decide +kernel) (pa_cons (pv 11) (pa_cons (pe_glob (v := .ref (He.ga K "Group")) (by rfl) (T.glo "Group" (List.mem_of_getElem? (i := 55) rfl)) rfl) pa_nil))))) (pw_or1 (pt_cmpR op_ne (pe_op op_shl pe_int (pe_fldK K (pv 11))) (pe_callB call_len_dT (by rfl) T.m_len PySem.boot_len (pa_cons (pv 12) pa_nil)) (nomark _))))) (pss_one (ps_ret pe_bl)) pss_nil)
        (pss_cons (ps_if (pt_cmpR (op_neT hr.units) (pe_cl o_law_group (hr.mono (by decide)) (by rfl) pass0 (pa_cons (pe_lc (own := [("_law_row", 13)]) rfl sc_law.nd (pi_tupK K (pe_fldK K (pv 11))) (blkOk_by (own := [("_law_row", 13)]) (N := N_law) (sc := defScope s_law) (by decide +kernel)) (fun _ _ _ _ _ => (pg_name (i := 13) sc_law.nd rfl (Or.inl rfl))) (fun _ _ _ _ _ => pts_nil) (fun _ _ _ _ _ => (pe_cl o_law_of_text (hr.mono (by decide)) (by rfl) pass0 (pa_cons (pe_cl o_pauli_text (hr.mono (by decide)) (by rfl) pass0 (pa_cons (pv 13) pa_nil)) pa_nil)))) pa_nil)) (pv 12) (nomark _)) (pss_one (ps_ret pe_bl)) pss_nil)
        (pss_cons (ps_if (pt_not (pt_cmpR (op_grpEq rfl T oGE (hr.mono (by decide))) (pv 11) (pe_mkO T.mkG o_GroupInit (hr.mono (by decide)) (by rfl) (T.glo "Group" (List.mem_of_getElem? (i := 55) rfl)) pass0X (pa_cons (pv 3) (pa_cons (pe_op (op_catAK K) (pe_fldK K (pv 5)) (pe_fldK K (pv 8))) pa_nil))) (nomark _))) (pss_one (ps_ret pe_bl)) pss_nil)
        (pss_one (ps_if (pt_cmpR (op_neDK K hr.units) (LamX.pe_lamcall (T := [(Pt, _)]) (TT := TTwhy K) (k := 12) (by rfl) (T.glo "_law_why" (List.mem_of_getElem? (i := 41) rfl)) kpw lkw hcw hbw sc_law_why rfl (by first | exact .inl rfl | exact .inr (.inl rfl)) (law_why_gives T hxf) TB rfl (List.mem_singleton.mpr rfl) (fun p hp _ => congrArg Prod.snd (List.mem_singleton.mp hp)) (hr.mono (by decide)) (show LamX.LamS (defScope s_law) _ from LamX.lamS_by (by decide +kernel)) (by rfl) (fun _ _ _ _ _ => rfl) (fun A outer s H E f c' hr => (pe_cl o_joined_group (hr.mono (by decide)) (by rfl) (passes_call (takes_of rfl rfl rfl rfl) (fun _ _ _ _ h => h)) (pa_cons (pv 11) (pa_cons (pe_mkO T.mkG o_GroupInit (hr.mono (by decide)) (by rfl) (T.glo "Group" (List.mem_of_getElem? (i := 55) rfl)) (passes_call (takes_of rfl rfl rfl rfl) (fun _ _ _ _ h => h)) (pa_cons (pe_op op_add (pv 3) pe_int) (pa_cons (pe_lst pa_nil) pa_nil))) pa_nil))))) (pe_tup (pa_cons pe_str (pa_cons pe_str pa_nil))) (nomark _)) (pss_one (ps_ret pe_bl)) pss_nil))))))))))))))))))
      (pss_one (ps_ret pe_bl)))), ?_⟩
  generalize (cxOf CX0 P w K mg base N_law d_law.qual d_law.scope f (.ref (He.codeOf K d_law.at_)) A outer s H E).nox.env.qual ++ PySem.Str.ofString "<lambda>" = qn
  refine q_asgP (P := fun v H' => ∃ p c, v = .ref p ∧ PenAt H' p c 0) (fun H1 e1 Q kk => ?_) fun v H1 e1 ⟨p, c, ev, pn⟩ => ?_
  · unfold tCall
    refine (ea_cons (ev_var rfl) ea_nil : EvA (tCons (tVar 0) tNil) _ H1 [.ref a]) H1 (Ex.refl _) _ fun H2 e2 => ?_
    exact ⟨a, cs, rfl, ex_l (e1.trans e2) hcs, hcl, fun p c H' e' np nc hp => kk _ H' (e2.trans e') ⟨p, c, rfl, hp⟩⟩
  subst ev
  have tb1 : LamX.Tabs [(Pt, qn)] H1 := fun q hq => by
    rw [List.mem_singleton.mp hq]
    exact LamX.TabS.nil (e1 _ _ htb)
  refine q_forRD (p := p) (B := 3) (C := fun m H' => m = 3 ∧ Ex H1 H') (fun H2 e2 Q kk => (ev_n (n := 3) rfl : Ev (tC (.int 3)) _ H2 (nv 3)) H2 (Ex.refl _) _ fun H3 e3 => kk _ H3 (.of e3) ⟨3, rfl, by omega, rfl, e2.trans e3⟩) (by decide) fun m H2 b2 hm ⟨em, e2⟩ => ?_
  subst em
  refine ⟨fun i σ' H' => ∃ y2 y3 y4 y5 y6 y7 y8 y9 y10 y11 y12 y13, σ' = [some (.ref a), some (.ref p), y2, y3, y4, y5, y6, y7, y8, y9, y10, y11, y12, y13] ∧ PenAt H' p c (i * 1000000) ∧ LamX.Tabs [(Pt, qn)] H',
    ⟨_, _, _, _, _, _, _, _, _, _, _, _, rfl, (pn.ex e2).mono (by omega), tb1.ext e2⟩, ?_, ?_⟩
  · rintro i σ' H3 hi ⟨y2, y3, y4, y5, y6, y7, y8, y9, y10, y11, y12, y13, rfl, pn3, tb3⟩
    refine q_asgD (evd_size (fun _ => ev_var rfl) pn3 (by omega)) fun v H4 b4 ⟨pn4, n, ev, hn1, hn⟩ => ?_
    subst ev
    have hn23 : n ≤ 23 := by omega
    have hn64 : n ≤ 64 := by omega
    have tb4 := tabs_exb pn3 b4 tb3
    clear tb3 pn3 b4
    refine q_asgD (evd_strings (n := n) (fun _ => ev_var rfl) (fun _ => ev_var rfl) pn4 hn1 hn64 (by omega)) fun v H5 b5 ⟨rl, L, many, ev, hrl, hS, hm, pn5⟩ => ?_
    subst ev
    have gL := hS.good
    have mL := hS.more hm
    have hLl := mL.len
    have tb5 := tabs_exb pn4 b5 tb4
    refine q_asgP (evp_group (n := n) (fun _ => ev_var rfl) (fun _ => ev_var rfl) hrl (fun _ => rfl) (fun _ => rfl) (fun _ => rfl) hn1 hn64 (by omega) gL) fun vm H6 e6 ⟨red, hg, hR⟩ => ?_
    have K1 := hR.ok gL.C gL.S gL.R
    refine q_when (b := false) (et_is (et_not (et_B (ev_callv (z := .bl true) (ea_cons (ev_var rfl) (ea_cons (ev_var rfl) (ea_cons (ev_var rfl) ea_nil))) fun H7 e7 Q kk => ?_))) rfl) (fun hc => by cases hc) fun _ H7 e7 => ?_
    · obtain ⟨xs, hx1, hx2⟩ := hrl.ex (e6.trans e7)
      have := K1.len
      exact ⟨vm, rl, xs, n, red, L, _, rfl, hg.ex e7, hx1, hx2, hn1, hn23, K1.good.R, by omega, gL.R, by omega, K1.lenn, K1.com, com_rw red, com_redl red, fun _ => com_nodup red, com_crs K1.good.R K1.ge.2, fun _ => com_all K1.good.R K1.ge.2 K1.ge.1, kk⟩
    have pn7 := pn5.ex (e6.trans e7)
    have hrl7 := hrl.ex (e6.trans e7)
    have hg7 := hg.ex e7
    have tb7 := tb5.ext (e6.trans e7)
    clear tb4 tb5 pn4 pn5 hrl hg e6 e7 b5
    refine q_asgD (evd_strings (n := n) (fun _ => ev_var rfl) (fun _ => ev_var rfl) pn7 hn1 hn64 (by omega)) fun v H8 b8 ⟨ml, M, many', ev, hml, hS', hm', pn8⟩ => ?_
    subst ev
    have mM := hS'.more hm'
    have hrl8 := hrl7.pen pn7 b8
    have hg8 := hg7.kx (pn7.kx b8)
    have tb8 := tabs_exb pn7 b8 tb7
    clear hrl7 hg7 tb7 pn7 b8
    refine q_cut (M := fun σ' H' => ∃ ml M y7, σ' = [some (.ref a), some (.ref p), some (nv i), some (nv n), some (.ref rl), some vm, some (.ref ml), y7, y8, y9, y10, y11, y12, y13] ∧ ExB p H8 H' ∧ IsRl H' ml M ∧ More n M ∧ PenAt H' p c (i * 1000000 + 500000)) ?_ ?_
    · unfold tIfS
      refine td_eq0 (p := p) (M := fun H' => PenAt H' p c (i * 1000000 + 2 + 200001 + 200001 + 1)) (fun _ _ e q => q.ex e) ((evd_draw (m := 2) (ev_var rfl) (ev_n (n := 2) rfl) pn8 (by omega) (by omega) (by omega)).imp fun v Ha ba ⟨pna, r, hr, ev⟩ => ⟨pna, r, ev⟩) fun b H9 b9 pn9 => ?_
      cases b
      · rw [if_neg (by decide)]
        exact ⟨ml, M, _, rfl, b9, hml.pen pn8 b9, mM, pn9.mono (by omega)⟩
      · rw [if_pos rfl]
        refine q_asgD (evd_slFrom (L := L) (fun _ => ev_var rfl) (fun _ => ev_var rfl) (hrl8.pen pn8 b9) (by omega) pn9 (by omega)) fun v Ha ba ⟨sl, m, ev, hsl, pna⟩ => ?_
        subst ev
        have mD := mL.sub (M := L.drop m) (fun r => drop_mem r) (by rw [List.length_drop]; omega)
        have hDl := mD.len
        refine q_asgD (evd_flip (L := L.drop m) (fun _ => ev_var rfl) hsl (fun _ => rfl) (fun _ => rfl) (fun _ => rfl) (by omega) mD.S pna (by omega)) fun v Hb bb ⟨fl, F, ev, hfl, hrel, pnb⟩ => ?_
        subst ev
        refine q_asgP (evp_ifRed (n := n) (fun _ => ev_var rfl) (fun _ => ev_var rfl) hfl hn23 (mD.flip hrel)) fun v Hc ec ⟨al, B, ev, hal, mB⟩ => ?_
        subst ev
        refine s_asgP (evp_out (n := n) (fun _ => ev_var rfl) hal (fun _ => rfl) (fun _ => rfl) mB) fun v Hd ed ⟨bl, B', ev, hbl, mB'⟩ => ?_
        subst ev
        exact ⟨bl, B', _, rfl, ((b9.trans ba).trans bb).trans (.of (ec.trans ed)), hbl, mB', (pnb.ex (ec.trans ed)).mono (by omega)⟩
    · rintro σ' H9 ⟨ml, M, y7, rfl, b9, hml, mM, pn9⟩
      have hg9 := hg8.kx (pn8.kx b9)
      have tb9 := tabs_exb pn8 b9 tb8
      clear hrl8 hg8 tb8 pn8 b9
      obtain ⟨o, ho, hoG, _⟩ := mM.grp
      have hMl := mM.len
      refine q_when (b := decide (o = none)) (et_none (evp_lgroup (ev_var rfl) hml hn23 mM.R ho) fun v H2 e2 hv => by rcases hv with ⟨q, G, rfl, rfl, _⟩ | ⟨rfl, rfl⟩ <;> rfl) (fun hc Ha ea => ?_) fun hc Ha ea => ?_
      · exact ⟨_, _, _, _, _, _, _, _, _, _, _, _, rfl, (pn9.ex ea).mono (by omega), tb9.ext ea⟩
      have ho2 : ∃ G, o = some G := by
        cases o with
        | none => cases hc
        | some G => exact ⟨G, rfl⟩
      obtain ⟨G0, eo⟩ := ho2
      have gM : Good n M := ⟨mM.C, mM.S, mM.R, (hoG G0 eo).good⟩
      refine q_asgP (evp_group (n := n) (fun _ => ev_var rfl) (fun _ => ev_var rfl) (hml.ex ea) (fun _ => rfl) (fun _ => rfl) (fun _ => rfl) hn1 hn64 (by omega) gM) fun vo Hb eb ⟨red2, hg2, hR2⟩ => ?_
      have K2 := hR2.ok gM.C gM.S gM.R
      have l1 := K1.len
      have l2 := K2.len
      have hgb := hg9.ex (ea.trans eb)
      have pnb := pn9.ex (ea.trans eb)
      have tbb := tb9.ext (ea.trans eb)
      clear hg9 pn9 tb9 ea eb
      have Rb : ∀ r ∈ red ++ red2, Rw n r := fun r hr => (List.mem_append.mp hr).elim (K1.good.R r) (K2.good.R r)
      have Sb : Sgn (red ++ red2) := fun r hr => (Rb r hr).s
      have hbl : (red ++ red2).length ≤ 14 := by rw [List.length_append]; omega
      have evR : ∀ {σ : L2.St} {H' : Hp}, Ex Hb H' → σ[5]? = some (some vm) → σ[8]? = some (some vo) → EvP (tOp (rCatA K) (tFld K (tVar 5) (PySem.Str.ofString "rows")) (tFld K (tVar 8) (PySem.Str.ofString "rows"))) σ H' (fun v H' => ∃ q ys, v = .ref q ∧ H' q = some (.tup ys) ∧ PRs K n H' ys (red ++ red2)) := fun {σ H'} e h5 h8 => by
        obtain ⟨p1, y1, a1, b1, c1⟩ := ev_grpRows T (hgb.ex e)
        obtain ⟨p2, y2, a2, b2, c2⟩ := ev_grpRows T (hg2.ex e)
        refine (evp_catA (c1 _ _ _ (Ex.refl _) (ev_var h5)) (c2 _ _ _ (Ex.refl _) (ev_var h8)) a1 a2 (by rw [paired_len b1, paired_len b2]; omega)).imp fun v H2 e2 ⟨q, ev, hq⟩ => ⟨q, _, ev, hq, PRs.ex e2 (paired_app b1 b2)⟩
      refine q_asgP (evp_texts (rows := red ++ red2) (n := n) (evR (Ex.refl _) rfl rfl) (fun _ => rfl) (fun _ => rfl) hn1 hn64 (by omega) Rb) fun v Hc ec ⟨bl, ev, hbl2⟩ => ?_
      subst ev
      have hgc := hgb.ex ec
      have hg2c := hg2.ex ec
      have pnc := pnb.ex ec
      have tbc := tbb.ext ec
      clear pnb tbb
      refine q_asgP (P := fun v H' => (∃ i j t, FirstAnti (red ++ red2) i j ∧ v = .ref t ∧ H' t = some (.tup [.str "anticommute", nv i, nv j])) ∨ (Commut (red ++ red2) ∧ ∃ ks t t2, DueMinus (red ++ red2) ks ∧ v = .ref t ∧ H' t = some (.tup [.str "minus", .ref t2]) ∧ H' t2 = some (.tup (ks.map nv))) ∨ (Commut (red ++ red2) ∧ ∃ kept, DueSt (red ++ red2) (red ++ red2).length kept ∧ v = .non))
        (evp_call (ea_cons (ev_var rfl) (ea_cons (ev_var rfl) ea_nil)) fun H1 e Q kk => ⟨bl, n, red ++ red2, rfl, hbl2.ex e, by omega, hn64, Rb, fun i j fa t H' e' ht => kk _ H' e' (.inl ⟨i, j, t, fa, rfl, ht⟩), fun hc ks hd t t2 H' e' ht ht2 => kk _ H' e' (.inr (.inl ⟨hc, ks, t, t2, hd, rfl, ht, ht2⟩)), fun hc kept hd H' e' => kk _ H' e' (.inr (.inr ⟨hc, kept, hd, rfl⟩))⟩) fun vd Hd ed hdue => ?_
      have hgd := hgc.ex ed
      have hg2d := hg2c.ex ed
      have hbd := hbl2.ex ed
      have pnd := pnc.ex ed
      have tbd := tbc.ext ed
      have ebd := ec.trans ed
      clear hgc hg2c pnc tbc hbl2 hgb
      have l12 : red.length + red2.length ≤ 1000 := by omega
      rcases hdue with ⟨i', j', t', fa, rfl, ht'⟩ | ⟨hcb, ks, t', t2', hdm, rfl, ht', ht2'⟩ | ⟨hcb, kept, hds, rfl⟩
      · -- two strings anticommute
        refine q_when (b := true) (et_is (et_some (ev_var rfl)) rfl) (fun _ He ee => ?_) (fun hc => by cases hc)
        refine s_why (d := .tuple [.str "anticommute", .int (i' : Int), .int (j' : Int)]) (tbd.ext ee) (shaped_w2 _ _ _ (by decide +kernel)) (fun H2 n2 Q2 Qn kq => ?_) (fun H2 n2 => (Ev.p (ev_var rfl)).imp fun v H' e' ev => by subst ev; exact fun H3 e3 => dp_word2 ((e'.trans e3) _ _ (n2 _ _ (ee _ _ ht') (fun _ h => nomatch h)))) fun H' n' t' => ?_
        · have x2 : Kx Hd H2 := (Kx.of ee).trans (kx_extn n2)
          exact why_anti (ev_var rfl) (ev_var rfl) (hgd.kx x2) (hg2d.kx x2) hn1 hn64 K1.good.R K2.good.R l12 fa kq
        · exact ⟨_, _, _, _, _, _, _, _, _, _, _, _, rfl, ((pnd.ex ee).extn n').mono (by omega), t'⟩
      · -- minus one is made
        refine q_when (b := true) (et_is (et_some (ev_var rfl)) rfl) (fun _ He ee => ?_) (fun hc => by cases hc)
        refine s_why (d := .tuple [.str "minus", .tuple (ks.map fun n : Nat => PyData.int (n : Int))]) (tbd.ext ee) (shaped_wT _ _ (by decide +kernel)) (fun H2 n2 Q2 Qn kq => ?_) (fun H2 n2 => (Ev.p (ev_var rfl)).imp fun v H' e' ev => by subst ev; exact fun H3 e3 => dp_wordT ((e'.trans e3) _ _ (n2 _ _ (ee _ _ ht') (fun _ h => nomatch h))) ((e'.trans e3) _ _ (n2 _ _ (ee _ _ ht2') (fun _ h => nomatch h)))) fun H' n' t' => ?_
        · have x2 : Kx Hd H2 := (Kx.of ee).trans (kx_extn n2)
          exact why_minus (ev_var rfl) (ev_var rfl) (hgd.kx x2) (hg2d.kx x2) hn1 hn64 K1.good.R K2.good.R l12 hcb hdm kq
        · exact ⟨_, _, _, _, _, _, _, _, _, _, _, _, rfl, ((pnd.ex ee).extn n').mono (by omega), t'⟩
      -- the joined group
      have Cb := hcb.com
      have hnf : ∀ ks, ¬ IndFail (red ++ red2) n ks := fun ks f => (f.due Cb Sb Rb).not hds
      refine q_when (b := false) (et_is (et_some (ev_var rfl)) rfl) (fun hc => by cases hc) fun _ He ee => ?_
      have hge := hgd.ex ee
      have hg2e := hg2d.ex ee
      have hbe := hbd.ex ee
      have pne := pnd.ex ee
      have tbe := tbd.ext ee
      have ebe := ebd.trans ee
      clear hgd hg2d hbd pnd tbd ebd
      obtain ⟨og, hog, hoG2, hoN⟩ := grp_all (n := n) (by omega : (red ++ red2).length ≤ 16) Cb Sb Rb
      refine (evp_joined (n := n) (r1 := red) (r2 := red2) (ta := tVar 5) (tb := tVar 8) (ev_var rfl) (ev_var rfl) hge hg2e hn1 hn64 K1.good.R K2.good.R l12 hcb hnf) He (Ex.refl _) _ fun vt Hf ef ⟨red3, hg3, hR3⟩ => ?_
      have K3 := hR3.ok Cb Sb Rb
      obtain ⟨G, eoG⟩ := hoN K3.L.g
      have gf := hoG2 G eoG
      refine (evp_lgroup (n := n) (ta := tVar 9) (ev_var rfl) (hbe.ex ef) hn23 Rb hog) Hf (Ex.refl _) _ fun vw Hg eg hw => ?_
      have hw2 : ∃ qG, vw = .ref qG ∧ Hg qG = some (.dT (G.map kvR)) := by
        rcases hw with ⟨q, G', e1, e2, h⟩ | ⟨e1, _⟩
        · rw [eoG] at e1
          cases e1
          exact ⟨q, e2, h⟩
        · rw [eoG] at e1; cases e1
      obtain ⟨qG, rfl, hqG⟩ := hw2
      refine ⟨sz_of (by show 2 ≤ 100000; decide), fun qt nqt => ?_⟩
      have eqt : Ex Hg (upd Hg qt (.tup [vt, .ref qG])) := Ex.new nqt
      refine ⟨qt, _, rfl, st_of upd_same, rfl, _, _, rfl, _, _, rfl, rfl, ?_⟩
      have hg3h := hg3.ex (eg.trans eqt)
      have hqGh := eqt _ _ hqG
      have xh := (ef.trans eg).trans eqt
      have pnh := pne.ex xh
      have tbh := tbe.ext xh
      have hgh := hge.ex xh
      have hg2h := hg2e.ex xh
      have ebh := ebe.trans xh
      clear hge hg2e hbe pne tbe ebe hg3 hqG
      generalize upd Hg qt (.tup [vt, .ref qG]) = Hh at *
      have K3C := K3.good
      have hrk : G.length = 2 ^ red3.length := by
        obtain ⟨o3, ho3, hoG3, hoN3⟩ := grp_all (n := n) (L := red3) (by have := K3.len; omega) K3.good.C K3.good.S K3.good.R
        obtain ⟨G3, e3⟩ := hoN3 K3.good.g
        have g3 := hoG3 G3 e3
        have := (gf.same Cb Sb K3.ge g3).2
        rw [← this, g3.len K3.ind]
      have hl3 := K3.len
      obtain ⟨at3, dx3, q3, ys3, evt, ha3, _, _⟩ := id hg3h
      -- an instance of Group, of this rank
      refine q_when (b := false) (et_is (et_or (et_not (et_B (ev_isiC T.ef.insG (ev_var (by rw [evt]; rfl)) ev_c ha3))) fun _ => et_test (ev_op (ev_op (ev_n (n := 1) rfl) (ev_grpRank T (ev_var rfl) hg3h) (rv_shlN (by omega) (by decide))) (ev_cb (z := nv (G.map kvR).length) (ea_cons (ev_var rfl) ea_nil) fun H1 e Q k => ⟨qG, _, rfl, e _ _ hqGh, k H1 (Ex.refl _)⟩) rv_neN)) ?_) (fun hc => by cases hc) fun _ Hi ei => ?_
      · rw [List.length_map, hrk, Nat.shiftLeft_eq, Nat.one_mul]; simp
      -- its rows make the same group
      obtain ⟨o3, ho3, hoG3, hoN3⟩ := grp_all (n := n) (L := red3) (by omega) K3.good.C K3.good.S K3.good.R
      obtain ⟨G3, e3⟩ := hoN3 K3.good.g
      have gf3 := hoG3 G3 e3
      refine q_when (b := false) (et_test (fun H1 e1 Q1 k1 => ?_)) (fun hc => by cases hc) fun _ Hj ej => ?_
      · unfold tOp tCall
        obtain ⟨gp, gys, ga, gb, gc⟩ := ev_grpRows T (hg3h.ex (ei.trans e1))
        refine (eap_cons (Pr := fun vs _ => vs = []) (P' := fun vs H' => ∃ a, vs = [.ref a] ∧ IsRl H' a red3) (evp_texts (rows := red3) (n := n) (te := tFld K (tVar 11) (PySem.Str.ofString "rows")) (H := H1) ((Ev.p (gc _ _ _ (Ex.refl _) (ev_var rfl))).imp fun v H' e' ev => ⟨gp, gys, ev, e' _ _ ga, gb.ex e'⟩) (fun _ => rfl) (fun _ => rfl) hn1 hn64 (by omega) K3.good.R) eap_nil (fun v vs H3 H4 e3 ⟨a, ev, h⟩ e4 evs => by subst ev evs; exact ⟨a, rfl, h.ex e4⟩)) H1 (Ex.refl _) _ fun vs H2 e2 ⟨ta, evs, hta⟩ => ?_
        subst evs
        obtain ⟨tx, h1, h2⟩ := hta
        have hne := gf.ne Cb Sb K3.ge gf3
        refine ⟨ta, tx, n, red3, o3, rfl, h1, h2, hn23, K3.good.R, ho3, fun q H' G' e' eo _ _ _ hq => ?_, fun H' e' eo => ?_⟩
        · rw [e3] at eo
          cases eo
          exact ⟨.ref qG, rfl, q, qG, G3.map kvR, G.map kvR, rfl, rfl, hq, ((ei.trans e1).trans (e2.trans e')) _ _ hqGh, hne.1, hne.2, k1 H' (e2.trans e')⟩
        · rw [e3] at eo; cases eo
      -- equal to the group of all rows
      refine q_when (b := false) (et_is (et_not (et_test (b := true) (fun H1 e1 Q1 k1 => ?_))) rfl) (fun hc => by cases hc) fun _ Hk ek => ?_
      · unfold tOp
        refine ⟨vt, rfl, ?_⟩
        have xh1 := (ei.trans ej).trans e1
        refine tmake_grp (n := n) (rows := red ++ red2) (P := fun vs H' => ∃ q ys, vs = [nv n, .ref q] ∧ H' q = some (.tup ys) ∧ PRs K n H' ys (red ++ red2)) ?_ (fun vs H' e' ⟨q, ys, ev, hq, hp⟩ => ⟨q, ys, ev, .inr (st_of hq), hp⟩) hn1 (by omega) Rb (by omega) ⟨fun i j f _ _ _ _ => (not_firstAnti hcb f).elim, fun _ ks f _ _ _ _ _ _ => (hnf ks f).elim, fun _ kept' hk' v4 H' e' hg4 => ?_⟩
        · refine eap_cons (P := fun v _ => v = nv n) (Ev.p (ev_var rfl)) (eap_cons (Pr := fun vs _ => vs = []) (P' := fun vs H' => ∃ q ys, vs = [.ref q] ∧ H' q = some (.tup ys) ∧ PRs K n H' ys (red ++ red2)) (evR (ebh.trans xh1) rfl rfl) eap_nil ?_) ?_
          · rintro v vs H3 H4 e3 ⟨q, ys, rfl, hq, hp⟩ e4 rfl
            exact ⟨q, ys, rfl, e4 _ _ hq, PRs.ex e4 hp⟩
          · rintro v vs H3 H4 e3 rfl e4 ⟨q, ys, rfl, hq, hp⟩
            exact ⟨q, ys, rfl, hq, hp⟩
        · have er : redRows kept' n = red3 := Red.uniq Cb Sb Rb ⟨kept', hk', rfl⟩ hR3
          rw [er] at hg4
          exact (rv_grpEq (hg3h.ex (xh1.trans e')) hg4 (by omega)) H' (Ex.refl _) _ fun H'' e'' => k1 H'' (e'.trans e'')
      -- of unlike sizes
      have xk := (ei.trans ej).trans ek
      refine s_why (d := .tuple [.str "unlike", .str "size"]) (tbh.ext xk) (shaped_w1 _ _ (by decide +kernel) (by decide +kernel)) (fun H2 n2 Q2 Qn kq => ?_) (fun H2 n2 => (EvU.p (eu_tup (ea_cons ev_c (ea_cons ev_c ea_nil)) (by show 2 ≤ 100000; decide))).imp fun v H' e' ⟨q, ev, hq⟩ => by subst ev; exact fun H3 e3 => dp_word1 (e3 _ _ hq)) fun H' n' t' => ?_
      · exact why_unlike (fun _ => ev_var rfl) (fun _ => ev_var rfl) (hg3h.kx ((Kx.of xk).trans (kx_extn n2))) hn1 hn64 K3.good.R (by omega) kq
      · exact ⟨_, _, _, _, _, _, _, _, _, _, _, _, rfl, ((pnh.ex xk).extn n').mono (by omega), t'⟩
  · rintro σ' H3 ⟨y2, y3, y4, y5, y6, y7, y8, y9, y10, y11, y12, y13, rfl, pn3, tb3⟩
    exact s_ret ev_c fun H4 e4 => k H4
end
end Kp
end
section
set_option maxHeartbeats 0
/-! the head's further facts -/
namespace Kp
open PySem PySem.Spec PyProof.Rows L2
def oexB (K : PySem.W.Frag) (C : Addr) : Bool := (match K.lookup C with
  | some ⟨.type "type", _, .cls cd, sl⟩ => (match cd.mro, sl.toList with
    | .ref C' :: bm, [_, _, _, _, some (.builtin n), _] => C' == C && (n == "ValueError.__new__" && (!cd.hasDel && (cd.hasDict && PySem.HandSPX.refsVE bm)))
    | _, _ => false)
  | _ => false) && (He.eqO (PySem.W.findIn K (.ref C) "__setattr__") (some (some (.builtin "object.__setattr__"))) && (decide (PySem.W.subIn K (.ref C) (.type "BaseException") = some true) && (decide (PySem.W.typeIn K (.ref C) = some (.type "type")) && PySem.W.keepIn K (.ref C))))
theorem oexB_ok {K : PySem.W.Frag} {C : Addr} (h : oexB K C = true) : OexC K C := by
  obtain ⟨h1, h⟩ := He.ba h
  obtain ⟨h2, h⟩ := He.ba h
  obtain ⟨h3, h⟩ := He.ba h
  obtain ⟨h4, h5⟩ := He.ba h
  refine ⟨?_, He.eqO_ok h2, of_decide_eq_true h3, of_decide_eq_true h4, h5⟩
  split at h1
  · rename_i dd cd sl ho
    split at h1
    · rename_i C' bm k0 k1 k2 k3 n k5 hm hs
      simp only [Bool.and_eq_true, beq_iff_eq, Bool.not_eq_true'] at h1
      obtain ⟨rfl, rfl, hdel, hdict, hr⟩ := h1
      obtain ⟨nm, bs, mro, ns, qn, hd, sn, sub, ab, col, del⟩ := cd
      dsimp only at hm hdel hdict
      subst hm hdel hdict
      have hsl : sl = #[k0, k1, k2, k3, some (.builtin "ValueError.__new__"), k5] := by
        obtain ⟨l⟩ := sl
        simp only at hs
        rw [hs]
      subst hsl
      exact ⟨nm, qn, ns, bs, bm, sn, sub, ab, col, dd, k0, k1, k2, k3, k5, ho, hr⟩
    · cases h1
  · cases h1
def insB (K : PySem.W.Frag) (C : Addr) : Bool := He.eqO (PySem.W.findIn K (.ref C) "__class__") (some (some (.builtin "object.__class__"))) && (He.eqO (PySem.W.specialIn K (.builtin "object.__class__") "__get__") (some (some (.builtin "getset_descriptor.__get__"))) && (decide (PySem.W.takesIn K (.builtin "object.__class__") = some true) && (decide (PySem.W.mroIn K C (.type "object") = some true) && decide (PySem.W.kitOne K (.ref C) (.ref C) = some true))))
theorem insB_ok {K : PySem.W.Frag} {C : Addr} (c : Cls K C) (h : insB K C = true) : C8.InsC K C := by
  obtain ⟨h1, h⟩ := He.ba h
  obtain ⟨h2, h⟩ := He.ba h
  obtain ⟨h3, h⟩ := He.ba h
  obtain ⟨h4, h5⟩ := He.ba h
  exact ⟨c, He.eqO_ok h1, He.eqO_ok h2, of_decide_eq_true h3, of_decide_eq_true h4, of_decide_eq_true h5⟩
/-- all further facts -/
def exK (K : PySem.W.Frag) : Bool :=
  He.eqO (PySem.W.specialIn K (.ref (He.ga K "KeptError")) "__getattribute__") (some (some (.builtin "type.__getattribute__"))) &&
  (PySem.W.readsIn K (He.ga K "KeptError") (.type "type") &&
  ((match PySem.W.findCls K (.ref (He.ga K "KeptError")) (.type "type") "__init__" with
    | some (.val (.builtin s)) => decide (s = "ValueError.__init__")
    | _ => false) &&
  ((errN.all fun x => oexB K (He.ga K x)) &&
  ((errN.all fun x => He.eqO (PySem.W.findIn K (.ref (He.ga K x)) "__init__") (some (some (.ref (He.fAd K (x, some "__init__")))))) &&
  ((errN.all fun x => decide (PySem.W.typeIn K (.ref (He.fAd K (x, some "__init__"))) = some (.type "function"))) &&
  ((errF.all fun p => He.eqO (PySem.W.findIn K (.ref (He.ga K p.1)) p.2) (some none)) &&
  ((errN.all fun x => errC.all fun y => decide (PySem.W.exmOne K (.ref (He.ga K x)) (.ref (He.ga K y)) = some (decide (x = y)))) &&
  (insB K (He.ga K "Pauli") && (insB K (He.ga K "Group") &&
  ((errN.all fun x => xfB K (He.ga K x)) && He.tupB K "HEADS" [.str "", .str "i", .str "-", .str "-i"]))))))))))
theorem exK_ok {K : PySem.W.Frag} (hf : ∀ f ∈ fa, He.Fa.ok K f = true) (h : exK K = true) : EF K ∧ (∀ x ∈ errN, XfC K (He.ga K x)) ∧ He.tupB K "HEADS" [.str "", .str "i", .str "-", .str "-i"] = true := by
  obtain ⟨h1, h⟩ := He.ba h
  obtain ⟨h2, h⟩ := He.ba h
  obtain ⟨h3, h⟩ := He.ba h
  obtain ⟨h4, h⟩ := He.ba h
  obtain ⟨h5, h⟩ := He.ba h
  obtain ⟨h6, h⟩ := He.ba h
  obtain ⟨h7, h⟩ := He.ba h
  obtain ⟨h8, h⟩ := He.ba h
  obtain ⟨h9, h⟩ := He.ba h
  obtain ⟨h10, h⟩ := He.ba h
  obtain ⟨h11, h12⟩ := He.ba h
  refine ⟨⟨He.eqO_ok h1, h2, ?_, fun x hx => oexB_ok (List.all_eq_true.mp h4 x hx), fun x hx => He.eqO_ok (List.all_eq_true.mp h5 x hx), fun x hx => of_decide_eq_true (List.all_eq_true.mp h6 x hx), fun p hp => He.eqO_ok (List.all_eq_true.mp h7 p hp),
    fun x hx y hy => of_decide_eq_true (List.all_eq_true.mp (List.all_eq_true.mp h8 x hx) y hy), insB_ok (He.cls_ok (hf (.cls "Pauli") (List.mem_of_getElem? (i := 73) rfl))) h9, insB_ok (He.cls_ok (hf (.cls "Group") (List.mem_of_getElem? (i := 74) rfl))) h10⟩, fun x hx => xfB_ok (List.all_eq_true.mp h11 x hx), h12⟩
  split at h3
  · rename_i s e
    rw [e, of_decide_eq_true h3]
  · cases h3
/-! ### the head -/
/-- what is looked at: what the module's names reach, and the statics -/
def KZ (g : Addr → Option Obj) : PySem.W.Frag := He.frT g (He.asD g 5 ++ [cStatics])
abbrev lawD : He.Defn := ("law", none)
/-- the law's table is there and empty -/
def tabZ (g : Addr → Option Obj) (K : PySem.W.Frag) : Bool := PySem.W.codeHdIn K (He.cT K lawD).1 (He.cT K lawD).2 && ((g (He.cT K lawD).2).any He.emptyTab)
def obsZ (g : Addr → Option Obj) : He.AlD × Bool := (He.obsD fa fn (KZ g), exK (KZ g) && tabZ g (KZ g))
structure SaysZ (h : Heap) (K : PySem.W.Frag) : Prop where
  kin : K.In h
  dat : He.SaysD fa fn K
  exs : exK K = true
  cod : PySem.W.codeHdIn K (He.cT K lawD).1 (He.cT K lawD).2 = true
  non : K.lookup (He.cT K lawD).2 = none
  emp : h.get? (He.cT K lawD).2 = some { cls := .none, data := .fields #[] }
theorem saysZ_of {h : Heap} (e : obsZ h.get? = (He.valD fn, true)) : SaysZ h (KZ h.get?) := by
  have e1 : He.obsD fa fn (KZ h.get?) = He.valD fn := congrArg (·.1) e
  have e2 : (exK (KZ h.get?) && tabZ h.get? (KZ h.get?)) = true := congrArg (·.2) e
  obtain ⟨h1, h2⟩ := He.ba e2
  obtain ⟨h3, h4⟩ := He.ba h2
  cases q : h.get? (He.cT (KZ h.get?) lawD).2 with
  | none => rw [q] at h4; cases h4
  | some o =>
    rw [q] at h4
    have h5 : He.emptyTab o = true := h4
    exact ⟨He.frT_in, e1, h1, h3, He.frT_none q h5, by rw [q, He.emptyTab_eq h5]⟩
def hk : PySem.W.Hook where
  α := He.AlD × Bool
  obs := fun s => obsZ s.heap.get?
  val := fun _ => (He.valD fn, true)
  says := fun _ h => ∃ K, SaysZ h K
  of := fun _ _ e => ⟨_, saysZ_of e⟩
  keeps := fun _ _ _ ⟨K, c⟩ k => ⟨K, ⟨PySem.W.Frag.In.keeps c.kin k, c.dat, c.exs, c.cod, c.non, k _ _ c.emp⟩⟩
def ob (s : PySem.W.SharedT) : He.AlD × Bool := obsZ (HandSHeadRun.getT s)
theorem ob_eq (s : PySem.W.SharedT) : ob s = hk.obs s.abs := by
  have e : HandSHeadRun.getT s = s.abs.heap.get? := funext fun a => HandSHeadRun.getT_eq s a
  unfold ob
  rw [e]
  rfl
end Kp
end
section
set_option maxHeartbeats 0
namespace Kp
open PySem PySem.Spec PyProof.Rows L2
theorem run (w : World) : HandSHeadRun.RunEq R (PySem.W.view R.prog [lawIx]) hk ob 4000 names w := by
  intro os
  kernel_rfl
end Kp
end
section
set_option maxHeartbeats 0
namespace Kp
open PySem PySem.Spec PyProof.Rows L2
/-- what the head leaves, as the walks use it -/
theorem tx_of {K : PySem.W.Frag} {h : Heap} {mg : Str → Option Value} (G : h.Ns mainGlobals mg) (c : SaysZ h K) : Tx K mg ∧ ∀ x ∈ errN, XfC K (He.ga K x) := by
  have hf : ∀ f ∈ fa, He.Fa.ok K f = true := fun f h => c.dat.facts h
  obtain ⟨ef, hx, hh⟩ := exK_ok hf c.exs
  have e : ∀ dd ∈ fn, dd.dfl = [] ∧ dd.kwd = [] := by
    intro dd hd
    have h1 : (fn.all fun dd => dd.dfl.isEmpty && dd.kwd.isEmpty) = true := rfl
    have h2 := List.all_eq_true.mp h1 dd hd
    obtain ⟨h3, h4⟩ := He.ba h2
    exact ⟨List.isEmpty_iff.mp h3, List.isEmpty_iff.mp h4⟩
  refine ⟨⟨hf, fun dd hd => ?_, fun x hx => He.glo_ok c.kin G (hf _ hx), fun x hx => He.free_ok c.kin G (hf _ hx), hh, ef⟩, hx⟩
  obtain ⟨fd, F⟩ := c.dat.defs hd
  obtain ⟨e1, e2⟩ := e dd hd
  have e3 : dd.dvs K = [] := by unfold He.DefD.dvs; rw [e1]; rfl
  have e4 : dd.kws K = [] := by unfold He.DefD.kws; rw [e2]; rfl
  rw [e3, e4] at F
  exact ⟨fd, F⟩
theorem law_at {w : World} {K : PySem.W.Frag} {h : Heap} {mg : Str → Option Value} {f : Addr} (G : h.Ns mainGlobals mg) (hfa : mg ("law" : Str) = some (.ref f)) (c : SaysZ h K) :
    LamX.LawAtS PySem.Challenge.rw_keptqubits_k12_whole_commutants_and_join w K CX0 24 63 "_law_script" mg f h := by
  obtain ⟨T, hx⟩ := tx_of G c
  obtain ⟨fd, F⟩ := T.defs d_law (List.mem_of_getElem? (i := 56) rfl)
  have eg := T.glo "law" (List.mem_of_getElem? (i := 47) rfl)
  have ef : f = He.ga K "law" := by
    rw [hfa] at eg
    cases eg; rfl
  subst ef
  have b := FunD.bindsA (ps := ["_law_script"]) F fun _ _ _ _ _ _ us hl => match us, hl with | [_], _ => rfl
  refine ⟨fd, [He.cT K lawD], sp_law K (He.cT K lawD).2, fun p hp => ?_, fun p hp => ?_, fun p hp => ?_, fun s u => b s [u] rfl, fun H a ns hl _ hT hS => ?_, fun base KB GB TB => ?_⟩
  · rw [List.mem_singleton.mp hp]; exact c.emp
  · rw [List.mem_singleton.mp hp]; exact c.non
  · rw [List.mem_singleton.mp hp]; exact PySem.W.codeHd_of_K c.kin c.cod
  · exact ⟨a, ns, rfl, hS, by omega, hT _ (List.mem_singleton.mpr rfl), fun _ => rfl⟩
  · exact o_law (P := PySem.Challenge.rw_keptqubits_k12_whole_commutants_and_join.prog) (w := w) (base := base) T hx (TB _ (List.mem_singleton.mpr rfl)) F
end Kp
end
open PySem PySem.W PySem.Calls PyProof.Rows
set_option maxRecDepth 100000 in
set_option maxHeartbeats 0 in
theorem PySem.Challenge.cw_keptqubits_k12_whole_commutants_and_join_holds : PySem.Challenge.rw_keptqubits_k12_whole_commutants_and_join.Holds := by
  w_on; o_law
  refine HandSHeadRun.head_any (r := OpenLaw.row PySem.Challenge.rw_keptqubits_k12_whole_commutants_and_join) (q := view (OpenLaw.row PySem.Challenge.rw_keptqubits_k12_whole_commutants_and_join).prog [Kp.lawIx]) (H := Kp.hk) (ob := Kp.ob) (M := 4000) (loose := Kp.names) (d := HandSHeadRun.topDef (OpenLaw.row PySem.Challenge.rw_keptqubits_k12_whole_commutants_and_join).prog Kp.lawIx) (kwd := []) Kp.ob_eq
    (by kernel_rfl) (fun s => by kernel_rfl) Kp.run (by kernel_rfl) (by kernel_rfl) (by kernel_rfl) (by rfl) (by first | assumption | decide +kernel) (by decide +kernel) ⟨rfl, rfl, rfl, rfl, rfl, by decide +kernel⟩ ?hw ?hc
  case hw => w_witness2
  case hc =>
    refine LamX.walk_ofTsE (l := PySem.Challenge.rw_keptqubits_k12_whole_commutants_and_join) (n := 63) (k := 24) (x := "_law_script") (CX := fun _ => L2.CX0) rfl (by decide) (by kernel_rfl) ⟨rfl, by decide, by decide⟩ ?F (fun _ _ _ _ _ z => z)
    intro w mg fa h Y G hmg0
    obtain ⟨K, c⟩ := Y
    have hmg : mg ("law" : PySem.Str) = some (.ref fa) := by
      have e : (HandSHeadRun.topDef (OpenLaw.row PySem.Challenge.rw_keptqubits_k12_whole_commutants_and_join).prog Kp.lawIx).name = ("law" : PySem.Str) := by kernel_rfl
      rw [← e]
      exact hmg0
    exact ⟨K, c.kin, Kp.law_at G hmg c⟩
