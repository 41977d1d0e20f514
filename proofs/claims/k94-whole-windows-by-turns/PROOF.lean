import PyProof.Rows.All
import Wide.All
import OpenK.AllK
import Wide.FinOn
import KE.KStateDown
import Lean
import HandS.ForMost
import HandS.ForExc
import HandS.Wide
import HandS.Zip
import HandS.TupSets
import HandS.SetBool
import HandS.DictComp
import HandS.TupLen
import HandS.Deep
import PyProof.EqAt
import PyProof.EqKinds
import PyProof.InstEq
import PyProof.TupleCall
import HandS.OwnEq
import HandS.IsInst
import HandS.ExcIs
import HandS.ExcField
import HandS.SuiteRaise
import HandS.ExcInit
import KE.SortData
import HandS.Star
import HandS.Property
import KE.KExcRaise
import HandS.TupMul
import HandS.TupAny
import KE.KSuper
import HandS.Nested
import HandS.ClsMeth
import HandS.HeadHook1
import HandS.HeadHook2
import HandS.Head0
import HandS.Head1
import HandS.Head2
import HandS.HeadEnd
import PySem.Challenge.RW_seenposts_k94_whole_windows_by_turns
set_option Elab.async false
set_option linter.all false
set_option maxRecDepth 100000
set_option maxHeartbeats 4000000
/-! The plain mathematics of the law: no program here. -/
namespace K94
abbrev Pl := List Int

/-! ### lists without repetition -/
theorem nodup_le {α : Type} [DecidableEq α] : ∀ {l m : List α}, l.Nodup → (∀ x ∈ l, x ∈ m) → l.length ≤ m.length
  | [], _, _, _ => Nat.zero_le _
  | x :: l, m, hn, hs => by
    have h1 : x ∉ l := (List.nodup_cons.mp hn).1
    have h2 : l.Nodup := (List.nodup_cons.mp hn).2
    have hx : x ∈ m := hs x List.mem_cons_self
    have h3 : ∀ y ∈ l, y ∈ m.erase x := fun y hy => by
      have hne : y ≠ x := fun e => h1 (e ▸ hy)
      exact (List.mem_erase_of_ne hne).mpr (hs y (List.mem_cons_of_mem _ hy))
    have h4 := nodup_le h2 h3
    rw [List.length_erase_of_mem hx] at h4
    have h5 : 0 < m.length := List.length_pos_of_mem hx
    show l.length + 1 ≤ m.length
    omega
theorem nodup_eq {α : Type} [DecidableEq α] {l m : List α} (hl : l.Nodup) (hm : m.Nodup) (h : ∀ x, x ∈ l ↔ x ∈ m) : l.length = m.length :=
  Nat.le_antisymm (nodup_le hl fun x hx => (h x).mp hx) (nodup_le hm fun x hx => (h x).mpr hx)
/-- pigeons: a list without repetition that is as long as what holds it holds all of it -/
theorem nodup_all {α : Type} [DecidableEq α] {l m : List α} (hl : l.Nodup) (hs : ∀ x ∈ l, x ∈ m) (hlen : m.length ≤ l.length) {x : α} (hx : x ∈ m) : x ∈ l := by
  by_cases h : x ∈ l
  · exact h
  · have h1 : (x :: l).Nodup := List.nodup_cons.mpr ⟨h, hl⟩
    have h2 := nodup_le (m := m) h1 (fun y hy => by
      rcases List.mem_cons.mp hy with e | hy
      · rw [e]; exact hx
      · exact hs y hy)
    have h3 : (x :: l).length = l.length + 1 := rfl
    omega

/-- the different items, each at its first place -/
def uniq {α : Type} [DecidableEq α] : List α → List α
  | [] => []
  | x :: l => x :: (uniq l).filter (fun y => decide (y ≠ x))
theorem mem_uniq {α : Type} [DecidableEq α] {x : α} : ∀ {l : List α}, x ∈ uniq l ↔ x ∈ l
  | [] => Iff.rfl
  | y :: l => by
    show x ∈ y :: (uniq l).filter (fun z => decide (z ≠ y)) ↔ x ∈ y :: l
    rw [List.mem_cons, List.mem_cons, List.mem_filter, mem_uniq (l := l)]
    by_cases e : x = y
    · simp [e]
    · simp [e]
theorem uniq_nodup {α : Type} [DecidableEq α] : ∀ l : List α, (uniq l).Nodup
  | [] => List.nodup_nil
  | y :: l => by
    show (y :: (uniq l).filter (fun z => decide (z ≠ y))).Nodup
    refine List.nodup_cons.mpr ⟨fun h => ?_, (uniq_nodup l).filter _⟩
    have := (List.mem_filter.mp h).2
    simp at this
def cnt {α : Type} [DecidableEq α] (l : List α) : Nat := (uniq l).length
theorem cnt_of {α : Type} [DecidableEq α] {l m : List α} (hm : m.Nodup) (h : ∀ x, x ∈ m ↔ x ∈ l) : m.length = cnt l :=
  nodup_eq hm (uniq_nodup l) fun x => (h x).trans mem_uniq.symm
theorem cnt_le {α : Type} [DecidableEq α] (l : List α) : cnt l ≤ l.length := nodup_le (uniq_nodup l) fun _ hx => mem_uniq.mp hx
theorem cnt_snoc {α : Type} [DecidableEq α] (l : List α) (x : α) : cnt (l ++ [x]) = if x ∈ l then cnt l else cnt l + 1 := by
  by_cases h : x ∈ l
  · rw [if_pos h]
    refine (cnt_of (uniq_nodup l) fun y => ?_).symm
    rw [mem_uniq, List.mem_append, List.mem_singleton]
    exact ⟨Or.inl, fun q => q.elim id fun e => e ▸ h⟩
  · rw [if_neg h]
    refine (cnt_of (m := x :: uniq l) (List.nodup_cons.mpr ⟨fun q => h (mem_uniq.mp q), uniq_nodup l⟩) fun y => ?_).symm
    rw [List.mem_cons, mem_uniq, List.mem_append, List.mem_singleton]
    exact Or.comm

/-! ### remainders -/
def rmd (p : Int) (ns : Pl) : Pl := ns.map (· % p)
def pw (p sz : Int) : Int := if sz = 2 then p * p else p * p * p
def ps8 : List Int := [2, 3, 5, 7, 11, 13, 17, 19]
def ps3 : List Int := [2, 3, 5]
/-- the program's search of a barring prime -/
def lbarL (sz : Int) (qs : List Pl) : List Int → Option Int
  | [] => none
  | p :: r => if pw p sz > (qs.length : Int) then none else if (cnt (qs.map (rmd p)) : Int) = pw p sz then some p else lbarL sz qs r
def lbar (sz : Int) (qs : List Pl) : Option Int := lbarL sz qs ps8
/-- the law's -/
def wbarL (sz : Int) (qs : List Pl) : List Int → Option Int
  | [] => none
  | p :: r => if (cnt (qs.map (rmd p)) : Int) = pw p sz then some p else wbarL sz qs r
def wbar (sz : Int) (qs : List Pl) : Option Int := wbarL sz qs ps3
theorem cnt_few {p : Int} {qs : List Pl} {z : Int} (h : z > (qs.length : Int)) : ¬ (cnt (qs.map (rmd p)) : Int) = z := fun e => by
  have h1 := cnt_le (qs.map (rmd p))
  rw [List.length_map] at h1
  omega
def Sz (sz : Int) : Prop := sz = 2 ∨ sz = 3
theorem pw_vals {sz : Int} (h : Sz sz) : (pw 2 sz = 4 ∧ pw 3 sz = 9 ∧ pw 5 sz = 25 ∧ pw 7 sz = 49) ∨ (pw 2 sz = 8 ∧ pw 3 sz = 27 ∧ pw 5 sz = 125 ∧ pw 7 sz = 343) := by
  rcases h with rfl | rfl
  · exact .inl ⟨rfl, rfl, rfl, rfl⟩
  · exact .inr ⟨rfl, rfl, rfl, rfl⟩
theorem lbar_wbar {sz : Int} {qs : List Pl} (h : Sz sz) (hl : qs.length ≤ 40) : lbar sz qs = wbar sz qs := by
  unfold lbar wbar ps8 ps3
  have hv := pw_vals h
  have h7 : pw 7 sz > (qs.length : Int) := by omega
  have e2 : pw 2 sz > (qs.length : Int) → ¬ (cnt (qs.map (rmd 2)) : Int) = pw 2 sz := cnt_few
  have e3 : pw 3 sz > (qs.length : Int) → ¬ (cnt (qs.map (rmd 3)) : Int) = pw 3 sz := cnt_few
  have e5 : pw 5 sz > (qs.length : Int) → ¬ (cnt (qs.map (rmd 5)) : Int) = pw 5 sz := cnt_few
  simp only [lbarL, wbarL]
  by_cases c2 : pw 2 sz > (qs.length : Int)
  · rw [if_pos c2, if_neg (e2 c2), if_neg (e3 (by omega)), if_neg (e5 (by omega))]
  · rw [if_neg c2]
    by_cases d2 : (cnt (qs.map (rmd 2)) : Int) = pw 2 sz
    · rw [if_pos d2, if_pos d2]
    · rw [if_neg d2, if_neg d2]
      by_cases c3 : pw 3 sz > (qs.length : Int)
      · rw [if_pos c3, if_neg (e3 c3), if_neg (e5 (by omega))]
      · rw [if_neg c3]
        by_cases d3 : (cnt (qs.map (rmd 3)) : Int) = pw 3 sz
        · rw [if_pos d3, if_pos d3]
        · rw [if_neg d3, if_neg d3]
          by_cases c5 : pw 5 sz > (qs.length : Int)
          · rw [if_pos c5, if_neg (e5 c5)]
          · rw [if_neg c5, if_pos h7]
theorem wbar_none {sz : Int} {qs : List Pl} : wbar sz qs = none ↔ ∀ p ∈ ps3, ¬ (cnt (qs.map (rmd p)) : Int) = pw p sz := by
  unfold wbar
  suffices h : ∀ l : List Int, wbarL sz qs l = none ↔ ∀ p ∈ l, ¬ (cnt (qs.map (rmd p)) : Int) = pw p sz from h ps3
  intro l
  induction l with
  | nil => simp [wbarL]
  | cons p r ih =>
    simp only [wbarL]
    by_cases e : (cnt (qs.map (rmd p)) : Int) = pw p sz
    · rw [if_pos e]
      simp [e]
    · rw [if_neg e, ih]
      simp [e]

/-! ### all remainders -/
/-- the remainders with the number k -/
def nbd (sz p k : Int) : Pl := if sz = 3 then [k / (p * p), k / p % p, k % p] else [k / p % p, k % p]
def allR (sz p : Int) : List Pl := (List.range (pw p sz).toNat).map fun (k : Nat) => nbd sz p (k : Int)
theorem allR_len (sz p : Int) : (allR sz p).length = (pw p sz).toNat := by simp [allR]
theorem mem_allR {sz p : Int} (h : Sz sz) (hp : 1 < p) {ns : Pl} (hl : (ns.length : Int) = sz) (hb : ∀ x ∈ ns, 0 ≤ x ∧ x < p) : ns ∈ allR sz p := by
  rcases h with rfl | rfl
  · obtain ⟨a, b, rfl⟩ : ∃ a b, ns = [a, b] := by
      match ns, hl with
      | [a, b], _ => exact ⟨a, b, rfl⟩
    have ha := hb a (by simp)
    have hb' := hb b (by simp)
    have h0 : 0 ≤ a * p := Int.mul_nonneg ha.1 (by omega)
    have h1 : a * p + b < p * p := by
      have : (a + 1) * p ≤ p * p := Int.mul_le_mul_of_nonneg_right (by omega) (by omega)
      rw [Int.add_mul] at this
      omega
    refine List.mem_map.mpr ⟨(a * p + b).toNat, List.mem_range.mpr ?_, ?_⟩
    · show (a * p + b).toNat < (p * p).toNat
      omega
    · have e0 : ((a * p + b).toNat : Int) = a * p + b := by omega
      have e1 : (a * p + b) / p = a := by
        rw [Int.add_comm, Int.add_mul_ediv_right _ _ (by omega), Int.ediv_eq_zero_of_lt hb'.1 hb'.2, Int.zero_add]
      have e2 : (a * p + b) % p = b := by
        rw [Int.add_comm, Int.add_mul_emod_self_right, Int.emod_eq_of_lt hb'.1 hb'.2]
      show nbd 2 p ((a * p + b).toNat : Int) = [a, b]
      rw [e0]
      show [(a * p + b) / p % p, (a * p + b) % p] = [a, b]
      rw [e1, e2, Int.emod_eq_of_lt ha.1 ha.2]
  · obtain ⟨a, b, c, rfl⟩ : ∃ a b c, ns = [a, b, c] := by
      match ns, hl with
      | [a, b, c], _ => exact ⟨a, b, c, rfl⟩
    have ha := hb a (by simp)
    have hb' := hb b (by simp)
    have hc := hb c (by simp)
    have hpp : 0 < p * p := Int.mul_pos (by omega) (by omega)
    have h0 : 0 ≤ a * (p * p) := Int.mul_nonneg ha.1 (by omega)
    have h0b : 0 ≤ b * p := Int.mul_nonneg hb'.1 (by omega)
    have h1 : b * p + c < p * p := by
      have : (b + 1) * p ≤ p * p := Int.mul_le_mul_of_nonneg_right (by omega) (by omega)
      rw [Int.add_mul] at this
      omega
    have h2 : a * (p * p) + (b * p + c) < p * p * p := by
      have : (a + 1) * (p * p) ≤ p * (p * p) := Int.mul_le_mul_of_nonneg_right (by omega) (by omega)
      rw [Int.add_mul, ← Int.mul_assoc p p p] at this
      omega
    refine List.mem_map.mpr ⟨(a * (p * p) + (b * p + c)).toNat, List.mem_range.mpr ?_, ?_⟩
    · show (a * (p * p) + (b * p + c)).toNat < (p * p * p).toNat
      omega
    · have e0 : ((a * (p * p) + (b * p + c)).toNat : Int) = a * (p * p) + (b * p + c) := by omega
      have e1 : (a * (p * p) + (b * p + c)) / (p * p) = a := by
        rw [Int.add_comm, Int.add_mul_ediv_right _ _ (by omega), Int.ediv_eq_zero_of_lt (by omega) h1, Int.zero_add]
      have e2 : (a * (p * p) + (b * p + c)) % p = c := by
        rw [show a * (p * p) + (b * p + c) = c + (a * p + b) * p by rw [Int.add_mul, Int.mul_assoc]; omega, Int.add_mul_emod_self_right, Int.emod_eq_of_lt hc.1 hc.2]
      have e3 : (a * (p * p) + (b * p + c)) / p % p = b := by
        rw [show a * (p * p) + (b * p + c) = c + (a * p + b) * p by rw [Int.add_mul, Int.mul_assoc]; omega, Int.add_mul_ediv_right _ _ (by omega), Int.ediv_eq_zero_of_lt hc.1 hc.2, Int.zero_add,
          Int.add_comm, Int.add_mul_emod_self_right, Int.emod_eq_of_lt hb'.1 hb'.2]
      show nbd 3 p ((a * (p * p) + (b * p + c)).toNat : Int) = [a, b, c]
      rw [e0]
      show [(a * (p * p) + (b * p + c)) / (p * p), (a * (p * p) + (b * p + c)) / p % p, (a * (p * p) + (b * p + c)) % p] = [a, b, c]
      rw [e1, e2, e3]
theorem rmd_len (p : Int) (ns : Pl) : (rmd p ns).length = ns.length := List.length_map _
theorem rmd_bd {p : Int} (hp : 0 < p) {ns : Pl} : ∀ x ∈ rmd p ns, 0 ≤ x ∧ x < p := fun x hx => by
  obtain ⟨y, _, rfl⟩ := List.mem_map.mp hx
  exact ⟨Int.emod_nonneg _ (by omega), Int.emod_lt_of_pos _ hp⟩
theorem rmd_mem {sz p : Int} (h : Sz sz) (hp : 1 < p) {ns : Pl} (hl : (ns.length : Int) = sz) : rmd p ns ∈ allR sz p :=
  mem_allR h hp (by rw [rmd_len]; exact hl) (rmd_bd (by omega))

/-! ### lone remainders, the status of a place -/
def loneAt (sz : Int) (qs : List Pl) (p : Int) : List (Int × Pl) :=
  if pw p sz ≤ (qs.length : Int) + 1 then if (cnt (qs.map (rmd p)) : Int) = pw p sz - 1 then ((allR sz p).filter fun r => decide (r ∉ qs.map (rmd p))).map fun r => (p, r) else [] else []
def lone (sz : Int) (qs : List Pl) : List (Int × Pl) := ps8.flatMap (loneAt sz qs)
def barOf (l : List (Int × Pl)) (pl : Pl) : Option Int := (l.find? fun x => decide (rmd x.1 pl = x.2)).map (·.1)
theorem barOf_some {l : List (Int × Pl)} {pl : Pl} : (barOf l pl).isSome = true ↔ ∃ x ∈ l, rmd x.1 pl = x.2 := by
  unfold barOf
  rw [Option.isSome_map, List.find?_isSome]
  simp
theorem mem_lone {sz : Int} {qs : List Pl} {x : Int × Pl} : x ∈ lone sz qs ↔ x.1 ∈ ps8 ∧ pw x.1 sz ≤ (qs.length : Int) + 1 ∧ (cnt (qs.map (rmd x.1)) : Int) = pw x.1 sz - 1 ∧ x.2 ∈ allR sz x.1 ∧ x.2 ∉ qs.map (rmd x.1) := by
  unfold lone
  rw [List.mem_flatMap]
  constructor
  · rintro ⟨p, hp, hx⟩
    unfold loneAt at hx
    by_cases c1 : pw p sz ≤ (qs.length : Int) + 1
    · rw [if_pos c1] at hx
      by_cases c2 : (cnt (qs.map (rmd p)) : Int) = pw p sz - 1
      · rw [if_pos c2] at hx
        obtain ⟨r, hr, rfl⟩ := List.mem_map.mp hx
        obtain ⟨h1, h2⟩ := List.mem_filter.mp hr
        exact ⟨hp, c1, c2, h1, of_decide_eq_true h2⟩
      · rw [if_neg c2] at hx
        cases hx
    · rw [if_neg c1] at hx
      cases hx
  · rintro ⟨hp, c1, c2, h1, h2⟩
    refine ⟨x.1, hp, ?_⟩
    unfold loneAt
    rw [if_pos c1, if_pos c2]
    exact List.mem_map.mpr ⟨x.2, List.mem_filter.mpr ⟨h1, decide_eq_true h2⟩, rfl⟩
/-- what the program asks of a place that isn't told is what the law asks -/
theorem lone_wbar {sz : Int} {qs : List Pl} {pl : Pl} (h : Sz sz) (hq : qs.length ≤ 30) (hpl : (pl.length : Int) = sz) (nb : wbar sz qs = none) :
    (barOf (lone sz qs) pl).isSome = (wbar sz (qs ++ [pl])).isSome := by
  have nb' := wbar_none.mp nb
  have hv := pw_vals h
  rw [Bool.eq_iff_iff, barOf_some]
  constructor
  · rintro ⟨x, hx, e⟩
    obtain ⟨hp, c1, c2, h1, h2⟩ := mem_lone.mp hx
    have hp3 : x.1 ∈ ps3 := by
      have hb : ∀ p ∈ ps8, p ∈ ps3 ∨ 7 ≤ p := by decide
      rcases hb x.1 hp with k | k
      · exact k
      · exfalso
        have h49 : 7 * 7 ≤ x.1 * x.1 := Int.mul_le_mul k k (by omega) (by omega)
        have : 49 ≤ pw x.1 sz := by
          rcases h with rfl | rfl
          · show 49 ≤ x.1 * x.1
            omega
          · show 49 ≤ x.1 * x.1 * x.1
            have : 49 * 1 ≤ x.1 * x.1 * x.1 := Int.mul_le_mul (by omega) (by omega) (by omega) (by omega)
            omega
        omega
    have hns : wbar sz (qs ++ [pl]) ≠ none := fun q => by
      refine wbar_none.mp q x.1 hp3 ?_
      rw [List.map_append, List.map_singleton, cnt_snoc, if_neg (by rw [e]; exact h2)]
      omega
    cases q : wbar sz (qs ++ [pl]) with
    | none => exact absurd q hns
    | some _ => rfl
  · intro hs
    have hns : ¬ ∀ p ∈ ps3, ¬ (cnt ((qs ++ [pl]).map (rmd p)) : Int) = pw p sz := fun q => by
      rw [wbar_none.mpr q] at hs
      cases hs
    have hex : ∃ p ∈ ps3, (cnt ((qs ++ [pl]).map (rmd p)) : Int) = pw p sz := by
      refine Classical.byContradiction fun q => hns fun p hp e => q ⟨p, hp, e⟩
    obtain ⟨p, hp, e⟩ := hex
    rw [List.map_append, List.map_singleton, cnt_snoc] at e
    by_cases hm : rmd p pl ∈ qs.map (rmd p)
    · rw [if_pos hm] at e
      exact absurd e (nb' p hp)
    · rw [if_neg hm] at e
      have hle := cnt_le (qs.map (rmd p))
      rw [List.length_map] at hle
      have hp1 : 1 < p := by
        have : ∀ p ∈ ps3, (1 : Int) < p := by decide
        exact this p hp
      have hp8 : p ∈ ps8 := by
        have : ∀ p ∈ ps3, p ∈ ps8 := by decide
        exact this p hp
      exact ⟨(p, rmd p pl), mem_lone.mpr ⟨hp8, by show pw p sz ≤ _; omega, by show ((cnt (qs.map (rmd p)) : Nat) : Int) = pw p sz - 1; omega, rmd_mem h hp1 hpl, hm⟩, rfl⟩

/-! ### greatest common divisors -/
def gcdL (ns : Pl) : Nat := ns.foldl (fun a x => Nat.gcd a x.natAbs) 0
def plusL (a b : Pl) : Pl := List.zipWith (· + ·) a b
theorem gcd_fold_dvd {d : Nat} : ∀ (ns : Pl) (a : Nat), d ∣ a → (∀ x ∈ ns, d ∣ x.natAbs) → d ∣ ns.foldl (fun a x => Nat.gcd a x.natAbs) a
  | [], _, ha, _ => ha
  | x :: ns, a, ha, h => gcd_fold_dvd ns (Nat.gcd a x.natAbs) (Nat.dvd_gcd ha (h x List.mem_cons_self)) fun y hy => h y (List.mem_cons_of_mem _ hy)
theorem gcdL_dvd {d : Nat} {ns : Pl} (h : ∀ x ∈ ns, d ∣ x.natAbs) : d ∣ gcdL ns := gcd_fold_dvd ns 0 (Nat.dvd_zero d) h
theorem plus_dvd {p : Int} (hp : 0 < p) : ∀ {a s : Pl}, rmd p a = rmd p (s.map fun x => -x) → ∀ x ∈ plusL a s, p.natAbs ∣ x.natAbs
  | [], _, _, x, hx => by simp [plusL] at hx
  | _ :: _, [], _, x, hx => by simp [plusL] at hx
  | u :: a, v :: s, e, x, hx => by
    have e' : u % p :: rmd p a = (-v) % p :: rmd p (s.map fun x => -x) := e
    injection e' with e1 e2
    have hx' : x ∈ (u + v) :: plusL a s := hx
    rcases List.mem_cons.mp hx' with rfl | hx'
    · refine Int.natAbs_dvd_natAbs.mpr ?_
      have h1 : p ∣ u - -v := by
        refine Int.dvd_of_emod_eq_zero ?_
        rw [Int.sub_emod, e1, Int.sub_self, Int.zero_emod]
      rwa [Int.sub_neg] at h1
    · exact plus_dvd hp e2 x hx'
/-- places that are seen from a shift are barred by no prime -/
theorem seen_nobar {sz : Int} (h : Sz sz) {qs : List Pl} {s : Pl} (hs : (s.length : Int) = sz) (hq : ∀ q ∈ qs, (q.length : Int) = sz ∧ gcdL (plusL q s) = 1) : wbar sz qs = none := by
  refine wbar_none.mpr fun p hp e => ?_
  have hp1 : 1 < p := by
    have : ∀ p ∈ ps3, (1 : Int) < p := by decide
    exact this p hp
  have hm : rmd p (s.map fun x => -x) ∈ allR sz p := rmd_mem h hp1 (by rw [List.length_map]; exact hs)
  have h1 : rmd p (s.map fun x => -x) ∈ uniq (qs.map (rmd p)) := by
    refine nodup_all (uniq_nodup _) (fun y hy => ?_) ?_ hm
    · obtain ⟨q, hq', rfl⟩ := List.mem_map.mp (mem_uniq.mp hy)
      exact rmd_mem h hp1 (hq q hq').1
    · rw [allR_len]
      show (pw p sz).toNat ≤ cnt (qs.map (rmd p))
      omega
  obtain ⟨q, hq', eq⟩ := List.mem_map.mp (mem_uniq.mp h1)
  have h2 := gcdL_dvd (plus_dvd (by omega) eq)
  rw [(hq q hq').2] at h2
  have h3 := Nat.le_of_dvd (by decide) h2
  omega
end K94
namespace K94
open PySem L2
/-! ### the text by places -/
def top (i : Nat) : Stmt := PySem.Challenge.pw_seenposts_k94_whole_windows_by_turns.main.body.getD i (.Pass ⟨0, 0, 0, 0⟩)
abbrev sCd : Stmt := top 2
abbrev sDiv : Stmt := top 3
abbrev sPlus : Stmt := top 4
abbrev sPower : Stmt := top 22
abbrev sRem : Stmt := top 23
abbrev sNumb : Stmt := top 24
abbrev sAllR : Stmt := top 25
/-! ### a def of the module, as its callers see it -/
structure GF (P : Program) (w : World) (K : PySem.W.Frag) (mg : Str → Option Value) (base : Heap) (CX : CXT) (k : Nat) (x : Str) (ps : List Str) (sp : Sp) : Prop where
  ex : ∃ (f : Addr) (fd : FuncData), FnOk P w K mg base CX k f fd ps sp ∧ mg x = some (.ref f) ∧ PySem.W.keepIn K (.ref f) = true ∧ Binds K fd ps []
theorem pe_g {X : Cx} {CX : CXT} {k : Nat} {x : Str} {ps : List Str} {sp : Sp} {E : XK} {p pos : Pos} {e : Expr} {es : List Expr} {t : TA} (g : GF X.prog X.w X.K X.mg X.base CX k x ps sp) (hr : Room k X.A) (hg : Gl X x) (hx : Passes CX X E)
    (ha : PA X (e :: es) t) (hdb : (x == ("__debug__" : Str)) = false := by decide) (he : starEach (e :: es) X.env = (false, eval e X.env) :: starEach es X.env := by rfl) (hpl : (backTo pos (starEach es X.env)).any (·.1) = false := by rfl) :
    PE X (.Call (.Name x p) (e :: es) [] pos) (tCall sp [] E t) := by
  obtain ⟨f, fd, F, hm, hk, hb⟩ := g.ex
  exact pe_call F hr hg hm hk hb .nil hx ha hdb he hpl
/-- a call inside a comprehension's block is the same -/
theorem GF.mono {P : Program} {w : World} {K : PySem.W.Frag} {mg : Str → Option Value} {base : Heap} {CX : CXT} {j k : Nat} {x : Str} {ps : List Str} {sp : Sp} (g : GF P w K mg base CX j x ps sp) (h : j ≤ k) : GF P w K mg base CX k x ps sp := by
  obtain ⟨f, fd, F, r⟩ := g.ex
  exact ⟨f, fd, F.mono h, r⟩

section
variable {P : Program} {w : World} {K : PySem.W.Frag} {mg : Str → Option Value} {base : Heap}
/-! ### common_divisor -/
def spCd : Sp := fun vs H Q _ => ∃ a b : Int, vs = [.int a, .int b] ∧ Q (.int ((Int.gcd a b : Nat) : Int)) H
theorem scCd : FnScope ["one", "other"] ["one", "other"] (defScope sCd) := ⟨rfl, rfl, rfl, by decide +kernel, rfl, by decide +kernel, by decide +kernel⟩
theorem abs_if (a : Int) : (if a < 0 then -a else a) = (a.natAbs : Int) := by
  split <;> omega
theorem ok_cd {f : Addr} {fd : FuncData} (F : Fun K "common_divisor" "common_divisor" sCd f fd) (mAbs : mg "abs" = none) : FnOk P w K mg base CX0 1 f fd ["one", "other"] spCd := by
  refine F.ok scCd (fun vs H Q E h => ?_) (fun cdv A outer s H vs Q E hr h => ?_)
  · obtain ⟨a, b, rfl, _⟩ := h
    rfl
  · obtain ⟨a, b, rfl, hQ⟩ := h
    refine ⟨_, pss_cons (ps_par (i := 0) (j := 1) rfl scCd.nd rfl rfl (by decide) rfl rfl
        (pa_cons (pe_callB call_abs (by rfl) mAbs (by decide +kernel) (pa_cons (pv 0) pa_nil)) (pa_cons (pe_callB call_abs (by rfl) mAbs (by decide +kernel) (pa_cons (pv 1) pa_nil)) pa_nil)) (by rfl))
      (pss_cons (ps_while PassesOwn.never (pt_cmpR op_gt (pv 1) pe_int (nomark _))
        (pss_one (ps_par (i := 0) (j := 1) rfl scCd.nd rfl rfl (by decide) rfl rfl (pa_cons (pv 1) (pa_cons (pe_op op_mod (pv 0) (pv 1)) pa_nil)) (by rfl))))
      (pss_one (ps_ret (pv 0)))), ?_⟩
    refine ⟨_, rfl, a, rfl, _, rfl, b, rfl, _, _, rfl, ?_⟩
    refine ⟨fun m σ H' => ∃ x y : Nat, σ = [some (.int x), some (.int y)] ∧ H' = H ∧ m = y ∧ Nat.gcd x y = Int.gcd a b, ⟨b.natAbs, a.natAbs, b.natAbs, ?_, rfl, rfl, rfl⟩, ?_⟩
    · rw [abs_if, abs_if]
      rfl
    · rintro m σ H' ⟨x, y, rfl, rfl, rfl, hg⟩
      refine ⟨_, rfl, _, _, rfl, rfl, _, rfl, ?_⟩
      refine ite2 (fun hy => ?_) (fun hy => ?_)
      · have hy' : 0 < m := by
          have := of_decide_eq_true hy
          omega
        refine ⟨fun σ' H2 => ∃ x y : Nat, y < m ∧ σ' = [some (.int x), some (.int y)] ∧ H2 = H' ∧ Nat.gcd x y = Int.gcd a b, ?_, ?_⟩
        · rintro σ' H2 ⟨x', y', hlt, rfl, rfl, hg'⟩
          exact ⟨y', hlt, x', y', rfl, rfl, rfl, hg'⟩
        · refine ⟨_, rfl, _, rfl, _, rfl, _, _, rfl, rfl, (by omega), _, _, rfl, m, x % m, Nat.mod_lt _ hy', rfl, rfl, ?_⟩
          rw [← hg, Nat.gcd_comm x m, Nat.gcd_rec m x, Nat.gcd_comm]
      · have hy' : m = 0 := by
          have : ¬ (0 < m) := fun q => hy (decide_eq_true (by omega))
          omega
        subst hy'
        refine ⟨_, rfl, ?_⟩
        rw [Nat.gcd_zero_right] at hg
        rw [hg]
        exact hQ

/-! ### divisor_of -/
def spDiv (K : PySem.W.Frag) : Sp := fun vs H Q _ => ∃ (t : Addr) (ns : Pl), vs = [.ref t] ∧ SqT K H t (ns.map V.int) ∧ Q (.int ((gcdL ns : Nat) : Int)) H
theorem scDiv : FnScope ["values", "found", "value"] ["values"] (defScope sDiv) := ⟨rfl, rfl, rfl, by decide +kernel, rfl, by decide +kernel, by decide +kernel⟩
theorem gcdL_take {ns : Pl} {i : Nat} {z : Int} (h : ns[i]? = some z) : gcdL (ns.take (i + 1)) = Nat.gcd (gcdL (ns.take i)) z.natAbs := by
  rw [List.take_add_one, h]
  show gcdL (ns.take i ++ [z]) = _
  unfold gcdL
  rw [List.foldl_append]
  rfl
theorem int_of_map {ns : Pl} {i : Nat} {x : V} (h : (ns.map V.int)[i]? = some x) : ∃ z, ns[i]? = some z ∧ x = .int z := by
  rw [List.getElem?_map] at h
  obtain ⟨z, h1, h2⟩ := Option.map_eq_some_iff.mp h
  exact ⟨z, h1, h2.symm⟩
theorem ok_div {f : Addr} {fd : FuncData} (F : Fun K "divisor_of" "divisor_of" sDiv f fd) (G : GF P w K mg base CX0 1 "common_divisor" ["one", "other"] spCd) : FnOk P w K mg base CX0 3 f fd ["values"] (spDiv K) := by
  refine F.ok scDiv (fun vs H Q E h => ?_) (fun cdv A outer s H vs Q E hr h => ?_)
  · obtain ⟨t, ns, rfl, _⟩ := h
    rfl
  · obtain ⟨t, ns, rfl, hT, hQ⟩ := h
    refine ⟨_, pss_cons (ps_set (i := 1) scDiv.nd rfl (Or.inl rfl) pe_int)
      (pss_cons (ps_for PassesOwn.never rfl (pi_tup (pv 0)) (pg_name (i := 2) scDiv.nd rfl (Or.inl rfl))
        (pss_one (ps_set (i := 1) scDiv.nd rfl (Or.inl rfl) (pe_g G (hr.mono (by decide)) rfl pass0 (pa_cons (pv 1) (pa_cons (pv 2) pa_nil))))))
      (pss_one (ps_ret (pv 1)))), ?_⟩
    refine ⟨_, rfl, t, rfl, ⟨_, hT⟩, for_tup (K := K) (a := t) (xs := ns.map V.int) (fun i σ H' => H' = H ∧ ∃ v : Option V, σ = [some (.ref t), some (.int ((gcdL (ns.take i) : Nat) : Int)), v]) ⟨rfl, _, rfl⟩ (fun i σ H' _ h => h.1 ▸ hT) ?_ ?_⟩
    · rintro i x σ H' hi ⟨rfl, v, rfl⟩
      obtain ⟨z, hz, rfl⟩ := int_of_map hi
      refine ⟨_, rfl, _, rfl, _, _, rfl, rfl, some (.int z), ?_⟩
      rw [gcdL_take hz]
      rfl
    · rintro σ H' ⟨rfl, v, rfl⟩
      refine ⟨_, rfl, ?_⟩
      rw [List.length_map, List.take_length]
      exact hQ

/-! ### plus -/
def NewT (H : Hp) (ns : Pl) (Q : VK) : Prop := ∀ H' p, Same H H' → H' p = some (.tup (ns.map V.int)) → Q (.ref p) H'
def spPlus (K : PySem.W.Frag) : Sp := fun vs H Q _ => ∃ (a b : Addr) (ns ms : Pl), vs = [.ref a, .ref b] ∧ SqT K H a (ns.map V.int) ∧ SqT K H b (ms.map V.int) ∧ ns.length = ms.length ∧ ns.length ≤ 1000 ∧ NewT H (plusL ns ms) Q
theorem scPlus : FnScope ["one", "other", "k"] ["one", "other"] (defScope sPlus) := ⟨rfl, rfl, rfl, by decide +kernel, rfl, by decide +kernel, by decide +kernel⟩
theorem _root_.L2.Same.sqt {H H' : Hp} {a : Addr} {xs : List V} (e : Same H H') (h : SqT K H a xs) : SqT K H' a xs := h.imp (fun x => x.imp (fun y => e _ _ y) fun ⟨o, y⟩ => ⟨o, e _ _ y⟩) id
theorem _root_.L2.Same.upd {H H1 : Hp} {p : Addr} {o : HO} (e : Same H H1) (h : H1 p = none) : Same H (upd H1 p o) := fun b u hb => by
  rw [upd_ne (ne_of_none (e b u hb) h)]
  exact e b u hb
theorem _root_.L2.Same.updN {H H1 : Hp} {p : Addr} {o : HO} (e : Same H H1) (h : H p = none) : Same H (L2.upd H1 p o) := fun b u hb => by
  rw [upd_ne (ne_of_none hb h)]
  exact e b u hb
theorem line1000 {n : Nat} (h : n ≤ 1000) : n ≤ sizeLine := Nat.le_of_lt (small1000 h)
theorem plus_take {ns ms : Pl} {i : Nat} {x y : Int} (h1 : ns[i]? = some x) (h2 : ms[i]? = some y) : (plusL ns ms).take (i + 1) = (plusL ns ms).take i ++ [x + y] := by
  rw [List.take_add_one]
  have : (plusL ns ms)[i]? = some (x + y) := by
    unfold plusL
    rw [List.getElem?_zipWith, h1, h2]
  rw [this]
  rfl
theorem ok_plus {f : Addr} {fd : FuncData} (F : Fun K "plus" "plus" sPlus f fd) (mT : mg "tuple" = none) (mR : mg "range" = none) (mL : mg "len" = none) : FnOk P w K mg base CX0 3 f fd ["one", "other"] (spPlus K) := by
  refine F.ok scPlus (fun vs H Q E h => ?_) (fun cdv A outer s H vs Q E hr h => ?_)
  · obtain ⟨a, b, ns, ms, rfl, _⟩ := h
    rfl
  · obtain ⟨a, b, ns, ms, rfl, hA, hB, hl, hz, hQ⟩ := h
    refine ⟨_, pss_one (ps_ret (pe_callTy call_tuple_of (by rfl) mT (by decide +kernel) (pa_cons
      (pe_lc (own := [("k", 2)]) (g := gName 2) (tt := tYes) rfl scPlus.nd (pi_range1 (by rfl) mR (pa_cons (pe_callB call_len_seq (by rfl) mL PySem.boot_len (pa_cons (pv 0) pa_nil)) pa_nil))
        (blkOk_by (N := ["one", "other", "k"]) (sc := defScope sPlus) (by decide +kernel)) (fun _ _ _ _ _ => pg_name (i := 2) scPlus.nd rfl (Or.inl rfl)) (fun _ _ _ _ _ => pts_nil)
        (fun _ _ _ _ _ => pe_op op_add (pe_ix (r := rIxT K) ix_tup (pv 0) (pv 2) (fun _ _ => rfl)) (pe_ix (r := rIxT K) ix_tup (pv 1) (pv 2) (fun _ _ => rfl)))) pa_nil))), ?_⟩
    refine ⟨_, rfl, a, _, rfl, .inr hA, _, rfl, ?_, ?_, fun D hD => ?_⟩
    · rw [List.length_map]; omega
    · rw [List.length_map]; omega
    rw [List.length_map]
    refine lc_range (lo := 0) (n := ((ns.length : Nat) : Int).toNat) (fun i H' => H' = L2.upd H D (.lst (((plusL ns ms).take i).map V.int))) ?_ ?_ ?_
    · rfl
    · rintro i H' hi rfl
      have hi' : i < ns.length := by omega
      have e1 : ns[i]? = some ns[i] := List.getElem?_eq_getElem hi'
      have e2 : ms[i]? = some ms[i] := List.getElem?_eq_getElem (by omega)
      have s1 : Same H (L2.upd H D (.lst (((plusL ns ms).take i).map V.int))) := (Same.refl H).upd hD
      refine ⟨rfl, _, rfl, _, rfl, a, _, _, _, rfl, rfl, s1.sqt hA, at_of (j := i) (by omega) (by rw [List.getElem?_map, e1]; rfl), _, rfl, _, rfl, b, _, _, _, rfl, rfl, s1.sqt hB, at_of (j := i) (by omega) (by rw [List.getElem?_map, e2]; rfl), _, _, rfl, rfl, _, upd_same, ?_, ?_⟩
      · rw [List.length_map]
        have := List.length_take_le i (plusL ns ms)
        have : (plusL ns ms).length ≤ ns.length := by unfold plusL; rw [List.length_zipWith]; omega
        exact small1000 (by omega)
      · show L2.upd _ _ _ = _
        rw [upd_upd, plus_take e1 e2, List.map_append]
        rfl
    · rintro H' rfl
      refine ⟨D, _, rfl, .inl ⟨SqL.of upd_same, fun l hl2 => ?_⟩⟩
      refine hQ _ _ (Same.upd ((Same.refl H).upd hD) hl2) ?_
      rw [upd_same, List.take_of_length_le]
      unfold plusL
      rw [List.length_zipWith]
      omega
end
end K94
namespace K94
open PySem L2
/-! ### places in the heap -/
def IsPl (H : Hp) (v : V) (ns : Pl) : Prop := ∃ t : Addr, v = .ref t ∧ H t = some (.tup (ns.map V.int))
abbrev ArePl (H : Hp) : List V → List Pl → Prop := Paired (IsPl H)
theorem IsPl.same {H H' : Hp} {v : V} {ns : Pl} (h : IsPl H v ns) (e : Same H H') : IsPl H' v ns := by
  obtain ⟨t, rfl, ht⟩ := h
  exact ⟨t, rfl, e _ _ ht⟩
theorem paired_same {α : Type} {F : Hp → V → α → Prop} (hF : ∀ (H H' : Hp) (v : V) (a : α), F H v a → Same H H' → F H' v a) {H H' : Hp} (e : Same H H') : ∀ {vs : List V} {as : List α}, Paired (F H) vs as → Paired (F H') vs as
  | _, _, .nil => .nil
  | _, _, .cons h t => .cons (hF _ _ _ _ h e) (paired_same hF e t)
theorem paired_app {α β : Type} {F : α → β → Prop} : ∀ {xs ys : List α} {us ws : List β}, Paired F xs us → Paired F ys ws → Paired F (xs ++ ys) (us ++ ws)
  | _, _, _, _, .nil, s => s
  | _, _, _, _, .cons r t, s => .cons r (paired_app t s)
theorem paired_get {α β : Type} {F : α → β → Prop} : ∀ {xs : List α} {us : List β} {i : Nat} {x : α}, Paired F xs us → xs[i]? = some x → ∃ u, us[i]? = some u ∧ F x u
  | _, _, i, x, .nil, e => by simp at e
  | _, _, 0, x, .cons r t, e => by
    simp only [List.getElem?_cons_zero, Option.some.injEq] at e
    subst e
    exact ⟨_, rfl, r⟩
  | _, _, i + 1, x, .cons r t, e => by
    simp only [List.getElem?_cons_succ] at e
    obtain ⟨u, h1, h2⟩ := paired_get t e
    exact ⟨u, by simpa using h1, h2⟩
theorem ArePl.same {H H' : Hp} {vs : List V} {nss : List Pl} (h : ArePl H vs nss) (e : Same H H') : ArePl H' vs nss := paired_same (fun _ _ _ _ a b => a.same b) e h
theorem _root_.L2.Same.one {H : Hp} {p : Addr} {o : HO} (h : H p = none) : Same H (upd H p o) := (Same.refl H).upd h
/-- all but at the addresses M is as it was -/
def Keep (M : List Addr) (H H' : Hp) : Prop := ∀ b o, b ∉ M → H b = some o → H' b = some o
theorem Keep.refl {M : List Addr} {H : Hp} : Keep M H H := fun _ _ _ h => h
theorem Keep.trans {M : List Addr} {H H1 H2 : Hp} (a : Keep M H H1) (b : Keep M H1 H2) : Keep M H H2 := fun c o hc h => b c o hc (a c o hc h)
theorem Keep.of {M : List Addr} {H H' : Hp} (a : Same H H') : Keep M H H' := fun b o _ h => a b o h
theorem Keep.upd {M : List Addr} {H H1 : Hp} {p : Addr} {o : HO} (a : Keep M H H1) (h : p ∈ M) : Keep M H (upd H1 p o) := fun b u hb e => by
  rw [upd_ne (fun q => hb (by rw [q]; exact h))]
  exact a b u hb e
theorem Keep.new {M : List Addr} {H H1 : Hp} {p : Addr} {o : HO} (a : Keep M H H1) (h : H1 p = none) : Keep M H (L2.upd H1 p o) := fun b u hb e => by
  rw [upd_ne (ne_of_none (a b u hb e) h)]
  exact a b u hb e
theorem Keep.updN {M : List Addr} {H H1 : Hp} {p : Addr} {o : HO} (a : Keep M H H1) (h : H p = none) : Keep M H (L2.upd H1 p o) := fun b u hb e => by
  rw [upd_ne (ne_of_none e h)]
  exact a b u hb e
theorem Keep.mono {M N : List Addr} {H H' : Hp} (a : Keep M H H') (h : ∀ x ∈ M, x ∈ N) : Keep N H H' := fun b o hb e => a b o (fun q => hb (h b q)) e
theorem Keep.same {H H' : Hp} (a : Keep [] H H') : Same H H' := fun b o e => a b o (by simp) e
section
variable {P : Program} {w : World} {K : PySem.W.Frag} {mg : Str → Option Value} {base : Heap}
/-! ### power -/
def spPower : Sp := fun vs H Q _ => ∃ p s : Int, vs = [.int p, .int s] ∧ Sz s ∧ 0 ≤ p ∧ p ≤ 100 ∧ Q (.int (pw p s)) H
theorem scPower : FnScope ["prime", "size"] ["prime", "size"] (defScope sPower) := ⟨rfl, rfl, rfl, by decide +kernel, rfl, by decide +kernel, by decide +kernel⟩
theorem dec_i {a b : Int} (h : a = b) : decide (V.int a = V.int b) = true := decide_eq_true (by rw [h])
theorem dec_n {a b : Int} (h : ¬ a = b) : decide (V.int a = V.int b) = false := decide_eq_false fun q => h (by injection q)
theorem ok_power {f : Addr} {fd : FuncData} (F : Fun K "power" "power" sPower f fd) : FnOk P w K mg base CX0 1 f fd ["prime", "size"] spPower := by
  refine F.ok scPower (fun vs H Q E h => ?_) (fun cdv A outer s H vs Q E hr h => ?_)
  · obtain ⟨a, b, rfl, _⟩ := h
    rfl
  · obtain ⟨p, z, rfl, hz, h0, h1, hQ⟩ := h
    refine ⟨_, pss_one (ps_ret (pe_ifExp (pt_cmpR op_eq (pv 1) pe_int (nomark _)) (pe_op op_mul (pv 0) (pv 0)) (pe_op op_mul (pe_op op_mul (pv 0) (pv 0)) (pv 0)))), ?_⟩
    refine ⟨_, rfl, rfl, _, rfl, ?_⟩
    refine ite2 (fun hc => ?_) (fun hc => ?_)
    · have e : z = 2 := by
        have := of_decide_eq_true hc
        injection this
      subst e
      refine ⟨_, rfl, _, rfl, _, _, rfl, rfl, .inl ⟨by omega, by omega⟩, hQ⟩
    · have e : ¬ z = 2 := fun q => hc (dec_i q)
      have hp : p * p ≤ 10000 := by
        have := Int.mul_le_mul h1 h1 h0 (by omega)
        omega
      have hp0 : 0 ≤ p * p := Int.mul_nonneg h0 h0
      refine ⟨_, rfl, _, rfl, _, _, rfl, rfl, .inl ⟨by omega, by omega⟩, _, rfl, _, _, rfl, rfl, .inl ⟨by omega, by omega⟩, ?_⟩
      unfold pw at hQ
      rw [if_neg e] at hQ
      exact hQ
/-! ### remainders_by -/
def spRem (K : PySem.W.Frag) : Sp := fun vs H Q _ => ∃ (a : Addr) (p : Int) (ns : Pl), vs = [.ref a, .int p] ∧ SqT K H a (ns.map V.int) ∧ 0 < p ∧ ns.length ≤ 1000 ∧ NewT H (rmd p ns) Q
theorem scRem : FnScope ["place", "prime", "coordinate"] ["place", "prime"] (defScope sRem) := ⟨rfl, rfl, rfl, by decide +kernel, rfl, by decide +kernel, by decide +kernel⟩
theorem map_take {α β : Type} {g : α → β} {ns : List α} {i : Nat} {z : α} (h : ns[i]? = some z) : (ns.map g).take (i + 1) = (ns.map g).take i ++ [g z] := by
  rw [List.take_add_one, List.getElem?_map, h]
  rfl
theorem ok_rem {f : Addr} {fd : FuncData} (F : Fun K "remainders_by" "remainders_by" sRem f fd) (mT : mg "tuple" = none) (mI : mg "int" = none) : FnOk P w K mg base CX0 3 f fd ["place", "prime"] (spRem K) := by
  refine F.ok scRem (fun vs H Q E h => ?_) (fun cdv A outer s H vs Q E hr h => ?_)
  · obtain ⟨a, b, ns, rfl, _⟩ := h
    rfl
  · obtain ⟨a, p, ns, rfl, hA, hp, hl, hQ⟩ := h
    refine ⟨_, pss_one (ps_ret (pe_callTy call_tuple_of (by rfl) mT (by decide +kernel) (pa_cons
      (pe_lc (own := [("coordinate", 2)]) (g := gName 2) (tt := tYes) rfl scRem.nd (pi_tup (pv 0))
        (blkOk_by (N := ["place", "prime", "coordinate"]) (sc := defScope sRem) (by decide +kernel)) (fun _ _ _ _ _ => pg_name (i := 2) scRem.nd rfl (Or.inl rfl)) (fun _ _ _ _ _ => pts_nil)
        (fun _ _ _ _ _ => pe_op op_mod (pe_callTy call_int1 (by rfl) mI (by decide +kernel) (pa_cons (pv 2) pa_nil)) (pv 1))) pa_nil))), ?_⟩
    refine ⟨_, rfl, a, rfl, ⟨_, hA⟩, fun D hD => ?_⟩
    refine lc_tup (K := K) (xs := ns.map V.int) (fun i H' => H' = L2.upd H D (.lst (((rmd p ns).take i).map V.int))) rfl (fun i H' _ e => ?_) ?_ ?_
    · rw [e]
      exact (Same.one hD).sqt hA
    · rintro i x H' hi rfl
      obtain ⟨z, hz, rfl⟩ := int_of_map hi
      refine ⟨rfl, _, rfl, .inl ⟨_, rfl, _, rfl, _, _, rfl, rfl, hp, _, upd_same, ?_, ?_⟩⟩
      · rw [List.length_map]
        have := List.length_take_le' i (rmd p ns)
        rw [rmd_len] at this
        exact small1000 (by omega)
      · show L2.upd _ _ _ = _
        rw [upd_upd, show (rmd p ns).take (i + 1) = (rmd p ns).take i ++ [z % p] from map_take hz, List.map_append]
        rfl
    · rintro H' rfl
      refine ⟨D, _, rfl, .inl ⟨SqL.of upd_same, fun l hl2 => ?_⟩⟩
      refine hQ _ _ (Same.upd (Same.one hD) hl2) ?_
      rw [upd_same, List.length_map, List.take_of_length_le (by rw [rmd_len]; omega)]
/-! ### numbered, all_remainders -/
def spNumb : Sp := fun vs H Q _ => ∃ s p k : Int, vs = [.int s, .int p, .int k] ∧ 1 < p ∧ p ≤ 100 ∧ NewT H (nbd s p k) Q
theorem scNumb : FnScope ["size", "prime", "k", "found"] ["size", "prime", "k"] (defScope sNumb) := ⟨rfl, rfl, rfl, by decide +kernel, rfl, by decide +kernel, by decide +kernel⟩
theorem ok_numb {f : Addr} {fd : FuncData} (F : Fun K "numbered" "numbered" sNumb f fd) (mI : mg "int" = none) : FnOk P w K mg base CX0 3 f fd ["size", "prime", "k"] spNumb := by
  refine F.ok scNumb (fun vs H Q E h => ?_) (fun cdv A outer s H vs Q E hr h => ?_)
  · obtain ⟨a, b, c, rfl, _⟩ := h
    rfl
  · obtain ⟨z, p, k, rfl, h1, h2, hQ⟩ := h
    have hpp : 0 < p * p ∧ p * p ≤ 10000 := by
      have h3 := Int.mul_le_mul h2 h2 (by omega) (by omega)
      have h4 : 0 < p * p := Int.mul_pos (by omega) (by omega)
      omega
    refine ⟨_, pss_cons (ps_set (i := 3) scNumb.nd rfl (Or.inl rfl) (pe_tup (pa_cons (pe_op op_mod (pe_op op_fdiv (pe_callTy call_int1 (by rfl) mI (by decide +kernel) (pa_cons (pv 2) pa_nil)) (pv 1)) (pv 1))
        (pa_cons (pe_op op_mod (pe_callTy call_int1 (by rfl) mI (by decide +kernel) (pa_cons (pv 2) pa_nil)) (pv 1)) pa_nil))))
      (pss_cons (ps_if (pt_cmpR op_eq (pv 0) pe_int (nomark _)) (pss_one (ps_ret (pe_op op_catT (pe_tup (pa_cons (pe_op op_fdiv (pe_callTy call_int1 (by rfl) mI (by decide +kernel) (pa_cons (pv 2) pa_nil)) (pe_op op_mul (pv 1) (pv 1))) pa_nil)) (pv 3)))) pss_nil)
      (pss_one (ps_ret (pv 3)))), ?_⟩
    refine ⟨_, rfl, .inl ⟨_, rfl, _, rfl, _, _, rfl, rfl, ⟨by omega, by omega⟩, _, rfl, _, _, rfl, rfl, (by omega), _, rfl, .inl ⟨_, rfl, _, rfl, _, _, rfl, rfl, (by omega), ?_⟩⟩⟩
    refine ⟨line1000 (by show 2 ≤ 1000; decide), fun t ht => ?_⟩
    refine ⟨_, rfl, rfl, _, rfl, ?_⟩
    unfold nbd at hQ
    refine ite2 (fun hc => ?_) (fun hc => ?_)
    · have e : z = 3 := by
        have := of_decide_eq_true hc
        injection this
      rw [if_pos e] at hQ
      refine ⟨_, rfl, .inl ⟨_, rfl, _, rfl, _, rfl, _, _, rfl, rfl, .inl ⟨by omega, by omega⟩, _, _, rfl, rfl, ⟨by omega, by omega⟩, line1000 (by show 1 ≤ 1000; decide), fun u hu => ?_⟩⟩
      refine ⟨_, rfl, u, t, _, _, rfl, rfl, SqT.of upd_same, SqT.of (by rw [upd_ne (fun q => by rw [q, upd_same] at hu; cases hu)]; exact upd_same), by simp, line1000 (by show 1 + 2 ≤ 1000; decide), fun q => by simp at q, fun _ v hv => ?_⟩
      exact hQ _ _ (Same.upd (Same.upd (Same.one ht) hu) hv) upd_same
    · have e : ¬ z = 3 := fun q => hc (dec_i q)
      rw [if_neg e] at hQ
      exact ⟨_, rfl, hQ _ _ (Same.one ht) upd_same⟩
def NewPls (H : Hp) (nss : List Pl) (Q : VK) : Prop := ∀ H' l vs, Same H H' → H' l = some (.lst vs) → ArePl H' vs nss → Q (.ref l) H'
def spAllR : Sp := fun vs H Q _ => ∃ s p : Int, vs = [.int s, .int p] ∧ Sz s ∧ 1 < p ∧ p ≤ 100 ∧ NewPls H (allR s p) Q
theorem scAllR : FnScope ["size", "prime", "k"] ["size", "prime"] (defScope sAllR) := ⟨rfl, rfl, rfl, by decide +kernel, rfl, by decide +kernel, by decide +kernel⟩
theorem pw_bd {s p : Int} (h0 : 0 ≤ p) (h1 : p ≤ 100) : 0 ≤ pw p s ∧ pw p s ≤ 1000000 := by
  have a : 0 ≤ p * p := Int.mul_nonneg h0 h0
  have b : p * p ≤ 10000 := by
    have := Int.mul_le_mul h1 h1 h0 (by omega)
    omega
  unfold pw
  split
  · omega
  · have c : 0 ≤ p * p * p := Int.mul_nonneg a h0
    have d : p * p * p ≤ 1000000 := by
      have := Int.mul_le_mul b h1 h0 (by omega)
      omega
    exact ⟨c, d⟩
theorem ok_allR {f : Addr} {fd : FuncData} (F : Fun K "all_remainders" "all_remainders" sAllR f fd) (mR : mg "range" = none) (GP : GF P w K mg base CX0 1 "power" ["prime", "size"] spPower) (GN : GF P w K mg base CX0 3 "numbered" ["size", "prime", "k"] spNumb) :
    FnOk P w K mg base CX0 5 f fd ["size", "prime"] spAllR := by
  refine F.ok scAllR (fun vs H Q E h => ?_) (fun cdv A outer s H vs Q E hr h => ?_)
  · obtain ⟨a, b, rfl, _⟩ := h
    rfl
  · obtain ⟨z, p, rfl, hz, h1, h2, hQ⟩ := h
    have hb := pw_bd (s := z) (p := p) (by omega) h2
    refine ⟨_, pss_one (ps_ret (pe_lc (own := [("k", 2)]) (g := gName 2) (tt := tYes) rfl scAllR.nd (pi_range1 (by rfl) mR (pa_cons (pe_g GP (hr.mono (by decide)) rfl pass0 (pa_cons (pv 1) (pa_cons (pv 0) pa_nil))) pa_nil))
        (blkOk_by (N := ["size", "prime", "k"]) (sc := defScope sAllR) (by decide +kernel)) (fun _ _ _ _ _ => pg_name (i := 2) scAllR.nd rfl (Or.inl rfl)) (fun _ _ _ _ _ => pts_nil)
        (fun _ _ _ _ _ => pe_g GN (hr.mono (by decide)) rfl pass0 (pa_cons (pv 0) (pa_cons (pv 1) (pa_cons (pv 2) pa_nil)))))), ?_⟩
    refine ⟨_, rfl, _, rfl, p, z, rfl, hz, by omega, h2, _, rfl, by omega, by omega, fun D hD => ?_⟩
    refine lc_range (lo := 0) (n := (pw p z).toNat) (fun i H' => Same H H' ∧ ∃ vs, H' D = some (.lst vs) ∧ ArePl H' vs ((allR z p).take i)) ⟨Same.one hD, [], upd_same, .nil⟩ ?_ ?_
    · rintro i H' hi ⟨s1, vs, hv, ha⟩
      refine ⟨rfl, _, rfl, _, rfl, _, rfl, z, p, _, rfl, h1, h2, fun H2 t s2 ht => ⟨vs, s2 _ _ hv, ?_, ?_⟩⟩
      · have e1 := Paired.length ha
        have e2 := List.length_take_le i (allR z p)
        rw [e1]
        exact Nat.lt_of_le_of_lt e2 (Nat.lt_of_lt_of_le (show i < 16777216 by omega) (by rw [sizeLine_eq]; decide))
      · have nD : t ≠ D := fun q => by
          rw [q, s2 _ _ hv] at ht
          cases ht
        have s3 : Same H (L2.upd H2 D (.lst (vs ++ [.ref t]))) := (s1.trans s2).updN hD
        have s4 : ∀ {v : V} {ns : Pl}, IsPl H' v ns → IsPl (L2.upd H2 D (.lst (vs ++ [.ref t]))) v ns := fun {v ns} h => by
          obtain ⟨u, rfl, hu⟩ := h.same s2
          exact ⟨u, rfl, by rw [upd_ne (fun q => by rw [q, s2 _ _ hv] at hu; cases hu)]; exact hu⟩
        refine ⟨s3, _, upd_same, ?_⟩
        have e1 : (allR z p)[i]? = some (nbd z p (0 + (i : Int))) := by
          unfold allR
          rw [List.getElem?_map, List.getElem?_range hi, Int.zero_add]
          rfl
        rw [List.take_add_one, e1]
        exact paired_app (Paired.mapP ha fun a b h => s4 h) (.cons ⟨t, rfl, by rw [upd_ne nD]; exact ht⟩ .nil)
    · rintro H' ⟨s1, vs, hv, ha⟩
      refine hQ _ _ _ s1 hv ?_
      rw [List.take_of_length_le (by rw [allR_len]; exact Nat.le_refl _)] at ha
      exact ha
end
end K94
namespace K94
open PySem L2
abbrev sPool : Stmt := top 41
abbrev sTake : Stmt := top 42
abbrev sLgcd : Stmt := top 43
abbrev sNear : Stmt := top 47
section
variable {P : Program} {w : World} {K : PySem.W.Frag} {mg : Str → Option Value} {base : Heap}
/-! ### _law_pool -/
def spPool (K : PySem.W.Frag) : Sp := fun vs H Q _ => ∃ (a : Addr) (ns : List Int) (k : Int), vs = [.ref a, .int k] ∧ SqL K H a (ns.map V.int) ∧ 0 ≤ k ∧ k ≤ 100 ∧ ∀ p z, H p = none → Q (.ref p) (L2.upd H p (.lst [.int z]))
theorem scPool : FnScope ["_law_script", "_law_k", "_law_cell", "_law_mixed"] ["_law_script", "_law_k"] (defScope sPool) := ⟨rfl, rfl, rfl, by decide +kernel, rfl, by decide +kernel, by decide +kernel⟩
theorem ok_pool {f : Addr} {fd : FuncData} (F : Fun K "_law_pool" "_law_pool" sPool f fd) (mL : mg "len" = none) (mI : mg "int" = none) : FnOk P w K mg base CX0 3 f fd ["_law_script", "_law_k"] (spPool K) := by
  refine F.ok scPool (fun vs H Q E h => ?_) (fun cdv A outer s H vs Q E hr h => ?_)
  · obtain ⟨a, ns, k, rfl, _⟩ := h
    rfl
  · obtain ⟨a, ns, k, rfl, hA, h0, h1, hQ⟩ := h
    refine ⟨_, pss_cons (ps_set (i := 2) scPool.nd rfl (Or.inl rfl) pe_int)
      (pss_cons (ps_if (pt_cmpR op_lt (pv 1) (pe_callB call_len_seq (by rfl) mL PySem.boot_len (pa_cons (pv 0) pa_nil)) (nomark _))
        (pss_one (ps_set (i := 2) scPool.nd rfl (Or.inl rfl) (pe_ix ix_list (pv 0) (pv 1) (fun _ _ => rfl)))) pss_nil)
      (pss_cons (ps_if (pt_cmpR op_ge (pv 2) (pe_op op_pow pe_int pe_int) (nomark _)) (pss_one (ps_ret (pe_lst (pa_cons (pe_op op_sub (pv 2) (pe_op op_pow pe_int pe_int)) pa_nil)))) pss_nil)
      (pss_cons (ps_set (i := 3) scPool.nd rfl (Or.inl rfl) (pe_op op_add (pe_op op_mod (pe_callTy call_int1 (by rfl) mI (by decide +kernel) (pa_cons (pv 2) pa_nil)) (pe_op op_add (pe_op op_pow pe_int pe_int) pe_int))
          (pe_op op_mul pe_int (pe_op op_add (pv 1) pe_int))))
      (pss_one (ps_ret (pe_lst (pa_cons (pe_op op_fdiv (pe_op op_pow (pv 3) pe_int) (pe_op op_pow pe_int pe_int)) pa_nil))))))), ?_⟩
    have p18 : CPow 10 18 := ⟨by decide, by decide, by decide⟩
    have p9 : CPow 10 9 := ⟨by decide, by decide, by decide⟩
    have e18 : (10 : Int) ^ (18 : Int).toNat = 1000000000000000000 := by decide
    have e9 : (10 : Int) ^ (9 : Int).toNat = 1000000000 := by decide
    have go : ∀ (c : Int), (tSeq (tIfS (tTest (tOp (rI0 fun i j => .bl (decide (j ≤ i))) (tVar 2) (tOp (rI CPow fun i j => .int (i ^ j.toNat)) (tC (.int 10)) (tC (.int 18)))))
        (tRet (tLst (tCons (tOp (rI0 fun i j => .int (i - j)) (tVar 2) (tOp (rI CPow fun i j => .int (i ^ j.toNat)) (tC (.int 10)) (tC (.int 18)))) tNil))) tNext)
        (tSeq (tAsg (tOp (rI0 fun i j => .int (i + j)) (tOp (rI (fun _ j => 0 < j) fun i j => .int (i % j)) (tCB (fun xs H Q => (∃ i, xs = [.int i] ∧ Q (.int i) H) ∨ ∃ k, xs = [.bl k] ∧ Q (.int (if k then 1 else 0)) H) (tCons (tVar 2) tNil))
            (tOp (rI0 fun i j => .int (i + j)) (tOp (rI CPow fun i j => .int (i ^ j.toNat)) (tC (.int 10)) (tC (.int 18))) (tC (.int 9)))) (tOp (rI CMul fun i j => .int (i * j)) (tC (.int 1000000007)) (tOp (rI0 fun i j => .int (i + j)) (tVar 1) (tC (.int 2))))) (gName 3))
          (tRet (tLst (tCons (tOp (rI CDiv fun i j => .int (i / j)) (tOp (rI CPow fun i j => .int (i ^ j.toNat)) (tVar 3) (tC (.int 64))) (tOp (rI CPow fun i j => .int (i ^ j.toNat)) (tC (.int 10)) (tC (.int 9)))) tNil)))))
        { nx := fun _ H' => Q .non H', rt := Q } [some (.ref a), some (.int k), some (.int c), none] H := by
      intro c
      refine ⟨_, rfl, _, _, rfl, rfl, p18, _, _, rfl, rfl, _, rfl, ?_⟩
      refine ite2 (fun hc => ?_) (fun hc => ?_)
      · refine ⟨_, rfl, _, _, rfl, rfl, p18, _, _, rfl, rfl, line1000 (by show 1 ≤ 1000; decide), fun p hp => hQ _ _ hp⟩
      · refine ⟨_, rfl, .inl ⟨_, rfl, _, _, rfl, rfl, p18, _, _, rfl, rfl, _, _, rfl, rfl, ?_, _, rfl, _, _, rfl, rfl, _, _, rfl, rfl, .inl ⟨by decide, by decide⟩, _, _, rfl, rfl, ?_⟩⟩
        · show (0 : Int) < _; rw [e18]; decide
        · refine ⟨_, rfl, _, _, rfl, rfl, ⟨by decide, by decide, ?_⟩, _, _, rfl, rfl, p9, _, _, rfl, rfl, ⟨by rw [e9]; decide, by rw [e9]; decide⟩, line1000 (by show 1 ≤ 1000; decide), fun p hp => hQ _ _ hp⟩
          rw [e18]
          have b1 := Int.emod_nonneg c (show (1000000000000000000 + 9 : Int) ≠ 0 by decide)
          have b2 := Int.emod_lt_of_pos c (show (0 : Int) < 1000000000000000000 + 9 by decide)
          omega
    refine ⟨_, rfl, _, rfl, a, _, rfl, .inl hA, _, _, rfl, rfl, _, rfl, ?_⟩
    rw [List.length_map]
    refine ite2 (fun hc => ?_) (fun hc => ?_)
    · have hlt : k < (ns.length : Int) := of_decide_eq_true hc
      have e1 : ns[k.toNat]? = some (ns[k.toNat]'(by omega)) := List.getElem?_eq_getElem _
      refine ⟨_, rfl, _, rfl, a, _, _, _, rfl, rfl, hA, at_of (j := k.toNat) (by omega) (by rw [List.getElem?_map, e1]; rfl), go _⟩
    · exact go 0
/-! ### _law_take, _law_near -/
def spTake : Sp := fun vs H Q _ => ∃ (p : Addr) (z m : Int), vs = [.ref p, .int m] ∧ H p = some (.lst [.int z]) ∧ 0 < m ∧ m.natAbs < 2 ^ 300 ∧ ∀ d z' : Int, 0 ≤ d → d < m → Q (.int d) (L2.upd H p (.lst [.int z']))
theorem scTake : FnScope ["_law_pool_here", "_law_parts", "_law_drawn"] ["_law_pool_here", "_law_parts"] (defScope sTake) := ⟨rfl, rfl, rfl, by decide +kernel, rfl, by decide +kernel, by decide +kernel⟩
theorem ok_take {f : Addr} {fd : FuncData} (F : Fun K "_law_take" "_law_take" sTake f fd) (mI : mg "int" = none) : FnOk P w K mg base CX0 3 f fd ["_law_pool_here", "_law_parts"] spTake := by
  refine F.ok scTake (fun vs H Q E h => ?_) (fun cdv A outer s H vs Q E hr h => ?_)
  · obtain ⟨a, z, m, rfl, _⟩ := h
    rfl
  · obtain ⟨p, z, m, rfl, hp, h0, h1, hQ⟩ := h
    refine ⟨_, pss_cons (ps_set (i := 2) scTake.nd rfl (Or.inl rfl) (pe_op op_mod (pe_callTy call_int1 (by rfl) mI (by decide +kernel) (pa_cons (pe_ix ix_list (pv 0) pe_int (fun _ _ => rfl)) pa_nil)) (pv 1)))
      (pss_cons (ps_asg (pe_op op_fdivW (pe_ix ix_list (pv 0) pe_int (fun _ _ => rfl)) (pv 1)) (pg_sub (pv 0) pe_int set_list))
      (pss_one (ps_ret (pv 2)))), ?_⟩
    refine ⟨_, rfl, p, _, _, _, rfl, rfl, SqL.of hp, at_of (j := 0) rfl rfl, .inl ⟨_, rfl, _, rfl, _, _, rfl, rfl, h0, ?_⟩⟩
    refine ⟨_, rfl, p, _, _, _, rfl, rfl, SqL.of hp, at_of (j := 0) rfl rfl, _, rfl, _, _, rfl, rfl, wide_div h0 h1 (by decide) (by decide), ?_⟩
    refine ⟨_, rfl, p, _, _, _, rfl, rfl, hp, rfl, ?_⟩
    exact ⟨_, rfl, hQ _ _ (Int.emod_nonneg _ (by omega)) (Int.emod_lt_of_pos _ h0)⟩
/-- the pool at p: a list of one int -/
def PoolAt (H : Hp) (p : Addr) : Prop := ∃ z : Int, H p = some (.lst [.int z])
def Bd (m : Int) (ns : Pl) : Prop := ∀ x ∈ ns, -m ≤ x ∧ x ≤ m
def spNear : Sp := fun vs H Q _ => ∃ (p : Addr) (n : Nat) (m : Int), vs = [.ref p, .int n, .int m] ∧ PoolAt H p ∧ n ≤ 10 ∧ 0 ≤ m ∧ m.natAbs < 2 ^ 290 ∧
  ∀ H' v ns, Keep [p] H H' → PoolAt H' p → IsPl H' v ns → ns.length = n → Bd m ns → Q v H'
theorem scNear : FnScope ["_law_pool_here", "_law_many", "_law_most", "_law_k"] ["_law_pool_here", "_law_many", "_law_most"] (defScope sNear) := ⟨rfl, rfl, rfl, by decide +kernel, rfl, by decide +kernel, by decide +kernel⟩
theorem ok_near {f : Addr} {fd : FuncData} (F : Fun K "_law_near" "_law_near" sNear f fd) (mT : mg "tuple" = none) (mR : mg "range" = none) (GT : GF P w K mg base CX0 3 "_law_take" ["_law_pool_here", "_law_parts"] spTake) :
    FnOk P w K mg base CX0 5 f fd ["_law_pool_here", "_law_many", "_law_most"] spNear := by
  refine F.ok scNear (fun vs H Q E h => ?_) (fun cdv A outer s H vs Q E hr h => ?_)
  · obtain ⟨a, n, m, rfl, _⟩ := h
    rfl
  · obtain ⟨p, n, m, rfl, ⟨z, hp⟩, hn, h0, h1, hQ⟩ := h
    refine ⟨_, pss_one (ps_ret (pe_callTy call_tuple_of (by rfl) mT (by decide +kernel) (pa_cons
      (pe_lc (own := [("_law_k", 3)]) (g := gName 3) (tt := tYes) rfl scNear.nd (pi_range1 (by rfl) mR (pa_cons (pv 1) pa_nil))
        (blkOk_by (N := ["_law_pool_here", "_law_many", "_law_most", "_law_k"]) (sc := defScope sNear) (by decide +kernel)) (fun _ _ _ _ _ => pg_name (i := 3) scNear.nd rfl (Or.inl rfl)) (fun _ _ _ _ _ => pts_nil)
        (fun _ _ _ _ _ => pe_op op_sub (pe_g GT (hr.mono (by decide)) rfl pass0 (pa_cons (pv 0) (pa_cons (pe_op op_add (pe_op op_mul pe_int (pv 2)) pe_int) pa_nil))) (pv 2))) pa_nil))), ?_⟩
    refine ⟨_, rfl, _, rfl, by omega, by omega, fun D hD => ?_⟩
    have npD : p ≠ D := ne_of_none hp hD
    refine lc_range (lo := 0) (n := ((n : Nat) : Int).toNat) (fun i H' => Keep [p] H H' ∧ PoolAt H' p ∧ ∃ ns : Pl, H' D = some (.lst (ns.map V.int)) ∧ ns.length = i ∧ Bd m ns) ⟨Keep.new Keep.refl hD, ⟨z, by rw [upd_ne npD]; exact hp⟩, [], upd_same, rfl, fun x hx => by simp at hx⟩ ?_ ?_
    · rintro i H' hi ⟨k1, ⟨z1, hz1⟩, ns, hns, hl, hb⟩
      refine ⟨rfl, _, rfl, _, rfl, _, _, rfl, rfl, .inl ⟨by decide, by decide⟩, _, _, rfl, rfl, p, z1, _, rfl, hz1, by omega, by omega, fun d z' hd0 hd1 => ?_⟩
      refine ⟨_, rfl, _, _, rfl, rfl, ns.map V.int, by rw [upd_ne npD.symm]; exact hns, by rw [List.length_map]; exact small1000 (by omega), ?_⟩
      refine ⟨(Keep.upd k1 (List.mem_singleton.mpr rfl)).updN hD, ⟨z', by rw [upd_ne npD, upd_same]⟩, ns ++ [d - m], ?_, by simp [hl], ?_⟩
      · rw [upd_same, List.map_append]; rfl
      · intro x hx
        rcases List.mem_append.mp hx with hx | hx
        · exact hb x hx
        · rw [List.mem_singleton.mp hx]; omega
    · rintro H' ⟨k1, hp1, ns, hns, hl, hb⟩
      refine ⟨D, _, rfl, .inl ⟨SqL.of hns, fun t ht => ?_⟩⟩
      have npt : p ≠ t := by
        obtain ⟨z1, hz1⟩ := hp1
        exact ne_of_none hz1 ht
      refine hQ _ _ ns (k1.new ht) ?_ ⟨t, rfl, upd_same⟩ (by omega) hb
      obtain ⟨z1, hz1⟩ := hp1
      exact ⟨z1, by rw [upd_ne npt]; exact hz1⟩
/-! ### _law_gcd -/
def spLgcd (K : PySem.W.Frag) : Sp := fun vs H Q _ => ∃ (l : Addr) (ns : Pl), vs = [.ref l] ∧ SqL K H l (ns.map V.int) ∧ Q (.int ((gcdL ns : Nat) : Int)) H
theorem scLgcd : FnScope ["_law_values", "_law_found", "_law_value"] ["_law_values"] (defScope sLgcd) := ⟨rfl, rfl, rfl, by decide +kernel, rfl, by decide +kernel, by decide +kernel⟩
theorem ok_lgcd {f : Addr} {fd : FuncData} (F : Fun K "_law_gcd" "_law_gcd" sLgcd f fd) (mA : mg "abs" = none) (mI : mg "int" = none) : FnOk P w K mg base CX0 3 f fd ["_law_values"] (spLgcd K) := by
  refine F.ok scLgcd (fun vs H Q E h => ?_) (fun cdv A outer s H vs Q E hr h => ?_)
  · obtain ⟨t, ns, rfl, _⟩ := h
    rfl
  · obtain ⟨l, ns, rfl, hT, hQ⟩ := h
    refine ⟨_, pss_cons (ps_set (i := 1) scLgcd.nd rfl (Or.inl rfl) pe_int)
      (pss_cons (ps_for PassesOwn.never rfl (pi_list (pv 0)) (pg_name (i := 2) scLgcd.nd rfl (Or.inl rfl))
        (pss_cons (ps_set (i := 2) scLgcd.nd rfl (Or.inl rfl) (pe_callB call_abs (by rfl) mA (by decide +kernel) (pa_cons (pv 2) pa_nil)))
          (pss_one (ps_while PassesOwn.never (pt_cmpR op_ne (pv 2) pe_int (nomark _))
            (pss_one (ps_par (i := 1) (j := 2) rfl scLgcd.nd rfl rfl (by decide) rfl rfl (pa_cons (pv 2) (pa_cons (pe_op op_mod (pe_callTy call_int1 (by rfl) mI (by decide +kernel) (pa_cons (pv 1) pa_nil)) (pv 2)) pa_nil)) (by rfl)))))))
      (pss_one (ps_ret (pv 1)))), ?_⟩
    refine ⟨_, rfl, l, rfl, ⟨_, hT⟩, for_list (K := K) (a := l) (xs := ns.map V.int) (fun i σ H' => H' = H ∧ ∃ v : Option V, σ = [some (.ref l), some (.int ((gcdL (ns.take i) : Nat) : Int)), v]) ⟨rfl, _, rfl⟩ (fun i σ H' _ h => h.1 ▸ hT) ?_ ?_⟩
    · rintro i x σ H' hi ⟨rfl, v, rfl⟩
      obtain ⟨z, hz, rfl⟩ := int_of_map hi
      refine ⟨_, rfl, _, rfl, ?_⟩
      refine ⟨fun m σ H2 => ∃ x y : Nat, σ = [some (.ref l), some (.int x), some (.int y)] ∧ H2 = H' ∧ m = y ∧ Nat.gcd x y = Nat.gcd (gcdL (ns.take i)) z.natAbs, ⟨z.natAbs, gcdL (ns.take i), z.natAbs, ?_, rfl, rfl, rfl⟩, ?_⟩
      · rw [abs_if]
        rfl
      · rintro m σ H2 ⟨x, y, rfl, rfl, rfl, hg⟩
        refine ⟨_, rfl, rfl, _, rfl, ?_⟩
        by_cases hy : m = 0
        · subst hy
          rw [dec_i (by rfl)]
          refine iteF ?_
          rw [Nat.gcd_zero_right] at hg
          refine ⟨rfl, some (.int ((0 : Nat) : Int)), ?_⟩
          rw [gcdL_take hz, hg]
        · rw [dec_n (by omega)]
          refine iteT ?_
          refine ⟨fun σ' H3 => ∃ x y : Nat, y < m ∧ σ' = [some (.ref l), some (.int x), some (.int y)] ∧ H3 = H2 ∧ Nat.gcd x y = Nat.gcd (gcdL (ns.take i)) z.natAbs, ?_, ?_⟩
          · rintro σ' H3 ⟨x', y', hlt, rfl, rfl, hg'⟩
            exact ⟨y', hlt, x', y', rfl, rfl, rfl, hg'⟩
          · refine ⟨_, rfl, _, rfl, .inl ⟨_, rfl, _, rfl, _, _, rfl, rfl, (by omega), _, _, rfl, m, x % m, Nat.mod_lt _ (by omega), rfl, rfl, ?_⟩⟩
            rw [← hg, Nat.gcd_comm x m, Nat.gcd_rec m x, Nat.gcd_comm]
    · rintro σ H' ⟨rfl, v, rfl⟩
      refine ⟨_, rfl, ?_⟩
      rw [List.length_map, List.take_length]
      exact hQ
end
end K94
namespace K94
open PySem L2
open PySem.Spec PyProof.Rows
/-! ### a comprehension that collects into a set or a dict: one for, no test -/
section
variable {X : Cx}
/-- the reading: D is what is collected into (o0 at first), tb one turn's body -/
def tColl (o0 : Addr → HO) (wi : TI) (g : TG) (tb : Addr → L2.St → Hp → (Hp → Prop) → Prop) (vs : List Nat) : TE := fun σ H Q => wi σ H fun J H1 => ∀ D, H1 D = none → ∃ W : Nat → Nat → Hp → Prop, (∃ m, W 0 m (upd H1 D (o0 D))) ∧ ∀ i m H, W i m H →
  (J.stop i H ∧ Q (.ref D) H) ∨ (J.go i H ∧ ∃ Nx : Hp → Prop, (∀ H', Nx H' → ∃ m', m' < m ∧ W (i + 1) m' H') ∧ ∀ x H', J.yld i H x H' → g x (wipe σ vs) H' fun σ2 H2 => wipe σ2 vs = wipe σ vs ∧ tb D σ2 H2 Nx)
/-- a block's contexts, whatever the state at its start -/
abbrev InBlk (X : Cx) (scope : Scope) (Pr : Cx → Prop) : Prop := ∀ (s0 : Shared) (H0 : Hp) (C0 : Addr) (cl0 : List (Str × Addr)) (fp0 : List Addr), Pr (X.blk s0 H0 scope (compEnvC scope cl0 C0 X.env) fp0)
/-- what runs in one turn behind the target's store -/
abbrev TurnB : Type := Env → Addr → Around → (Shared → Prop) → Shared → Prop
def RunsTurn (Bt : TurnB) (tb : Addr → L2.St → Hp → (Hp → Prop) → Prop) (Y : Cx) : Prop :=
  ∀ (pins : List (Addr × Obj)) (s : Shared) (σ : L2.St) (H : Hp) (D : Addr) (Nx : Hp → Prop) (Pt : Shared → Prop), Inv Y pins σ H s → tb D σ H Nx → (∀ H' s', Inv Y pins σ H' s' → Nx H' → Pt s') → Bt Y.env D Y.A Pt s
/-- how the machine's loop comes to that turn -/
def LoopsBy (X : Cx) (e tg : Expr) (Bt : TurnB) : Prop :=
  ∀ (A : Around) (R : Result → Shared → Prop) (s : Shared) (it : Value) (D : Addr) (env : Env) (I : Nat → Shared → Prop),
    (∀ n s, I n s → wpAny (model X.prog X.w) A (pyNext it) (fun r s1 => match r with
      | none => R (.ok .next) s1
      | some v => wpAny (model X.prog X.w) A (letOwnedTupleGo tg it v) (fun _ s2 => wpAny (model X.prog X.w) A (assign tg env v) (fun _ s3 =>
          Bt env D A (fun s4 => ∃ m, m < n ∧ I m s4) s3) (fun _ _ => False) s2) (fun _ _ => False) s1) (fun _ _ => False) s) →
    ∀ n, I n s → codeAny (model X.prog X.w) A (.compLoop e 0 it (.ref D) env) R s
def StartsBy (X : Cx) (e : Expr) : Prop :=
  ∀ (A : Around) (R : Result → Shared → Prop) (s : Shared) (it acc : Value) (env : Env), codeAny (model X.prog X.w) A (.compLoop e 0 it acc env) R s →
    (∀ E, wpAny (model X.prog X.w) A (pyIter it) (fun it' s' => codeAny (model X.prog X.w) A (.compLoop e 0 it' acc env) R s') E s) → codeAny (model X.prog X.w) A (.compStart e 0 it acc env) R s
theorem pe_coll {e tg iter : Expr} {gs : List Comprehension} {scope : Scope} {own : List (Str × Nat)} {pos' : Pos} {wi : TI} {g : TG} {newAcc : Sem Value} {ob : Obj} {o0 : Addr → HO} {Bt : TurnB} {tb : Addr → L2.St → Hp → (Hp → Prop) → Prop}
    (hev : eval e X.env = comprehension e scope X.env pos' newAcc false (eval iter X.env)) (hcl : clausesOf e = ⟨tg, iter, [], 0⟩ :: gs)
    (hc : X.calm = true) (hN : X.N.Nodup) (hi : PI X tg iter wi) (ok : BlkOk X.N X.env.scope scope own) (hg : InBlk X scope fun Y => PG Y tg g)
    (hnew : ∀ (A : Around) (E : Value → Shared → Prop) (Q : Value → Shared → Prop) (s : Shared), Q (.ref s.heap.objs.size) { s with heap := s.heap.push ob } → wpAny (model X.prog X.w) A newAcc Q E s)
    (hob : ∀ (H : Hp) (h : Heap), sysModules < h.objs.size → ObjOk X.prog X.w H (h.push ob) h.objs.size (o0 h.objs.size))
    (hb : InBlk X scope fun Y => RunsTurn Bt tb Y) (hloop : LoopsBy X e tg Bt) (hstart : StartsBy X e) (hs : ∀ x, foldedSetIterable iter X.env x = pure x) :
    PE X e (tColl o0 wi g tb (own.map (·.2))) := by
  refine ⟨fun pins s σ H Q I h => ?_⟩
  rw [hev]
  have hfree : ∀ y ∈ scope.names, y.2 = .free → ∃ c, X.env.cells.lookup y.1 = some c := by
    intro y hy hf
    have := ok.free y hy hf
    exact this.elim (fun z => I.ok.has _ (.inl z)) fun z => I.ok.has _ (.inr z)
  refine wpAny_comprehension_free (use := none) hcl hs (closure_ok hfree) ok.kind (fun y hy hl => (ok.uniq y hy).trans (congrArg some hl)) (thn (hi.run pins s σ H _ I h) fun xv s1 hx => thn hx fun itv s2 h2 => ?_)
  obtain ⟨it, fp, tn, J, H2, rfl, I2, T, st2, f2, q⟩ := h2
  refine hnew _ _ _ _ (newEnv_comp ?_)
  -- the new object D, in the state sA with the heap HA
  let D : Addr := s2.heap.objs.size
  let sA : Shared := { s2 with heap := s2.heap.push ob }
  let HA : Hp := upd H2 D (o0 D)
  have eD : H2 D = none := I2.hok.fresh (Nat.le_refl _)
  obtain ⟨W, ⟨m0, w0⟩, turn⟩ := q D eD
  have IA : Inv X pins σ HA sA := I2.laid (t' := s2.toks) (fun b o hbo => Heap.get?_push_of_some _ hbo) (Nat.le_refl _) (hob _ _ I2.big)
  have below : ∀ b ∈ fp, b < D := fun b hbf => (T.obj 0 s2.heap st2 b hbf).elim fun o z => Heap.lt_size z.1
  have fA : ∀ b ∈ fp, FpOk X pins HA b ∧ b < sA.heap.objs.size := fun b hbf => by
    have hlt := below b hbf
    have z := f2 b hbf
    refine ⟨⟨(upd_ne (Nat.ne_of_lt hlt)).trans z.1, z.2⟩, ?_⟩
    show b < (s2.heap.push ob).objs.size
    rw [Heap.size_push]
    exact Nat.lt_succ_of_lt hlt
  have stA : tn 0 sA.heap := T.keep _ _ _ st2 fun b _ o hbo => Heap.get?_push_of_some _ hbo
  have IB := block_start IA ok hN fA
  let cl1 := cellsFrom (sA.heap.objs.size + 1) scope.names (cloFrom X.env.cells scope.names [])
  let ce : Env := compEnvC scope cl1 sA.heap.objs.size X.env
  let Y : Cx := X.blk sA HA scope ce fp
  let sB : Shared := { sA with heap := pushCells (sA.heap.push { cls := .type "dict", data := .dict #[] }) scope.names }
  have IB' : Inv Y [] (wipe σ (own.map (·.2))) HA sB := IB
  have pgY : PG Y tg g := hg sA HA sA.heap.objs.size cl1 fp
  have pbY : RunsTurn Bt tb Y := hb sA HA sA.heap.objs.size cl1 fp
  have stB : tn 0 sB.heap := T.keep _ _ _ stA fun b _ o hbo => pushCells_keeps _ _ _ _ (Heap.get?_push_of_some _ hbo)
  have nA : ∀ b ∈ fp, HA b = none := fun b hbf => (fA b hbf).1.1
  have foot : ∀ (σ' : L2.St) (H' : Hp) (s' : Shared), Inv Y [] σ' H' s' → (∀ b ∈ fp, H' b = none) → ∀ b ∈ fp, FpOk Y [] H' b := by
    intro σ' H' s' I' hn b hbf
    have z := I'.ok.exf b hbf
    exact ⟨hn b hbf, z.1, I'.ok.exfs b hbf, .inl hbf, fun x c hxc => z.2 x c hxc, fun p hp => by cases hp⟩
  have hLoop : codeAny (model X.prog X.w) X.A (.compLoop e 0 (.ref it) (.ref D) ce) (compPost (model X.prog X.w) X.A X.xe none (EP X pins σ Q) (.ref D) sA.heap.objs.size) sB := by
    refine hloop _ _ _ _ _ _ (fun n s' => ∃ i H', Inv Y [] (wipe σ (own.map (·.2))) H' s' ∧ tn i s'.heap ∧ (∀ b ∈ fp, H' b = none) ∧ W i n H') ?_ m0 ⟨0, HA, IB', stB, nA, w0⟩
    rintro n s5 ⟨i, H5, I5, st5, n5, w5⟩
    cases turn i n H5 w5 with
    | inl z =>
      refine thn (T.done Y rfl rfl rfl hc i [] s5 _ H5 (fun _ _ => False) I5 (foot _ _ _ I5 n5) st5 z.1) fun r s6 hr => ?_
      obtain ⟨rfl, I6⟩ := hr
      have I7 : Inv X pins σ H5 s6 := IA.call' (ch := fp) I6.os I6.base I6.hok I6.bare fun b hbf => by
        have y := (fA b hbf).1.2
        exact ⟨y.2.2.1, y.1, y.2.2.2.1, y.2.2.2.2⟩
      have nC : H5 sA.heap.objs.size = none := I6.free
      obtain ⟨mm, hmm, _⟩ := I6.loc
      have f := IA.fpOk (H' := H5) (Nat.le_refl _) nC
      exact ⟨mm, hmm, fun h'' sb => ⟨.ref D, H5, I7.turned (t' := s6.toks) (fun b o hbo hb' => (sb.2 b hbo).trans hb') f.1 f.2.1 f.2.2.2.1 f.2.2.2.2.1 f.2.2.2.2.2, rfl, z.2⟩⟩
    | inr z =>
      obtain ⟨go, Nx, hNx, step⟩ := z
      refine thn (T.item Y rfl rfl rfl hc i [] s5 _ H5 (fun _ _ => False) I5 (foot _ _ _ I5 n5) st5 go) fun r s6 hr => ?_
      obtain ⟨u, rfl, h6⟩ := hr
      refine thn h6 fun _ s7 h7 => ?_
      obtain ⟨x, H7, I7, r7, y7, st7, n7⟩ := h7
      have I7' := I7.pinned (foot _ _ _ I7 n7) (T.obj _ _ st7)
      have pgr := pgY.run _ s7 _ H7 x u _ I7' r7 (step x H7 y7)
      refine thn pgr fun _ s8 h8 => ?_
      obtain ⟨σ8, H8, I8, hw8, q8⟩ := h8
      refine pbY _ s8 σ8 H8 D Nx _ I8 q8 fun H9 s9 I9 nx => ?_
      obtain ⟨m', hm, w'⟩ := hNx H9 nx
      have pinned : ∀ b ∈ fp, ∀ o, s7.heap.get? b = some o → s9.heap.get? b = some o ∧ H9 b = none := fun b hbf o hbo => by
        have z := I9.pin (b, o) (List.mem_append_right _ (List.mem_append_right _ (mem_pinsAt hbf hbo)))
        exact ⟨z.1, z.2.1⟩
      have hl : (wipe σ (own.map (·.2))).length = σ8.length := (congrArg List.length hw8).symm.trans (wipe_length σ8 _)
      refine ⟨m', hm, i + 1, H9, (I9.unpinned (pins := [])).weak hl (fun j v hj => ?_), T.keep _ _ _ st7 fun b hbf o hbo => (pinned b hbf o hbo).1, fun b hbf => ?_, w'⟩
      · exact (wipe_some (vs := own.map (·.2)) ((congrArg (·[j]?) hw8).trans hj)).1
      · exact (T.obj _ _ st7 b hbf).elim fun o z => (pinned b hbf o z.1).2
  exact hstart _ _ _ _ _ _ hLoop fun E => T.self X.A 0 _ _ E stB hLoop

/-! ### {elt for target in iter}: a set of tuples of ints -/
def setB (X : Cx) (elt : Expr) : TurnB := fun env D A Pt s => wpAny (model X.prog X.w) A (eval elt env) (fun v s1 => wpAny (model X.prog X.w) A (call (.builtin "set.add") [.ref D, v]) (fun _ s2 => Pt s2) (fun _ _ => False) s1) (fun _ _ => False) s
theorem setB_loops {elt tg iter : Expr} {scope : Scope} {pos : Pos} : LoopsBy X (.SetComp elt [⟨tg, iter, [], 0⟩] scope pos) tg (setB X elt) := by
  intro A R s it D env I turn n h
  refine PpSet.compLoopS_any I (fun n s h => ?_) n h
  refine thnF (turn n s h) fun r s1 h1 => ?_
  cases r with
  | none => exact h1
  | some v => exact thnF h1 fun _ s2 h2 => thnF h2 fun _ s3 h3 => wpAny_pure (thnF h3 fun x s4 h4 => thnF h4 fun _ s5 h5 => h5)
theorem setB_starts {elt tg iter : Expr} {scope : Scope} {pos : Pos} : StartsBy X (.SetComp elt [⟨tg, iter, [], 0⟩] scope pos) := fun _ _ _ _ _ _ h0 h => PpSet.codeAny_compStart_set h0 (h _)
/-- set.add of a tuple -/
theorem addT_ok {pins : List (Addr × Obj)} {σ : L2.St} {H : Hp} {s : Shared} {E : Value → Shared → Prop} {D x : Addr} {k : Pl} {L : List (Addr × List Int)} {Q : Value → Shared → Prop} (I : Inv X pins σ H s) (hu : X.A.units + 2 < cLine)
    (hD : H D = some (SetTO X.prog X.w D L)) (hL : ∀ p ∈ L, SqT X.K H p.1 (p.2.map V.int)) (hx : SqT X.K H x (k.map V.int)) (room : L.length + 1 < 64)
    (h : ∀ L' s', (k ∈ L.map (·.2) → L' = L) → (k ∉ L.map (·.2) → L'.Perm ((x, k) :: L)) → Inv X pins σ (upd H D (SetTO X.prog X.w D L')) s' → Q .none s') :
    wpAny (model X.prog X.w) X.A (call (.builtin "set.add") [.ref D, .ref x]) Q E s := by
  have R0 : SetT0 X.prog X.w s.heap D L := (I.hok D _ hD).1
  obtain ⟨es, ep, t, R⟩ := R0.full fun p hp => I.isT (hL p hp)
  have hk := I.isT hx
  obtain ⟨o, ho, hex, hd⟩ := R.ob
  have hty : s.TypeIs (.ref D) "set" := ⟨o, ho, hex.1⟩
  refine wpAny_call_entry PySem.F.slot_set_add hty PySem.F.entry_set_add ?_ (PySem.F.args_set_add_2 _ _)
  unfold Builtin.«set.add» Builtin.Frozenset.oneOther
  simp only [List.isEmpty_nil, bind_assoc]
  unfold Builtin.Frozenset.addrOf setAdd
  refine wpAny_bind (wpAny_pure (wpAny_bind (wpAny_pure (wpAny_bind (wpAny_holding (wpAny_bind (wpAny_pyHash_tuple (by show X.A.in1.units < cLine; exact Nat.lt_of_le_of_lt (Nat.le_refl _) (by show X.A.units + 1 < cLine; omega)) hk ?_)))))))
  refine add_at (s := { s with toks := s.toks + (k.length + 1) }) R hk (by show X.A.units + 1 < cLine; omega) room fun b h' L' es' ep' t' hsb R' c1 c2 => ?_
  refine wpAny_pure ⟨_, rfl, h L' _ c1 c2 ?_⟩
  obtain ⟨o', ho', _⟩ := R'.ob
  exact I.write (e := D) (t' := s.toks + (k.length + 1)) (by rw [hD]; trivial) (.inl rfl) (fun b u hb hu' => (hsb.2 b hb).trans hu') ⟨o', ho'⟩ (setTO_new R'.t0)

def tbSet (P : Program) (w : World) (K : PySem.W.Frag) (te : TE) : Addr → L2.St → Hp → (Hp → Prop) → Prop := fun D σ H Nx => te σ H fun y H4 => ∃ (x : Addr) (k : Pl) (L : List (Addr × List Int)), y = .ref x ∧ SqT K H4 x (k.map V.int) ∧ H4 D = some (SetTO P w D L) ∧
  (∀ p ∈ L, SqT K H4 p.1 (p.2.map V.int)) ∧ L.length + 1 < 64 ∧ ∀ L', (k ∈ L.map (·.2) → L' = L) → (k ∉ L.map (·.2) → L'.Perm ((x, k) :: L)) → Nx (upd H4 D (SetTO P w D L'))
theorem setB_runs {Y : Cx} {elt : Expr} {te : TE} (hp : Y.prog = X.prog) (hw : Y.w = X.w) (hxe : Y.xe = fun _ _ => False) (hu : Y.A.units + 2 < cLine) (he : PE Y elt te) : RunsTurn (setB X elt) (tbSet X.prog X.w Y.K te) Y := by
  intro pins s σ H D Nx Pt I h hPt
  unfold setB
  rw [← hp, ← hw]
  have h0 := he.run pins s σ H _ I h
  rw [hxe] at h0
  refine thn h0 fun v s1 h1 => ?_
  obtain ⟨y, H4, I4, ry, x, k, L, rfl, hx, hD, hL, room, hq⟩ := h1
  obtain rfl : v = Value.ref x := ry
  exact addT_ok I4 hu (by rw [hp, hw]; exact hD) hL hx room fun L' s' c1 c2 I' => hPt _ s' I' (by rw [hp, hw]; exact hq L' c1 c2)
theorem pe_scT {elt tg iter : Expr} {scope : Scope} {own : List (Str × Nat)} {pos : Pos} {wi : TI} {g : TG} {te : TE} (hc : X.calm = true) (hu : X.A.units + 2 < cLine) (hN : X.N.Nodup) (hi : PI X tg iter wi) (ok : BlkOk X.N X.env.scope scope own)
    (hg : InBlk X scope fun Y => PG Y tg g) (he : InBlk X scope fun Y => PE Y elt te) (hs : ∀ x, foldedSetIterable iter X.env x = pure x := by intro _; rfl) :
    PE X (.SetComp elt [⟨tg, iter, [], 0⟩] scope pos) (tColl (fun D => SetTO X.prog X.w D []) wi g (tbSet X.prog X.w X.K te) (own.map (·.2))) :=
  pe_coll (PpSet.eval_SetComp elt _ scope pos) rfl hc hN hi ok hg (fun A E Q s h => PpSet.newSet_ok h) (fun H h _ => setTO_new (setTR_fresh (Heap.get?_push_size h rfl)).t0)
    (fun s0 H0 C0 cl0 fp0 => setB_runs rfl rfl rfl hu (he s0 H0 C0 cl0 fp0)) setB_loops setB_starts hs
/-! ### {kx: vx for target in iter}: a dict with tuple keys -/
def dictB (X : Cx) (kx vx : Expr) : TurnB := fun env D A Pt s => wpAny (model X.prog X.w) A (eval kx env) (fun u s1 => wpAny (model X.prog X.w) A (eval vx env) (fun v s2 => wpAny (model X.prog X.w) A (dictSet D u v) (fun _ s3 => Pt s3) (fun _ _ => False) s2) (fun _ _ => False) s1) (fun _ _ => False) s
theorem dictB_loops {kx vx tg iter : Expr} {scope : Scope} {pos : Pos} : LoopsBy X (.DictComp kx vx [⟨tg, iter, [], 0⟩] scope pos) tg (dictB X kx vx) := by
  intro A R s it D env I turn n h
  refine compLoop_anyD I (fun n s h => ?_) n h
  refine thnF (turn n s h) fun r s1 h1 => ?_
  cases r with
  | none => exact h1
  | some v => exact thnF h1 fun _ s2 h2 => thnF h2 fun _ s3 h3 => wpAny_pure (thnF h3 fun x s4 h4 => thnF h4 fun _ s5 h5 => thnF h5 fun _ s6 h6 => h6)
theorem dictB_starts {kx vx tg iter : Expr} {scope : Scope} {pos : Pos} : StartsBy X (.DictComp kx vx [⟨tg, iter, [], 0⟩] scope pos) := fun _ _ _ _ _ _ h0 h => codeAny_compStart_dict h0 (h _)
def tbDict (tk tv : TE) : Addr → L2.St → Hp → (Hp → Prop) → Prop := fun D σ H Nx => tk σ H fun y H4 => tv σ H4 fun z H5 => ∃ (x : Addr) (k : List Key) (kvs : List (List Key × V)), y = .ref x ∧ H5 x = some (.tup (k.map kV)) ∧ H5 D = some (.dT kvs) ∧ kvs.length < sizeLine ∧
  Nx (upd H5 D (.dT (putK kvs k z)))
theorem dictT_ok {pins : List (Addr × Obj)} {σ : L2.St} {H : Hp} {s : Shared} {E : Value → Shared → Prop} {D x : Addr} {k : List Key} {kvs : List (List Key × V)} {z : V} {r : Value} {Q : Unit → Shared → Prop} (I : Inv X pins σ H s) (hu : X.A.units + 2 < cLine)
    (hD : H D = some (.dT kvs)) (hx : H x = some (.tup (k.map kV))) (hz : kvs.length < sizeLine) (rz : RelV z r) (h : ∀ s', Inv X pins σ (upd H D (.dT (putK kvs k z))) s' → Q () s') :
    wpAny (model X.prog X.w) X.A (dictSet D (.ref x) r) Q E s := by
  obtain ⟨_, hsm, xs, rel, dd⟩ := dt_of I.hok hD
  have hz' : xs.length ≤ sizeLine := by
    rw [← Paired.length rel]
    exact Nat.le_of_lt hz
  have hl : (putK kvs k z).length ≤ sizeLine := Nat.le_trans (length_putK kvs k z) hz
  refine wpAny_dictSet_heap (hsz := hz') (by show X.A.units < cLine; omega) (key_of I.hok hx) dd fun h' dd' hs => h _ ?_
  obtain ⟨q, es, ep, hq, h2, h3, h4, _, h5⟩ := dd'
  refine d_write I (by rw [hD]; trivial) hs ⟨q, hq⟩ ⟨hl, hsm, _, (rel.put k hx rz).keeps fun c ys ec => ?_, q, es, ep, hq, h2, h3, h4, h5⟩
  exact (upd_ne (ne_of ec hD fun e => nomatch e)).trans ec
theorem dictB_runs {Y : Cx} {kx vx : Expr} {tk tv : TE} (hp : Y.prog = X.prog) (hw : Y.w = X.w) (hxe : Y.xe = fun _ _ => False) (hu : Y.A.units + 2 < cLine) (hk : PE Y kx tk) (hv : PE Y vx tv) : RunsTurn (dictB X kx vx) (tbDict tk tv) Y := by
  intro pins s σ H D Nx Pt I h hPt
  unfold dictB
  rw [← hp, ← hw]
  have h0 := hk.run pins s σ H _ I h
  rw [hxe] at h0
  refine thn h0 fun u s1 h1 => ?_
  obtain ⟨y, H4, I4, ry, q4⟩ := h1
  have h2 := hv.run pins s1 σ H4 _ I4 q4
  rw [hxe] at h2
  refine thn h2 fun u2 s2 h3 => ?_
  obtain ⟨z, H5, I5, rz, x, k, kvs, rfl, hx, hD, hz, hq⟩ := h3
  obtain rfl : u = Value.ref x := ry
  exact dictT_ok I5 hu hD hx hz rz fun s' I' => hPt _ s' I' hq
theorem pe_dcT {kx vx tg iter : Expr} {scope : Scope} {own : List (Str × Nat)} {pos : Pos} {wi : TI} {g : TG} {tk tv : TE} (hc : X.calm = true) (hu : X.A.units + 2 < cLine) (hN : X.N.Nodup) (hi : PI X tg iter wi) (ok : BlkOk X.N X.env.scope scope own)
    (hg : InBlk X scope fun Y => PG Y tg g) (hk : InBlk X scope fun Y => PE Y kx tk) (hv : InBlk X scope fun Y => PE Y vx tv) (hs : ∀ x, foldedSetIterable iter X.env x = pure x := by intro _; rfl) :
    PE X (.DictComp kx vx [⟨tg, iter, [], 0⟩] scope pos) (tColl (fun _ => .dT []) wi g (tbDict tk tv) (own.map (·.2))) :=
  pe_coll (arm_eval_DictComp kx vx _ scope pos X.env) rfl hc hN hi ok hg (fun A E Q s h => wpAny_newObj_type h) (fun H h hm => dt_empty h hm)
    (fun s0 H0 C0 cl0 fp0 => dictB_runs rfl rfl rfl hu (hk s0 H0 C0 cl0 fp0) (hv s0 H0 C0 cl0 fp0)) dictB_loops dictB_starts hs
/-- over a list that the block leaves as it is -/
theorem coll_list {K : PySem.W.Frag} {a : Addr} {xs : List V} {g : TG} {tb : Addr → L2.St → Hp → (Hp → Prop) → Prop} {vs : List Nat} {σ : L2.St} {H0 : Hp} {D : Addr} {Qd : Hp → Prop} (Pv : Nat → Hp → Prop) (h0 : Pv 0 H0) (hl : ∀ i H, i ≤ xs.length → Pv i H → SqL K H a xs)
    (hs : ∀ i x H, xs[i]? = some x → Pv i H → g x (wipe σ vs) H fun σ2 H2 => wipe σ2 vs = wipe σ vs ∧ tb D σ2 H2 (Pv (i + 1))) (hd : ∀ H, Pv xs.length H → Qd H) :
    ∃ W : Nat → Nat → Hp → Prop, (∃ m, W 0 m H0) ∧ ∀ i m H, W i m H →
      ((Itl K a).stop i H ∧ Qd H) ∨ ((Itl K a).go i H ∧ ∃ Nx : Hp → Prop, (∀ H', Nx H' → ∃ m', m' < m ∧ W (i + 1) m' H') ∧ ∀ x H', (Itl K a).yld i H x H' → g x (wipe σ vs) H' fun σ2 H2 => wipe σ2 vs = wipe σ vs ∧ tb D σ2 H2 Nx) := by
  refine ⟨fun i m H => i ≤ xs.length ∧ m + i = xs.length ∧ Pv i H, ⟨xs.length, Nat.zero_le _, rfl, h0⟩, fun i m H hW => ?_⟩
  obtain ⟨hi, hm, hP⟩ := hW
  have hq := hl i H hi hP
  cases Nat.lt_or_ge i xs.length with
  | inl hlt =>
    refine .inr ⟨⟨xs, xs[i], hq, List.getElem?_eq_getElem hlt⟩, Pv (i + 1), fun H' hP' => ⟨m - 1, by omega, hlt, by omega, hP'⟩, fun x H' hy => ?_⟩
    obtain ⟨rfl, hy⟩ := hy
    exact hs i x _ (hy xs hq) hP
  | inr hge =>
    obtain rfl : i = xs.length := Nat.le_antisymm hi hge
    exact .inl ⟨⟨xs, hq, Nat.le_refl _⟩, hd H hP⟩
/-! ### len of a set of tuples -/
def rLenSet (P : Program) (w : World) : List V → Hp → VK → Prop := fun xs H Q => ∃ (a : Addr) (L : List (Addr × List Int)), xs = [.ref a] ∧ H a = some (SetTO P w a L) ∧ ((L.map (·.2)).Nodup → Q (.int ((L.length : Nat) : Int)) H)
theorem call_len_setT : CallR X (.builtin "len") (rLenSet X.prog X.w) := by
  intro pins s σ H xs us Q I r h
  obtain ⟨a, L, rfl, ha, hq⟩ := h
  rw [Vals.ref1 r]
  have R0 : SetT0 X.prog X.w s.heap a L := (I.hok a _ ha).1
  obtain ⟨es, ep, t, ⟨o, ho, hex, hd⟩, hrows, htab, hnd, _, _, hroom, hfew⟩ := R0.ex
  have hsz : es.size = L.length := by
    rw [← Array.length_toList, hrows]
    exact List.length_map _
  have hfit : t.fits es.size = true := by
    have h1 := htab.sz
    rw [List.length_map] at h1
    have h2 := htab.dm
    have h3 : t.fill = L.length := by simp [SetTable.fill, h1, h2]
    simp only [SetTable.fits, h1, hsz, h3, beq_self_eq_true, Bool.true_and, decide_eq_true_eq]
    omega
  exact call_len_set ho hex hd hfit (by omega) ⟨.int ((L.length : Nat) : Int), H, I.tok _, ⟨_, by rw [hsz]⟩, hq hnd⟩
end
end K94
namespace K94
open PySem L2
abbrev sLbar : Stmt := top 26
abbrev sLone : Stmt := top 27
abbrev sBarOf : Stmt := top 33
abbrev sLawBar : Stmt := top 45
theorem hu2 {A : Around} {k : Nat} (hr : Room k A) : A.units + 2 < cLine := Nat.lt_of_le_of_lt (Nat.add_le_add_left (by decide : 2 ≤ 64) _) hr.units
/-! ### lists of places -/
/-- at l a list of the places qs -/
def PlsAt (H : Hp) (l : Addr) (qs : List Pl) : Prop := ∃ vs, H l = some (.lst vs) ∧ ArePl H vs qs
theorem PlsAt.same {H H' : Hp} {l : Addr} {qs : List Pl} (h : PlsAt H l qs) (e : Same H H') : PlsAt H' l qs := by
  obtain ⟨vs, h1, h2⟩ := h
  exact ⟨vs, e _ _ h1, h2.same e⟩
def optV : Option Int → V
  | none => .non
  | some p => .int p
theorem SetTO_ne_tup {P : Program} {w : World} {D : Addr} {L : List (Addr × List Int)} {xs : List V} : HO.tup xs ≠ SetTO P w D L := fun e => nomatch (show HO.tup xs = HO.ext _ from e)
theorem ps8_bd : ∀ p ∈ ps8, (1 : Int) < p ∧ p ≤ 100 := by decide
/-- what is collected of the remainders -/
structure GotR (P : Program) (w : World) (H : Hp) (D : Addr) (ks : List Pl) (n : Nat) (L : List (Addr × List Int)) : Prop where
  at_ : H D = some (SetTO P w D L)
  tup : ∀ p ∈ L, H p.1 = some (.tup (p.2.map V.int))
  few : L.length ≤ n
  mem : ∀ k : Pl, k ∈ L.map (·.2) ↔ k ∈ ks
section
variable {P : Program} {w : World} {K : PySem.W.Frag} {mg : Str → Option Value} {base : Heap}
theorem GotR.zero {H : Hp} {D : Addr} : GotR P w (L2.upd H D (SetTO P w D [])) D [] 0 [] := ⟨upd_same, by simp, Nat.le_refl _, by simp⟩
theorem GotR.step {H : Hp} {D x : Addr} {ks : List Pl} {k : Pl} {n : Nat} {L L' : List (Addr × List Int)} (g : GotR P w H D ks n L) (hx : H x = some (.tup (k.map V.int))) (c1 : k ∈ L.map (·.2) → L' = L) (c2 : k ∉ L.map (·.2) → L'.Perm ((x, k) :: L)) :
    GotR P w (L2.upd H D (SetTO P w D L')) D (ks ++ [k]) (n + 1) L' := by
  by_cases hk : k ∈ L.map (·.2)
  · obtain rfl := c1 hk
    refine ⟨upd_same, fun p hp => ?_, Nat.le_succ_of_le g.few, fun j => ?_⟩
    · rw [upd_ne (ne_of (g.tup p hp) g.at_ SetTO_ne_tup)]
      exact g.tup p hp
    · rw [List.mem_append, List.mem_singleton, g.mem j]
      exact ⟨Or.inl, fun q => q.elim id fun e => by rw [e]; exact (g.mem k).mp hk⟩
  · have pm := c2 hk
    refine ⟨upd_same, fun p hp => ?_, by rw [pm.length_eq]; exact Nat.succ_le_succ g.few, fun j => ?_⟩
    · rcases List.mem_cons.mp (pm.mem_iff.mp hp) with rfl | hp'
      · exact (upd_ne (ne_of hx g.at_ SetTO_ne_tup)).trans hx
      · exact (upd_ne (ne_of (g.tup p hp') g.at_ SetTO_ne_tup)).trans (g.tup p hp')
    · rw [(pm.map (·.2)).mem_iff, List.map_cons, List.mem_cons, g.mem j, List.mem_append, List.mem_singleton]
      exact Or.comm
theorem GotR.same {H H' : Hp} {D : Addr} {ks : List Pl} {n : Nat} {L : List (Addr × List Int)} (g : GotR P w H D ks n L) (e : Same H H') : GotR P w H' D ks n L := ⟨e _ _ g.at_, fun p hp => e _ _ (g.tup p hp), g.few, g.mem⟩
theorem GotR.cnt {H : Hp} {D : Addr} {ks : List Pl} {n : Nat} {L : List (Addr × List Int)} (g : GotR P w H D ks n L) (hn : (L.map (·.2)).Nodup) : L.length = cnt ks := by
  rw [← List.length_map (f := (·.2))]
  exact cnt_of hn g.mem
/-! ### least_bar -/
def Small (n : Nat) (qs : List Pl) : Prop := qs.length ≤ n ∧ ∀ q ∈ qs, q.length ≤ 10
def spLbar : Sp := fun vs H Q _ => ∃ (z : Int) (l : Addr) (qs : List Pl), vs = [.int z, .ref l] ∧ Sz z ∧ PlsAt H l qs ∧ Small 50 qs ∧ ∀ H', Same H H' → Q (optV (lbar z qs)) H'
theorem scLbar : FnScope ["size", "places", "prime", "many", "place"] ["size", "places"] (defScope sLbar) := ⟨rfl, rfl, rfl, by decide +kernel, rfl, by decide +kernel, by decide +kernel⟩
/-- the written tuple of the primes -/
structure Primes (K : PySem.W.Frag) (mg : Str → Option Value) : Prop where
  ex : ∃ a : Addr, mg "SMALL_PRIMES" = some (.ref a) ∧ ∀ H, SqT K H a (ps8.map V.int)
theorem ok_lbar {f : Addr} {fd : FuncData} (F : Fun K "least_bar" "least_bar" sLbar f fd) (mL : mg "len" = none) (TP : Primes K mg) (GP : GF P w K mg base CX0 1 "power" ["prime", "size"] spPower) (GR : GF P w K mg base CX0 3 "remainders_by" ["place", "prime"] (spRem K)) :
    FnOk P w K mg base CX0 5 f fd ["size", "places"] spLbar := by
  obtain ⟨aP, mP, hP⟩ := TP.ex
  refine F.ok scLbar (fun vs H Q E h => ?_) (fun cdv A outer s H vs Q E hr h => ?_)
  · obtain ⟨z, l, qs, rfl, _⟩ := h
    rfl
  · obtain ⟨z, l, qs, rfl, hz, ⟨xs, hl, hq⟩, ⟨hn, hs⟩, hQ⟩ := h
    have hxq := Paired.length hq
    refine ⟨_, pss_cons (ps_for PassesOwn.never rfl (pi_tup (pe_glob (v := .ref aP) rfl mP rfl)) (pg_name (i := 2) scLbar.nd rfl (Or.inr rfl))
        (pss_cons (ps_set (i := 3) scLbar.nd rfl (Or.inl rfl) (pe_g GP (hr.mono (by decide)) rfl pass0 (pa_cons (pv 2) (pa_cons (pv 0) pa_nil))))
        (pss_cons (ps_if (pt_cmpR op_gt (pv 3) (pe_callB call_len_seq (by rfl) mL PySem.boot_len (pa_cons (pv 1) pa_nil)) (nomark _)) (pss_one (ps_ret pe_non)) pss_nil)
        (pss_one (ps_if (pt_cmpR op_eq (pe_callB call_len_setT (by rfl) mL PySem.boot_len (pa_cons
          (pe_scT (own := [("place", 4)]) (g := gName 4) (te := tCall (spRem K) [] E0 (tCons (tVar 4) (tCons (tVar 2) tNil))) rfl (hu2 hr) scLbar.nd (pi_list (pv 1)) (blkOk_by (N := ["size", "places", "prime", "many", "place"]) (sc := defScope sLbar) (by decide +kernel))
            (fun _ _ _ _ _ => pg_name (i := 4) scLbar.nd rfl (Or.inl rfl)) (fun _ _ _ _ _ => pe_g GR (hr.mono (by decide)) rfl pass0 (pa_cons (pv 4) (pa_cons (pv 2) pa_nil)))) pa_nil)) (pv 3) (nomark _))
          (pss_one (ps_ret (pv 2))) pss_nil)))))
      (pss_one (ps_ret pe_non)), ?_⟩
    refine ⟨aP, rfl, ⟨_, hP H⟩, for_tup (K := K) (a := aP) (xs := ps8.map V.int) (fun i σ H' => Same H H' ∧ lbarL z qs (ps8.drop i) = lbar z qs ∧ ∃ v1 v2 v3 : Option V, σ = [some (.int z), some (.ref l), v1, v2, v3]) ⟨Same.refl H, rfl, none, none, none, rfl⟩ (fun i σ H' _ _ => hP H') ?_ ?_⟩
    · rintro i x σ H1 hi ⟨s1, hb, v1, v2, v3, rfl⟩
      obtain ⟨p, hp, rfl⟩ := int_of_map hi
      have hpb := ps8_bd p (List.mem_of_getElem? hp)
      have hdrop : ps8.drop i = p :: ps8.drop (i + 1) := by
        rw [List.drop_eq_getElem_cons (List.getElem?_eq_some_iff.mp hp).1, (List.getElem?_eq_some_iff.mp hp).2]
      rw [hdrop] at hb
      simp only [lbarL] at hb
      have hl1 := s1 _ _ hl
      have hq1 := hq.same s1
      refine ⟨_, rfl, _, rfl, p, z, rfl, hz, by omega, hpb.2, ?_⟩
      refine ⟨_, rfl, _, rfl, l, _, rfl, .inl (SqL.of hl1), _, _, rfl, rfl, _, rfl, ?_⟩
      rw [hxq]
      refine ite2 (fun hc => ?_) (fun hc => ?_)
      · have hc' : pw p z > (qs.length : Int) := of_decide_eq_true hc
        rw [if_pos hc'] at hb
        have := hQ H1 s1
        rw [← hb] at this
        exact this
      · have hc' : ¬ pw p z > (qs.length : Int) := fun q => hc (decide_eq_true q)
        rw [if_neg hc'] at hb
        refine ⟨_, rfl, l, rfl, ⟨_, SqL.of hl1⟩, fun D hD => ?_⟩
        refine coll_list (K := K) (xs := xs) (fun j H' => Same H1 H' ∧ ∃ L, GotR P w H' D ((qs.take j).map (rmd p)) j L) ⟨Same.one hD, [], GotR.zero⟩ (fun j H' _ h => SqL.of (h.1 _ _ hl1)) ?_ ?_
        · rintro j y H2 hj ⟨s2, L, g⟩
          obtain ⟨ns, hns, t, rfl, ht⟩ := paired_get hq1 hj
          have hlt := (List.getElem?_eq_some_iff.mp hns).1
          refine ⟨rfl, _, rfl, _, rfl, t, p, ns, rfl, SqT.of (s2 _ _ ht), by omega, Nat.le_trans (hs ns (List.mem_of_getElem? hns)) (by decide), fun H3 u s3 hu3 => ?_⟩
          have g3 := g.same s3
          refine ⟨u, rmd p ns, L, rfl, SqT.of hu3, g3.at_, fun q hq => SqT.of (g3.tup q hq), by have := g.few; omega, fun L' c1 c2 => ⟨(s2.trans s3).updN hD, L', ?_⟩⟩
          have e : ((qs.take (j + 1)).map (rmd p)) = (qs.take j).map (rmd p) ++ [rmd p ns] := by
            rw [List.take_add_one, hns, List.map_append]
            rfl
          rw [e]
          exact g3.step hu3 c1 c2
        · rintro H2 ⟨s2, L, g⟩
          rw [hxq, List.take_length] at g
          refine ⟨D, L, rfl, g.at_, fun hnd => ⟨_, rfl, rfl, _, rfl, ?_⟩⟩
          rw [g.cnt hnd]
          by_cases he : ((cnt (qs.map (rmd p)) : Nat) : Int) = pw p z
          · rw [dec_i he]
            rw [if_pos he] at hb
            refine iteT ⟨_, rfl, ?_⟩
            have := hQ H2 (s1.trans s2)
            rw [← hb] at this
            exact this
          · rw [dec_n he]
            rw [if_neg he] at hb
            exact iteF ⟨s1.trans s2, hb, _, _, _, rfl⟩
    · rintro σ H1 ⟨s1, hb, v1, v2, v3, rfl⟩
      have := hQ H1 s1
      rw [← hb] at this
      exact this
end
end K94
namespace K94
open PySem L2
/-! ### what == says of places and looks -/
inductive Wd where
  | seen | hidden | none_
  deriving DecidableEq
def Wd.s : Wd → Str
  | .seen => "seen"
  | .hidden => "hidden"
  | .none_ => "none"
theorem Wd.beq (a b : Wd) : (a.s == b.s) = decide (a = b) := by cases a <;> cases b <;> decide +kernel
theorem Wd.ok (a : Wd) : PyData.strOk a.s = true := by cases a <;> decide +kernel
abbrev Lk : Type := Pl × Wd
def plD (ns : Pl) : PyData := .tuple (ns.map .int)
def lkD (x : Lk) : PyData := .tuple [plD x.1, .str x.2.s]
def lksD (L : List Lk) : PyData := .list (L.map lkD)
def plsD (L : List Pl) : PyData := .list (L.map plD)
theorem ints_lay : ∀ ns : Pl, PyData.canLayAll0 (ns.map .int) = true
  | [] => by simp [PyData.canLayAll0]
  | n :: ns => by simp [PyData.canLayAll0, PyData.canLay0, ints_lay ns]
theorem ints_depth : ∀ ns : Pl, PyData.depthAll (ns.map .int) ≤ 1
  | [] => by simp [PyData.depthAll]
  | n :: ns => by
    have h1 := ints_depth ns
    simp only [List.map_cons, PyData.depthAll, PyData.depth]
    omega
theorem all_lay {α : Type} {f : α → PyData} (h : ∀ x, (f x).canLay0 = true) : ∀ l : List α, PyData.canLayAll0 (l.map f) = true
  | [] => by simp [PyData.canLayAll0]
  | x :: l => by simp [PyData.canLayAll0, h x, all_lay h l]
theorem all_depth {α : Type} {f : α → PyData} {d : Nat} (h : ∀ x, (f x).depth ≤ d) : ∀ l : List α, PyData.depthAll (l.map f) ≤ d
  | [] => by simp [PyData.depthAll]
  | x :: l => by
    have h1 := all_depth h l
    have h2 := h x
    simp only [List.map_cons, PyData.depthAll]
    omega
theorem shaped_of {d : PyData} (h1 : d.canLay0 = true) (h2 : d.depth ≤ 64) : SeqAt.shaped d = true := by
  show (d.canLay0 && decide (d.depth ≤ 64)) = true
  rw [Bool.and_eq_true]
  exact ⟨h1, decide_eq_true h2⟩
theorem plD_lay (ns : Pl) : (plD ns).canLay0 = true := by
  simp only [plD, PyData.canLay0]
  exact ints_lay ns
theorem plD_depth (ns : Pl) : (plD ns).depth ≤ 2 := by
  have h := ints_depth ns
  simp only [plD, PyData.depth]
  omega
theorem lkD_lay (x : Lk) : (lkD x).canLay0 = true := by simp [lkD, PyData.canLay0, PyData.canLayAll0, plD_lay, Wd.ok]
theorem lkD_depth (x : Lk) : (lkD x).depth ≤ 3 := by
  have h := plD_depth x.1
  simp only [lkD, PyData.depth, PyData.depthAll]
  omega
theorem plD_sh (ns : Pl) : SeqAt.shaped (plD ns) = true := shaped_of (plD_lay ns) (by have := plD_depth ns; omega)
theorem lkD_sh (x : Lk) : SeqAt.shaped (lkD x) = true := shaped_of (lkD_lay x) (by have := lkD_depth x; omega)
theorem lksD_sh (L : List Lk) : SeqAt.shaped (lksD L) = true := shaped_of (by simp only [lksD, PyData.canLay0]; exact all_lay lkD_lay L) (by
  have := all_depth lkD_depth L
  simp only [lksD, PyData.depth]
  omega)
theorem plsD_sh (L : List Pl) : SeqAt.shaped (plsD L) = true := shaped_of (by simp only [plsD, PyData.canLay0]; exact all_lay plD_lay L) (by
  have := all_depth plD_depth L
  simp only [plsD, PyData.depth]
  omega)
theorem eqvAll_of {α : Type} [DecidableEq α] {f : α → PyData} (h : ∀ x y, PyData.eqv (f x) (f y) = decide (x = y)) : ∀ l m : List α, PyData.eqvAll (l.map f) (m.map f) = decide (l = m)
  | [], [] => by simp [PyData.eqvAll]
  | [], y :: m => by simp [PyData.eqvAll]
  | x :: l, [] => by simp [PyData.eqvAll]
  | x :: l, y :: m => by
    simp only [List.map_cons, PyData.eqvAll]
    rw [h x y, eqvAll_of h l m]
    by_cases e : x = y
    · by_cases e2 : l = m
      · simp [e, e2]
      · simp [e, e2]
    · simp [e]
theorem plD_eqv (a b : Pl) : PyData.eqv (plD a) (plD b) = decide (a = b) := by
  simp only [plD, PyData.eqv]
  refine eqvAll_of (fun x y => ?_) a b
  simp only [PyData.eqv]
  by_cases e : x = y
  · simp [e]
  · simp [e]
theorem lkD_eqv (a b : Lk) : PyData.eqv (lkD a) (lkD b) = decide (a = b) := by
  obtain ⟨p, x⟩ := a
  obtain ⟨q, y⟩ := b
  simp only [lkD, PyData.eqv, PyData.eqvAll, plD_eqv, Wd.beq]
  by_cases e : p = q
  · by_cases e2 : x = y
    · simp [e, e2]
    · simp [e, e2]
  · simp [e]
theorem lksD_eqv (L M : List Lk) : PyData.eqv (lksD L) (lksD M) = decide (L = M) := by
  simp only [lksD, PyData.eqv]
  exact eqvAll_of lkD_eqv L M
theorem plsD_eqv (L M : List Pl) : PyData.eqv (plsD L) (plsD M) = decide (L = M) := by
  simp only [plsD, PyData.eqv]
  exact eqvAll_of plD_eqv L M
theorem plsD_any (L : List Pl) (p : Pl) : ((L.map plD).any fun z => PyData.eqv z (plD p)) = decide (p ∈ L) := by
  induction L with
  | nil => simp
  | cons q L ih =>
    rw [List.map_cons, List.any_cons, ih, plD_eqv]
    by_cases e : q = p
    · simp [e]
    · simp [e, Ne.symm e]
section
variable {K : PySem.W.Frag}
theorem dp_ints {H : Hp} : ∀ ns : Pl, DpAll K H (ns.map V.int) (ns.map .int)
  | [] => .nil
  | n :: ns => .cons (.int n) (dp_ints ns)
theorem IsPl.dp {H : Hp} {v : V} {ns : Pl} (h : IsPl H v ns) : Dp K H v (plD ns) := by
  obtain ⟨t, rfl, ht⟩ := h
  exact .tup (SqT.of ht) (dp_ints ns)
theorem dp_sqt {H : Hp} {t : Addr} {ns : Pl} (h : SqT K H t (ns.map V.int)) : Dp K H (.ref t) (plD ns) := .tup h (dp_ints ns)
theorem dpAll_of {α : Type} {F : Hp → V → α → Prop} {f : α → PyData} {H : Hp} (hF : ∀ v a, F H v a → Dp K H v (f a)) : ∀ {vs : List V} {as : List α}, Paired (F H) vs as → DpAll K H vs (as.map f)
  | _, _, .nil => .nil
  | _, _, .cons h t => .cons (hF _ _ h) (dpAll_of hF t)
theorem ArePl.dp {H : Hp} {l : Addr} {vs : List V} {qs : List Pl} (hl : H l = some (.lst vs)) (h : ArePl H vs qs) : Dp K H (.ref l) (plsD qs) := .lst (SqL.of hl) (dpAll_of (fun v a => IsPl.dp) h)
end
/-! ### lone_remainders -/
def IsLone (H : Hp) (v : V) (x : Int × Pl) : Prop := ∃ t u : Addr, v = .ref t ∧ H t = some (.tup [.int x.1, .ref u]) ∧ H u = some (.tup (x.2.map V.int))
theorem IsLone.same {H H' : Hp} {v : V} {x : Int × Pl} (h : IsLone H v x) (e : Same H H') : IsLone H' v x := by
  obtain ⟨t, u, rfl, h1, h2⟩ := h
  exact ⟨t, u, rfl, e _ _ h1, e _ _ h2⟩
/-- a tuple stays a tuple where another thing than a tuple is written -/
theorem tup_upd {H : Hp} {b D : Addr} {xs : List V} {o o' : HO} (h : H b = some (.tup xs)) (hD : H D = some o) (hn : HO.tup xs ≠ o) : L2.upd H D o' b = some (.tup xs) := (upd_ne (ne_of h hD hn)).trans h
theorem tup_lst {xs ys : List V} : HO.tup xs ≠ .lst ys := fun e => nomatch e
theorem IsLone.upd {H : Hp} {D : Addr} {ys : List V} {o' : HO} {v : V} {x : Int × Pl} (h : IsLone H v x) (hD : H D = some (.lst ys)) : IsLone (L2.upd H D o') v x := by
  obtain ⟨t, u, rfl, h1, h2⟩ := h
  exact ⟨t, u, rfl, tup_upd h1 hD tup_lst, tup_upd h2 hD tup_lst⟩
def inl_ (ns : Pl) : List Key := ns.map Sum.inl
theorem inl_inj {a b : Pl} (h : inl_ a = inl_ b) : a = b := by
  have : ∀ {a b : Pl}, a.map (Sum.inl : Int → Key) = b.map Sum.inl → a = b := by
    intro a
    induction a with
    | nil => intro b h; cases b with
      | nil => rfl
      | cons y b => cases h
    | cons x a ih => intro b h; cases b with
      | nil => cases h
      | cons y b =>
        rw [List.map_cons, List.map_cons] at h
        injection h with h1 h2
        injection h1 with h1
        rw [h1, ih h2]
  exact this h
theorem inl_kV (ns : Pl) : (inl_ ns).map kV = ns.map V.int := by
  unfold inl_
  rw [List.map_map]
  rfl
/-- a dict of marks: its keys are the remainders ks -/
structure GotM (H : Hp) (D : Addr) (ks : List Pl) (n : Nat) (kvs : List (List Key × V)) : Prop where
  at_ : H D = some (.dT kvs)
  nd : (kvs.map (·.1)).Nodup
  key : ∀ j ∈ kvs.map (·.1), ∃ k ∈ ks, j = inl_ k
  mem : ∀ k ∈ ks, inl_ k ∈ kvs.map (·.1)
  few : kvs.length ≤ n
theorem GotM.zero {H : Hp} {D : Addr} : GotM (L2.upd H D (.dT [])) D [] 0 [] := ⟨upd_same, List.nodup_nil, by simp, by simp, Nat.le_refl _⟩
theorem valV_mem {kvs : List (List Key × V)} {k : List Key} : (valV kvs k).isSome = true ↔ k ∈ kvs.map (·.1) := by
  cases e : valV kvs k with
  | none => exact ⟨fun q => (Bool.noConfusion q), fun q => absurd q (valV_not e)⟩
  | some v => exact ⟨fun _ => valV_in e, fun _ => rfl⟩
theorem GotM.step {H : Hp} {D : Addr} {ks : List Pl} {n : Nat} {kvs : List (List Key × V)} {k : Pl} {v : V} (g : GotM H D ks n kvs) : GotM (L2.upd H D (.dT (putK kvs (inl_ k) v))) D (ks ++ [k]) (n + 1) (putK kvs (inl_ k) v) := by
  have hany : (kvs.any fun kv => decide (kv.1 = inl_ k)) = true ↔ inl_ k ∈ kvs.map (·.1) := by rw [valV_any, valV_mem]
  by_cases hk : inl_ k ∈ kvs.map (·.1)
  · have e : (putK kvs (inl_ k) v).map (·.1) = kvs.map (·.1) := by
      unfold putK
      rw [if_pos (hany.mpr hk), List.map_map]
      refine List.map_congr_left fun p _ => ?_
      show (if p.1 = inl_ k then (p.1, v) else p).1 = p.1
      split <;> rfl
    have el : (putK kvs (inl_ k) v).length = kvs.length := by
      have := congrArg List.length e
      rwa [List.length_map, List.length_map] at this
    refine ⟨upd_same, by rw [e]; exact g.nd, fun j hj => ?_, fun j hj => ?_, by rw [el]; exact Nat.le_succ_of_le g.few⟩
    · rw [e] at hj
      obtain ⟨j', h1, h2⟩ := g.key j hj
      exact ⟨j', List.mem_append_left _ h1, h2⟩
    · rw [e]
      rcases List.mem_append.mp hj with hj | hj
      · exact g.mem j hj
      · rw [List.mem_singleton.mp hj]
        exact hk
  · have e : putK kvs (inl_ k) v = kvs ++ [(inl_ k, v)] := by
      unfold putK
      rw [if_neg fun q => hk (hany.mp q)]
    rw [e]
    have e2 : (kvs ++ [(inl_ k, v)]).map (·.1) = kvs.map (·.1) ++ [inl_ k] := by rw [List.map_append]; rfl
    refine ⟨upd_same, by rw [e2]; exact nd_snoc g.nd hk, fun j hj => ?_, fun j hj => ?_, by rw [List.length_append]; exact Nat.succ_le_succ g.few⟩
    · rw [e2] at hj
      rcases List.mem_append.mp hj with hj | hj
      · obtain ⟨j', h1, h2⟩ := g.key j hj
        exact ⟨j', List.mem_append_left _ h1, h2⟩
      · exact ⟨k, List.mem_append_right _ (List.mem_singleton.mpr rfl), List.mem_singleton.mp hj⟩
    · rw [e2]
      rcases List.mem_append.mp hj with hj | hj
      · exact List.mem_append_left _ (g.mem j hj)
      · rw [List.mem_singleton.mp hj]
        exact List.mem_append_right _ (List.mem_singleton.mpr rfl)
theorem GotM.same {H H' : Hp} {D : Addr} {ks : List Pl} {n : Nat} {kvs : List (List Key × V)} (g : GotM H D ks n kvs) (e : Same H H') : GotM H' D ks n kvs := ⟨e _ _ g.at_, g.nd, g.key, g.mem, g.few⟩
theorem GotM.cnt {H : Hp} {D : Addr} {ks : List Pl} {n : Nat} {kvs : List (List Key × V)} (g : GotM H D ks n kvs) : kvs.length = cnt ks := by
  have h1 : ((uniq ks).map inl_).Nodup := by
    unfold List.Nodup
    rw [List.pairwise_map]
    exact (uniq_nodup ks).imp fun h q => h (inl_inj q)
  have h2 := nodup_eq (l := kvs.map (·.1)) (m := (uniq ks).map inl_) g.nd h1 (fun j => ⟨fun hj => ?_, fun hj => ?_⟩)
  · rw [List.length_map, List.length_map] at h2
    exact h2
  · obtain ⟨k, h3, rfl⟩ := g.key j hj
    exact List.mem_map.mpr ⟨k, mem_uniq.mpr h3, rfl⟩
  · obtain ⟨k, h3, rfl⟩ := List.mem_map.mp hj
    exact g.mem k (mem_uniq.mp h3)
theorem GotM.has {H : Hp} {D : Addr} {ks : List Pl} {n : Nat} {kvs : List (List Key × V)} (g : GotM H D ks n kvs) (k : Pl) : (valV kvs (inl_ k)).isSome = decide (k ∈ ks) := by
  by_cases h : k ∈ ks
  · rw [decide_eq_true h]
    exact valV_mem.mpr (g.mem k h)
  · rw [decide_eq_false h]
    refine Bool.eq_false_iff.mpr fun q => ?_
    obtain ⟨k', h1, h2⟩ := g.key _ (valV_mem.mp q)
    exact h (inl_inj h2 ▸ h1)
end K94
namespace K94
open PySem L2
section
variable {P : Program} {w : World} {K : PySem.W.Frag} {mg : Str → Option Value} {base : Heap}
def LonesAt (H : Hp) (l : Addr) (ls : List (Int × Pl)) : Prop := ∃ ws, H l = some (.lst ws) ∧ Paired (IsLone H) ws ls
def spLone : Sp := fun vs H Q _ => ∃ (z : Int) (l : Addr) (qs : List Pl), vs = [.int z, .ref l] ∧ Sz z ∧ PlsAt H l qs ∧ Small 50 qs ∧ ∀ H' f, Same H H' → LonesAt H' f (lone z qs) → Q (.ref f) H'
theorem scLone : FnScope ["size", "places", "found", "prime", "many", "marks", "place", "one"] ["size", "places"] (defScope sLone) := ⟨rfl, rfl, rfl, by decide +kernel, rfl, by decide +kernel, by decide +kernel⟩
theorem lone_take {z : Int} {qs : List Pl} {i : Nat} {p : Int} (hp : ps8[i]? = some p) : (ps8.take (i + 1)).flatMap (loneAt z qs) = (ps8.take i).flatMap (loneAt z qs) ++ loneAt z qs p := by
  rw [List.take_add_one, hp, List.flatMap_append]
  show _ ++ [p].flatMap (loneAt z qs) = _
  rw [List.flatMap_singleton]
theorem filt_take {p : Int} {rs : List Pl} {f : Pl → Bool} {i : Nat} {k : Pl} (h : rs[i]? = some k) :
    (((rs.take (i + 1)).filter f).map fun r => (p, r)) = (((rs.take i).filter f).map fun r => (p, r)) ++ (if f k = true then [(p, k)] else []) := by
  rw [List.take_add_one, h, List.filter_append, List.map_append]
  show _ ++ List.map _ (List.filter f [k]) = _
  by_cases e : f k = true
  · rw [if_pos e, List.filter_cons_of_pos e]
    rfl
  · rw [if_neg e, List.filter_cons_of_neg e]
    rfl
theorem loneAt_len (z : Int) (qs : List Pl) {p : Int} (h0 : 1 < p) (h1 : p ≤ 100) : (loneAt z qs p).length ≤ 1000000 := by
  have hb := pw_bd (s := z) (p := p) (by omega) h1
  unfold loneAt
  split
  · split
    · rw [List.length_map]
      refine Nat.le_trans (List.length_filter_le _ _) ?_
      rw [allR_len]
      omega
    · exact Nat.zero_le _
  · exact Nat.zero_le _
theorem flat_len (z : Int) (qs : List Pl) : ∀ l : List Int, (∀ p ∈ l, (1 : Int) < p ∧ p ≤ 100) → (l.flatMap (loneAt z qs)).length ≤ 1000000 * l.length
  | [], _ => by simp
  | p :: l, h => by
    have h1 := flat_len z qs l fun q hq => h q (List.mem_cons_of_mem _ hq)
    have h2 := loneAt_len z qs (h p List.mem_cons_self).1 (h p List.mem_cons_self).2
    rw [List.flatMap_cons, List.length_append, List.length_cons]
    omega
theorem line8 : 1000000 * 9 < sizeLine := by rw [sizeLine_eq]; decide
theorem ok_lone {f : Addr} {fd : FuncData} (F : Fun K "lone_remainders" "lone_remainders" sLone f fd) (mL : mg "len" = none) (TP : Primes K mg) (GP : GF P w K mg base CX0 1 "power" ["prime", "size"] spPower) (GR : GF P w K mg base CX0 3 "remainders_by" ["place", "prime"] (spRem K))
    (GA : GF P w K mg base CX0 5 "all_remainders" ["size", "prime"] spAllR) : FnOk P w K mg base CX0 7 f fd ["size", "places"] spLone := by
  obtain ⟨aP, mP, hP⟩ := TP.ex
  refine F.ok scLone (fun vs H Q E h => ?_) (fun cdv A outer s H vs Q E hr h => ?_)
  · obtain ⟨z, l, qs, rfl, _⟩ := h
    rfl
  · obtain ⟨z, l, qs, rfl, hz, ⟨xs, hl, hq⟩, ⟨hn, hs⟩, hQ⟩ := h
    have hxq := Paired.length hq
    refine ⟨_, pss_cons (ps_set (i := 2) scLone.nd rfl (Or.inl rfl) (pe_lst pa_nil))
      (pss_cons (ps_for PassesOwn.never rfl (pi_tup (pe_glob (v := .ref aP) rfl mP rfl)) (pg_name (i := 3) scLone.nd rfl (Or.inr rfl))
        (pss_cons (ps_set (i := 4) scLone.nd rfl (Or.inl rfl) (pe_g GP (hr.mono (by decide)) rfl pass0 (pa_cons (pv 3) (pa_cons (pv 0) pa_nil))))
        (pss_one (ps_if (pt_cmpR op_le (pv 4) (pe_op op_add (pe_callB call_len_seq (by rfl) mL PySem.boot_len (pa_cons (pv 1) pa_nil)) pe_int) (nomark _))
          (pss_cons (ps_set (i := 5) scLone.nd rfl (Or.inr rfl)
            (pe_dcT (own := [("place", 6)]) (g := gName 6) (tk := tCall (spRem K) [] E0 (tCons (tVar 6) (tCons (tVar 3) tNil))) (tv := tC (.bl true)) rfl (hu2 hr) scLone.nd (pi_list (pv 1)) (blkOk_by (N := ["size", "places", "found", "prime", "many", "marks", "place", "one"]) (sc := defScope sLone) (by decide +kernel))
              (fun _ _ _ _ _ => pg_name (i := 6) scLone.nd rfl (Or.inl rfl)) (fun _ _ _ _ _ => pe_g GR (hr.mono (by decide)) rfl pass0 (pa_cons (pv 6) (pa_cons (pv 3) pa_nil))) (fun _ _ _ _ _ => pe_bl)))
          (pss_one (ps_if (pt_cmpR op_eq (pe_callB call_len_dT (by rfl) mL PySem.boot_len (pa_cons (pv 5) pa_nil)) (pe_op op_sub (pv 4) pe_int) (nomark _))
            (pss_one (ps_expr (pe_bm PySem.F.plainAttrs_list PySem.F.slot_list_extend PySem.F.type_list_extend mt_extend (pv 2) (pa_cons
              (pe_lc (own := [("one", 7)]) (g := gName 7) (tt := tB (tDNotIn (tVar 7) (tVar 5))) (te := tTup (tCons (tVar 3) (tCons (tVar 7) tNil))) rfl scLone.nd (pi_list (pe_g GA (hr.mono (by decide)) rfl pass0 (pa_cons (pv 0) (pa_cons (pv 3) pa_nil))))
                (blkOk_by (N := ["size", "places", "found", "prime", "many", "marks", "place", "one"]) (sc := defScope sLone) (by decide +kernel)) (fun _ _ _ _ _ => pg_name (i := 7) scLone.nd rfl (Or.inl rfl))
                (fun _ _ _ _ _ => pts_one (pt_cmp (pc_dnotin (hu_of hr) (pv 7) (pv 5)) (by rfl))) (fun _ _ _ _ _ => pe_tup (pa_cons (pv 3) (pa_cons (pv 7) pa_nil)))) pa_nil)))) pss_nil)))
          pss_nil))))
      (pss_one (ps_ret (pv 2)))), ?_⟩
    refine ⟨Nat.zero_le _, fun fo hfo => ?_⟩
    refine ⟨aP, rfl, ⟨_, hP _⟩, for_tup (K := K) (a := aP) (xs := ps8.map V.int) (fun i σ H' => Same H H' ∧ LonesAt H' fo ((ps8.take i).flatMap (loneAt z qs)) ∧ ∃ v3 v4 v5 v6 v7 : Option V, σ = [some (.int z), some (.ref l), some (.ref fo), v3, v4, v5, v6, v7])
      ⟨Same.one hfo, ⟨[], upd_same, .nil⟩, none, none, none, none, none, rfl⟩ (fun i σ H' _ _ => hP H') ?_ ?_⟩
    · rintro i x σ H1 hi ⟨s1, ⟨ws, hws, hwl⟩, v3, v4, v5, v6, v7, rfl⟩
      obtain ⟨p, hp, rfl⟩ := int_of_map hi
      have hpb := ps8_bd p (List.mem_of_getElem? hp)
      have hl1 := s1 _ _ hl
      have hq1 := hq.same s1
      have hwlen : ws.length ≤ 1000000 * 8 := by
        rw [Paired.length hwl]
        have h1 := flat_len z qs (ps8.take i) fun q hq' => ps8_bd q (List.mem_of_mem_take hq')
        have h2 : (ps8.take i).length ≤ 8 := List.length_take_le' i ps8
        omega
      -- nothing is added in this turn
      have none_ : ∀ (H' : Hp) (a3 a4 a5 a6 a7 : Option V), Same H1 H' → loneAt z qs p = [] → Same H H' ∧ LonesAt H' fo ((ps8.take (i + 1)).flatMap (loneAt z qs)) ∧ ∃ v3 v4 v5 v6 v7 : Option V, ([some (.int z), some (.ref l), some (.ref fo), a3, a4, a5, a6, a7] : L2.St) = [some (.int z), some (.ref l), some (.ref fo), v3, v4, v5, v6, v7] := by
        intro H' a3 a4 a5 a6 a7 s' e
        refine ⟨s1.trans s', ⟨ws, s' _ _ hws, ?_⟩, _, _, _, _, _, rfl⟩
        rw [lone_take hp, e, List.append_nil]
        exact paired_same (fun _ _ _ _ a b => a.same b) s' hwl
      refine ⟨_, rfl, _, rfl, p, z, rfl, hz, by omega, hpb.2, ?_⟩
      refine ⟨_, rfl, _, rfl, l, _, rfl, .inl (SqL.of hl1), _, _, rfl, rfl, _, _, rfl, rfl, _, rfl, ?_⟩
      rw [hxq]
      refine ite2 (fun hc => ?_) (fun hc => ?_)
      · have hc' : pw p z ≤ (qs.length : Int) + 1 := of_decide_eq_true hc
        refine ⟨_, rfl, l, rfl, ⟨_, SqL.of hl1⟩, fun D hD => ?_⟩
        refine coll_list (K := K) (xs := xs) (fun j H' => Same H1 H' ∧ ∃ kvs, GotM H' D ((qs.take j).map (rmd p)) j kvs) ⟨Same.one hD, [], GotM.zero⟩ (fun j H' _ h => SqL.of (h.1 _ _ hl1)) ?_ ?_
        · rintro j y H2 hj ⟨s2, kvs, g⟩
          obtain ⟨ns, hns, t, rfl, ht⟩ := paired_get hq1 hj
          have hlt := (List.getElem?_eq_some_iff.mp hns).1
          refine ⟨rfl, _, rfl, _, rfl, t, p, ns, rfl, SqT.of (s2 _ _ ht), by omega, Nat.le_trans (hs ns (List.mem_of_getElem? hns)) (by decide), fun H3 u s3 hu3 => ?_⟩
          have g3 := g.same s3
          refine ⟨u, inl_ (rmd p ns), kvs, rfl, by rw [inl_kV]; exact hu3, g3.at_, small1000 (by have := g.few; omega), (s2.trans s3).updN hD, putK kvs (inl_ (rmd p ns)) (.bl true), ?_⟩
          have e : ((qs.take (j + 1)).map (rmd p)) = (qs.take j).map (rmd p) ++ [rmd p ns] := by
            rw [List.take_add_one, hns, List.map_append]
            rfl
          rw [e]
          exact g3.step
        · rintro H2 ⟨s2, kvs, g⟩
          rw [hxq, List.take_length] at g
          refine ⟨_, rfl, D, kvs, rfl, g.at_, _, rfl, _, _, rfl, rfl, rfl, _, rfl, ?_⟩
          rw [g.cnt]
          by_cases he : ((cnt (qs.map (rmd p)) : Nat) : Int) = pw p z - 1
          · rw [dec_i he]
            refine iteT ?_
            have hws2 := s2 _ _ hws
            refine ⟨_, rfl, .inl ⟨rfl, _, SqL.of hws2⟩, _, rfl, _, rfl, z, p, rfl, hz, hpb.1, hpb.2, fun H3 la vr s3 hla hva => ?_⟩
            have g3 := g.same s3
            refine ⟨la, rfl, ⟨_, SqL.of hla⟩, fun D2 hD2 => ?_⟩
            have hvr := Paired.length hva
            refine lc_list (K := K) (xs := vr) (fun j H' => Same H3 H' ∧ LonesAt H' D2 ((((allR z p).take j).filter fun r => decide (r ∉ qs.map (rmd p))).map fun r => (p, r))) ⟨Same.one hD2, [], upd_same, .nil⟩ (fun j H' _ h => SqL.of (h.1 _ _ hla)) ?_ ?_
            · rintro j y H4 hj ⟨s4, ws4, hws4, hwl4⟩
              obtain ⟨k, hk, t, rfl, ht⟩ := paired_get hva hj
              have g4 := g3.same s4
              have hjlt : j < 1000000 := by
                have := (List.getElem?_eq_some_iff.mp hk).1
                rw [allR_len] at this
                have hb := pw_bd (s := z) (p := p) (by omega) hpb.2
                omega
              have ltl : ws4.length < sizeLine := by
                rw [Paired.length hwl4, List.length_map]
                refine Nat.lt_of_le_of_lt (List.length_filter_le _ _) (Nat.lt_of_le_of_lt (List.length_take_le j _) (Nat.lt_trans hjlt ?_))
                rw [sizeLine_eq]; decide
              refine ⟨rfl, _, rfl, _, rfl, D, _, rfl, DGet.t (k := inl_ k) g4.at_ (by rw [inl_kV]; exact s4 _ _ ht), _, rfl, ?_⟩
              rw [g4.has, filt_take hk]
              by_cases hm : k ∈ qs.map (rmd p)
              · rw [decide_eq_true hm, decide_eq_false (show ¬ (k ∉ qs.map (rmd p)) from fun q => q hm), if_neg (by decide), List.append_nil]
                exact iteF ⟨s4, ws4, hws4, hwl4⟩
              · rw [decide_eq_false hm, decide_eq_true hm, if_pos rfl]
                refine iteT ⟨_, rfl, _, rfl, line1000 (by show 2 ≤ 1000; decide), fun u hu' => ⟨ws4, ?_, ltl, ?_⟩⟩
                · exact (upd_ne (ne_of_none hws4 hu')).trans hws4
                · have s5 := Same.one (H := H4) (p := u) (o := .tup [.int p, .ref t]) hu'
                  have hDu := s5 _ _ hws4
                  refine ⟨(s4.trans s5).updN hD2, _, upd_same, paired_app (Paired.mapP hwl4 fun a b h => (h.same s5).upd hDu) (.cons ⟨u, t, rfl, tup_upd upd_same hDu tup_lst, tup_upd (s5 _ _ (s4 _ _ ht)) hDu tup_lst⟩ .nil)⟩
            · rintro H4 ⟨s4, ws4, hws4, hwl4⟩
              rw [hvr, List.take_length] at hwl4
              have hws5 := s4 _ _ (s3 _ _ hws2)
              have sA := s2.trans (s3.trans s4)
              have e2 : loneAt z qs p = ((allR z p).filter fun r => decide (r ∉ qs.map (rmd p))).map fun r => (p, r) := by
                unfold loneAt
                rw [if_pos hc', if_pos he]
              refine ⟨fo, D2, ws, ws4, rfl, rfl, hws5, hws4, ?_, ?_⟩
              · have h1 := Paired.length hwl4
                rw [← e2] at h1
                have h2 := loneAt_len z qs hpb.1 hpb.2
                have h3 := line8
                omega
              · refine ⟨(s1.trans sA).updN hfo, ⟨_, upd_same, ?_⟩, _, _, _, _, _, rfl⟩
                rw [lone_take hp, e2]
                refine paired_app (Paired.mapP (paired_same (F := IsLone) (fun _ _ _ _ a b => a.same b) sA hwl) fun a b h => h.upd hws5) (Paired.mapP hwl4 fun a b h => h.upd hws5)
          · rw [dec_n he]
            refine iteF (none_ H2 _ _ _ _ _ s2 ?_)
            unfold loneAt
            rw [if_pos hc', if_neg he]
      · have hc' : ¬ pw p z ≤ (qs.length : Int) + 1 := fun q => hc (decide_eq_true q)
        refine none_ H1 _ _ _ _ _ (Same.refl _) ?_
        unfold loneAt
        rw [if_neg hc']
    · rintro σ H1 ⟨s1, hlo, v3, v4, v5, v6, v7, rfl⟩
      refine ⟨_, rfl, hQ _ _ s1 ?_⟩
      have e : (ps8.take (List.map V.int ps8).length).flatMap (loneAt z qs) = lone z qs := by
        rw [List.length_map, List.take_length]
        rfl
      rw [e] at hlo
      exact hlo
end
end K94
namespace K94
open PySem L2
section
variable {P : Program} {w : World} {K : PySem.W.Frag} {mg : Str → Option Value} {base : Heap}
/-! ### bar_of -/
def spBarOf : Sp := fun vs H Q _ => ∃ (l : Addr) (v : V) (ls : List (Int × Pl)) (pl : Pl), vs = [.ref l, v] ∧ LonesAt H l ls ∧ IsPl H v pl ∧ (∀ x ∈ ls, 1 < x.1 ∧ x.1 ≤ 100) ∧ pl.length ≤ 10 ∧ ∀ H', Same H H' → Q (optV (barOf ls pl)) H'
theorem scBarOf : FnScope ["lone", "place", "prime", "one"] ["lone", "place"] (defScope sBarOf) := ⟨rfl, rfl, rfl, by decide +kernel, rfl, by decide +kernel, by decide +kernel⟩
theorem barOf_cons {x : Int × Pl} {ls : List (Int × Pl)} {pl : Pl} : barOf (x :: ls) pl = if rmd x.1 pl = x.2 then some x.1 else barOf ls pl := by
  unfold barOf
  rw [List.find?_cons]
  by_cases h : rmd x.1 pl = x.2
  · rw [decide_eq_true h, if_pos h]
    rfl
  · rw [decide_eq_false h, if_neg h]
theorem ok_barOf {f : Addr} {fd : FuncData} (F : Fun K "bar_of" "bar_of" sBarOf f fd) (GR : GF P w K mg base CX0 3 "remainders_by" ["place", "prime"] (spRem K)) : FnOk P w K mg base CX0 7 f fd ["lone", "place"] spBarOf := by
  refine F.ok scBarOf (fun vs H Q E h => ?_) (fun cdv A outer s H vs Q E hr h => ?_)
  · obtain ⟨l, v, ls, pl, rfl, _⟩ := h
    rfl
  · obtain ⟨l, v, ls, pl, rfl, ⟨ws, hws, hwl⟩, hv, hb, hpl, hQ⟩ := h
    have hlen := Paired.length hwl
    refine ⟨_, pss_cons (ps_for PassesOwn.never rfl (pi_list (pv 0)) (pg_tup rfl (pgs_cons (pg_name (i := 2) scBarOf.nd rfl (Or.inl rfl)) (pgs_cons (pg_name (i := 3) scBarOf.nd rfl (Or.inl rfl)) pgs_nil)))
        (pss_one (ps_if (pt_cmpR (op_eqD hr.units) (pe_g GR (hr.mono (by decide)) rfl pass0 (pa_cons (pv 1) (pa_cons (pv 2) pa_nil))) (pv 3) (nomark _)) (pss_one (ps_ret (pv 2))) pss_nil)))
      (pss_one (ps_ret pe_non)), ?_⟩
    refine ⟨_, rfl, l, rfl, ⟨_, SqL.of hws⟩, for_list (K := K) (xs := ws) (fun i σ H' => Same H H' ∧ barOf (ls.drop i) pl = barOf ls pl ∧ ∃ v2 v3 : Option V, σ = [some (.ref l), some v, v2, v3]) ⟨Same.refl H, rfl, none, none, rfl⟩ (fun i σ H' _ h => SqL.of (h.1 _ _ hws)) ?_ ?_⟩
    · rintro i x σ H1 hi ⟨s1, hd, v2, v3, rfl⟩
      obtain ⟨y, hy, t, u, rfl, ht, hu⟩ := paired_get hwl hi
      obtain ⟨tv, rfl, htv⟩ := hv
      have hyb := hb y (List.mem_of_getElem? hy)
      have hdrop : ls.drop i = y :: ls.drop (i + 1) := by
        rw [List.drop_eq_getElem_cons (List.getElem?_eq_some_iff.mp hy).1, (List.getElem?_eq_some_iff.mp hy).2]
      rw [hdrop, barOf_cons] at hd
      refine ⟨t, _, rfl, SqT.of (s1 _ _ ht), rfl, _, _, rfl, _, _, rfl, rfl, ?_⟩
      refine ⟨_, rfl, _, rfl, tv, y.1, pl, rfl, SqT.of (s1 _ _ htv), by omega, Nat.le_trans hpl (by decide), fun H2 p2 s2 hp2 => ?_⟩
      refine ⟨_, rfl, plD (rmd y.1 pl), plD y.2, dp_sqt (SqT.of hp2), dp_sqt (SqT.of (s2 _ _ (s1 _ _ hu))), plD_sh _, plD_sh _, _, rfl, ?_⟩
      rw [plD_eqv]
      by_cases he : rmd y.1 pl = y.2
      · rw [decide_eq_true he]
        rw [if_pos he] at hd
        refine iteT ⟨_, rfl, ?_⟩
        have := hQ H2 (s1.trans s2)
        rw [← hd] at this
        exact this
      · rw [decide_eq_false he]
        rw [if_neg he] at hd
        exact iteF ⟨s1.trans s2, hd, _, _, rfl⟩
    · rintro σ H1 ⟨s1, hd, v2, v3, rfl⟩
      have := hQ H1 s1
      rw [hlen, List.drop_length] at hd
      rw [← hd] at this
      exact this
/-! ### _law_bar -/
theorem iteP {c : Bool} {A B : Prop} (hc : c = true) (h : A) : if c = true then A else B := by rw [if_pos hc]; exact h
theorem iteN {c : Bool} {A B : Prop} (hc : c = false) (h : B) : if c = true then A else B := by rw [if_neg (by rw [hc]; decide)]; exact h

abbrev rTupOf (K : PySem.W.Frag) : List V → Hp → VK → Prop := fun xs H Q => ∃ p ys, xs = [.ref p] ∧ ((SqL K H p ys ∧ ∀ l, H l = none → Q (.ref l) (L2.upd H l (.tup ys))) ∨ (SqT K H p ys ∧ Q (.ref p) H))
abbrev rInt1 : List V → Hp → VK → Prop := fun xs H Q => (∃ i, xs = [.int i] ∧ Q (.int i) H) ∨ ∃ k, xs = [.bl k] ∧ Q (.int (if k then 1 else 0)) H
theorem arePl_ks {H : Hp} : ∀ {vs : List V} {nss : List Pl}, ArePl H vs nss → ∃ ks : List (Addr × List Int), vs = ks.map (fun p => V.ref p.1) ∧ nss = ks.map (·.2) ∧ ∀ p ∈ ks, H p.1 = some (.tup (p.2.map V.int))
  | _, _, .nil => ⟨[], rfl, rfl, by simp⟩
  | _, _, .cons (b := ns) ⟨t, e, ht⟩ r => by
    obtain ⟨ks, e1, e2, h⟩ := arePl_ks r
    refine ⟨(t, ns) :: ks, by rw [e, e1]; rfl, by rw [e2]; rfl, fun p hp => ?_⟩
    rcases List.mem_cons.mp hp with rfl | hp
    · exact ht
    · exact h p hp
def spLawBar : Sp := fun vs H Q _ => ∃ (z : Int) (l : Addr) (qs : List Pl), vs = [.ref l, .int z] ∧ Sz z ∧ PlsAt H l qs ∧ Small 50 qs ∧ ∀ H', Same H H' → Q (optV (wbar z qs)) H'
theorem scLawBar : FnScope ["_law_places", "_law_size", "_law_prime", "_law_many", "_law_place", "_law_one"] ["_law_places", "_law_size"] (defScope sLawBar) := ⟨rfl, rfl, rfl, by decide +kernel, rfl, by decide +kernel, by decide +kernel⟩
def scOut : Scope := { kind := .function, names := [(".0", .local), ("_law_place", .local), ("tuple", .globalImplicit), ("_law_prime", .cell)], isGenerator := false, isCoroutine := false, more := [] }
theorem ps3_bd : ∀ p ∈ ps3, (1 : Int) < p ∧ p ≤ 100 := by decide
abbrev nLawBar : List Str := ["_law_places", "_law_size", "_law_prime", "_law_many", "_law_place", "_law_one"]
theorem ok_lawbar {f : Addr} {fd : FuncData} (F : Fun K "_law_bar" "_law_bar" sLawBar f fd) (mL : mg "len" = none) (mS : mg "set" = none) (mT : mg "tuple" = none) (mI : mg "int" = none) : FnOk P w K mg base CX0 5 f fd ["_law_places", "_law_size"] spLawBar := by
  refine F.ok scLawBar (fun vs H Q E h => ?_) (fun cdv A outer s H vs Q E hr h => ?_)
  · obtain ⟨z, l, qs, rfl, _⟩ := h
    rfl
  · obtain ⟨z, l, qs, rfl, hz, ⟨xs, hl, hq⟩, ⟨hn, hs⟩, hQ⟩ := h
    have hxq := Paired.length hq
    refine ⟨_, pss_cons (ps_for PassesOwn.never rfl (pi_list (pe_lst (pa_cons pe_int (pa_cons pe_int (pa_cons pe_int pa_nil))))) (pg_name (i := 2) scLawBar.nd rfl (Or.inr rfl))
        (pss_cons (ps_set (i := 3) scLawBar.nd rfl (Or.inl rfl) (pe_op op_mul (pv 2) (pv 2)))
        (pss_cons (ps_if (pt_cmpR op_eq (pv 1) pe_int (nomark _)) (pss_one (ps_set (i := 3) scLawBar.nd rfl (Or.inl rfl) (pe_op op_mul (pv 3) (pv 2)))) pss_nil)
        (pss_one (ps_if (pt_cmpR op_eq (pe_callB call_len_setT (by rfl) mL PySem.boot_len (pa_cons (pe_callTy (cr_setOfT rfl hr.units) (by rfl) mS (by decide +kernel) (pa_cons
          (pe_lc (own := [("_law_place", 4)]) (g := gName 4) (tt := tYes) (te := tCB (rTupOf K) (tCons (tLc (iTup K (tVar 4)) (gName 5) tYes (tOp (rI (fun _ j => 0 < j) fun i j => .int (i % j)) (tCB rInt1 (tCons (tVar 5) tNil)) (tVar 2)) [5]) tNil)) rfl scLawBar.nd (pi_list (pv 0))
            (blkOk_by (N := nLawBar) (sc := defScope sLawBar) (by decide +kernel)) (fun _ _ _ _ _ => pg_name (i := 4) scLawBar.nd rfl (Or.inl rfl)) (fun _ _ _ _ _ => pts_nil)
            (fun _ _ _ _ _ => pe_callTy (r := rTupOf K) call_tuple_of (by rfl) mT (by decide +kernel) (pa_cons
              (pe_lc (own := [("_law_one", 5)]) (g := gName 5) (tt := tYes) (wi := iTup K (tVar 4)) (te := tOp (rI (fun _ j => 0 < j) fun i j => .int (i % j)) (tCB rInt1 (tCons (tVar 5) tNil)) (tVar 2)) rfl scLawBar.nd (pi_tup (pv 4))
                (blkOk_by (N := nLawBar) (sc := scOut) (own := [("_law_one", 5)]) (by decide +kernel)) (fun _ _ _ _ _ => pg_name (i := 5) scLawBar.nd rfl (Or.inl rfl)) (fun _ _ _ _ _ => pts_nil)
                (fun _ _ _ _ _ => pe_op op_mod (pe_callTy call_int1 (by rfl) mI (by decide +kernel) (pa_cons (pv 5) pa_nil)) (pv 2))) pa_nil))) pa_nil)) pa_nil)) (pv 3) (nomark _))
          (pss_one (ps_ret (pv 2))) pss_nil)))))
      (pss_one (ps_ret pe_non)), ?_⟩
    refine ⟨line1000 (by show 3 ≤ 1000; decide), fun lp hlp => ⟨lp, rfl, ⟨_, SqL.of upd_same⟩, ?_⟩⟩
    refine for_list (K := K) (a := lp) (xs := ps3.map V.int) (fun i σ H' => Same H H' ∧ H' lp = some (.lst (ps3.map V.int)) ∧ wbarL z qs (ps3.drop i) = wbar z qs ∧ ∃ v1 v2 v3 v4 : Option V, σ = [some (.ref l), some (.int z), v1, v2, v3, v4])
      ⟨Same.one hlp, upd_same, rfl, none, none, none, none, rfl⟩ (fun i σ H' _ h => SqL.of h.2.1) ?_ ?_
    · rintro i x σ H1 hi ⟨s1, hp1, hb, v1, v2, v3, v4, rfl⟩
      obtain ⟨p, hp, rfl⟩ := int_of_map hi
      have hpb := ps3_bd p (List.mem_of_getElem? hp)
      have hdrop : ps3.drop i = p :: ps3.drop (i + 1) := by
        rw [List.drop_eq_getElem_cons (List.getElem?_eq_some_iff.mp hp).1, (List.getElem?_eq_some_iff.mp hp).2]
      rw [hdrop] at hb
      simp only [wbarL] at hb
      have hl1 := s1 _ _ hl
      have hq1 := hq.same s1
      have hpp : 0 ≤ p * p ∧ p * p ≤ 10000 := by
        have h3 := Int.mul_le_mul hpb.2 hpb.2 (by omega) (by omega)
        have h4 : 0 ≤ p * p := Int.mul_nonneg (by omega) (by omega)
        omega
      refine ⟨_, rfl, _, rfl, _, _, rfl, rfl, .inl ⟨by omega, by omega⟩, ?_⟩
      refine ⟨_, rfl, rfl, _, rfl, ?_⟩
      refine ite2 (fun hc => ?a) (fun hc => ?b)
      case' a =>
        have e : z = 3 := by
          have := of_decide_eq_true hc
          injection this
        have hm : p * p * p = pw p z := by rw [e]; rfl
        refine ⟨_, rfl, _, rfl, _, _, rfl, rfl, .inl ⟨by omega, by omega⟩, ?_⟩
      case' b =>
        have e : z = 2 := hz.elim id fun q => absurd (dec_i q) hc
        have hm : p * p = pw p z := by rw [e]; rfl
      all_goals
        refine ⟨_, rfl, l, rfl, ⟨_, SqL.of hl1⟩, fun D hD => ?_⟩
        refine lc_list (K := K) (xs := xs) (fun j H' => Same H1 H' ∧ PlsAt H' D ((qs.take j).map (rmd p))) ⟨Same.one hD, [], upd_same, .nil⟩ (fun j H' _ h => SqL.of (h.1 _ _ hl1)) ?_ ?_
        · rintro j y H2 hj ⟨s2, us, hus, hul⟩
          obtain ⟨ns, hns, t, rfl, ht⟩ := paired_get hq1 hj
          have hlt := (List.getElem?_eq_some_iff.mp hns).1
          have hnl := hs ns (List.mem_of_getElem? hns)
          have hulen := Paired.length hul
          rw [List.length_map, List.length_take] at hulen
          have ht2 := s2 _ _ ht
          refine ⟨rfl, _, rfl, t, rfl, ⟨_, SqT.of ht2⟩, fun D2 hD2 => ?_⟩
          refine lc_tup (K := K) (xs := ns.map V.int) (fun m H' => H' = L2.upd H2 D2 (.lst (((rmd p ns).take m).map V.int))) rfl (fun m H' _ e => e ▸ (Same.one hD2).sqt (SqT.of ht2)) ?_ ?_
          · rintro m y2 H3 hm2 rfl
            obtain ⟨c, hc2, rfl⟩ := int_of_map hm2
            refine ⟨rfl, _, rfl, .inl ⟨_, rfl, _, rfl, _, _, rfl, rfl, by show 0 < p; omega, _, upd_same, ?_, ?_⟩⟩
            · rw [List.length_map]
              have := List.length_take_le' m (rmd p ns)
              rw [rmd_len] at this
              exact small1000 (by omega)
            · show L2.upd _ _ _ = _
              rw [upd_upd, show (rmd p ns).take (m + 1) = (rmd p ns).take m ++ [c % p] from map_take hc2, List.map_append]
              rfl
          · rintro H3 rfl
            have s3 : Same H2 (L2.upd H2 D2 (.lst (((rmd p ns).take (ns.map V.int).length).map V.int))) := Same.one hD2
            refine ⟨D2, _, rfl, .inl ⟨SqL.of upd_same, fun u hu => ⟨us, ?_, small1000 (by omega), ?_⟩⟩⟩
            · exact (upd_ne (ne_of_none (s3 _ _ hus) hu)).trans (s3 _ _ hus)
            · have s4 := Same.upd s3 (o := .tup (((rmd p ns).take (ns.map V.int).length).map V.int)) hu
              have hDu := s4 _ _ hus
              refine ⟨(s2.trans s4).updN hD, _, upd_same, ?_⟩
              have e : ((qs.take (j + 1)).map (rmd p)) = (qs.take j).map (rmd p) ++ [rmd p ns] := by
                rw [List.take_add_one, hns, List.map_append]
                rfl
              rw [e]
              refine paired_app (Paired.mapP hul fun a b h => ?_) (.cons ⟨u, rfl, ?_⟩ .nil)
              · obtain ⟨t2, e2, h2⟩ := h.same s4
                exact ⟨t2, e2, tup_upd h2 hDu tup_lst⟩
              · refine tup_upd ?_ hDu tup_lst
                rw [upd_same, List.length_map, List.take_of_length_le (by rw [rmd_len]; exact Nat.le_refl _)]
        · rintro H2 ⟨s2, us, hus, hul⟩
          rw [hxq, List.take_length] at hul
          obtain ⟨ks, e1, e2, hks⟩ := arePl_ks hul
          have hkl : ks.length = qs.length := by
            have := congrArg List.length e2
            rw [List.length_map, List.length_map] at this
            exact this.symm
          refine ⟨D, ks, rfl, SqL.of (e1 ▸ hus), fun q hq2 => SqT.of (hks q hq2), by omega, fun a L ha hL1 hL2 => ?_⟩
          refine ⟨a, L, rfl, upd_same, fun hnd => ⟨_, rfl, rfl, _, rfl, ?_⟩⟩
          have hcnt : L.length = cnt (qs.map (rmd p)) := by
            rw [← List.length_map (f := (·.2))]
            refine cnt_of hnd fun k => ?_
            rw [e2]
            constructor
            · intro hk
              obtain ⟨q, hq2, rfl⟩ := List.mem_map.mp hk
              exact List.mem_map.mpr ⟨q, hL1 q hq2, rfl⟩
            · intro hk
              obtain ⟨q, hq2, rfl⟩ := List.mem_map.mp hk
              exact hL2 q hq2
          have s3 := s1.trans (s2.trans (Same.one (o := SetTO P w a L) ha))
          by_cases he : ((cnt (qs.map (rmd p)) : Nat) : Int) = pw p z
          · rw [if_pos he] at hb
            refine iteP (dec_i ((congrArg Nat.cast hcnt).trans (he.trans hm.symm))) ⟨_, rfl, ?_⟩
            have := hQ _ s3
            rw [← hb] at this
            exact this
          · rw [if_neg he] at hb
            exact iteN (dec_n fun q => he ((congrArg Nat.cast hcnt).symm.trans (q.trans hm))) ⟨s3, (Same.one (o := SetTO P w a L) ha) _ _ (s2 _ _ hp1), hb, _, _, _, _, rfl⟩
    · rintro σ H1 ⟨s1, hp1, hb, v1, v2, v3, v4, rfl⟩
      have := hQ H1 s1
      rw [← hb] at this
      exact this
end
end K94
namespace K94
open PySem L2
/-! ### == and != where an own class's __eq__ decides -/
section
variable {X : Cx} {CX : CXT} {k : Nat} {pins : List (Addr × Obj)} {σ : L2.St} {H : Hp} {s : Shared} {A : Around}
/-- a def is called from below the running body -/
theorem run_at {f : Addr} {fd : FuncData} {ps : List Str} {sp : Sp} {vs : List V} {us : List Value} {Q : VK} {E : XK} (F : FnOk X.prog X.w X.K X.mg X.base CX k f fd ps sp) (hb : Binds X.K fd ps []) (sb : Sub X k A) (hx : Passes CX X E)
    (I : Inv X pins σ H s) (r : Vals vs us) (h : sp vs H Q E) : wpAny (model X.prog X.w) A (call (.ref f) us) (EP X pins σ Q) X.xe s := by
  have e0 : Env0 X.prog X.w X.K X.mg X.base A X.stack s H := by
    have e := I.env0
    exact { e with frames := by rw [sb.fr]; exact e.frames }
  have hl := F.len _ _ _ _ h
  refine wpAny_call (codeAny_mono (F.run A X.stack s H ⟨us, []⟩ us vs Q E sb.room e0 ?_ r h) fun r s' hq => ?_)
  · have z := hb s us I.kIn (by rw [List.append_nil, ← Paired.length r]; exact hl)
    rw [List.append_nil] at z
    exact z
  · cases r with
    | error e => exact hx pins σ H s e s' I hq
    | ok fl =>
      cases fl with
      | ret w => exact I.after hq
      | next => exact hq.elim
      | brk => exact hq.elim
      | cont => exact hq.elim
end
/-- an own class with its own ==, and != as object has it -/
structure EqC (K : PySem.W.Frag) (C g : Addr) : Prop where
  eq : PySem.W.findIn K (.ref C) "__eq__" = some (some (.ref g))
  fn : PySem.W.isFn K (.ref g) = true
  ne : PySem.W.findIn K (.ref C) "__ne__" = some (some (.builtin "object.__ne__"))
  ob : PySem.W.subIn K (.ref C) (.type "object") = some true
structure EqF (P : Program) (w : World) (K : PySem.W.Frag) (mg : Str → Option Value) (base : Heap) (CX : CXT) (k : Nat) (C : Addr) (ps : List Str) (sp : Sp) : Prop where
  ex : ∃ (g : Addr) (fd : FuncData), EqC K C g ∧ FnOk P w K mg base CX k g fd ps sp ∧ Binds K fd ps []
/-- what the operation gives of the answer of == -/
def sgn (op : CmpOp) (b : Bool) : Bool := match op with
  | .NotEq => !b
  | _ => b
def EqNe (op : CmpOp) : Prop := op = .Eq ∨ op = .NotEq
/-- a promise that gives a bool -/
abbrev BQ (op : CmpOp) (Q : VK) : VK := fun z H' => ∃ b, z = .bl b ∧ Q (.bl (sgn op b)) H'
section
variable {X : Cx} {CX : CXT} {k : Nat} {pins : List (Addr × Obj)} {σ : L2.St} {H : Hp} {s : Shared} {A : Around} {C a dx : Addr} {fs : List (Str × V)} {ps : List Str} {sp : Sp} {E : XK} {y : V} {v : Value} {Q : VK}
theorem ins_looks (I : Inv X pins σ H s) (ha : H a = some (.ins C dx fs)) : ∃ ox od, PySem.W.InstAt s.heap a ox C od := by
  obtain ⟨mA, J, _⟩ := ins_get I.hok ha
  obtain ⟨od, J, _⟩ := J.look
  exact ⟨_, _, J⟩
theorem tryNone {M : Model} {A' : Around} {u z : Value} {name : Str} {R : Option Value → Shared → Prop} {E' : Value → Shared → Prop} {s' : Shared} (h : wpAny M A' (callSpecialIfBound? u name [z]) (fun r s2 => r = some .notImplemented ∧ R none s2) E' s') : wpAny M A' (tryCompare u name z) R E' s' := by
  unfold tryCompare
  refine wpAny_bind (wpAny_mono h (fun r s2 q => ?_) fun _ _ q => q)
  obtain ⟨rfl, q⟩ := q
  exact wpAny_pure q
theorem slotNe : ∀ x : Value, bindSpecial (.builtin "object.__ne__") x = pure (.builtin "object.__ne__", [x]) := fun x => F.cmp_object.ne.bind x
/-- x.__eq__(y), x.__ne__(y) -/
theorem own_try {op : CmpOp} (ho : EqNe op) (e : EqF X.prog X.w X.K X.mg X.base CX k C ps sp) (sb : Sub X (k + 1) A) (hx : Passes CX X E) (I : Inv X pins σ H s) (ha : H a = some (.ins C dx fs)) (ry : RelV y v) (h : sp [.ref a, y] H (BQ op Q) E) :
    wpAny (model X.prog X.w) A (tryCompare (.ref a) (cmpInfo op).2.1 v) (fun r s' => ∃ u, r = some u ∧ EP X pins σ Q u s') X.xe s := by
  obtain ⟨g, fd, c, Fg, hb⟩ := e.ex
  obtain ⟨ox, od, J⟩ := ins_looks I ha
  have call_ : ∀ {A' : Around}, Sub X k A' → wpAny (model X.prog X.w) A' (call (.ref g) [.ref a, v]) (EP X pins σ (BQ op Q)) X.xe s := fun {A'} sb' => run_at Fg hb sb' hx I (.cons (show RelV (V.ref a) (Value.ref a) from rfl) (.cons ry .nil)) h
  rcases ho with rfl | rfl
  · unfold tryCompare
    refine wpAny_bind (PySem.W.ifBound_K I.kIn J c.eq c.fn (wpAny_mono (call_ (sb.mono (Nat.le_succ k))) (fun u s' q => ?_) fun _ _ q => q))
    obtain ⟨z, H', I', rz, b, rfl, q⟩ := q
    cases rz
    exact wpAny_pure ⟨_, rfl, V.bl b, _, I', rfl, q⟩
  · unfold tryCompare
    refine wpAny_bind ?_
    have body : wpAny (model X.prog X.w) A (call (.builtin "object.__ne__") ([.ref a] ++ [v])) (fun u s' => EP X pins σ Q u s' ∧ u ≠ .notImplemented) X.xe s := by
      refine wpAny_call (codeAny_call_builtin F.cmp_object.ne.plain F.cmpEntry_ne (PySem.W.check_slot F.cmpKind_ne F.cmpSplit_ne (J.type.andThen (PySem.W.looks_subIn I.kIn c.ob)) (F.cmpArgs_ne _ _) ?_))
      unfold Builtin.«object.__ne__»
      refine wpAny_bind (m := slotArgs "__ne__" 1 _) (wpAny_pure ?_)
      refine wpAny_bind (wpAny_cRoomFor sb.in1.room.units0 ?_)
      refine wpAny_bind (m := callSpecialIfBound? (.ref a) (Str.ofString "__eq__") [v]) (PySem.W.ifBound_K I.kIn J c.eq c.fn (wpAny_mono (call_ sb.in1) (fun u s' q => ?_) fun _ _ q => q))
      obtain ⟨z, H', I', rz, b, rfl, q⟩ := q
      cases rz
      exact wpAny_bind (wpAny_truthy_bool (wpAny_pure ⟨⟨V.bl (!b), _, I', rfl, q⟩, fun z => nomatch z⟩))
    simp only [callSpecialIfBound?, bindSpecialIfBound?]
    refine wpAny_holding (wpAny_bind (wpAny_bind (wpAny_bind (J.type.here ((PySem.W.looks_findIn I.kIn c.ne).here ?_)))))
    simp only [slotNe]
    refine wpAny_bind (wpAny_askSetting (wpAny_ite ?_))
    have fin : wpAny (model X.prog X.w) A (call (.builtin "object.__ne__") ([.ref a] ++ [v]) >>= fun u => pure (some u)) (fun r s' => wpAny (model X.prog X.w) A (match r with | some .notImplemented => pure none | none => pure none | some u => pure (some u)) (fun r s' => ∃ u, r = some u ∧ EP X pins σ Q u s') X.xe s') X.xe s := by
      refine wpAny_bind (wpAny_mono body (fun u s' q => wpAny_pure ?_) fun _ _ q => q)
      obtain ⟨q, n⟩ := q
      cases u <;> first | exact absurd rfl n | exact wpAny_pure ⟨_, rfl, q⟩
    split
    · exact wpAny_bind (wpAny_pure (wpAny_pure fin))
    · exact wpAny_tryCatch (wpAny_bind (wpAny_pure (wpAny_pure fin)))
end
/-! ### a built-in on the left declines -/
section
variable {prog : Program} {w : World} {A : Around} {E : Value → Shared → Prop} {s : Shared} {b : Addr} {oc : Value} {od : Option Addr} {sl : Array (Option Value)}
open PySem.SeqAt AutoSeq1 MeetsSeq in
theorem int_dec (i : Int) (t : Tok) (hb : s.heap.get? b = some ⟨oc, od, .plain, sl⟩) {R : Option Value → Shared → Prop} (h : R none s) : wpAny (model prog w) A (tryCompare (.int i t) (cmpInfo .Eq).2.1 (.ref b)) R E s := by
  refine wpAny_tryCompare_declines (typeIs_int s i t) F.slot_int_eq ?_
  refine GQ.call_here F.slot_int_eq (typeIs_int s i t) F.entry_int_eq (F.args_int_eq_2 _ _) ?_
  obtain ⟨hp, g, d, tk, os⟩ := s
  wp_walk using wpAny_loadPart' hb, wpAny_load hb
  exact ⟨rfl, h⟩
open PySem.SeqAt AutoSeq1 MeetsSeq in
theorem none_dec {R : Option Value → Shared → Prop} (h : R none s) : wpAny (model prog w) A (tryCompare .none (cmpInfo .Eq).2.1 (.ref b)) R E s := by
  refine wpAny_tryCompare_declines (T := "NoneType") rfl F.slot_NoneType_eq ?_
  refine GQ.call_here (T := "NoneType") F.slot_NoneType_eq rfl F.entry_NoneType_eq (F.args_NoneType_eq_2 _ _) ?_
  obtain ⟨hp, g, d, tk, os⟩ := s
  wp_walk
  exact ⟨rfl, h⟩
theorem list_dec {l : Addr} {ol : Obj} (hl : s.heap.get? l = some ol) (hc : ol.cls = .type "list") (hi : PySem.W.Looks (model prog w) s.heap (isInstance (.ref b) (.type "list")) false) {R : Option Value → Shared → Prop} (h : R none s) :
    wpAny (model prog w) A (tryCompare (.ref l) (cmpInfo .Eq).2.1 (.ref b)) R E s := by
  refine wpAny_tryCompare_declines (T := "list") ⟨ol, hl, hc⟩ F.slot_list_eq ?_
  refine GQ.call_here (T := "list") F.slot_list_eq ⟨ol, hl, hc⟩ F.entry_list_eq (F.args_list_eq_2 _ _) ?_
  show wpAny _ _ (slotArgs "__eq__" 1 ⟨[.ref l, .ref b], []⟩ >>= _) _ _ s
  refine wpAny_bind (wpAny_pure (wpAny_bind (hi.here ?_)))
  exact wpAny_pure ⟨rfl, h⟩
theorem tup_dec {l : Addr} {ol : Obj} (hl : s.heap.get? l = some ol) (hc : ol.cls = .type "tuple") (hi : PySem.W.Looks (model prog w) s.heap (isInstance (.ref b) (.type "tuple")) false) {R : Option Value → Shared → Prop} (h : R none s) :
    wpAny (model prog w) A (tryCompare (.ref l) (cmpInfo .Eq).2.1 (.ref b)) R E s := by
  refine wpAny_tryCompare_declines (T := "tuple") ⟨ol, hl, hc⟩ F.slot_tuple_eq ?_
  refine GQ.call_here (T := "tuple") F.slot_tuple_eq ⟨ol, hl, hc⟩ F.entry_tuple_eq (F.args_tuple_eq_2 _ _) ?_
  show wpAny _ _ (slotArgs "__eq__" 1 ⟨[.ref l, .ref b], []⟩ >>= _) _ _ s
  refine wpAny_bind (wpAny_pure (wpAny_bind (hi.here ?_)))
  exact wpAny_pure ⟨rfl, h⟩
end
/-! ### the operation -/
/-- built-in values whose == leaves the answer to the other side -/
inductive Decl (K : PySem.W.Frag) (H : Hp) : V → String → Prop where
  | non : Decl K H .non "NoneType"
  | int (i : Int) : Decl K H (.int i) "int"
  | lst {a : Addr} {xs : List V} (h : H a = some (.lst xs)) : Decl K H (.ref a) "list"
  | tup {a : Addr} {xs : List V} (h : H a = some (.tup xs)) : Decl K H (.ref a) "tuple"
def rCmp (X : Cx) (CX : CXT) (k : Nat) (E : XK) (op : CmpOp) : R2 := fun x y H Q =>
  (∃ a C dx fs t ps sp, x = .ref a ∧ H a = some (.ins C dx fs) ∧ TyX X.K H y t ∧ PySem.W.notFirst X.K C t = true ∧ EqF X.prog X.w X.K X.mg X.base CX k C ps sp ∧ sp [.ref a, y] H (BQ op Q) E) ∨
  (∃ a C dx fs b D dy gs ps sp, x = .ref a ∧ y = .ref b ∧ H a = some (.ins C dx fs) ∧ H b = some (.ins D dy gs) ∧ D ≠ C ∧ PySem.W.subIn X.K (.ref D) (.ref C) = some true ∧ EqF X.prog X.w X.K X.mg X.base CX k D ps sp ∧ sp [.ref b, .ref a] H (BQ op Q) E) ∨
  (op = .Eq ∧ ∃ T b D dy gs ps sp, y = .ref b ∧ Decl X.K H x T ∧ H b = some (.ins D dy gs) ∧ PySem.W.subIn X.K (.ref D) (.type T) = some false ∧ EqF X.prog X.w X.K X.mg X.base CX k D ps sp ∧ sp [.ref b, x] H (BQ op Q) E)
section
variable {X : Cx} {CX : CXT} {k : Nat} {E : XK} {op : CmpOp}
theorem cmpInfo_r (ho : EqNe op) : (cmpInfo op).2.2 = (cmpInfo op).2.1 := by rcases ho with rfl | rfl <;> rfl
theorem op_own (ho : EqNe op) (hr : Room (k + 1) X.A) (hx : Passes CX X E) : OpR X (richCompare op) (rCmp X CX k E op) := by
  intro pins s σ H x y v u Q I rx ry h
  have sb : Sub X (k + 1) X.A := ⟨hr, rfl⟩
  rcases h with ⟨a, C, dx, fs, t, ps, sp, rfl, ha, ty, nf, e, h⟩ | ⟨a, C, dx, fs, b, D, dy, gs, ps, sp, rfl, rfl, ha, hb, ne, hs, e, h⟩ | ⟨rfl, T, b, D, dy, gs, ps, sp, rfl, dc, hb, hs, e, h⟩
  · cases rx
    obtain ⟨ox, od, J⟩ := ins_looks I ha
    obtain ⟨_, Z, p, _⟩ := kit_of I ry ty
    have LT := Z.ty (model X.prog X.w) _ I.kIn p
    unfold richCompare
    simp only [oneThing_ref]
    refine wpAny_holding (wpAny_bind (wpAny_cRoomFor hr.units0 (wpAny_bind (J.type.here (wpAny_bind (LT.here ?_))))))
    have fin : wpAny (model X.prog X.w) X.A (tryCompare (.ref a) (cmpInfo op).2.1 u) (fun r s' => ∃ v, r = some v ∧ EP X pins σ Q v s') X.xe s := own_try ho e sb hx I ha ry h
    split
    · rename_i q
      have e2 : PySem.W.subIn X.K t (.ref C) = some false := by
        rcases Bool.or_eq_true_iff.mp nf with z | z
        · rw [beq_iff_eq.mp z] at q
          simp at q
        · exact beq_iff_eq.mp z
      refine wpAny_bind ((PySem.W.looks_subIn I.kIn e2).here ?_)
      simp only [Bool.false_eq_true, if_false]
      refine wpAny_bind (wpAny_mono fin (fun r s' z => ?_) fun _ _ z => z)
      obtain ⟨v, rfl, z⟩ := z
      exact wpAny_pure z
    · refine wpAny_bind (wpAny_pure ?_)
      simp only [Bool.false_eq_true, if_false]
      refine wpAny_bind (wpAny_mono fin (fun r s' z => ?_) fun _ _ z => z)
      obtain ⟨v, rfl, z⟩ := z
      exact wpAny_pure z
  · cases rx
    cases ry
    obtain ⟨ox, od, J⟩ := ins_looks I ha
    obtain ⟨oy, oe, J2⟩ := ins_looks I hb
    unfold richCompare
    simp only [oneThing_ref]
    refine wpAny_holding (wpAny_bind (wpAny_cRoomFor hr.units0 (wpAny_bind (J.type.here (wpAny_bind (J2.type.here ?_))))))
    have fin : wpAny (model X.prog X.w) X.A (tryCompare (.ref b) (cmpInfo op).2.2 (.ref a)) (fun r s' => ∃ v, r = some v ∧ EP X pins σ Q v s') X.xe s := by
      rw [cmpInfo_r ho]
      exact own_try (y := .ref a) ho e sb hx I hb rfl h
    rw [if_pos (show ((Value.ref C != Value.ref D) = true) from bne_iff_ne.mpr fun z => ne (by injection z with z; exact z.symm))]
    refine wpAny_bind ((PySem.W.looks_subIn I.kIn hs).here ?_)
    simp only [if_true]
    refine wpAny_bind (wpAny_mono fin (fun r s' z => ?_) fun _ _ z => z)
    obtain ⟨v, rfl, z⟩ := z
    exact wpAny_bind (wpAny_rule (wpAny_pure z))
  · cases ry
    obtain ⟨oy, oe, J2⟩ := ins_looks I hb
    have Li : PySem.W.Looks (model X.prog X.w) s.heap (isInstance (.ref b) (.type T)) false := J2.type.andThen (PySem.W.looks_subIn I.kIn hs)
    have key : ∃ (_ : s.TypeIs v T), ∀ {R : Option Value → Shared → Prop}, R none s → wpAny (model X.prog X.w) X.A (tryCompare v (cmpInfo .Eq).2.1 (.ref b)) R X.xe s := by
      cases dc with
      | non =>
        cases rx
        exact ⟨rfl, fun q => none_dec q⟩
      | int i =>
        obtain ⟨t, q⟩ := (show ∃ t, v = Value.int i t from rx)
        cases q
        obtain ⟨mA, O, _⟩ := ins_get I.hok hb
        exact ⟨typeIs_int s i t, fun q => int_dec i t (show s.heap.get? b = some (PySem.W.instObj D dy) from O.1) q⟩
      | @lst a xs h9 =>
        cases rx
        obtain ⟨_, _, n, _, h1⟩ := (show ObjOk X.prog X.w H s.heap a (.lst xs) from I.hok a _ h9)
        exact ⟨⟨_, h1, rfl⟩, fun q => list_dec h1 rfl Li q⟩
      | @tup a xs h9 =>
        cases rx
        obtain ⟨_, _, _, o, h1, h2, _⟩ := (show ObjOk X.prog X.w H s.heap a (.tup xs) from I.hok a _ h9)
        exact ⟨⟨_, h1, h2⟩, fun q => tup_dec h1 h2 Li q⟩
    obtain ⟨ht, key⟩ := key
    unfold richCompare
    simp only [ht.oneThing_none]
    refine wpAny_holding (wpAny_bind (wpAny_cRoomFor hr.units0 (wpAny_bind (wpAny_typeOf ht (wpAny_bind (J2.type.here ?_))))))
    rw [if_pos (show ((Value.type T != Value.ref D) = true) from rfl)]
    refine wpAny_bind ((PySem.W.looks_subIn I.kIn hs).here ?_)
    simp only [Bool.false_eq_true, if_false, Bool.not_false, if_true]
    refine wpAny_bind (m := tryCompare v _ (.ref b)) (key ?_)
    have fin : wpAny (model X.prog X.w) X.A (tryCompare (.ref b) (cmpInfo .Eq).2.1 v) (fun r s' => ∃ v, r = some v ∧ EP X pins σ Q v s') X.xe s := own_try (.inl rfl) e sb hx I hb rx h
    refine wpAny_bind (m := tryCompare (.ref b) _ v) (wpAny_mono fin (fun r s' z => ?_) fun _ _ z => z)
    obtain ⟨v, rfl, z⟩ := z
    exact wpAny_pure z
end
end K94
namespace K94
open PySem L2
/-! ### sorted of places of one length -/
def plData (q : Pl) : PyData := .tuple (q.map PyData.int)
def srt (qs : List Pl) : List Pl := qs.mergeSort (PySem.W.dataLe false plData)
theorem srt_perm (qs : List Pl) : (srt qs).Perm qs := List.mergeSort_perm qs _
theorem alike_pl : ∀ {p q : Pl}, p.length = q.length → PySem.W.alikeAll (p.map PyData.int) (q.map PyData.int) = true
  | [], [], _ => rfl
  | a :: p, b :: q, h => by
    show (PySem.W.alike (.int a) (.int b) && PySem.W.alikeAll (p.map PyData.int) (q.map PyData.int)) = true
    rw [alike_pl (by simpa using h)]
    rfl
theorem depth_pl : ∀ q : Pl, (plData q).depth ≤ 1 := fun q => by
  show PyData.depthAll (q.map PyData.int) + 1 ≤ 1
  rw [PySem.W.depth_ints]
  decide
theorem reads_ints {h : Heap} : ∀ {q : Pl} {us : List Value}, Vals (q.map V.int) us → ReadsAll h us (q.map PyData.int) []
  | [], _, .nil => .nil
  | a :: q, _, .cons r t => by
    obtain ⟨k, rfl⟩ := (show ∃ k, _ = Value.int a k from r)
    exact ReadsAll.cons (Reads.int a k) (reads_ints t)
/-- sorted(list of places) -/
def rSorted : List V → Hp → VK → Prop := fun xs H Q => ∃ (l : Addr) (us : List V) (qs : List Pl) (n : Nat), xs = [.ref l] ∧ H l = some (.lst us) ∧ ArePl H us qs ∧ (∀ q ∈ qs, q.length = n) ∧ 0 < n ∧
  ∀ p ws, H p = none → ArePl (L2.upd H p (.lst ws)) ws (srt qs) → Q (.ref p) (L2.upd H p (.lst ws))
theorem paired_each {α β : Type} {F : α → β → Prop} : ∀ {l : List α} {m : List β}, Paired F l m → PySem.W.EachIs F l m
  | _, _, .nil => .nil
  | _, _, .cons h t => .cons h (paired_each t)
theorem each_paired {α β : Type} {F : α → β → Prop} : ∀ {l : List α} {m : List β}, PySem.W.EachIs F l m → Paired F l m
  | _, _, .nil => .nil
  | _, _, .cons h t => .cons h (each_paired t)
theorem vals_each {G : V → Pl → Prop} : ∀ {vs : List V} {us : List Value} {qs : List Pl}, Vals vs us → Paired G vs qs → Paired (fun u q => ∃ v, RelV v u ∧ G v q) us qs
  | _, _, _, .nil, .nil => .nil
  | _, _, _, .cons r t, .cons g t' => .cons ⟨_, r, g⟩ (vals_each t t')
theorem each_vals {G : V → Pl → Prop} : ∀ {us : List Value} {qs : List Pl}, Paired (fun u q => ∃ v, RelV v u ∧ G v q) us qs → ∃ vs, Vals vs us ∧ Paired G vs qs
  | _, _, .nil => ⟨[], .nil, .nil⟩
  | _, _, .cons ⟨v, r, g⟩ t => by
    obtain ⟨vs, a, b⟩ := each_vals t
    exact ⟨v :: vs, .cons r a, .cons g b⟩
theorem call_sorted {X : Cx} (hu : X.A.units + 10 < cLine) : CallR X (.builtin "sorted") rSorted := by
  intro pins s σ H xs us Q I r h
  obtain ⟨l, vs, qs, n, rfl, hl, hq, hn, n0, hQ⟩ := h
  obtain ⟨u, rfl, rx⟩ := vals1 r
  cases rx
  obtain ⟨hz, its, c, hv, hget⟩ := (show ObjOk X.prog X.w H s.heap l (.lst vs) from I.hok l _ hl)
  have hlen : qs.length = vs.length := (Paired.length hq).symm
  have e := paired_each (vals_each hv hq)
  have er : PySem.W.EachIs (fun v b => ∃ as, Reads s.heap v (plData b) as) its qs := paired_each (Paired.mapP (vals_each hv hq) fun a b z => by
    obtain ⟨v, rv, t, rfl, ht⟩ := z
    cases rv
    obtain ⟨_, jts, hj, o, ho, hc, m, hd⟩ := (show ObjOk X.prog X.w H s.heap t (.tup (b.map V.int)) from I.hok t _ ht)
    exact ⟨_, Reads.tuple ho hc hd (reads_ints hj)⟩)
  refine PySem.W.sorted_data (vs := its) ⟨_, hget, rfl, c, rfl⟩ e er ?_ (.inl ?_) (by omega) (fun b _ => by have := depth_pl b; omega) fun out ho eo => ?_
  · intro d hd d' hd'
    obtain ⟨p, hp, rfl⟩ := List.mem_map.mp hd
    obtain ⟨q, hq', rfl⟩ := List.mem_map.mp hd'
    exact alike_pl ((hn p hp).trans (hn q hq').symm)
  · intro d hd
    obtain ⟨p, hp, rfl⟩ := List.mem_map.mp hd
    cases p with
    | nil => have := hn [] hp; simp at this; omega
    | cons x r => exact ⟨.int x, r.map PyData.int, rfl⟩
  · obtain ⟨ws, hw1, hw2⟩ := each_vals (each_paired eo)
    obtain ⟨c2, hc2⟩ := PyProof.Rows.sortedAll_at s.heap its out.toArray
    have hnew : H (s.heap.objs.size + 1) = none := I.hok.fresh (Nat.le_succ _)
    have hws : ws.length ≤ sizeLine := by
      have h1 := hw1.length
      omega
    refine ⟨.ref (s.heap.objs.size + 1), _, I.laid (t' := s.toks) (fun _ _ => PyProof.Rows.sortedAll_old) (Nat.le_succ _) (show ObjOk X.prog X.w _ _ _ (.lst ws) from ⟨hws, out, c2, hw1, hc2⟩), rfl, hQ _ ws hnew ?_⟩
    exact Paired.mapP hw2 fun v q z => by
      obtain ⟨t, e1, ht⟩ := z
      exact ⟨t, e1, by rw [upd_ne (ne_of_none ht hnew)]; exact ht⟩
end K94
namespace K94
open PySem L2
/-! ### an exception that is kept as a value behind its except clause -/
/-- at a: an exception of the class at C whose dict is at d -/
def exV (C d : Addr) (a : Addr) : HO := .ext fun h => ∃ (oe : Obj) (vs : Array Value), h.get? a = some oe ∧ Zc (.ref C) (some d) oe ∧ oe.data = .fields vs
def ExAt (H : Hp) (a C : Addr) (fs : List (Str × V)) : Prop := ∃ d, H a = some (exV C d a) ∧ H d = some (.xd fs)
theorem exV_ok {P : Program} {w : World} {H : Hp} {h : Heap} {C d a : Addr} {oe : Obj} {vs : Array Value} (e : h.get? a = some oe) (z : Zc (.ref C) (some d) oe) (dd : oe.data = .fields vs) : ObjOk P w H h a (exV C d a) :=
  ⟨⟨oe, vs, e, z, dd⟩, ⟨oe, e⟩, fun h1 h2 p k => by
    obtain ⟨o, us, q, r⟩ := p
    exact ⟨o, us, k o q, r⟩⟩
theorem exV_look {X : Cx} {pins : List (Addr × Obj)} {σ : L2.St} {H : Hp} {s : Shared} {a C : Addr} {fs : List (Str × V)} (I : Inv X pins σ H s) (h : ExAt H a C fs) :
    ∃ ox od, PySem.W.InstAt s.heap a ox C (some od) ∧ ∀ n v, fs.lookup n = some v → ∃ u, PySem.W.lookIn n od = some (some u) ∧ RelV v u := by
  obtain ⟨d, ha, hd⟩ := h
  obtain ⟨⟨oe, vs, e, z, dd⟩, _⟩ := I.hok a _ ha
  obtain ⟨mA, hns, hr⟩ := (show ObjOk X.prog X.w H s.heap d (.xd fs) from I.hok d _ hd)
  obtain ⟨od, ho, hl⟩ := lookIn_ns hns
  refine ⟨oe, od, ⟨e, z.1, ?_, ?_⟩, fun n v q => ?_⟩
  · unfold PySem.W.notCls
    rw [dd] <;> rfl
  · rw [z.2]
    exact ho
  · obtain ⟨u, hu, ru⟩ := RelO.some_of (v := v) (o := mA n) (by rw [← q]; exact hr n)
    exact ⟨u, by rw [hl, hu], ru⟩
section
open PySem.W PySem.Calls PyProof.Rows
variable {prog : Program} {w : World} {A : Around} {E : Value → Shared → Prop} {s : Shared} {K : Frag} {x D : Addr} {ox od : Obj}
/-- x.__class__ of an exception of the class at D that has its dict -/
theorem exc_class {Q : Option Value → Shared → Prop} (c : ExcC K D) (X : K.In s.heap) (I : InstAt s.heap x ox D (some od)) (h : Q (some (.ref D)) { s with toks := s.toks + 1 }) : wpAny (model prog w) A (getAttr? (.ref x) "__class__") Q E s := by
  have hf : findObj K D (some od) "__class__" = some (.bind (.builtin "getset_descriptor.__get__") (.builtin "object.__class__")) := by
    obtain ⟨cd, hc, _⟩ := any_some c.hd
    exact findObj_data (by rw [hc]; rfl) c.ha c.hn c.ht
  obtain ⟨hp, g, d, t, os⟩ := s
  have T0 := I.type (M := model prog w)
  have T1 := looks_findIn (M := model prog w) X c.hg
  have T2 := looks_findIn (M := model prog w) X c.hk
  have T3 := looks_find (M := model prog w) X I hf
  have n2 : (Value.builtin "BaseException.__getattribute__" == Value.builtin "object.__getattribute__") = false := by decide +kernel
  have n1 : (onTheHeap (Value.ref D) && Value.builtin "BaseException.__getattribute__" == Value.builtin "object.__getattribute__") = false := by rw [n2]; rfl
  have n0 : (false && onTheHeap (Value.builtin "BaseException.__getattribute__")) = false := rfl
  unfold getAttr? getAttrBy? getAttrBy
  refine wpAny_bind (wpAny_mkText (wpAny_bind (wpAny_attempt (wpAny_holding (wpAny_bind (T0.at (wpAny_bind (T1.at ?_))))))))
  show wpAny _ _ (if (onTheHeap (Value.ref D) && Value.builtin "BaseException.__getattribute__" == Value.builtin "object.__getattribute__") = true then _ else _) _ _ _
  rw [n1, if_neg Bool.false_ne_true]
  unfold getAttrByItsOwn hookBefore
  refine wpAny_bind ?_
  rw [if_pos (show onTheHeap (Value.ref D) = true from rfl)]
  refine T2.at ?_
  refine wpAny_bind (wpAny_attempt (wpAny_holding ?_))
  unfold callGetattribute
  rw [n0, if_neg Bool.false_ne_true]
  unfold boundAndCalled
  rw [PySem.F.excAttr_ValueError.ga.bind (.ref x)]
  refine wpAny_bind (wpAny_pure ?_)
  show wpAny _ _ (call (.builtin "BaseException.__getattribute__") [.ref x, .str "__class__" t]) _ _ _
  refine wpAny_call (codeAny_call_builtin PySem.F.excAttr_ValueError.ga.plain PySem.F.entry_bexc_ga ?_)
  have isb : Looks (model prog w) hp (isInstance (.ref x) (.type "BaseException")) true := T0.andThen (looks_subIn X c.hs)
  refine check_slot (M := model prog w) (s := ⟨hp, g, d, t + 1, os⟩) (i := "BaseException.__getattribute__") (owner := "BaseException") (n := "__getattribute__") (self := .ref x) (rest := [.str "__class__" t]) (kw := []) (by decide +kernel) (by decide +kernel) isb (PySem.F.args_bexc_ga (.ref x) (.str "__class__" t)) ?_
  unfold Builtin.«object.__getattribute__»
  refine wpAny_bind (wpAny_of_eq (a := ((Value.ref x : Value), [Value.str "__class__" t])) (by first | rfl | (simp only [slotArgs]; rfl)) ?_)
  refine wpAny_bind (wpAny_pure (wpAny_bind (T0.at (wpAny_bind (T3.at ?_)))))
  show wpAny _ _ (holding [Value.builtin "object.__class__"] (call (.builtin "getset_descriptor.__get__") [.builtin "object.__class__", .ref x, .ref D]) >>= ret) _ _ _
  refine wpAny_bind (wpAny_holding (wpAny_call (class_get (s := ⟨hp, g, d, t + 1, os⟩) (ox := ox) (od := some od) X I c.hm ?_)))
  refine wpAny_pure ?_
  show wpAny _ _ (handedOut (.ref D)) _ _ _
  rw [handedOut_of (v := .ref D) rfl]
  first
    | exact wpAny_pure (wpAny_pure h)
    | exact wpAny_pure h
    | exact wpAny_pure (wpAny_bind (wpAny_pure (wpAny_pure h)))
theorem exc_kit (c : ExcC K D) : KitX K (.ref x) (.ref D) (fun h => InstAt h x ox D (some od)) := by
  have hcls : ∃ c' d' cd' sl', K.lookup D = some ⟨c', d', .cls cd', sl'⟩ := by
    obtain ⟨cd, hc, _⟩ := any_some c.hd
    unfold clsIn at hc
    split at hc
    · exact ⟨_, _, _, _, by assumption⟩
    · cases hc
  obtain ⟨c', d', cd', sl', ho⟩ := hcls
  refine ⟨fun _ _ _ I => I.type, fun _ _ X _ => ?_, fun h tp dd its n sl X htp => ?_, fun X I k => exc_class c X I k⟩
  · intro A' Q' E' s' k q
    unfold isType loadHead
    exact wpAny_bind (wpAny_loadPart (k _ _ (X _ _ ho)) (wpAny_pure q))
  · refine Bool.eq_false_iff.mpr fun q => ?_
    have e : D = tp := Value.ref.inj (beq_iff_eq.mp q)
    subst e
    cases (X _ _ ho).symm.trans htp
end
/-- isinstance(e, C), e such an exception -/
def rIsX (K : PySem.W.Frag) : List V → Hp → VK → Prop := fun xs H Q => ∃ (a D : Addr) (fs : List (Str × V)) (c : V) (cv : Value) (b : Bool), xs = [.ref a, c] ∧ ExAt H a D fs ∧ ExcC K D ∧ ClsV c cv ∧ PySem.W.kitOne K (.ref D) cv = some b ∧ Q (.bl b) H
theorem call_isX {X : Cx} : CallR X (.builtin "isinstance") (rIsX X.K) := by
  intro pins s σ H xs us Q I r h
  obtain ⟨a, D, fs, c, cv, b, rfl, hx, ec, hv, e, q⟩ := h
  cases r with
  | cons rx rr =>
    cases rr with
    | cons rt rr =>
      cases rr
      cases rx
      have e2 := hv.eq rt
      subst e2
      obtain ⟨ox, od, J, _⟩ := exV_look I hx
      exact PySem.W.kia_one (exc_kit ec) I.kIn J e (fun z => nomatch z) fun tk => ⟨.bl b, H, I.kept (t' := tk) fun _ _ z => z, rfl, q⟩
/-- e.n, e such an exception -/
def tXv (K : PySem.W.Frag) (n : Str) (te : TE) : TE := fun σ H Q => te σ H fun x H1 => ∃ (a C : Addr) (fs : List (Str × V)) (v : V), x = .ref a ∧ ExAt H1 a C fs ∧ XfC K C ∧ PySem.W.findIn K (.ref C) n = some none ∧ fs.lookup n = some v ∧ Q v H1
theorem pe_xv {X : Cx} {e : Expr} {te : TE} {pos : Pos} {n : Str} (he : PE X e te) (hb : attributeBase e n X.env (eval e X.env) = eval e X.env := by rfl) : PE X (.Attribute e n pos) (tXv X.K n te) := by
  refine ⟨fun pins s σ H Q I h => attr_of hb (thn (he.run pins s σ H _ I h) fun u s1 hh => ?_)⟩
  obtain ⟨x, H1, I1, rx, a, C, fs, v, rfl, ex, T, hno, l, q⟩ := hh
  cases rx
  obtain ⟨ox, od, J, look⟩ := exV_look I1 ex
  obtain ⟨u, hu, ru⟩ := look n v l
  exact HandSPX.exc_get I1.kIn J T.ga T.gg T.exC (PySem.W.findObj_own T.hdC hno rfl hu) (handed_of ru) ⟨v, H1, I1.tok _, ru, q⟩
end K94
namespace K94
open PySem L2
/-! ### objects taken up, objects left out -/
section
variable {X : Cx} {pins : List (Addr × Obj)} {σ : L2.St} {H : Hp} {s : Shared}
/-- what may be said of an address of ours that nothing names -/
structure Loose (X : Cx) (pins : List (Addr × Obj)) (a : Addr) : Prop where
  old : X.s_0.heap.get? a = none
  loc : a ≠ X.env.locals
  cell : ∀ x c, X.env.cells.lookup x = some c → c ≠ a
  pin : ∀ p ∈ X.pn ++ pins, p.1 ≠ a
theorem Loose.ne {a b : Addr} {o : Obj} (z : Loose X pins a) (e : X.s_0.heap.get? b = some o) : b ≠ a := fun q => by
  rw [q, z.old] at e
  cases e
/-- an object of ours is tracked from here on -/
theorem inv_trk {a : Addr} {φ : Heap → Prop} (I : Inv X pins σ H s) (na : H a = none) (z : Loose X pins a) (new : ObjOk X.prog X.w (L2.upd H a (.ext φ)) s.heap a (.ext φ)) : Inv X pins σ (L2.upd H a (.ext φ)) s := by
  have key : ∀ {b : Addr} {o : HO}, H b = some o → L2.upd H a (.ext φ) b = some o := fun {b o} e => (upd_ne (ne_of_none e na)).trans e
  have B := I.base
  refine ⟨I.ok, I.os, I.bare, ⟨B.keep, B.slot, fun b o e n x => ?_, B.there, fun b xs e => key (B.tups b xs e), fun b o u e => key (B.frzs b o u e), fun b ps e => ?_⟩, I.loc, I.cell, ?_, fun x c e => ?_, fun p hp => ?_, fun b u e => ?_, I.len⟩
  · rw [upd_ne (z.ne e)]
    exact B.free b o e n x
  · obtain ⟨m, q⟩ := B.tbls b ps e
    exact ⟨m, key q⟩
  · rw [upd_ne z.loc.symm]
    exact I.free
  · rw [upd_ne (z.cell x c e)]
    exact I.freeC x c e
  · obtain ⟨p1, p2, p3⟩ := I.pin p hp
    exact ⟨p1, by rw [upd_ne (z.pin p hp)]; exact p2, p3⟩
  · by_cases hb : b = a
    · subst hb
      rw [upd_same] at e
      cases e
      exact new
    · rw [upd_ne hb] at e
      exact (I.hok b u e).stay (fun _ _ _ q => q) (fun _ q => key q) fun _ _ q => key q
/-- the state without some objects that nothing tracks -/
theorem inv_drop (l : List Addr) (I : Inv X pins σ H s) (hl : ∀ a ∈ l, H a = none ∧ Loose X pins a) : Inv X pins σ H { s with heap := PySem.W.hideAll s.heap l } := by
  have gk : ∀ {b : Addr} {o : Obj}, b ∉ l → s.heap.get? b = some o → (PySem.W.hideAll s.heap l).get? b = some o := fun {b o} n e => PySem.W.hideAll_get l e n
  have nH : ∀ {b : Addr} {o : HO}, H b = some o → b ∉ l := fun {b o} e m => by
    rw [(hl b m).1] at e
    cases e
  have n0 : ∀ {b : Addr} {o : Obj}, X.s_0.heap.get? b = some o → b ∉ l := fun {b o} e m => (hl b m).2.ne e rfl
  have nc : ∀ {x : Str} {c : Addr}, X.env.cells.lookup x = some c → c ∉ l := fun {x c} e m => (hl c m).2.cell x c e rfl
  have nL : X.env.locals ∉ l := fun m => (hl _ m).2.loc rfl
  have cellK : ∀ {x : Str} {c : Addr} {v : Option Value}, X.env.cells.lookup x = some c → s.heap.IsCell c v → (PySem.W.hideAll s.heap l).IsCell c v := fun e q => by
    obtain ⟨o, h1, h2⟩ := q
    exact ⟨o, gk (nc e) h1, h2⟩
  have B := I.base
  refine ⟨I.ok, I.os, I.bare, ⟨fun b o e n hb x => gk (n0 e) (B.keep b o e n hb x), fun b o e n hb x => ?_, B.free, fun b o e x => ?_, B.tups, B.frzs, B.tbls⟩, ?_, fun x c e => ?_, I.free, I.freeC, fun p hp => ?_, fun b u e => ?_, I.len⟩
  · obtain ⟨sl, q⟩ := B.slot b o e n hb x
    exact ⟨sl, gk (n0 e) q⟩
  · obtain ⟨o', q⟩ := B.there b o e x
    exact ⟨o', gk (n0 e) q⟩
  · obtain ⟨m, ⟨o, es, ep, ho, r⟩, look⟩ := I.loc
    refine ⟨m, ⟨o, es, ep, gk nL ho, r⟩, fun i x v e1 e2 e3 => ?_⟩
    obtain ⟨u, r1, q⟩ := look i x v e1 e2 e3
    refine ⟨u, r1, ?_⟩
    rcases q with q | ⟨k, c, ec, q⟩
    · exact .inl q
    · exact .inr ⟨k, c, ec, cellK ec q⟩
  · obtain ⟨v, q⟩ := I.cell x c e
    exact ⟨v, cellK e q⟩
  · obtain ⟨p1, p2⟩ := I.pin p hp
    exact ⟨gk (fun m => (hl _ m).2.pin p hp rfl) p1, p2⟩
  · refine (I.hok b u e).stay (fun c o hc q => gk ?_ q) (fun _ q => q) fun _ _ q => q
    rcases hc with rfl | hc
    · exact nH e
    · exact nH hc
end
/-! ### methods, calls of instances, properties, with what may be let out by the slots -/
structure MF (P : Program) (w : World) (K : PySem.W.Frag) (mg : Str → Option Value) (base : Heap) (CX : CXT) (k : Nat) (C : Addr) (m : Str) (ps : List Str) (sp : Sp) : Prop where
  ex : ∃ (f : Addr) (fd : FuncData), Cls K C ∧ Meth K C m f ∧ FnOk P w K mg base CX k f fd ps sp ∧ Binds K fd ps []
structure OF (P : Program) (w : World) (K : PySem.W.Frag) (mg : Str → Option Value) (base : Heap) (CX : CXT) (k : Nat) (C : Addr) (ps : List Str) (sp : Sp) : Prop where
  ex : ∃ (f : Addr) (fd : FuncData), StX.CallO K C f ∧ FnOk P w K mg base CX k f fd ps sp ∧ Binds K fd ps []
structure PF (P : Program) (w : World) (K : PySem.W.Frag) (mg : Str → Option Value) (base : Heap) (CX : CXT) (k : Nat) (C : Addr) (m : Str) (ps : List Str) (sp : Sp) : Prop where
  ex : ∃ (p f : Addr) (fd : FuncData), Cls K C ∧ PropOf K C m p f ∧ FnOk P w K mg base CX k f fd ps sp ∧ Binds K fd ps []
def tMS (C : Addr) (m : Str) (sp : Sp) (E : L2.St → XK) (ta : TE) (t : TA) : TE := fun σ H Q => ta σ H fun x H1 => ∃ a dx fs, x = .ref a ∧ H1 a = some (.ins C dx fs) ∧ fs.lookup m = none ∧ t σ H1 fun vs H2 => sp (x :: vs) H2 Q (E σ)
def tOS (C : Addr) (sp : Sp) (E : L2.St → XK) (ta : TE) (t : TA) : TE := fun σ H Q => ta σ H fun x H1 => ∃ a, x = .ref a ∧ t σ H1 fun vs H2 => (∃ dx fs, H2 a = some (.ins C dx fs)) ∧ sp (x :: vs) H2 Q (E σ)
section
variable {X : Cx} {CX : CXT} {k : Nat} {C : Addr} {m : Str} {ps : List Str} {sp : Sp} {E : L2.St → XK} {e o : Expr} {es : List Expr} {ta : TE} {t : TA} {pos apos : Pos}
theorem run_cS {f : Addr} {fd : FuncData} {pins : List (Addr × Obj)} {σ : L2.St} {H : Hp} {s : Shared} {Q : VK} {us : List Value} {vs : List V} (F : FnOk X.prog X.w X.K X.mg X.base CX k f fd ps sp) (hr : Room k X.A) (hb : Binds X.K fd ps []) (hx : PassesAt CX X σ (E σ))
    (I : Inv X pins σ H s) (r : Vals vs us) (h : sp vs H Q (E σ)) : codeAny (model X.prog X.w) X.A (.call (.ref f) ⟨us, []⟩) (fun r s' => match r with | .ok (.ret v) => EP X pins σ Q v s' | .ok _ => False | .error e => X.xe e s') s := by
  have hl : us.length = ps.length := by rw [← r.length]; exact F.len _ _ _ _ h
  have b := hb s us I.kIn (by rw [List.append_nil]; exact hl)
  rw [List.append_nil] at b
  refine codeAny_mono (F.run X.A X.stack s H ⟨us, []⟩ us vs Q (E σ) hr I.env0 b r h) fun r s' hq => ?_
  cases r with
  | error e => exact hx pins H s e s' I hq
  | ok fl => cases fl <;> first | exact I.after hq | exact hq.elim
theorem pe_mS {pl : Sem Bool} (he : PE X o ta) (M : MF X.prog X.w X.K X.mg X.base CX k C m ps sp) (hr : Room k X.A) (hx : ∀ σ, PassesAt CX X σ (E σ)) (ha : PA X (e :: es) t)
    (hst : starEach (e :: es) X.env = (false, eval e X.env) :: starEach es X.env := by rfl) (hpl : (backTo pos (starEach es X.env)).any (·.1) = false := by rfl)
    (ht : eval (.Call (.Attribute o m apos) (e :: es) [] pos) X.env = (do
      let r ← eval o X.env
      standAt apos.atName
      let (g, first) ← holding [r] (getMethod r m pl)
      callWith pos g first (backTo pos (starEach (e :: es) X.env)) (backToKw pos (keywordEach [] X.env))) := by rfl) : PE X (.Call (.Attribute o m apos) (e :: es) [] pos) (tMS C m sp E ta t) := by
  obtain ⟨f, fd, c, hm, F, hb⟩ := M.ex
  refine ⟨fun pins s σ H Q I h => PySem.W.methodCall_KW (pl := pl) (thn (he.run pins s σ H _ I h) fun u s1 ⟨x, H1, I1, rx, a, dx, fs, ex, ea, l, q⟩ => ?_) ht⟩
  subst ex
  cases rx
  refine getmeth_ok I1 ea c hm l (PySem.W.callWith_K (first := [.ref a]) (h₀ := X.base) I.ok.mod.kin hm.kp (thn (ha.run pos pins s1 σ H1 _ I1 q) fun us s2 ⟨vs, H2, I2, r, q2⟩ => ⟨I2.kIn, ?_⟩) hst hpl)
  exact run_fnS (us := .ref a :: us) (vs := .ref a :: vs) F hr hb (hx σ) I2 (.cons rfl r) q2
theorem pe_mS0 {pl : Sem Bool} (he : PE X o ta) (M : MF X.prog X.w X.K X.mg X.base CX k C m ps sp) (hr : Room k X.A) (hx : ∀ σ, PassesAt CX X σ (E σ))
    (ht : eval (.Call (.Attribute o m apos) [] [] pos) X.env = (do
      let r ← eval o X.env
      standAt apos.atName
      let (g, first) ← holding [r] (getMethod r m pl)
      callWith pos g first (backTo pos (starEach [] X.env)) (backToKw pos (keywordEach [] X.env))) := by rfl) : PE X (.Call (.Attribute o m apos) [] [] pos) (tMS C m sp E ta tNil) := by
  obtain ⟨f, fd, c, hm, F, hb⟩ := M.ex
  refine ⟨fun pins s σ H Q I h => PySem.W.methodCall_KW (pl := pl) (thn (he.run pins s σ H _ I h) fun u s1 ⟨x, H1, I1, rx, a, dx, fs, ex, ea, l, q⟩ => ?_) ht⟩
  subst ex
  cases rx
  refine getmeth_ok I1 ea c hm l (PySem.W.callWith_K0 (first := [.ref a]) I1.kIn hm.kp ?_)
  exact run_fnS (us := [.ref a]) (vs := [.ref a]) F hr hb (hx σ) I1 (.cons rfl .nil) q
theorem pe_oS (he : PE X o ta) (M : OF X.prog X.w X.K X.mg X.base CX k C ps sp) (hr : Room k X.A) (hx : ∀ σ, PassesAt CX X σ (E σ)) (ha : PA X (e :: es) t)
    (ht : eval (.Call o (e :: es) [] pos) X.env = (do callWith pos (← eval o X.env) [] (backTo pos (starEach (e :: es) X.env)) (backToKw pos (keywordEach [] X.env))) := by rfl)
    (hst : starEach (e :: es) X.env = (false, eval e X.env) :: starEach es X.env := by rfl) (hpl : (backTo pos (starEach es X.env)).any (·.1) = false := by rfl) : PE X (.Call o (e :: es) [] pos) (tOS C sp E ta t) := by
  obtain ⟨f, fd, c, F, hb⟩ := M.ex
  refine ⟨fun pins s σ H Q I h => PyProof.Rows.Call_ (thn (he.run pins s σ H _ I h) fun u s1 ⟨x, H1, I1, rx, a, ex, q⟩ => ?_) ht⟩
  subst ex
  cases rx
  refine StX.callO_with (thn (ha.run pos pins s1 σ H1 _ I1 q) fun us s2 ⟨vs, H2, I2, r, ⟨dx, fs, hi⟩, q2⟩ => ?_) hst hpl
  obtain ⟨ox, od, J, hd⟩ := StX.insC_at I2 (.inr ⟨dx, fs, hi⟩)
  exact ⟨⟨C, ox, od, J, hd⟩, wpAny_call (PySem.W.kco_code I2.kIn J hd c.at_ c.fn c.fi (run_cS (us := .ref a :: us) (vs := .ref a :: vs) F hr hb (hx σ) I2 (.cons rfl r) q2))⟩
end
end K94
namespace K94
open PySem L2
open PyProof.Rows
/-! ### try: body, except x as n: suite; the exception is a value from there on -/
def wKeep (K : PySem.W.Frag) (c : Value) (i : Nat) (ts : Addr → Value → Option Addr → TS) (D : Ends) : WX := fun cls d σ H =>
  PySem.W.exmOne K cls c = some true ∧ ∃ C dd, cls = .ref C ∧ d = some dd ∧ ∀ a, H a = none → ts a cls d { nx := fun σ' H' => H' a = none → D.nx (σ'.set i none) (L2.upd H' a (exV C dd a)), rt := fun _ _ => False, bk := fun _ _ => False, ct := fun _ _ => False } (σ.set i (some (.ref a))) H
section
variable {X : Cx} {x n : Str} {c : Value} {i : Nat} {body suite : List Stmt} {b₀ : Stmt} {np pos pos' : Pos} {tb : WX → TS} {ts : Addr → Value → Option Addr → TS}
theorem fly_loose {pins : List (Addr × Obj)} {σ : L2.St} {H : Hp} {sI : Shared} {B h3 : Heap} {a : Addr} {Z : Obj → Prop} (hs : X.stack = X.env :: X.outer) (hf : X.env.frame = some X.env.locals) (hex : X.ex = []) (J : Inv X pins σ H sI)
    (nb : ∀ b o, sI.heap.get? b = some o → b ∉ frs X.stack → B.get? b = some o) (fl : HandSPX.FlyingZ B (X.env :: X.outer) a Z h3) : Loose X pins a ∧ a ∉ X.fs ∧ sI.heap.get? a = none := by
  obtain ⟨oe, vs, he, hz, hd⟩ := fl.there
  have nfr : a ∉ frs (X.env :: X.outer) := fun hm => by
    obtain ⟨_, o', e', hnf⟩ := fl.2.2.1.mem hm
    rw [he] at e'
    cases e'
    exact hnf _ hd
  have nI : sI.heap.get? a = none := by
    cases q : sI.heap.get? a with
    | none => rfl
    | some o =>
      have z := nb a o q (by rw [hs]; exact nfr)
      rw [fl.2.1] at z
      cases z
  refine ⟨⟨?_, fun z => nfr (List.mem_filterMap.mpr ⟨X.env, List.mem_cons_self, by rw [hf, z]⟩), fun y cc e z => ?_, fun p hp z => ?_⟩, fun hm => ?_, nI⟩
  · cases q : X.s_0.heap.get? a with
    | none => rfl
    | some o =>
      obtain ⟨o', z⟩ := J.base.there a o q (by rw [hex]; exact fun m => nomatch m)
      rw [nI] at z
      cases z
  · obtain ⟨v, ⟨o, ho, _⟩⟩ := J.cell y cc e
    rw [z, nI] at ho
    cases ho
  · have q := (J.pin p hp).1
    rw [z, nI] at q
    cases q
  · obtain ⟨e, he, q⟩ := List.mem_filterMap.mp hm
    exact nfr (List.mem_filterMap.mpr ⟨e, List.mem_cons_of_mem _ he, q⟩)
theorem ps_try_keep (hs : X.stack = X.env :: X.outer) (hf : X.env.frame = some X.env.locals) (hex : X.ex = []) (hN : X.N.Nodup) (hi : X.N[i]? = some n) (hln : X.env.kindOf n = some .local) (hc : Names X x c)
    (hb : ∀ (W : WX) (pn : List (Addr × Obj)) (xe : Value → Shared → Prop), L2.Takes (X.tr pn xe) W → PassesOwn (model X.prog X.w) X.A X.env xe → PSs (X.tr pn xe) body (tb W))
    (hsu : ∀ (a : Addr) (oe : Obj) (cls : Value) (d : Option Addr) (pn : List (Addr × Obj)), PSs (X.suite a ((a, oe) :: pn)) (b₀ :: suite) (ts a cls d)) :
    PS X (.Try body [.ExceptHandler (some (.Name x np)) (some n) (b₀ :: suite) pos'] [] [] pos) (fun D σ H => tb (wKeep X.K c i ts D) D σ H) := by
  refine ⟨fun pins s σ H D I h => ?_⟩
  have ok := I.ok
  have hfr : X.A.frames = some (X.env :: X.outer) := by rw [ok.frames, hs]
  refine wpAny_Try_except (wpAny_mono ((hb (wKeep X.K c i ts D) (X.pn ++ pins) (fun e s₁ => wpAny (model X.prog X.w) X.A (noteFrame e X.env) (fun _ s₂ => wpAny (model X.prog X.w) X.A (setFlight e none) (fun _ s₃ =>
    wpAny (model X.prog X.w) X.A (handleBy e X.env [.ExceptHandler (some (.Name x np)) (some n) (b₀ :: suite) pos']) (SP X pins D) X.xe s₃) X.xe s₂) X.xe s₁) (fun u s' xx => ?_) PassesOwn.looking).run [] s σ H D (I.toTry _) h) (fun f s1 hsp => ?_) fun e s1 he => he)
  · obtain ⟨a, B, sI, pins', σ', H', cls, d, rfl, J', nb, up, sky, na, os, ag, hb1, C, dd, rfl, rfl, hyes⟩ := xx
    have J : Inv X pins σ' H' sI := J'.ofTry ok
    have sky2 : Sky B (X.env :: X.outer) a (Zc (.ref C) (some dd)) X.env.locals s'.heap := by rw [← hs]; exact sky
    refine L2.Sky.land Zc.steady hfr hf sky2 fun h3 fl3 up3 => ?_
    have J3 : Inv X pins σ' H' { s' with heap := h3 } := J.landed nb fl3.1 (up.trans up3) os ag
    obtain ⟨oe3, vs3, he3, hz3, hd3⟩ := fl3.there
    obtain ⟨lo, nF, nI⟩ := fly_loose hs hf hex J nb fl3
    have S3 := J3.suite he3 hd3 na lo.loc nF
    refine wpAny_handleBy_cons (codeAny_handlers_test ?_) (fun q => nomatch q)
    have LT : PySem.W.Looks (model X.prog X.w) h3 (typeOf (.ref a)) (.ref C) := fun A Q E s k q => wpAny_typeOf_ref (k _ _ he3) (by rw [hz3.1]; exact q)
    have LM := PySem.W.exm_one (M := model X.prog X.w) J3.kIn LT hb1
    have test : ∀ {Q : Value → Shared → Prop} {E : Value → Shared → Prop}, Q c { s' with heap := h3 } → wpAny (model X.prog X.w) (X.A.mark (some (.ref a))) (eval (.Name x np) X.env) Q E { s' with heap := h3 } := by
      intro Q E q
      obtain ⟨hg, hdbg, hm | ⟨hm, hv, hnn⟩⟩ := hc
      · exact ld_glob (X := X.suite a ((a, oe3) :: (X.pn ++ pins))) S3 hg hm q hdbg
      · exact ld_blt (X := X.suite a ((a, oe3) :: (X.pn ++ pins))) S3 hg hm hv q hnn hdbg
    refine test (LM.here (codeAny_handlers_suite_as (HandSPX.lands_againZ fl3 fun h4 fl4 up4 => ?_)))
    have J4 : Inv X pins σ' H' { s' with heap := h4 } := J.landed nb fl4.1 ((up.trans up3).trans up4) os ag
    obtain ⟨oe4, vs4, he4, hz4, hd4⟩ := fl4.there
    have S4 := J4.suite he4 hd4 na lo.loc nF
    refine store_ok (X := X.suite a ((a, oe4) :: (X.pn ++ pins))) (v := .ref a) S4 hN hi (.inl hln) rfl (fun s5 S5 => ?_) (.inr hln)
    refine wpAny_mono ((hsu a oe4 (.ref C) (some dd) (X.pn ++ pins)).run [] s5 _ H' _ S5 (hyes a na)) (fun f s6 hsp => ?_) fun _ _ z => z.elim
    cases f with
    | next =>
      obtain ⟨σ6, H6, S6, q6⟩ := hsp
      obtain ⟨p1, p2, _⟩ := S6.pin (a, oe4) (List.mem_append_left _ List.mem_cons_self)
      exact gone_ok (inv_trk (S6.unsuite ok) p2 lo (exV_ok p1 hz4 hd4)) hN hi hln fun s7 J7 => ⟨_, _, J7, q6 p2⟩
    | brk =>
      obtain ⟨_, _, _, q⟩ := hsp
      exact q.elim
    | cont =>
      obtain ⟨_, _, _, q⟩ := hsp
      exact q.elim
    | ret u =>
      obtain ⟨_, _, _, _, _, q⟩ := hsp
      exact q.elim
  · cases f with
    | next =>
      obtain ⟨σ', H', J', q⟩ := hsp
      exact wpAny_execs_nil ⟨σ', H', J'.ofTry ok, q⟩
    | brk =>
      obtain ⟨σ', H', J', q⟩ := hsp
      exact ⟨σ', H', J'.ofTry ok, q⟩
    | cont =>
      obtain ⟨σ', H', J', q⟩ := hsp
      exact ⟨σ', H', J'.ofTry ok, q⟩
    | ret u =>
      obtain ⟨v, σ', H', J', r, q⟩ := hsp
      exact ⟨v, σ', H', J'.ofTry ok, r, q⟩
end
/-! ### try: body, except x: suite, which raises the exception again -/
def wRe (K : PySem.W.Frag) (c : Value) (ts : Addr → Value → Option Addr → TS) (D : Ends) : WX := fun cls d σ H =>
  PySem.W.exmOne K cls c = some true ∧ ∀ a, H a = none → ts a cls d D σ H
section
variable {X : Cx} {x : Str} {c : Value} {body suite : List Stmt} {b₀ : Stmt} {np pos pos' : Pos} {tb : WX → TS} {ts : Addr → Value → Option Addr → TS} {Wout : WX}
open L2H
theorem fly_rec {pins : List (Addr × Obj)} {σ : L2.St} {H : Hp} {sI : Shared} {B h3 : Heap} {a T : Addr} {oT : Obj} {tvs : Array Value} {Z : Obj → Prop} (hs : X.stack = X.env :: X.outer) (hf : X.env.frame = some X.env.locals) (hex : X.ex = []) (J : Inv X pins σ H sI)
    (nb : ∀ b o, sI.heap.get? b = some o → b ∉ frs X.stack → B.get? b = some o) (fl : HandSPX.FlyingZ B (X.env :: X.outer) a Z h3) (hT : h3.get? T = some oT) (hd : oT.data = .fields tvs) (nB : B.get? T = none) : Loose X pins T ∧ T ∉ X.fs ∧ H T = none := by
  have nfr : T ∉ frs (X.env :: X.outer) := fun hm => by
    obtain ⟨_, o', e', hnf⟩ := fl.2.2.1.mem hm
    rw [hT] at e'
    cases e'
    exact hnf _ hd
  have nI : sI.heap.get? T = none := by
    cases q : sI.heap.get? T with
    | none => rfl
    | some o =>
      have z := nb T o q (by rw [hs]; exact nfr)
      rw [nB] at z
      cases z
  refine ⟨⟨?_, fun z => nfr (List.mem_filterMap.mpr ⟨X.env, List.mem_cons_self, by rw [hf, z]⟩), fun y cc e z => ?_, fun p hp z => ?_⟩, fun hm => ?_, J.hok.gone nI⟩
  · cases q : X.s_0.heap.get? T with
    | none => rfl
    | some o =>
      obtain ⟨o', z⟩ := J.base.there T o q (by rw [hex]; exact fun m => nomatch m)
      rw [nI] at z
      cases z
  · obtain ⟨v, ⟨o, ho, _⟩⟩ := J.cell y cc e
    rw [z, nI] at ho
    cases ho
  · have q := (J.pin p hp).1
    rw [z, nI] at q
    cases q
  · obtain ⟨e, he, q⟩ := List.mem_filterMap.mp hm
    exact nfr (List.mem_filterMap.mpr ⟨e, List.mem_cons_of_mem _ he, q⟩)
/-- a bare raise in the suite -/
theorem re_raise {pins : List (Addr × Obj)} {a T : Addr} {oe oT : Obj} {vs tvs : Array Value} {fl cls : Value} {d : Option Addr} {p : Pos} (ok : X.Ok) (hs : X.stack = X.env :: X.outer) (hf : X.env.frame = some X.env.locals) (tk : L2.Takes X Wout) (la : Loose X pins a) (lT : Loose X pins T)
    (hz : Zc cls d oe) (hd : oe.data = .fields vs) (h1 : vs[1]? = some (.ref T)) (hdT : oT.data = .fields tvs) (h3 : tvs[3]? = some fl) (ne : T ≠ a) :
    PS (suiteX X a ((a, oe) :: (T, oT) :: (X.pn ++ pins))) (.Raise none none p) (fun _ σ H => Wout cls d σ H) := by
  refine ⟨fun pn s σ H D I w => ?_⟩
  obtain ⟨pa, na, _⟩ := I.pin (a, oe) (List.mem_append_left _ List.mem_cons_self)
  obtain ⟨pT, nT, _⟩ := I.pin (T, oT) (List.mem_append_left _ (List.mem_cons_of_mem _ List.mem_cons_self))
  have I0 : Inv X pins σ H s := ⟨ok, I.os, I.bare, I.base, I.loc, I.cell, I.free, I.freeC, fun q hq => I.pin q (List.mem_append_left _ (List.mem_cons_of_mem _ (List.mem_cons_of_mem _ hq))), I.hok, I.len⟩
  have I1 := inv_drop [a, T] I0 (fun b hb => by
    rcases List.mem_cons.mp hb with rfl | hb
    · exact ⟨na, la⟩
    · rw [List.mem_singleton.mp hb]
      exact ⟨nT, lT⟩)
  have kG : ∀ b o, (PySem.W.hideAll s.heap [a, T]).get? b = some o → s.heap.get? b = some o := fun b o e => PySem.W.of_hideAll _ e
  have hid : ∀ {b : Addr}, b ∈ [a, T] → (PySem.W.hideAll (PySem.W.hideAll s.heap [a, T]) (frs X.stack)).get? b = none := fun {b} hb => by
    cases q : (PySem.W.hideAll (PySem.W.hideAll s.heap [a, T]) (frs X.stack)).get? b with
    | none => rfl
    | some o =>
      have z := PySem.W.of_hideAll _ q
      rw [PySem.W.hideAll_none _ hb] at z
      cases z
  refine wpAny_Raise_bare ?_
  unfold raiseBare raiseStmt
  dsimp only
  refine wpAny_bind (wpAny_handled ?_)
  rw [show (X.A.mark (some (Value.ref a))).handled = some (Value.ref a) from rfl]
  dsimp only
  refine wpAny_bind (wpAny_rule (wpAny_bind (wpAny_field pa hd h1 ?_)))
  rw [if_neg (show ¬ ((Value.ref T == Value.none) = true) from by simp)]
  have fin : wpAny (model X.prog X.w) (X.A.mark (some (.ref a))) (setFlight (.ref a) X.env.frame) (fun _ s4 => wpAny (model X.prog X.w) (X.A.mark (some (.ref a))) (throw (.ref a) : Sem Flow) (SP (suiteX X a ((a, oe) :: (T, oT) :: (X.pn ++ pins))) pn D) X.xe s4) X.xe s := by
    rw [hf]
    refine HandSPX.setFlight_anyZ (base := PySem.W.hideAll (PySem.W.hideAll s.heap [a, T]) (frs X.stack)) (l := X.env :: X.outer) (Z := Zc cls d) (fl := fl) (fun b o e => kG b o (PySem.W.of_hideAll _ e)) ?_
      ⟨oe, vs, T, oT, tvs, pa, hz, hd, h1, hid (List.mem_cons_of_mem _ List.mem_cons_self), ne, pT, hdT, h3⟩ fun h5 k1 k2 k3 k4 => wpAny_throw (tk _ _ ?_)
    · rw [← hs]
      exact Heap.FunFrames.of_keeps (fun b o e _ => ⟨o, kG b o e, rfl⟩) (funFrames_none I1.stack fun b hb => PySem.W.hideAll_none _ hb)
    · exact ⟨a, _, _, pins, σ, H, cls, d, rfl, I1, fun b o e hb => PySem.W.hideAll_get _ e hb, (Heap.UpToSlots.of_keeps kG).trans k4, .inr (.inr ⟨k1, hid List.mem_cons_self, by rw [← hs] at k2; exact k2, k3⟩), na, rfl, I.bare, w⟩
  first
    | exact wpAny_bind (wpAny_pure (wpAny_bind fin))
    | exact wpAny_bind fin
theorem ps_try_re (hs : X.stack = X.env :: X.outer) (hf : X.env.frame = some X.env.locals) (hex : X.ex = []) (hc : Names X x c) (hpa : ∀ hd : Option Value, PassesOwnAt (model X.prog X.w) (X.A.mark hd) X.A X.env X.xe) (tk : L2.Takes X Wout)
    (hb : ∀ (W : WX) (pn : List (Addr × Obj)) (xe : Value → Shared → Prop), L2.Takes (X.tr pn xe) W → PassesOwn (model X.prog X.w) X.A X.env xe → PSs (X.tr pn xe) body (tb W))
    (hsu : ∀ (a : Addr) (cls : Value) (d : Option Addr) (pn : List (Addr × Obj)), (∀ p, PS (suiteX X a pn) (.Raise none none p) (fun _ σ H => Wout cls d σ H)) → PSs (suiteX X a pn) (b₀ :: suite) (ts a cls d)) :
    PS X (.Try body [.ExceptHandler (some (.Name x np)) none (b₀ :: suite) pos'] [] [] pos) (fun D σ H => tb (wRe X.K c ts D) D σ H) := by
  refine ⟨fun pins s σ H D I h => ?_⟩
  have ok := I.ok
  have hfr : X.A.frames = some (X.env :: X.outer) := by rw [ok.frames, hs]
  refine wpAny_Try_except (wpAny_mono ((hb (wRe X.K c ts D) (X.pn ++ pins) (fun e s₁ => wpAny (model X.prog X.w) X.A (noteFrame e X.env) (fun _ s₂ => wpAny (model X.prog X.w) X.A (setFlight e none) (fun _ s₃ =>
    wpAny (model X.prog X.w) X.A (handleBy e X.env [.ExceptHandler (some (.Name x np)) none (b₀ :: suite) pos']) (SP X pins D) X.xe s₃) X.xe s₂) X.xe s₁) (fun u s' xx => ?_) PassesOwn.looking).run [] s σ H D (I.toTry _) h) (fun f s1 hsp => ?_) fun e s1 he => he)
  · obtain ⟨a, B, sI, pins', σ', H', cls, d, rfl, J', nb, up, sky, na, os, ag, hb1, hyes⟩ := xx
    have J : Inv X pins σ' H' sI := J'.ofTry ok
    have sky2 : Sky B (X.env :: X.outer) a (Zc cls d) X.env.locals s'.heap := by rw [← hs]; exact sky
    refine L2.Sky.land Zc.steady hfr hf sky2 fun h3 fl3 up3 => ?_
    have J3 : Inv X pins σ' H' { s' with heap := h3 } := J.landed nb fl3.1 (up.trans up3) os ag
    obtain ⟨oe3, vs3, he3, hz3, hd3⟩ := fl3.there
    obtain ⟨lo, nF, nI⟩ := fly_loose hs hf hex J nb fl3
    have S3 := J3.suite he3 hd3 na lo.loc nF
    refine wpAny_handleBy_cons (codeAny_handlers_test ?_) (fun q => nomatch q)
    have LT : PySem.W.Looks (model X.prog X.w) h3 (typeOf (.ref a)) cls := fun A Q E s k q => wpAny_typeOf_ref (k _ _ he3) (by rw [hz3.1]; exact q)
    have LM := PySem.W.exm_one (M := model X.prog X.w) J3.kIn LT hb1
    have test : ∀ {Q : Value → Shared → Prop} {E : Value → Shared → Prop}, Q c { s' with heap := h3 } → wpAny (model X.prog X.w) (X.A.mark (some (.ref a))) (eval (.Name x np) X.env) Q E { s' with heap := h3 } := by
      intro Q E q
      obtain ⟨hg, hdbg, hm | ⟨hm, hv, hnn⟩⟩ := hc
      · exact ld_glob (X := X.suite a ((a, oe3) :: (X.pn ++ pins))) S3 hg hm q hdbg
      · exact ld_blt (X := X.suite a ((a, oe3) :: (X.pn ++ pins))) S3 hg hm hv q hnn hdbg
    refine test (LM.here (codeAny_handlers_suite (HandSPX.lands_againZ fl3 fun h4 fl4 up4 => ?_)))
    have J4 : Inv X pins σ' H' { s' with heap := h4 } := J.landed nb fl4.1 ((up.trans up3).trans up4) os ag
    obtain ⟨k1, k2, k3, oe, vs, T, oT, tvs, he, hz, hd, h1, nB, neT, hT, hdT, h3'⟩ := id fl4
    obtain ⟨loT, nFT, nT⟩ := fly_rec hs hf hex J nb fl4 hT hdT nB
    have S4 : Inv (X.suite a ((a, oe) :: (T, oT) :: (X.pn ++ pins))) [] σ' H' { s' with heap := h4 } := by
      refine ⟨ok.suite _ _, J4.os, J4.bare, J4.base, J4.loc, J4.cell, J4.free, J4.freeC, fun p hp => ?_, J4.hok, J4.len⟩
      rw [List.append_nil] at hp
      rcases List.mem_cons.mp hp with e | hp
      · rw [e]
        exact ⟨he, na, lo.loc, nF, fun v z => by rw [hd] at z; cases z⟩
      · rcases List.mem_cons.mp hp with e | hp
        · rw [e]
          exact ⟨hT, nT, loT.loc, nFT, fun v z => by rw [hdT] at z; cases z⟩
        · exact J4.pin p hp
    refine wpAny_mono ((hsu a cls d ((a, oe) :: (T, oT) :: (X.pn ++ pins)) fun p => re_raise ok hs hf tk lo loT hz hd h1 hdT h3' neT).run [] _ _ H' _ (suiteX_of S4) (hyes a na)) (fun f s6 hsp => ?_) fun e6 s6 z => hpa (some (.ref a)) e6 s6 z
    have back : ∀ {σ6 : L2.St} {H6 : Hp} {s6 : Shared}, Inv (suiteX X a ((a, oe) :: (T, oT) :: (X.pn ++ pins))) [] σ6 H6 s6 → Inv X pins σ6 H6 s6 := fun I6 => ⟨ok, I6.os, I6.bare, I6.base, I6.loc, I6.cell, I6.free, I6.freeC, fun q hq => I6.pin q (List.mem_append_left _ (List.mem_cons_of_mem _ (List.mem_cons_of_mem _ hq))), I6.hok, I6.len⟩
    cases f with
    | next =>
      obtain ⟨σ6, H6, S6, q6⟩ := hsp
      exact ⟨_, _, back S6, q6⟩
    | brk =>
      obtain ⟨σ6, H6, S6, q6⟩ := hsp
      exact ⟨_, _, back S6, q6⟩
    | cont =>
      obtain ⟨σ6, H6, S6, q6⟩ := hsp
      exact ⟨_, _, back S6, q6⟩
    | ret u =>
      obtain ⟨v6, σ6, H6, S6, r6, q6⟩ := hsp
      exact ⟨_, _, _, back S6, r6, q6⟩
  · cases f with
    | next =>
      obtain ⟨σ', H', J', q⟩ := hsp
      exact wpAny_execs_nil ⟨σ', H', J'.ofTry ok, q⟩
    | brk =>
      obtain ⟨σ', H', J', q⟩ := hsp
      exact ⟨σ', H', J'.ofTry ok, q⟩
    | cont =>
      obtain ⟨σ', H', J', q⟩ := hsp
      exact ⟨σ', H', J'.ofTry ok, q⟩
    | ret u =>
      obtain ⟨v, σ', H', J', r, q⟩ := hsp
      exact ⟨v, σ', H', J'.ofTry ok, r, q⟩
end
end K94
namespace K94
open PySem L2
/-! ### len(x), y in x by the class's own __len__, __contains__ -/
structure SF (P : Program) (w : World) (K : PySem.W.Frag) (mg : Str → Option Value) (base : Heap) (CX : CXT) (k : Nat) (C : Addr) (m : Str) (ps : List Str) (sp : Sp) : Prop where
  ex : ∃ (f : Addr) (fd : FuncData), PySem.W.findIn K (.ref C) m = some (some (.ref f)) ∧ PySem.W.isFn K (.ref f) = true ∧ FnOk P w K mg base CX k f fd ps sp ∧ Binds K fd ps []
def rLenO (C : Addr) (sp : Sp) (E : XK) : List V → Hp → VK → Prop := fun xs H Q => ∃ a dx fs, xs = [.ref a] ∧ H a = some (.ins C dx fs) ∧ sp [.ref a] H (fun v H' => ∃ n : Nat, v = .int n ∧ n ≤ 1000000 ∧ Q (.int n) H') E
def rInO (C : Addr) (sp : Sp) (E : XK) : R2 := fun x y H Q => ∃ a dx fs, y = .ref a ∧ H a = some (.ins C dx fs) ∧ sp [.ref a, x] H (fun v H' => ∃ b, v = .bl b ∧ Q (.bl b) H') E
section
variable {X : Cx} {CX : CXT} {k : Nat} {C : Addr} {ps : List Str} {sp : Sp} {E : XK}
theorem call_lenO (M : SF X.prog X.w X.K X.mg X.base CX k C "__len__" ps sp) (hr : Room (k + 1) X.A) (hx : Passes CX X E) : CallR X (.builtin "len") (rLenO C sp E) := by
  intro pins s σ H xs us Q I r h
  obtain ⟨a, dx, fs, rfl, ha, q⟩ := h
  obtain ⟨f, fd, hf, hfn, F, hb⟩ := M.ex
  obtain ⟨u, rfl, rx⟩ := vals1 r
  cases rx
  obtain ⟨ox, od, J⟩ := ins_looks I ha
  obtain ⟨m, fr⟩ := I.fr
  have sb : Sub X (k + 1) X.A := ⟨hr, rfl⟩
  refine PySem.W.len_K fr I.ok.mod.kin J hf hfn (wpAny_mono (run_at F hb sb.in1 hx I (.cons (show RelV (V.ref a) (Value.ref a) from rfl) .nil) q) (fun u s' z => ?_) fun _ _ z => z)
  obtain ⟨v, H', I', rv, n, rfl, hn, q⟩ := z
  obtain ⟨t, rfl⟩ := (show ∃ t, u = Value.int n t from rv)
  exact ⟨⟨by omega, by omega⟩, V.int n, H', I'.tok _, ⟨_, rfl⟩, q⟩
theorem op_inO (M : SF X.prog X.w X.K X.mg X.base CX k C "__contains__" ps sp) (hr : Room k X.A) (hx : Passes CX X E) : OpR X (compareOp .In) (rInO C sp E) := by
  intro pins s σ H x y v u Q I rx ry h
  obtain ⟨a, dx, fs, rfl, ha, q⟩ := h
  obtain ⟨f, fd, hf, hfn, F, hb⟩ := M.ex
  cases ry
  obtain ⟨ox, od, J⟩ := ins_looks I ha
  obtain ⟨m, fr⟩ := I.fr
  refine PySem.W.in_K fr I.ok.mod.kin J hf hfn (wpAny_mono (run_at F hb ⟨hr, rfl⟩ hx I (.cons (show RelV (V.ref a) (Value.ref a) from rfl) (.cons rx .nil)) q) (fun u s' z => ?_) fun _ _ z => z)
  obtain ⟨w', H', I', rv, b, rfl, q⟩ := z
  cases rv
  exact wpAny_truthy_bool ⟨V.bl b, H', I', rfl, q⟩
end
end K94
namespace K94
open PySem L2
/-! ### the errors -/
def inCls (i j : Nat) : Stmt := match top i with
  | .ClassDef _ _ _ b _ _ _ _ _ _ _ => b.getD j (.Pass ⟨0, 0, 0, 0⟩)
  | _ => .Pass ⟨0, 0, 0, 0⟩
abbrev sPE : Stmt := inCls 6 0
def exNm : List Str := ["InvalidSize", "InvalidPlace", "DoublePlace", "InvalidMatrix", "InvalidStep", "Wrong", "InvalidNumber", "InvalidWord", "Conflict", "Barred", "Taken", "NothingToUndo", "Unreadable"]
inductive Er where
  | place (q : Pl) | word (w : Wd) | taken (q : Pl) | wrong (q : Pl) | barred (p : Int) | none_
  deriving DecidableEq
def Er.nm : Er → Str
  | .place _ => "InvalidPlace"
  | .word _ => "InvalidWord"
  | .taken _ => "Taken"
  | .wrong _ => "Wrong"
  | .barred _ => "Barred"
  | .none_ => "NothingToUndo"
def Er.val (H : Hp) : Er → V → Prop
  | .place q, v => IsPl H v q
  | .word w, v => v = .str w.s
  | .taken q, v => IsPl H v q
  | .wrong q, v => IsPl H v q
  | .barred p, v => v = .int p
  | .none_, v => v = .int 0
theorem Er.val_same {H H' : Hp} {e : Er} {v : V} (h : e.val H v) (s : Same H H') : e.val H' v := by
  cases e <;> first | exact IsPl.same h s | exact h
def ErAt (cn : Str → Addr) (H : Hp) (e : Er) (cls : Value) (d : Option Addr) : Prop := cls = .ref (cn e.nm) ∧ ∃ dd v, d = some dd ∧ H dd = some (.xd [("value", v)]) ∧ e.val H v
theorem ErAt.same {cn : Str → Addr} {H H' : Hp} {e : Er} {cls : Value} {d : Option Addr} (h : ErAt cn H e cls d) (s : Same H H') : ErAt cn H' e cls d := by
  obtain ⟨h1, dd, v, h2, h3, h4⟩ := h
  exact ⟨h1, dd, v, h2, s _ _ h3, Er.val_same h4 s⟩
/-- what the written part says of the exception classes -/
structure Exs (K : PySem.W.Frag) (mg : Str → Option Value) (cn : Str → Addr) : Prop where
  glob : ∀ x ∈ exNm, mg x = some (.ref (cn x))
  globP : mg "PostError" = some (.ref (cn "PostError"))
  oex : ∀ x ∈ exNm, OexC K (cn x)
  noval : ∀ x ∈ exNm, PySem.W.findIn K (.ref (cn x)) "value" = some none
  xf : ∀ x ∈ exNm, XfC K (cn x)
  exc : ∀ x ∈ exNm, ExcC K (cn x)
  exm : ∀ x ∈ exNm, PySem.W.exmOne K (.ref (cn x)) (.ref (cn "PostError")) = some true
  kit : ∀ x ∈ exNm, ∀ y ∈ exNm, PySem.W.kitOne K (.ref (cn x)) (.ref (cn y)) = some (decide (x = y))
  ini : ∃ (fI : Addr) (fd : FuncData), (∀ x ∈ exNm, PySem.W.findIn K (.ref (cn x)) "__init__" = some (some (.ref fI))) ∧ PySem.W.typeIn K (.ref fI) = some (.type "function") ∧ Fun K "__init__" "PostError.__init__" sPE fI fd
section
variable {P : Program} {w : World} {K : PySem.W.Frag} {mg : Str → Option Value} {base : Heap}
def spVal (K : PySem.W.Frag) : Sp := fun vs H Q _ => ∃ (a C : Addr) (v : V), vs = [.ref a, v] ∧ OexC K C ∧ PySem.W.findIn K (.ref C) "value" = some none ∧ H a = some (exo a C none) ∧
  ∀ dx, H dx = none → dx ≠ a → Q .non (L2.upd (L2.upd H dx (exd dx [("value", v)])) a (exo a C (some dx)))
theorem scPE : FnScope ["self", "value"] ["self", "value"] (defScope sPE) := ⟨rfl, rfl, rfl, by decide +kernel, rfl, by decide +kernel, by decide +kernel⟩
theorem ok_pe {f : Addr} {fd : FuncData} (F : Fun K "__init__" "PostError.__init__" sPE f fd) : FnOk P w K mg base (L2.CX P w) 1 f fd ["self", "value"] (spVal K) := by
  refine F.okX scPE (fun vs H Q E h => ?_) (fun cdv A outer s H vs Q E hr h => ?_)
  · obtain ⟨a, C, v, rfl, _⟩ := h
    rfl
  · obtain ⟨a, C, v, rfl, T, nv, ha, hQ⟩ := h
    refine ⟨_, pss_one (ps_ost (pv 0) (pv 1)), ?_⟩
    exact ⟨v, rfl, _, rfl, a, C, rfl, T, nv, .inl ⟨ha, fun dx h1 h2 => hQ dx h1 h2⟩⟩
/-- a raise of such a class -/
theorem mk_val {H : Hp} {C : Addr} {v : V} {Q : XK} (T : OexC K C) (nv : PySem.W.findIn K (.ref C) "value" = some none) (h : ∀ d H', Same H H' → H' d = some (.xd [("value", v)]) → Q (.ref C) (some d) H') :
    ([v] : List V).length ≤ 1000 ∧ ∀ a, H a = none → spVal K (.ref a :: ([v] ++ [])) (L2.upd H a (exo a C none)) (fun u H2 => u = .non ∧ ∃ (d : Addr) (fs : List (Str × V)), H2 a = some (exo a C (some d)) ∧ H2 d = some (exd d fs) ∧ H d = none ∧ Q (.ref C) (some d) (L2.upd (del H2 a) d (.xd fs))) (fun _ _ _ => False) := by
  refine ⟨by simp, fun a ha => ⟨a, C, v, rfl, T, nv, upd_same, fun dx h1 h2 => ⟨rfl, dx, [("value", v)], upd_same, ?_, ?_, h dx _ (fun b o hb => ?_) upd_same⟩⟩⟩
  · rw [upd_ne h2]
    exact upd_same
  · rwa [upd_ne h2] at h1
  · have n1 : b ≠ a := ne_of_none hb ha
    have n2 : b ≠ dx := fun e => by
      rw [e] at hb
      rw [upd_ne h2, hb] at h1
      cases h1
    rw [upd_ne n2, del_ne n1, upd_ne n1, upd_ne n2, upd_ne n1]
    exact hb
end
theorem pmk_x {X : Cx} {cn : Str → Addr} {x : Str} {e : Expr} {es : List Expr} {ta : TA} {p pos : Pos} (EX : Exs X.K X.mg cn) (hx : x ∈ exNm) (hr : Room 2 X.A) (hg : Gl X x) (ha : PA X (e :: es) ta)
    (hdb : (x == ("__debug__" : Str)) = false := by decide) (he : starEach (e :: es) X.env = (false, eval e X.env) :: starEach es X.env := by rfl) (hpl : (backTo pos (starEach es X.env)).any (·.1) = false := by rfl) :
    PMk X (.Call (.Name x p) (e :: es) [] pos) (tMkO (cn x) (spVal X.K) [] ta) := by
  obtain ⟨fI, fd, h1, h2, h3⟩ := EX.ini
  have hb : Binds X.K fd ["self", "value"] [] := h3.binds (fun _ _ _ _ _ _ us hl => match us, hl with | [_, _], _ => rfl)
  exact pmk_oex (EX.oex x hx) (h1 x hx) h2 (ok_pe (P := X.prog) (w := X.w) (mg := X.mg) (base := X.base) h3) hr hb .nil (fun _ _ _ _ _ _ _ z => by obtain ⟨_, _, _, _, _, _, _, _, _, _, _, _, z⟩ := z; exact z.elim) hg (EX.glob x hx) ha hdb he hpl
/-! ### looks -/
def IsLk (H : Hp) (v : V) (x : Lk) : Prop := ∃ t u : Addr, v = .ref t ∧ H t = some (.tup [.ref u, .str x.2.s]) ∧ H u = some (.tup (x.1.map V.int))
theorem IsLk.same {H H' : Hp} {v : V} {x : Lk} (h : IsLk H v x) (e : Same H H') : IsLk H' v x := by
  obtain ⟨t, u, rfl, h1, h2⟩ := h
  exact ⟨t, u, rfl, e _ _ h1, e _ _ h2⟩
theorem IsLk.dp {K : PySem.W.Frag} {H : Hp} {v : V} {x : Lk} (h : IsLk H v x) : Dp K H v (lkD x) := by
  obtain ⟨t, u, rfl, h1, h2⟩ := h
  exact .tup (SqT.of h1) (.cons (dp_sqt (SqT.of h2)) (.cons (.str _) .nil))
theorem IsLk.upd {H : Hp} {D : Addr} {ys : List V} {o' : HO} {v : V} {x : Lk} (h : IsLk H v x) (hD : H D = some (.lst ys)) : IsLk (L2.upd H D o') v x := by
  obtain ⟨t, u, rfl, h1, h2⟩ := h
  exact ⟨t, u, rfl, tup_upd h1 hD tup_lst, tup_upd h2 hD tup_lst⟩
abbrev AreLk (H : Hp) : List V → List Lk → Prop := Paired (IsLk H)
def LksAt (H : Hp) (l : Addr) (L : List Lk) : Prop := ∃ xs, H l = some (.lst xs) ∧ AreLk H xs L
theorem AreLk.same {H H' : Hp} {xs : List V} {L : List Lk} (h : AreLk H xs L) (e : Same H H') : AreLk H' xs L := Paired.mapP h fun _ _ z => z.same e
theorem LksAt.same {H H' : Hp} {l : Addr} {L : List Lk} (h : LksAt H l L) (e : Same H H') : LksAt H' l L := by
  obtain ⟨xs, h1, h2⟩ := h
  exact ⟨xs, e _ _ h1, h2.same e⟩
theorem LksAt.dp {K : PySem.W.Frag} {H : Hp} {l : Addr} {L : List Lk} (h : LksAt H l L) : Dp K H (.ref l) (lksD L) := by
  obtain ⟨xs, h1, h2⟩ := h
  exact .lst (SqL.of h1) (dpAll_of (fun v a => IsLk.dp) h2)
def PlAt (H : Hp) (p : Addr) (q : Pl) : Prop := H p = some (.tup (q.map V.int))
/-! ### what a look is told -/
def chk (z : Int) (L : List Lk) (q : Pl) (wd : Wd) : Option Er :=
  if (q.length : Int) ≠ z then some (.place q) else if wd = .none_ then some (.word wd) else if q ∈ L.map Prod.fst then some (.taken q) else none
def withW (L : List Lk) (wd : Wd) : List Pl := (L.filter fun x => decide (x.2 = wd)).map Prod.fst
def due (sh : Option Pl) (z : Int) (L : List Lk) (q : Pl) (wd : Wd) : Option Er :=
  match chk z L q wd with
  | some e => some e
  | none => match sh with
    | some s => if decide (gcdL (plusL q s) = 1) = decide (wd = .seen) then none else some (.wrong q)
    | none => if wd = .seen then (wbar z (withW L .seen ++ [q])).map Er.barred else none
/-- how an answer of such a def reads: nothing, or an error of the kind -/
def Told (cn : Str → Addr) (H : Hp) (r : Option Er) (Q : VK) (E : XK) : Prop := match r with
  | none => ∀ H', Same H H' → Q .non H'
  | some e => ∀ cls d H', Same H H' → ErAt cn H' e cls d → E cls d H'
/-! ### check_look -/
abbrev sChk : Stmt := top 36
section
variable {P : Program} {w : World} {K : PySem.W.Frag} {mg : Str → Option Value} {base : Heap} {cn : Str → Addr}
def spChk (cn : Str → Addr) : Sp := fun vs H Q E => ∃ (z : Int) (l p : Addr) (L : List Lk) (q : Pl) (wd : Wd), vs = [.int z, .ref l, .ref p, .str wd.s] ∧ LksAt H l L ∧ L.length ≤ 1000 ∧ PlAt H p q ∧ Told cn H (chk z L q wd) Q E
theorem scChk : FnScope ["size", "looks", "place", "word", "other", "told"] ["size", "looks", "place", "word"] (defScope sChk) := ⟨rfl, rfl, rfl, by decide +kernel, rfl, by decide +kernel, by decide +kernel⟩
theorem in_exNm {x : Str} (h : exNm.contains x = true := by decide +kernel) : x ∈ exNm := List.contains_iff_mem.mp h
theorem ok_chk {f : Addr} {fd : FuncData} (F : Fun K "check_look" "check_look" sChk f fd) (mL : mg "len" = none) (EX : Exs K mg cn) : FnOk P w K mg base (L2.CX P w) 3 f fd ["size", "looks", "place", "word"] (spChk cn) := by
  refine F.okX scChk (fun vs H Q E h => ?_) (fun cdv A outer s H vs Q E hr h => ?_)
  · obtain ⟨z, l, p, L, q, wd, rfl, _⟩ := h
    rfl
  · obtain ⟨z, l, p, L, q, wd, rfl, hl, hn, hp, hQ⟩ := h
    refine ⟨_, pss_cons (ps_if (pt_cmpR op_ne (pe_callB call_len_seq (by rfl) mL PySem.boot_len (pa_cons (pv 2) pa_nil)) (pv 0) (nomark _)) (pss_one (ps_raise rfl (takes_of rfl rfl rfl rfl) (pmk_x EX in_exNm hr rfl (pa_cons (pv 2) pa_nil)))) pss_nil)
      (pss_cons (ps_if (pt_cmpR op_notIn_seq (pv 3) (pe_tup (pa_cons pe_str (pa_cons pe_str pa_nil))) (by rfl)) (pss_one (ps_raise rfl (takes_of rfl rfl rfl rfl) (pmk_x EX in_exNm hr rfl (pa_cons (pv 3) pa_nil)))) pss_nil)
      (pss_one (ps_for (passes_of rfl) rfl (pi_list (pv 1)) (pg_tup rfl (pgs_cons (pg_name (i := 4) scChk.nd rfl (Or.inl rfl)) (pgs_cons (pg_name (i := 5) scChk.nd rfl (Or.inl rfl)) pgs_nil)))
        (pss_one (ps_if (pt_cmpR (op_eqD hr.units) (pv 4) (pv 2) (nomark _)) (pss_one (ps_raise rfl (takes_of rfl rfl rfl rfl) (pmk_x EX in_exNm hr rfl (pa_cons (pv 2) pa_nil)))) pss_nil))))), ?_⟩
    refine ⟨_, rfl, p, _, rfl, .inr (SqT.of hp), _, rfl, rfl, _, rfl, ?_⟩
    rw [List.length_map]
    refine ite2 (fun hc => ?_) (fun hc => ?_)
    · have h1 : (q.length : Int) ≠ z := fun e => by
        rw [e] at hc
        simp at hc
      have h2 : chk z L q wd = some (.place q) := if_pos h1
      rw [h2] at hQ
      exact ⟨_, rfl, mk_val (EX.oex _ in_exNm) (EX.noval _ in_exNm) fun d H' e hd => hQ _ _ _ e ⟨rfl, d, _, rfl, hd, p, rfl, e _ _ hp⟩⟩
    have h1 : (q.length : Int) = z := by
      simpa using hc
    refine ⟨_, rfl, line1000 (by show 2 ≤ 1000; decide), fun t ht => ?_⟩
    have s1 : Same H (L2.upd H t (.tup [.str "seen", .str "hidden"])) := Same.one ht
    refine ⟨t, _, rfl, .inr (SqT.of upd_same), rfl, rfl, _, rfl, ?_⟩
    by_cases hw : wd = .none_
    · subst hw
      refine iteP (by decide +kernel) ?_
      have h2 : chk z L q .none_ = some (.word .none_) := by
        unfold chk
        rw [if_neg fun n => n h1, if_pos rfl]
      rw [h2] at hQ
      exact ⟨_, rfl, mk_val (EX.oex _ in_exNm) (EX.noval _ in_exNm) fun d H' e hd => hQ _ _ _ (s1.trans e) ⟨rfl, d, _, rfl, hd, rfl⟩⟩
    refine iteN (by cases wd <;> first | exact absurd rfl hw | decide +kernel) ?_
    have h2 : chk z L q wd = if q ∈ L.map Prod.fst then some (.taken q) else none := by
      unfold chk
      rw [if_neg fun n => n h1, if_neg hw]
    rw [h2] at hQ
    obtain ⟨xs, hxs, hL⟩ := hl
    have hlen := Paired.length hL
    refine ⟨_, rfl, l, rfl, ⟨_, SqL.of (s1 _ _ hxs)⟩, for_list (K := K) (xs := xs) (fun i σ H' => Same H H' ∧ q ∉ (L.take i).map Prod.fst ∧ ∃ v4 v5 : Option V, σ = [some (.int z), some (.ref l), some (.ref p), some (.str wd.s), v4, v5]) ⟨s1, by simp, none, none, rfl⟩ (fun i σ H' _ h => SqL.of (h.1 _ _ hxs)) ?_ ?_⟩
    · rintro i x σ H1 hi ⟨e1, hd, v4, v5, rfl⟩
      obtain ⟨y, hy, u, t2, rfl, hu, ht2⟩ := paired_get hL hi
      refine ⟨u, _, rfl, SqT.of (e1 _ _ hu), rfl, _, _, rfl, _, _, rfl, rfl, ?_⟩
      refine ⟨_, rfl, _, rfl, plD y.1, plD q, dp_sqt (SqT.of (e1 _ _ ht2)), dp_sqt (SqT.of (e1 _ _ hp)), plD_sh _, plD_sh _, _, rfl, ?_⟩
      rw [plD_eqv]
      by_cases he : y.1 = q
      · rw [decide_eq_true he]
        rw [if_pos (List.mem_map.mpr ⟨y, List.mem_of_getElem? hy, he⟩)] at hQ
        exact iteT ⟨_, rfl, mk_val (EX.oex _ in_exNm) (EX.noval _ in_exNm) fun d H' e hd => hQ _ _ _ (e1.trans e) ⟨rfl, d, _, rfl, hd, p, rfl, e _ _ (e1 _ _ hp)⟩⟩
      · rw [decide_eq_false he]
        refine iteF ⟨e1, ?_, _, _, rfl⟩
        rw [List.take_add_one, hy, List.map_append]
        intro m
        rcases List.mem_append.mp m with m | m
        · exact hd m
        · exact he (List.mem_singleton.mp m).symm
    · rintro σ H1 ⟨e1, hd, v4, v5, rfl⟩
      rw [hlen, List.take_length] at hd
      rw [if_neg hd] at hQ
      exact hQ H1 e1
end
end K94
namespace K94
open PySem L2
/-! ### the places of some looks, by a comprehension -/
def fstIf (keep : Wd → Bool) (L : List Lk) : List Pl := (L.filter fun x => keep x.2).map Prod.fst
theorem fstIf_with (L : List Lk) (wd : Wd) : fstIf (fun w => decide (w = wd)) L = withW L wd := rfl
theorem fstIf_all (L : List Lk) : fstIf (fun _ => true) L = L.map Prod.fst := by
  unfold fstIf
  rw [List.filter_eq_self.mpr fun _ _ => rfl]
theorem fstIf_take {keep : Wd → Bool} {L : List Lk} {i : Nat} {y : Lk} (h : L[i]? = some y) : fstIf keep (L.take (i + 1)) = fstIf keep (L.take i) ++ if keep y.2 = true then [y.1] else [] := by
  unfold fstIf
  rw [List.take_add_one, h, List.filter_append, List.map_append]
  congr 1
  show List.map Prod.fst (List.filter (fun x => keep x.2) [y]) = _
  by_cases hk : keep y.2 = true
  · simp [List.filter_cons, hk]
  · simp [List.filter_cons, hk]
theorem fstIf_len (keep : Wd → Bool) (L : List Lk) : (fstIf keep L).length ≤ L.length := by
  unfold fstIf
  rw [List.length_map]
  exact List.length_filter_le _ _
theorem lcF {K : PySem.W.Frag} {a : Addr} {xs : List V} {L : List Lk} {keep : Wd → Bool} {i j : Nat} {tt : TT} {vs : List Nat} {σ : L2.St} {H1 : Hp} {D : Addr} {Qd : Hp → Prop} (hD : H1 D = none) (hxs : H1 a = some (.lst xs)) (hL : AreLk H1 xs L) (hn : L.length ≤ 1000)
    (hw : ∀ u v, wipe (((wipe σ vs).set i (some u)).set j (some v)) vs = wipe σ vs) (hi : ∀ u v, (((wipe σ vs).set i (some u)).set j (some v))[i]? = some (some u))
    (ht : ∀ (u : Addr) (w : Wd) (H' : Hp) (Q : Bool → Hp → Prop), Q (keep w) H' → tt (((wipe σ vs).set i (some (.ref u))).set j (some (.str w.s))) H' Q)
    (hd : ∀ H' ws, Same H1 H' → H' D = some (.lst ws) → ArePl H' ws (fstIf keep L) → Qd H') :
    ∃ W : Nat → Nat → Hp → Prop, (∃ m, W 0 m (L2.upd H1 D (.lst []))) ∧ ∀ n m H, W n m H →
      ((Itl K a).stop n H ∧ Qd H) ∨ ((Itl K a).go n H ∧ ∃ Nx : Hp → Prop, (∀ H', Nx H' → ∃ m', m' < m ∧ W (n + 1) m' H') ∧ ∀ x H', (Itl K a).yld n H x H' → gTup K 2 (gCons (gName i) (gCons (gName j) gNil)) x (wipe σ vs) H' fun σ2 H2 => wipe σ2 vs = wipe σ vs ∧ tt σ2 H2 fun b H3 =>
        if b = true then tVar i σ2 H3 fun y H4 => ∃ acc, H4 D = some (.lst acc) ∧ acc.length < sizeLine ∧ Nx (L2.upd H4 D (.lst (acc ++ [y]))) else Nx H3) := by
  have hlen := Paired.length hL
  refine lc_list (K := K) (xs := xs) (fun n H' => Same H1 H' ∧ ∃ ws, H' D = some (.lst ws) ∧ ArePl H' ws (fstIf keep (L.take n))) ⟨Same.one hD, [], upd_same, .nil⟩ (fun n H' _ h => SqL.of (h.1 _ _ hxs)) ?_ ?_
  · rintro n x H2 hx ⟨s2, ws, hws, hp⟩
    obtain ⟨y, hy, t, u, rfl, h1, h2⟩ := paired_get hL hx
    refine ⟨t, _, rfl, SqT.of (s2 _ _ h1), rfl, _, _, rfl, _, _, rfl, rfl, hw _ _, ht u y.2 H2 _ ?_⟩
    have hk := fstIf_take (keep := keep) hy
    have hwl : ws.length < sizeLine := by
      have e1 := Paired.length hp
      have e2 := fstIf_len keep (L.take n)
      have e3 := List.length_take_le' n L
      exact small1000 (by omega)
    by_cases hc : keep y.2 = true
    · rw [if_pos hc] at hk
      rw [if_pos hc]
      refine ⟨_, hi _ _, ws, hws, hwl, (s2.trans (Same.refl H2)).updN hD, _, upd_same, ?_⟩
      rw [hk]
      refine paired_app (Paired.mapP hp fun v q z => ?_) (.cons ⟨u, rfl, ?_⟩ .nil)
      · obtain ⟨t2, e, h⟩ := z
        exact ⟨t2, e, tup_upd h hws tup_lst⟩
      · exact tup_upd (s2 _ _ h2) hws tup_lst
    · rw [if_neg hc, List.append_nil] at hk
      rw [if_neg hc]
      exact ⟨s2, ws, hws, by rw [hk]; exact hp⟩
  · rintro H2 ⟨s2, ws, hws, hp⟩
    rw [hlen, List.take_length] at hp
    exact hd H2 ws s2 hws hp
/-! ### places_with -/
abbrev sWith : Stmt := top 37
section
variable {P : Program} {w : World} {K : PySem.W.Frag} {mg : Str → Option Value} {base : Heap} {cn : Str → Addr}
def spWith : Sp := fun vs H Q _ => ∃ (l : Addr) (L : List Lk) (wd : Wd), vs = [.ref l, .str wd.s] ∧ LksAt H l L ∧ L.length ≤ 1000 ∧ ∀ H' D, Same H H' → PlsAt H' D (withW L wd) → Q (.ref D) H'
theorem scWith : FnScope ["looks", "word", "place", "told"] ["looks", "word"] (defScope sWith) := ⟨rfl, rfl, rfl, by decide +kernel, rfl, by decide +kernel, by decide +kernel⟩
theorem ok_with {f : Addr} {fd : FuncData} (F : Fun K "places_with" "places_with" sWith f fd) : FnOk P w K mg base CX0 3 f fd ["looks", "word"] spWith := by
  refine F.ok scWith (fun vs H Q E h => ?_) (fun cdv A outer s H vs Q E hr h => ?_)
  · obtain ⟨l, L, wd, rfl, _⟩ := h
    rfl
  · obtain ⟨l, L, wd, rfl, ⟨xs, hxs, hL⟩, hn, hQ⟩ := h
    refine ⟨_, pss_one (ps_ret (pe_lc (own := [("place", 2), ("told", 3)]) (g := gTup K 2 (gCons (gName 2) (gCons (gName 3) gNil))) (tt := tTest (tOp rEq (tVar 3) (tVar 1))) (te := tVar 2) rfl scWith.nd (pi_list (pv 0))
      (blkOk_by (N := ["looks", "word", "place", "told"]) (sc := defScope sWith) (by decide +kernel)) (fun _ _ _ _ _ => pg_tup rfl (pgs_cons (pg_name (i := 2) scWith.nd rfl (Or.inl rfl)) (pgs_cons (pg_name (i := 3) scWith.nd rfl (Or.inl rfl)) pgs_nil)))
      (fun _ _ _ _ _ => pts_one (pt_cmpR op_eq (pv 3) (pv 1) (nomark _))) (fun _ _ _ _ _ => pv 2))), ?_⟩
    refine ⟨_, rfl, l, rfl, ⟨_, SqL.of hxs⟩, fun D hD => lcF (keep := fun w => decide (w = wd)) hD hxs hL hn (fun _ _ => rfl) (fun _ _ => rfl) (fun u w H' Q hq => ?_) fun H' ws s1 h1 h2 => ?_⟩
    · refine ⟨_, rfl, _, rfl, rfl, _, rfl, ?_⟩
      have e : decide (V.str w.s = V.str wd.s) = decide (w = wd) := by rw [dec_str, Wd.beq]
      rw [e]
      exact hq
    · exact hQ H' D s1 ⟨ws, h1, h2⟩
end
end K94
namespace K94
open PySem L2
/-! ### the windows -/
def wfs (z : Int) (t : Addr) (ot : Option Addr) : List (Str × V) := ("extent", .int z) :: ("taken", .ref t) :: (match ot with
  | none => []
  | some o => [("offset", .ref o)])
theorem wfs_len (z : Int) (t : Addr) (ot : Option Addr) : (wfs z t ot).length < 1000 := by
  unfold wfs
  cases ot <;> simp
def OffAt (H : Hp) (ot : Option Addr) (sh : Option Pl) : Prop := match ot, sh with
  | none, none => True
  | some o, some s => PlAt H o s
  | _, _ => False
theorem OffAt.keep {M : List Addr} {H H' : Hp} {ot : Option Addr} {sh : Option Pl} (h : OffAt H ot sh) (e : Keep M H H') (hM : ∀ o, ot = some o → o ∉ M) : OffAt H' ot sh := by
  cases ot <;> cases sh <;> first | exact h | skip
  rename_i o s
  exact e o _ (hM o rfl) h
/-- a window at a: its class, its shift, its looks (a list at t) -/
structure Win (C : Addr) (sh : Option Pl) (z : Int) (H : Hp) (a t : Addr) (L : List Lk) : Prop where
  obj : ∃ dx ot, H a = some (.ins C dx (wfs z t ot)) ∧ OffAt H ot sh
  lks : LksAt H t L
theorem Win.same {C : Addr} {sh : Option Pl} {z : Int} {H H' : Hp} {a t : Addr} {L : List Lk} (h : Win C sh z H a t L) (e : Same H H') : Win C sh z H' a t L := by
  obtain ⟨⟨dx, ot, h1, h2⟩, h3⟩ := h
  exact ⟨⟨dx, ot, e _ _ h1, h2.keep (M := []) (fun b o _ q => e b o q) fun _ _ m => nomatch m⟩, h3.same e⟩
structure CFacts (K : PySem.W.Frag) (C : Addr) (fs : List Str) : Prop where
  cls : Cls K C
  na : ∀ f ∈ fs, NoAttr K C f
abbrev wF : List Str := ["extent", "taken", "offset"]
structure Good (z : Int) (L : List Lk) : Prop where
  few : L.length ≤ 35
  len : ∀ x ∈ L, (x.1.length : Int) = z
theorem sz_bd {z : Int} (h : Sz z) {n : Nat} (e : (n : Int) = z) : n ≤ 3 ∧ 0 < n := by
  rcases h with rfl | rfl <;> omega
theorem mem_withW {L : List Lk} {wd : Wd} {q : Pl} (h : q ∈ withW L wd) : ∃ x ∈ L, x.1 = q ∧ x.2 = wd := by
  obtain ⟨x, hx, e⟩ := List.mem_map.mp h
  obtain ⟨h1, h2⟩ := List.mem_filter.mp hx
  exact ⟨x, h1, e, of_decide_eq_true h2⟩
theorem withW_len (L : List Lk) (wd : Wd) : (withW L wd).length ≤ L.length := fstIf_len (fun w => decide (w = wd)) L
theorem Good.small {z : Int} {L : List Lk} (g : Good z L) (hz : Sz z) (wd : Wd) : Small 35 (withW L wd) := ⟨Nat.le_trans (withW_len L wd) g.few, fun q hq => by
  obtain ⟨x, hx, rfl, _⟩ := mem_withW hq
  have := sz_bd hz (g.len x hx)
  omega⟩
theorem wfs_ext (z : Int) (t : Addr) (ot : Option Addr) : (wfs z t ot).lookup ("extent" : Str) = some (V.int z) := rfl
theorem wfs_tak (z : Int) (t : Addr) (ot : Option Addr) : (wfs z t ot).lookup ("taken" : Str) = some (V.ref t) := rfl
theorem wfs_off (z : Int) (t o : Addr) : (wfs z t (some o)).lookup ("offset" : Str) = some (V.ref o) := rfl
theorem Win.app {C : Addr} {sh : Option Pl} {z : Int} {H H2 : Hp} {a t p u : Addr} {L : List Lk} {xs : List V} {q : Pl} {wd : Wd} (hW : Win C sh z H a t L) (hxs : H t = some (.lst xs)) (hL : AreLk H xs L) (hp : PlAt H p q) (s : Same H H2) (hu : H2 u = none) :
    Keep [t] H (L2.upd (L2.upd H2 u (.tup [.ref p, .str wd.s])) t (.lst (xs ++ [.ref u]))) ∧ Win C sh z (L2.upd (L2.upd H2 u (.tup [.ref p, .str wd.s])) t (.lst (xs ++ [.ref u]))) a t (L ++ [(q, wd)]) := by
  have s2 : Same H (L2.upd H2 u (.tup [.ref p, .str wd.s])) := Same.upd s hu
  have k : Keep [t] H (L2.upd (L2.upd H2 u (.tup [.ref p, .str wd.s])) t (.lst (xs ++ [.ref u]))) := Keep.upd (Keep.of s2) (by simp)
  have ht2 := s2 _ _ hxs
  obtain ⟨⟨dx, ot, h1, h2⟩, _⟩ := hW
  refine ⟨k, ⟨⟨dx, ot, k _ _ (fun m => ?_) h1, h2.keep k fun o e m => ?_⟩, _, upd_same, ?_⟩⟩
  · rw [List.mem_singleton.mp m, hxs] at h1
    cases h1
  · rw [List.mem_singleton.mp m] at e
    subst e
    cases sh with
    | none => exact h2
    | some sv =>
      have h3 : H t = some (.tup (sv.map V.int)) := h2
      rw [hxs] at h3
      cases h3
  · refine paired_app (Paired.mapP (hL.same s2) fun v x z => z.upd ht2) (.cons ⟨u, p, rfl, tup_upd upd_same ht2 tup_lst, tup_upd (s2 _ _ hp) ht2 tup_lst⟩ .nil)
abbrev sWIni : Stmt := inCls 38 0
abbrev sWCall : Stmt := inCls 38 1
section
variable {P : Program} {w : World} {K : PySem.W.Frag} {mg : Str → Option Value} {base : Heap} {cn : Str → Addr} {C : Addr}
/-! ### Window.__init__ -/
def spWIni (K : PySem.W.Frag) : Sp := fun vs H Q _ => ∃ (a dx C : Addr) (z : Int), vs = [.ref a, .int z] ∧ Sz z ∧ CFacts K C wF ∧ H a = some (.ins C dx []) ∧
  ∀ H' t, Keep [a] H H' → H' a = some (.ins C dx (wfs z t none)) → H' t = some (.lst []) → H t = none → Q .non H'
theorem scWIni : FnScope ["self", "size"] ["self", "size"] (defScope sWIni) := ⟨rfl, rfl, rfl, by decide +kernel, rfl, by decide +kernel, by decide +kernel⟩
theorem ok_wini {f : Addr} {fd : FuncData} (F : Fun K "__init__" "Window.__init__" sWIni f fd) : FnOk P w K mg base CX0 1 f fd ["self", "size"] (spWIni K) := by
  refine F.ok scWIni (fun vs H Q E h => ?_) (fun cdv A outer s H vs Q E hr h => ?_)
  · obtain ⟨a, dx, C, z, rfl, _⟩ := h
    rfl
  · obtain ⟨a, dx, C, z, rfl, hz, cf, ha, hQ⟩ := h
    refine ⟨_, pss_cons (ps_if (pt_cmpR op_notIn_seq (pv 1) (pe_tup (pa_cons pe_int (pa_cons pe_int pa_nil))) (by rfl)) (pss_one ps_never) pss_nil)
      (pss_cons (ps_fld (pv 0) (pv 1) (by rfl)) (pss_one (ps_fld (pv 0) (pe_lst pa_nil) (by rfl)))), ?_⟩
    refine ⟨_, rfl, line1000 (by show 2 ≤ 1000; decide), fun tt htt => ⟨tt, _, rfl, .inr (SqT.of upd_same), rfl, rfl, _, rfl, ?_⟩⟩
    have s1 : Same H (L2.upd H tt (.tup [.int 2, .int 3])) := Same.one htt
    refine iteN (by rcases hz with rfl | rfl <;> decide +kernel) ?_
    refine ⟨_, rfl, _, rfl, a, C, dx, [], rfl, s1 _ _ ha, cf.cls, cf.na _ (by decide), by decide, ?_⟩
    refine ⟨line1000 (by show 0 ≤ 1000; decide), fun t ht => ?_⟩
    have n1 : a ≠ t := ne_of_none upd_same ht
    have ht2 := ht
    rw [upd_ne n1.symm] at ht2
    refine ⟨_, rfl, a, C, dx, [("extent", .int z)], rfl, (upd_ne n1).trans upd_same, cf.cls, cf.na _ (by decide), (by show 1 < 1000; decide), ?_⟩
    refine hQ _ t (Keep.upd (Keep.new (Keep.upd (Keep.of s1) (by simp)) ht) (by simp)) upd_same ((upd_ne n1.symm).trans upd_same) ?_
    cases e : H t with
    | none => rfl
    | some o =>
      rw [s1 _ _ e] at ht2
      cases ht2
/-! ### Window.__call__ -/
def spCallW (cn : Str → Addr) (C : Addr) (sh : Option Pl) : Sp := fun vs H Q E => ∃ (a t p : Addr) (z : Int) (L : List Lk) (q : Pl) (wd : Wd), vs = [.ref a, .ref p, .str wd.s] ∧ Sz z ∧ Win C sh z H a t L ∧ Good z L ∧ PlAt H p q ∧ (∀ s, sh = some s → (s.length : Int) = z) ∧
  match due sh z L q wd with
  | none => ∀ H', Keep [t] H H' → Win C sh z H' a t (L ++ [(q, wd)]) → Q .non H'
  | some e => ∀ cls d H', Same H H' → ErAt cn H' e cls d → E cls d H'
theorem scWCall : FnScope ["self", "place", "word", "prime"] ["self", "place", "word"] (defScope sWCall) := ⟨rfl, rfl, rfl, by decide +kernel, rfl, by decide +kernel, by decide +kernel⟩
theorem ok_wcall {f : Addr} {fd : FuncData} (F : Fun K "__call__" "Window.__call__" sWCall f fd) (EX : Exs K mg cn) (cf : CFacts K C wF) (GC : GF P w K mg base (L2.CX P w) 3 "check_look" ["size", "looks", "place", "word"] (spChk cn))
    (GL : GF P w K mg base CX0 5 "least_bar" ["size", "places"] spLbar) (GW : GF P w K mg base CX0 3 "places_with" ["looks", "word"] spWith) : FnOk P w K mg base (L2.CX P w) 7 f fd ["self", "place", "word"] (spCallW cn C none) := by
  refine F.okX scWCall (fun vs H Q E h => ?_) (fun cdv A outer s H vs Q E hr h => ?_)
  · obtain ⟨a, t, p, z, L, q, wd, rfl, _⟩ := h
    rfl
  · obtain ⟨a, t, p, z, L, q, wd, rfl, hz, hW, hg, hp, _, hQ⟩ := h
    obtain ⟨⟨dx, ot, ha, ho⟩, ⟨xs, hxs, hL⟩⟩ := hW
    refine ⟨_, pss_cons (ps_expr (pe_g (E := E) GC (hr.mono (by decide)) rfl (passes_call (takes_of rfl rfl rfl rfl) fun _ _ _ _ h => h) (pa_cons (pe_fld (pv 0) (by rfl)) (pa_cons (pe_fld (pv 0) (by rfl)) (pa_cons (pv 1) (pa_cons (pv 2) pa_nil))))))
      (pss_cons (ps_if (pt_cmpR op_eq (pv 2) pe_str (nomark _))
        (pss_cons (ps_set (i := 3) scWCall.nd rfl (Or.inl rfl) (pe_g GL (hr.mono (by decide)) rfl pass0 (pa_cons (pe_fld (pv 0) (by rfl)) (pa_cons (pe_op op_cat (pe_g GW (hr.mono (by decide)) rfl pass0 (pa_cons (pe_fld (pv 0) (by rfl)) (pa_cons pe_str pa_nil))) (pe_lst (pa_cons (pv 1) pa_nil))) pa_nil))))
        (pss_one (ps_if (pt_cmpR op_notN (pv 3) pe_non (nomark _)) (pss_one (ps_raise rfl (takes_of rfl rfl rfl rfl) (pmk_x EX in_exNm (hr.mono (by decide)) rfl (pa_cons (pv 3) pa_nil)))) pss_nil))) pss_nil)
      (pss_one (ps_expr (pe_bm PySem.F.plainAttrs_list PySem.F.slot_list_append PySem.F.type_list_append mt_append (pe_fld (pv 0) (by rfl)) (pa_cons (pe_tup (pa_cons (pv 1) (pa_cons (pv 2) pa_nil))) pa_nil))))), ?_⟩
    have hW : Win C none z H a t L := ⟨⟨dx, ot, ha, ho⟩, ⟨xs, hxs, hL⟩⟩
    have hlen := Paired.length hL
    have gn := hg.few
    refine ⟨_, rfl, a, C, dx, _, _, rfl, ha, cf.cls, cf.na _ (by decide), wfs_ext _ _ _, _, rfl, a, C, dx, _, _, rfl, ha, cf.cls, cf.na _ (by decide), wfs_tak _ _ _, _, rfl, _, rfl, z, t, p, L, q, wd, rfl, ⟨xs, hxs, hL⟩, by omega, hp, ?_⟩
    unfold due at hQ
    cases hc : chk z L q wd with
    | some e =>
      rw [hc] at hQ
      exact hQ
    | none =>
      rw [hc] at hQ
      intro H1 s1
      have hql : (q.length : Int) = z := by
        unfold chk at hc
        by_cases h : (q.length : Int) = z
        · exact h
        · rw [if_pos h] at hc
          cases hc
      have fin : ∀ H2, Same H H2 → (∀ H', Keep [t] H H' → Win C none z H' a t (L ++ [(q, wd)]) → Q .non H') → ∀ v3 : Option V, tDrop (tBM K "list" rAppend (tFld K (tVar 0) "taken") (tCons (tTup (tCons (tVar 1) (tCons (tVar 2) tNil))) tNil)) { nx := fun _ H' => Q .non H', rt := Q } [some (.ref a), some (.ref p), some (.str wd.s), v3] H2 := by
        intro H2 s2 hq v3
        refine ⟨_, rfl, a, C, dx, _, _, rfl, s2 _ _ ha, cf.cls, cf.na _ (by decide), wfs_tak _ _ _, .inl ⟨rfl, _, SqL.of (s2 _ _ hxs)⟩, _, rfl, _, rfl, line1000 (by show 2 ≤ 1000; decide), fun u hu => ⟨t, xs, _, rfl, rfl, ?_, small1000 (by omega), ?_⟩⟩
        · exact (upd_ne (ne_of_none (s2 _ _ hxs) hu)).trans (s2 _ _ hxs)
        · obtain ⟨k1, k2⟩ := hW.app hxs hL hp s2 hu (wd := wd)
          exact hq _ k1 k2
      refine ⟨_, rfl, rfl, _, rfl, ?_⟩
      have e1 : decide (V.str wd.s = V.str "seen") = decide (wd = .seen) := by
        rw [dec_str]
        exact Wd.beq wd .seen
      by_cases hw : wd = .seen
      · refine iteP (e1.trans (decide_eq_true hw)) ?_
        rw [if_pos hw] at hQ
        refine ⟨_, rfl, a, C, dx, _, _, rfl, s1 _ _ ha, cf.cls, cf.na _ (by decide), wfs_ext _ _ _, _, rfl, a, C, dx, _, _, rfl, s1 _ _ ha, cf.cls, cf.na _ (by decide), wfs_tak _ _ _, t, L, .seen, rfl, ⟨xs, s1 _ _ hxs, hL.same s1⟩, by omega, fun H2 D s2 hD => ?_⟩
        obtain ⟨ws, hws, hwp⟩ := hD
        refine ⟨_, rfl, line1000 (by show 1 ≤ 1000; decide), fun b hb => ⟨D, b, ws, _, rfl, rfl, ?_, upd_same, ?_, fun c hc2 => ?_⟩⟩
        · exact (upd_ne (ne_of_none hws hb)).trans hws
        · have h1 := Paired.length hwp
          have h2 := withW_len L .seen
          have h3 : ([V.ref p] : List V).length = 1 := rfl
          have h4 : 1000 ≤ sizeLine := line1000 (Nat.le_refl _)
          omega
        · have s3 : Same H2 (L2.upd (L2.upd H2 b (.lst [.ref p])) c (.lst (ws ++ [.ref p]))) := Same.upd (Same.one hb) hc2
          have sm := hg.small hz .seen
          refine ⟨z, c, withW L .seen ++ [q], rfl, hz, ⟨_, upd_same, paired_app (hwp.same s3) (.cons ⟨p, rfl, s3 _ _ (s2 _ _ (s1 _ _ hp))⟩ .nil)⟩, ⟨?_, fun x hx => ?_⟩, fun H3 s4 => ?_⟩
          · rw [List.length_append]
            have := sm.1
            show _ + 1 ≤ 50
            omega
          · rcases List.mem_append.mp hx with hx | hx
            · exact sm.2 x hx
            · rw [List.mem_singleton.mp hx]
              have := sz_bd hz hql
              omega
          · have sA := s1.trans (s2.trans (s3.trans s4))
            have el : lbar z (withW L .seen ++ [q]) = wbar z (withW L .seen ++ [q]) := lbar_wbar hz (by
              rw [List.length_append]
              have := sm.1
              show _ + 1 ≤ 40
              omega)
            rw [el]
            refine ⟨_, rfl, rfl, _, rfl, ?_⟩
            cases hb2 : wbar z (withW L .seen ++ [q]) with
            | none =>
              rw [hb2] at hQ
              exact iteF (fin H3 sA hQ _)
            | some pr =>
              rw [hb2] at hQ
              exact iteT ⟨_, rfl, mk_val (EX.oex _ in_exNm) (EX.noval _ in_exNm) fun d H' e hd => hQ _ _ _ (sA.trans e) ⟨rfl, d, _, rfl, hd, rfl⟩⟩
      · refine iteN (e1.trans (decide_eq_false hw)) ?_
        rw [if_neg hw] at hQ
        exact fin H1 s1 hQ none
end
end K94
namespace K94
open PySem L2
abbrev sPCall : Stmt := inCls 39 2
abbrev sWAdd : Stmt := inCls 38 5
abbrev sPAdd : Stmt := inCls 39 3
abbrev sWUndo : Stmt := inCls 38 6
abbrev sWLen : Stmt := inCls 38 7
theorem chk_len {z : Int} {L : List Lk} {q : Pl} {wd : Wd} (h : chk z L q wd = none) : (q.length : Int) = z := by
  unfold chk at h
  by_cases e : (q.length : Int) = z
  · exact e
  · rw [if_pos e] at h
    cases h
theorem due_len {sh : Option Pl} {z : Int} {L : List Lk} {q : Pl} {wd : Wd} (h : due sh z L q wd = none) : (q.length : Int) = z := by
  unfold due at h
  cases hc : chk z L q wd with
  | some e => rw [hc] at h; cases h
  | none => exact chk_len hc
theorem Good.snoc {z : Int} {L : List Lk} {q : Pl} {wd : Wd} (g : Good z L) (hq : (q.length : Int) = z) (hn : L.length + 1 ≤ 35) : Good z (L ++ [(q, wd)]) := ⟨by rw [List.length_append]; exact hn, fun x hx => by
  rcases List.mem_append.mp hx with h | h
  · exact g.len x h
  · rw [List.mem_singleton.mp h]
    exact hq⟩
/-- some looks one behind another -/
def runL (sh : Option Pl) (z : Int) : List Lk → List Lk → Option Er
  | _, [] => none
  | L, x :: M => match due sh z L x.1 x.2 with
    | some e => some e
    | none => runL sh z (L ++ [x]) M
section
variable {P : Program} {w : World} {K : PySem.W.Frag} {mg : Str → Option Value} {base : Heap} {cn : Str → Addr} {C : Addr}
/-! ### PlacedWindow.__call__ -/
theorem scPCall : FnScope ["self", "place", "word"] ["self", "place", "word"] (defScope sPCall) := ⟨rfl, rfl, rfl, by decide +kernel, rfl, by decide +kernel, by decide +kernel⟩
theorem bl_ne (b c : Bool) : (!decide (V.bl b = V.bl c)) = !decide (b = c) := by
  cases b <;> cases c <;> rfl
theorem ok_pcall {f : Addr} {fd : FuncData} (F : Fun K "__call__" "PlacedWindow.__call__" sPCall f fd) (EX : Exs K mg cn) (cf : CFacts K C wF) (GC : GF P w K mg base (L2.CX P w) 3 "check_look" ["size", "looks", "place", "word"] (spChk cn))
    (GD : GF P w K mg base CX0 3 "divisor_of" ["values"] (spDiv K)) (GP : GF P w K mg base CX0 3 "plus" ["one", "other"] (spPlus K)) (sv : Pl) : FnOk P w K mg base (L2.CX P w) 7 f fd ["self", "place", "word"] (spCallW cn C (some sv)) := by
  refine F.okX scPCall (fun vs H Q E h => ?_) (fun cdv A outer s H vs Q E hr h => ?_)
  · obtain ⟨a, t, p, z, L, q, wd, rfl, _⟩ := h
    rfl
  · obtain ⟨a, t, p, z, L, q, wd, rfl, hz, hW, hg, hp, hsv, hQ⟩ := h
    have hsv := hsv sv rfl
    obtain ⟨⟨dx, ot, ha, ho⟩, ⟨xs, hxs, hL⟩⟩ := hW
    have hW : Win C (some sv) z H a t L := ⟨⟨dx, ot, ha, ho⟩, ⟨xs, hxs, hL⟩⟩
    cases ot with
    | none => exact ho.elim
    | some o =>
    have hof : PlAt H o sv := ho
    refine ⟨_, pss_cons (ps_expr (pe_g (E := E) GC (hr.mono (by decide)) rfl (passes_call (takes_of rfl rfl rfl rfl) fun _ _ _ _ h => h) (pa_cons (pe_fld (pv 0) (by rfl)) (pa_cons (pe_fld (pv 0) (by rfl)) (pa_cons (pv 1) (pa_cons (pv 2) pa_nil))))))
      (pss_cons (ps_if (pt_cmpR op_ne (pe_cmpR op_eq (pe_g GD (hr.mono (by decide)) rfl pass0 (pa_cons (pe_g GP (hr.mono (by decide)) rfl pass0 (pa_cons (pv 1) (pa_cons (pe_fld (pv 0) (by rfl)) pa_nil))) pa_nil)) pe_int (nomark _)) (pe_cmpR op_eq (pv 2) pe_str (nomark _)) (nomark _))
        (pss_one (ps_raise rfl (takes_of rfl rfl rfl rfl) (pmk_x EX in_exNm (hr.mono (by decide)) rfl (pa_cons (pv 1) pa_nil)))) pss_nil)
      (pss_one (ps_expr (pe_bm PySem.F.plainAttrs_list PySem.F.slot_list_append PySem.F.type_list_append mt_append (pe_fld (pv 0) (by rfl)) (pa_cons (pe_tup (pa_cons (pv 1) (pa_cons (pv 2) pa_nil))) pa_nil))))), ?_⟩
    have hlen := Paired.length hL
    have gn := hg.few
    refine ⟨_, rfl, a, C, dx, _, _, rfl, ha, cf.cls, cf.na _ (by decide), wfs_ext _ _ _, _, rfl, a, C, dx, _, _, rfl, ha, cf.cls, cf.na _ (by decide), wfs_tak _ _ _, _, rfl, _, rfl, z, t, p, L, q, wd, rfl, ⟨xs, hxs, hL⟩, by omega, hp, ?_⟩
    unfold due at hQ
    cases hc : chk z L q wd with
    | some e =>
      rw [hc] at hQ
      exact hQ
    | none =>
      rw [hc] at hQ
      intro H1 s1
      have hql : (q.length : Int) = z := chk_len hc
      have hb := sz_bd hz hql
      have hof1 : PlAt H1 o sv := s1 _ _ hof
      refine ⟨_, rfl, _, rfl, a, C, dx, _, _, rfl, s1 _ _ ha, cf.cls, cf.na _ (by decide), wfs_off _ _ _, p, o, q, sv, rfl, SqT.of (s1 _ _ hp), SqT.of hof1, by omega, by omega, fun H2 u s2 hu => ?_⟩
      refine ⟨u, _, rfl, SqT.of hu, rfl, _, rfl, rfl, rfl, _, rfl, ?_⟩
      have e1 : decide (V.str wd.s = V.str "seen") = decide (wd = .seen) := by
        rw [dec_str]
        exact Wd.beq wd .seen
      have e2 : decide (V.int ((gcdL (plusL q sv) : Nat) : Int) = V.int 1) = decide (gcdL (plusL q sv) = 1) := by
        rw [dec_int]
        by_cases h : gcdL (plusL q sv) = 1
        · rw [h]
          rfl
        · rw [decide_eq_false h]
          exact beq_eq_false_iff_ne.mpr fun z => h (by omega)
      rw [e1, e2, bl_ne]
      have sA := s1.trans s2
      dsimp only at hQ
      by_cases hd : decide (gcdL (plusL q sv) = 1) = decide (wd = .seen)
      · rw [if_pos hd] at hQ
        refine iteN (by rw [decide_eq_true hd]; rfl) ?_
        refine ⟨_, rfl, a, C, dx, _, _, rfl, sA _ _ ha, cf.cls, cf.na _ (by decide), wfs_tak _ _ _, .inl ⟨rfl, _, SqL.of (sA _ _ hxs)⟩, _, rfl, _, rfl, line1000 (by show 2 ≤ 1000; decide), fun u2 hu2 => ⟨t, xs, _, rfl, rfl, ?_, small1000 (by omega), ?_⟩⟩
        · exact (upd_ne (ne_of_none (sA _ _ hxs) hu2)).trans (sA _ _ hxs)
        · obtain ⟨k1, k2⟩ := hW.app hxs hL hp sA hu2 (wd := wd)
          exact hQ _ k1 k2
      · refine iteP (by rw [decide_eq_false hd]; rfl) ?_
        rw [if_neg hd] at hQ
        exact ⟨_, rfl, mk_val (EX.oex _ in_exNm) (EX.noval _ in_exNm) fun d H' e hd2 => hQ _ _ _ (sA.trans e) ⟨rfl, d, _, rfl, hd2, p, rfl, e _ _ (sA _ _ hp)⟩⟩
/-! ### add_all -/
def spAdd (cn : Str → Addr) (C : Addr) (sh : Option Pl) : Sp := fun vs H Q E => ∃ (a t l : Addr) (z : Int) (L M : List Lk), vs = [.ref a, .ref l] ∧ Sz z ∧ Win C sh z H a t L ∧ Good z L ∧ L.length + M.length ≤ 35 ∧ LksAt H l M ∧ l ≠ t ∧ (∀ s, sh = some s → (s.length : Int) = z) ∧
  match runL sh z L M with
  | none => ∀ H', Keep [t] H H' → Win C sh z H' a t (L ++ M) → Q .non H'
  | some e => ∀ cls d H' t', Keep [a, t] H H' → (∃ ys, H' t = some (.lst ys)) → H t' = none → Win C sh z H' a t' L → ErAt cn H' e cls d → E cls d H'
theorem scWAdd : FnScope ["self", "looks", "before", "place", "word"] ["self", "looks"] (defScope sWAdd) := ⟨rfl, rfl, rfl, by decide +kernel, rfl, by decide +kernel, by decide +kernel⟩
theorem scPAdd : FnScope ["self", "looks", "before", "place", "word"] ["self", "looks"] (defScope sPAdd) := ⟨rfl, rfl, rfl, by decide +kernel, rfl, by decide +kernel, by decide +kernel⟩
theorem putF_tak (z : Int) (t b : Addr) (ot : Option Addr) : putF ("taken" : Str) (V.ref b) (wfs z t ot) = wfs z b ot := rfl
theorem runL_drop {sh : Option Pl} {z : Int} {L M : List Lk} {i : Nat} {x : Lk} (h : M[i]? = some x) : runL sh z (L ++ M.take i) (M.drop i) = match due sh z (L ++ M.take i) x.1 x.2 with
    | some e => some e
    | none => runL sh z (L ++ M.take (i + 1)) (M.drop (i + 1)) := by
  have hd : M.drop i = x :: M.drop (i + 1) := by
    rw [List.drop_eq_getElem_cons (List.getElem?_eq_some_iff.mp h).1, (List.getElem?_eq_some_iff.mp h).2]
  have ht : M.take (i + 1) = M.take i ++ [x] := by
    rw [List.take_add_one, h]
    rfl
  rw [hd, ht, ← List.append_assoc]
  rfl
theorem names_pe {X : Cx} (EX : Exs X.K X.mg cn) (h : Gl X "PostError") : Names X "PostError" (.ref (cn "PostError")) := ⟨h, rfl, .inl EX.globP⟩
theorem er_in : ∀ e : Er, e.nm ∈ exNm
  | .place _ => in_exNm (x := "InvalidPlace")
  | .word _ => in_exNm (x := "InvalidWord")
  | .taken _ => in_exNm (x := "Taken")
  | .wrong _ => in_exNm (x := "Wrong")
  | .barred _ => in_exNm (x := "Barred")
  | .none_ => in_exNm (x := "NothingToUndo")
theorem IsPl.upd {H : Hp} {v : V} {q : Pl} {a : Addr} {o o' : HO} (h : IsPl H v q) (ha : H a = some o) (hn : ∀ xs, HO.tup xs ≠ o) : IsPl (L2.upd H a o') v q := by
  obtain ⟨t, rfl, ht⟩ := h
  exact ⟨t, rfl, tup_upd ht ha (hn _)⟩
theorem ErAt.upd {H : Hp} {e : Er} {cls : Value} {d : Option Addr} {a : Addr} {o o' : HO} (h : ErAt cn H e cls d) (ha : H a = some o) (hn : ∀ xs, HO.tup xs ≠ o) (hx : ∀ fs, HO.xd fs ≠ o) : ErAt cn (L2.upd H a o') e cls d := by
  obtain ⟨h1, dd, v, h2, h3, h4⟩ := h
  refine ⟨h1, dd, v, h2, (upd_ne (ne_of h3 ha (hx _))).trans h3, ?_⟩
  cases e <;> first | exact IsPl.upd h4 ha hn | exact h4
theorem IsLk.upd2 {H : Hp} {v : V} {x : Lk} {a : Addr} {o o' : HO} (h : IsLk H v x) (ha : H a = some o) (hn : ∀ xs, HO.tup xs ≠ o) : IsLk (L2.upd H a o') v x := by
  obtain ⟨t, u, rfl, h1, h2⟩ := h
  exact ⟨t, u, rfl, tup_upd h1 ha (hn _), tup_upd h2 ha (hn _)⟩
theorem AreLk.keep {M : List Addr} {H H' : Hp} {xs : List V} {L : List Lk} (h : AreLk H xs L) (k : Keep M H H') (hM : ∀ m ∈ M, ∀ ys, H m ≠ some (.tup ys)) : AreLk H' xs L := Paired.mapP h fun v x z => by
  obtain ⟨t, u, rfl, h1, h2⟩ := z
  exact ⟨t, u, rfl, k _ _ (fun m => hM _ m _ h1) h1, k _ _ (fun m => hM _ m _ h2) h2⟩
/-- what is left behind by a window whose add_all has failed -/
theorem add_back {sh : Option Pl} {a t b dx : Addr} {z : Int} {L : List Lk} {H H' : Hp} {ot : Option Addr} {xs : List V} {e : Er} {cls : Value} {d : Option Addr} (ha : H a = some (.ins C dx (wfs z t ot))) (ho : OffAt H ot sh) (hxs : H t = some (.lst xs)) (hL : AreLk H xs L) (hb : H b = none)
    (k : Keep [t] H H') (hb' : H' b = some (.lst xs)) (he : ErAt cn H' e cls d) :
    Keep [a, t] H (L2.upd H' a (.ins C dx (wfs z b ot))) ∧ Win C sh z (L2.upd H' a (.ins C dx (wfs z b ot))) a b L ∧ ErAt cn (L2.upd H' a (.ins C dx (wfs z b ot))) e cls d := by
  have nta : a ≠ t := ne_of ha hxs (by nofun)
  have ha' : H' a = some (.ins C dx (wfs z t ot)) := k _ _ (by simpa using nta) ha
  have hat : ∀ m ∈ [t], ∀ ys, H m ≠ some (.tup ys) := fun m hm ys q => by
    rw [List.mem_singleton.mp hm, hxs] at q
    cases q
  refine ⟨Keep.upd (k.mono fun x hx => List.mem_cons_of_mem _ hx) (by simp), ⟨⟨dx, ot, upd_same, ?_⟩, xs, (upd_ne (ne_of hb' ha' (by nofun))).trans hb', ?_⟩, he.upd ha' (by nofun) (by nofun)⟩
  · cases ot <;> cases sh <;> first | exact ho | skip
    rename_i o s
    have ho' : H o = some (.tup (s.map V.int)) := ho
    exact tup_upd (k _ _ (fun m => hat _ m _ ho') ho') ha' (by nofun)
  · exact Paired.mapP (hL.keep k hat) fun v x q => q.upd2 ha' (by nofun)
theorem ok_wadd {f : Addr} {fd : FuncData} (F : Fun K "add_all" "Window.add_all" sWAdd f fd) (EX : Exs K mg cn) (cf : CFacts K C wF) (mL : mg "list" = none) (sh : Option Pl) (OC : OF P w K mg base (L2.CX P w) 7 C ["self", "place", "word"] (spCallW cn C sh)) : FnOk P w K mg base (L2.CX P w) 9 f fd ["self", "looks"] (spAdd cn C sh) := by
  refine F.okX scWAdd (fun vs H Q E h => ?_) (fun cdv A outer s H vs Q E hr h => ?_)
  · obtain ⟨a, t, l, z, L, M, rfl, _⟩ := h
    rfl
  · obtain ⟨a, t, l, z, L, M, rfl, hz, hW, hg, hn, ⟨ys, hys, hM⟩, hlt, hsh, hQ⟩ := h
    obtain ⟨⟨dx, ot, ha, ho⟩, ⟨xs, hxs, hL⟩⟩ := hW
    refine ⟨_, pss_cons (ps_set (i := 2) scWAdd.nd rfl (Or.inl rfl) (pe_callTy call_list_of (by rfl) mL (by decide +kernel) (pa_cons (pe_fld (pv 0) (by rfl)) pa_nil)))
      (pss_one (ps_try_re (Wout := fun cls d _ H => E cls d H) (tb := fun W => tFor (iList K (tVar 1)) (gTup K 2 (gCons (gName 3) (gCons (gName 4) gNil))) (tDrop (tOS C (spCallW cn C sh) (WE W) (tVar 0) (tCons (tVar 3) (tCons (tVar 4) tNil))))) (ts := fun _ cls d => tSeq (sFld K (tVar 0) (tVar 2) "taken") fun _ σ H => E cls d H) rfl rfl rfl (names_pe EX rfl) (L2H.passesAt_of rfl) (takes_of rfl rfl rfl rfl)
        (fun W pn xe tk po => pss_one (ps_for po rfl (pi_list (pv 1)) (pg_tup rfl (pgs_cons (pg_name (i := 3) scWAdd.nd rfl (Or.inl rfl)) (pgs_cons (pg_name (i := 4) scWAdd.nd rfl (Or.inl rfl)) pgs_nil)))
          (pss_one (ps_expr (pe_oS (E := WE W) (pv 0) OC (hr.mono (by decide)) (passAt tk) (pa_cons (pv 3) (pa_cons (pv 4) pa_nil)))))))
        (fun a cls d pn re => pss_cons (ps_fld (pv 0) (pv 2) (by rfl)) (pss_one (re _))))), ?_⟩
    refine ⟨_, rfl, a, C, dx, _, _, rfl, ha, cf.cls, cf.na _ (by decide), wfs_tak _ _ _, t, xs, rfl, .inl (SqL.of hxs), fun b hb => ?_⟩
    have s1 : Same H (L2.upd H b (.lst xs)) := Same.one hb
    have hnl := Paired.length hM
    have nat : ∀ m ∈ [t], ∀ ys, H m ≠ some (.tup ys) := fun m hm ys q => by
      rw [List.mem_singleton.mp hm, hxs] at q
      cases q
    refine ⟨_, rfl, l, rfl, ⟨_, SqL.of (s1 _ _ hys)⟩, for_list (K := K) (xs := ys) (fun i σ H' => Keep [t] H H' ∧ Win C sh z H' a t (L ++ M.take i) ∧ Good z (L ++ M.take i) ∧ H' b = some (.lst xs) ∧ runL sh z (L ++ M.take i) (M.drop i) = runL sh z L M ∧ ∃ v3 v4 : Option V, σ = [some (.ref a), some (.ref l), some (.ref b), v3, v4])
      ⟨Keep.of s1, ?_, ?_, upd_same, ?_, none, none, rfl⟩ (fun i σ H' _ h => SqL.of (h.1 _ _ (by simpa using hlt) hys)) ?_ ?_⟩
    · rw [List.take_zero, List.append_nil]
      exact Win.same ⟨⟨dx, ot, ha, ho⟩, ⟨xs, hxs, hL⟩⟩ s1
    · rw [List.take_zero, List.append_nil]
      exact hg
    · rw [List.take_zero, List.append_nil, List.drop_zero]
    · rintro i v σ H1 hi ⟨k1, hW1, hg1, hb1, hd, v3, v4, rfl⟩
      have hM1 : AreLk H1 ys M := hM.keep k1 nat
      obtain ⟨x, hx, u, p, rfl, hu, hp⟩ := paired_get hM1 hi
      have hilt := (List.getElem?_eq_some_iff.mp hx).1
      have hd2 := runL_drop (sh := sh) (z := z) (L := L) hx
      rw [hd] at hd2
      obtain ⟨⟨dx1, ot1, ha1, ho1⟩, hl1⟩ := hW1
      refine ⟨u, _, rfl, SqT.of hu, rfl, _, _, rfl, _, _, rfl, rfl, ?_⟩
      refine ⟨_, rfl, a, rfl, _, rfl, _, rfl, ⟨dx1, _, ha1⟩, a, t, p, z, L ++ M.take i, x.1, x.2, rfl, hz, ⟨⟨dx1, ot1, ha1, ho1⟩, hl1⟩, hg1, hp, hsh, ?_⟩
      cases hdu : due sh z (L ++ M.take i) x.1 x.2 with
      | none =>
        rw [hdu] at hd2
        intro H2 k2 hW2
        have e1 : L ++ M.take (i + 1) = (L ++ M.take i) ++ [x] := by
          rw [List.take_add_one, hx, List.append_assoc]
          rfl
        refine ⟨k1.trans k2, by rw [e1]; exact hW2, by rw [e1]; exact hg1.snoc (due_len hdu) (by rw [List.length_append, List.length_take]; omega), k2 _ _ ?_ hb1, hd2.symm, _, _, rfl⟩
        simpa using ne_of_none hxs hb |>.symm
      | some e =>
        rw [hdu] at hd2
        rw [hd2] at hQ
        intro cls d H2 s2 he
        have hat : a ≠ t := ne_of ha hxs (by nofun)
        have ha2 : H2 a = some (.ins C dx (wfs z t ot)) := s2 _ _ (k1 _ _ (by simpa using hat) ha)
        refine ⟨?_, fun ex hex => ⟨_, rfl, _, rfl, a, C, dx, _, rfl, ha2, cf.cls, cf.na _ (by decide), wfs_len _ _ _, ?_⟩⟩
        · rw [he.1]
          exact EX.exm _ (er_in e)
        · rw [putF_tak]
          obtain ⟨q1, q2, q3⟩ := add_back (sh := sh) (C := C) ha ho hxs hL hb (k1.trans (Keep.of s2)) (s2 _ _ hb1) he
          obtain ⟨ts, hts, _⟩ := id hl1
          exact hQ cls d _ b q1 ⟨ts, (upd_ne hat.symm).trans (s2 _ _ hts)⟩ hb q2 q3
    · rintro σ H1 ⟨k1, hW1, hg1, hb1, hd, v3, v4, rfl⟩
      rw [hnl, List.drop_length, List.take_length] at hd
      rw [hnl, List.take_length] at hW1
      rw [← hd] at hQ
      exact hQ H1 k1 hW1
theorem ok_padd {f : Addr} {fd : FuncData} (F : Fun K "add_all" "PlacedWindow.add_all" sPAdd f fd) (EX : Exs K mg cn) (cf : CFacts K C wF) (mL : mg "list" = none) (sh : Option Pl) (OC : OF P w K mg base (L2.CX P w) 7 C ["self", "place", "word"] (spCallW cn C sh)) : FnOk P w K mg base (L2.CX P w) 9 f fd ["self", "looks"] (spAdd cn C sh) := by
  refine F.okX scPAdd (fun vs H Q E h => ?_) (fun cdv A outer s H vs Q E hr h => ?_)
  · obtain ⟨a, t, l, z, L, M, rfl, _⟩ := h
    rfl
  · obtain ⟨a, t, l, z, L, M, rfl, hz, hW, hg, hn, ⟨ys, hys, hM⟩, hlt, hsh, hQ⟩ := h
    obtain ⟨⟨dx, ot, ha, ho⟩, ⟨xs, hxs, hL⟩⟩ := hW
    refine ⟨_, pss_cons (ps_set (i := 2) scPAdd.nd rfl (Or.inl rfl) (pe_callTy call_list_of (by rfl) mL (by decide +kernel) (pa_cons (pe_fld (pv 0) (by rfl)) pa_nil)))
      (pss_one (ps_try_re (Wout := fun cls d _ H => E cls d H) (tb := fun W => tFor (iList K (tVar 1)) (gTup K 2 (gCons (gName 3) (gCons (gName 4) gNil))) (tDrop (tOS C (spCallW cn C sh) (WE W) (tVar 0) (tCons (tVar 3) (tCons (tVar 4) tNil))))) (ts := fun _ cls d => tSeq (sFld K (tVar 0) (tVar 2) "taken") fun _ σ H => E cls d H) rfl rfl rfl (names_pe EX rfl) (L2H.passesAt_of rfl) (takes_of rfl rfl rfl rfl)
        (fun W pn xe tk po => pss_one (ps_for po rfl (pi_list (pv 1)) (pg_tup rfl (pgs_cons (pg_name (i := 3) scPAdd.nd rfl (Or.inl rfl)) (pgs_cons (pg_name (i := 4) scPAdd.nd rfl (Or.inl rfl)) pgs_nil)))
          (pss_one (ps_expr (pe_oS (E := WE W) (pv 0) OC (hr.mono (by decide)) (passAt tk) (pa_cons (pv 3) (pa_cons (pv 4) pa_nil)))))))
        (fun a cls d pn re => pss_cons (ps_fld (pv 0) (pv 2) (by rfl)) (pss_one (re _))))), ?_⟩
    refine ⟨_, rfl, a, C, dx, _, _, rfl, ha, cf.cls, cf.na _ (by decide), wfs_tak _ _ _, t, xs, rfl, .inl (SqL.of hxs), fun b hb => ?_⟩
    have s1 : Same H (L2.upd H b (.lst xs)) := Same.one hb
    have hnl := Paired.length hM
    have nat : ∀ m ∈ [t], ∀ ys, H m ≠ some (.tup ys) := fun m hm ys q => by
      rw [List.mem_singleton.mp hm, hxs] at q
      cases q
    refine ⟨_, rfl, l, rfl, ⟨_, SqL.of (s1 _ _ hys)⟩, for_list (K := K) (xs := ys) (fun i σ H' => Keep [t] H H' ∧ Win C sh z H' a t (L ++ M.take i) ∧ Good z (L ++ M.take i) ∧ H' b = some (.lst xs) ∧ runL sh z (L ++ M.take i) (M.drop i) = runL sh z L M ∧ ∃ v3 v4 : Option V, σ = [some (.ref a), some (.ref l), some (.ref b), v3, v4])
      ⟨Keep.of s1, ?_, ?_, upd_same, ?_, none, none, rfl⟩ (fun i σ H' _ h => SqL.of (h.1 _ _ (by simpa using hlt) hys)) ?_ ?_⟩
    · rw [List.take_zero, List.append_nil]
      exact Win.same ⟨⟨dx, ot, ha, ho⟩, ⟨xs, hxs, hL⟩⟩ s1
    · rw [List.take_zero, List.append_nil]
      exact hg
    · rw [List.take_zero, List.append_nil, List.drop_zero]
    · rintro i v σ H1 hi ⟨k1, hW1, hg1, hb1, hd, v3, v4, rfl⟩
      have hM1 : AreLk H1 ys M := hM.keep k1 nat
      obtain ⟨x, hx, u, p, rfl, hu, hp⟩ := paired_get hM1 hi
      have hilt := (List.getElem?_eq_some_iff.mp hx).1
      have hd2 := runL_drop (sh := sh) (z := z) (L := L) hx
      rw [hd] at hd2
      obtain ⟨⟨dx1, ot1, ha1, ho1⟩, hl1⟩ := hW1
      refine ⟨u, _, rfl, SqT.of hu, rfl, _, _, rfl, _, _, rfl, rfl, ?_⟩
      refine ⟨_, rfl, a, rfl, _, rfl, _, rfl, ⟨dx1, _, ha1⟩, a, t, p, z, L ++ M.take i, x.1, x.2, rfl, hz, ⟨⟨dx1, ot1, ha1, ho1⟩, hl1⟩, hg1, hp, hsh, ?_⟩
      cases hdu : due sh z (L ++ M.take i) x.1 x.2 with
      | none =>
        rw [hdu] at hd2
        intro H2 k2 hW2
        have e1 : L ++ M.take (i + 1) = (L ++ M.take i) ++ [x] := by
          rw [List.take_add_one, hx, List.append_assoc]
          rfl
        refine ⟨k1.trans k2, by rw [e1]; exact hW2, by rw [e1]; exact hg1.snoc (due_len hdu) (by rw [List.length_append, List.length_take]; omega), k2 _ _ ?_ hb1, hd2.symm, _, _, rfl⟩
        simpa using ne_of_none hxs hb |>.symm
      | some e =>
        rw [hdu] at hd2
        rw [hd2] at hQ
        intro cls d H2 s2 he
        have hat : a ≠ t := ne_of ha hxs (by nofun)
        have ha2 : H2 a = some (.ins C dx (wfs z t ot)) := s2 _ _ (k1 _ _ (by simpa using hat) ha)
        refine ⟨?_, fun ex hex => ⟨_, rfl, _, rfl, a, C, dx, _, rfl, ha2, cf.cls, cf.na _ (by decide), wfs_len _ _ _, ?_⟩⟩
        · rw [he.1]
          exact EX.exm _ (er_in e)
        · rw [putF_tak]
          obtain ⟨q1, q2, q3⟩ := add_back (sh := sh) (C := C) ha ho hxs hL hb (k1.trans (Keep.of s2)) (s2 _ _ hb1) he
          obtain ⟨ts, hts, _⟩ := id hl1
          exact hQ cls d _ b q1 ⟨ts, (upd_ne hat.symm).trans (s2 _ _ hts)⟩ hb q2 q3
    · rintro σ H1 ⟨k1, hW1, hg1, hb1, hd, v3, v4, rfl⟩
      rw [hnl, List.drop_length, List.take_length] at hd
      rw [hnl, List.take_length] at hW1
      rw [← hd] at hQ
      exact hQ H1 k1 hW1
end
end K94
namespace K94
open PySem L2
abbrev sWEq : Stmt := inCls 38 8
abbrev sPEq : Stmt := inCls 39 4
abbrev sWLooks : Stmt := inCls 38 3
/-- what isinstance asks of a class of instances -/
structure TyC (K : PySem.W.Frag) (C : Addr) : Prop where
  cl : Cls K C
  ha : PySem.W.findIn K (.ref C) "__class__" = some (some (.builtin "object.__class__"))
  hn : PySem.W.specialIn K (.builtin "object.__class__") "__get__" = some (some (.builtin "getset_descriptor.__get__"))
  htk : PySem.W.takesIn K (.builtin "object.__class__") = some true
  hm : PySem.W.mroIn K C (.type "object") = some true
theorem TyC.ty {K : PySem.W.Frag} {C : Addr} (c : TyC K C) {H : Hp} {a dx : Addr} {fs : List (Str × V)} (e : H a = some (.ins C dx fs)) : TyX K H (.ref a) (.ref C) := .base (.ins e c.cl c.ha c.hn c.htk c.hm)
section
variable {P : Program} {w : World} {K : PySem.W.Frag} {mg : Str → Option Value} {base : Heap} {cn : Str → Addr} {C : Addr}
/-! ### undo, len, looks -/
def spUndo (cn : Str → Addr) (C : Addr) (sh : Option Pl) : Sp := fun vs H Q E => ∃ (a t : Addr) (z : Int) (L : List Lk), vs = [.ref a] ∧ Win C sh z H a t L ∧ Good z L ∧
  ((L = [] ∧ ∀ cls d H', Same H H' → ErAt cn H' .none_ cls d → E cls d H') ∨ (L ≠ [] ∧ ∀ H', Keep [t] H H' → Win C sh z H' a t L.dropLast → Q .non H'))
theorem scWUndo : FnScope ["self"] ["self"] (defScope sWUndo) := ⟨rfl, rfl, rfl, by decide +kernel, rfl, by decide +kernel, by decide +kernel⟩
theorem paired_dropLast {α β : Type} {F : α → β → Prop} : ∀ {l : List α} {m : List β}, Paired F l m → Paired F l.dropLast m.dropLast
  | _, _, .nil => .nil
  | _, _, .cons _ .nil => .nil
  | _, _, .cons h (.cons h2 t) => .cons h (paired_dropLast (.cons h2 t))
theorem ok_wundo {f : Addr} {fd : FuncData} (F : Fun K "undo" "Window.undo" sWUndo f fd) (EX : Exs K mg cn) (cf : CFacts K C wF) (mL : mg "len" = none) (sh : Option Pl) : FnOk P w K mg base (L2.CX P w) 3 f fd ["self"] (spUndo cn C sh) := by
  refine F.okX scWUndo (fun vs H Q E h => ?_) (fun cdv A outer s H vs Q E hr h => ?_)
  · obtain ⟨a, t, z, L, rfl, _⟩ := h
    rfl
  · obtain ⟨a, t, z, L, rfl, hW, hg, hQ⟩ := h
    obtain ⟨⟨dx, ot, ha, ho⟩, ⟨xs, hxs, hL⟩⟩ := hW
    have hlen := Paired.length hL
    refine ⟨_, pss_cons (ps_if (pt_cmpR op_eq (pe_callB call_len_seq (by rfl) mL PySem.boot_len (pa_cons (pe_fld (pv 0) (by rfl)) pa_nil)) pe_int (nomark _)) (pss_one (ps_raise rfl (takes_of rfl rfl rfl rfl) (pmk_x EX in_exNm hr rfl (pa_cons pe_int pa_nil)))) pss_nil)
      (pss_one (ps_expr (pe_bm0 PySem.F.plainAttrs_list PySem.F.slot_list_pop PySem.F.type_list_pop mt_pop (pe_fld (pv 0) (by rfl))))), ?_⟩
    refine ⟨_, rfl, a, C, dx, _, _, rfl, ha, cf.cls, cf.na _ (by decide), wfs_tak _ _ _, t, xs, rfl, .inl (SqL.of hxs), rfl, _, rfl, ?_⟩
    rcases hQ with ⟨rfl, hQ⟩ | ⟨hne, hQ⟩
    · have : xs = [] := List.length_eq_zero_iff.mp hlen
      subst this
      exact iteT (mk_val (EX.oex _ in_exNm) (EX.noval _ in_exNm) fun d H' e hd => hQ _ _ _ e ⟨rfl, d, _, rfl, hd, rfl⟩)
    · have hpos : 0 < xs.length := by
        rw [hlen]
        exact List.length_pos_iff.mpr hne
      refine iteN (decide_eq_false fun q => ?_) ?_
      · injection q with q
        omega
      · obtain ⟨y, hy⟩ : ∃ y, xs[xs.length - 1]? = some y := ⟨_, List.getElem?_eq_getElem (by omega)⟩
        refine ⟨_, rfl, a, C, dx, _, _, rfl, ha, cf.cls, cf.na _ (by decide), wfs_tak _ _ _, .inl ⟨rfl, _, SqL.of hxs⟩, t, xs, y, rfl, rfl, hxs, hy, ?_⟩
        have hat : ∀ ys, H t ≠ some (.tup ys) := fun ys q => by
          rw [hxs] at q
          cases q
        refine hQ _ (Keep.upd Keep.refl (by simp)) ⟨⟨dx, ot, (upd_ne (ne_of ha hxs (by nofun))).trans ha, ?_⟩, _, upd_same, Paired.mapP (paired_dropLast hL) fun v x q => q.upd hxs⟩
        cases ot <;> cases sh <;> first | exact ho | skip
        exact tup_upd ho hxs tup_lst
def spLen (C : Addr) (sh : Option Pl) : Sp := fun vs H Q _ => ∃ (a t : Addr) (z : Int) (L : List Lk), vs = [.ref a] ∧ Win C sh z H a t L ∧ Q (.int (L.length : Nat)) H
theorem scWLen : FnScope ["self"] ["self"] (defScope sWLen) := ⟨rfl, rfl, rfl, by decide +kernel, rfl, by decide +kernel, by decide +kernel⟩
theorem ok_wlen {f : Addr} {fd : FuncData} (F : Fun K "__len__" "Window.__len__" sWLen f fd) (cf : CFacts K C wF) (mL : mg "len" = none) (sh : Option Pl) : FnOk P w K mg base CX0 1 f fd ["self"] (spLen C sh) := by
  refine F.ok scWLen (fun vs H Q E h => ?_) (fun cdv A outer s H vs Q E hr h => ?_)
  · obtain ⟨a, t, z, L, rfl, _⟩ := h
    rfl
  · obtain ⟨a, t, z, L, rfl, ⟨⟨dx, ot, ha, ho⟩, ⟨xs, hxs, hL⟩⟩, hQ⟩ := h
    refine ⟨_, pss_one (ps_ret (pe_callB call_len_seq (by rfl) mL PySem.boot_len (pa_cons (pe_fld (pv 0) (by rfl)) pa_nil))), ?_⟩
    refine ⟨_, rfl, a, C, dx, _, _, rfl, ha, cf.cls, cf.na _ (by decide), wfs_tak _ _ _, t, xs, rfl, .inl (SqL.of hxs), ?_⟩
    rw [Paired.length hL]
    exact hQ
def spLooks (C : Addr) (sh : Option Pl) : Sp := fun vs H Q _ => ∃ (a t : Addr) (z : Int) (L : List Lk), vs = [.ref a] ∧ Win C sh z H a t L ∧ ∀ H' D, Same H H' → LksAt H' D L → H D = none → Q (.ref D) H'
theorem scWLooks : FnScope ["self"] ["self"] (defScope sWLooks) := ⟨rfl, rfl, rfl, by decide +kernel, rfl, by decide +kernel, by decide +kernel⟩
theorem ok_wlooks {f : Addr} {fd : FuncData} (F : Fun K "looks" "Window.looks" sWLooks f fd) (cf : CFacts K C wF) (mL : mg "list" = none) (sh : Option Pl) : FnOk P w K mg base CX0 1 f fd ["self"] (spLooks C sh) := by
  refine F.ok scWLooks (fun vs H Q E h => ?_) (fun cdv A outer s H vs Q E hr h => ?_)
  · obtain ⟨a, t, z, L, rfl, _⟩ := h
    rfl
  · obtain ⟨a, t, z, L, rfl, ⟨⟨dx, ot, ha, ho⟩, ⟨xs, hxs, hL⟩⟩, hQ⟩ := h
    refine ⟨_, pss_one (ps_ret (pe_callTy call_list_of (by rfl) mL (by decide +kernel) (pa_cons (pe_fld (pv 0) (by rfl)) pa_nil))), ?_⟩
    exact ⟨_, rfl, a, C, dx, _, _, rfl, ha, cf.cls, cf.na _ (by decide), wfs_tak _ _ _, t, xs, rfl, .inl (SqL.of hxs), fun D hD => hQ _ D (Same.one hD) ⟨xs, upd_same, hL.same (Same.one hD)⟩ hD⟩
/-! ### == -/
/-- the two window classes, as isinstance sees them -/
structure TwoW (K : PySem.W.Frag) (mg : Str → Option Value) (CW CP : Addr) : Prop where
  gW : mg "Window" = some (.ref CW)
  gP : mg "PlacedWindow" = some (.ref CP)
  tW : TyC K CW
  tP : TyC K CP
  fW : CFacts K CW wF
  fP : CFacts K CP wF
  ww : PySem.W.kitOne K (.ref CW) (.ref CW) = some true
  wp : PySem.W.kitOne K (.ref CW) (.ref CP) = some false
  pw : PySem.W.kitOne K (.ref CP) (.ref CW) = some true
  pp : PySem.W.kitOne K (.ref CP) (.ref CP) = some true
def spEqW (K : PySem.W.Frag) (CW CP : Addr) : Sp := fun vs H Q _ => ∃ (a t : Addr) (y : V) (z : Int) (L : List Lk), vs = [.ref a, y] ∧ Win CW none z H a t L ∧
  ((∃ (z' : Int) (b t' : Addr) (L' : List Lk), y = .ref b ∧ Win CW none z' H b t' L' ∧ Q (.bl (decide (z = z') && decide (L = L'))) H) ∨
    (∃ ty, TyX K H y ty ∧ (PySem.W.kitOne K ty (.ref CW) = some false ∨ (PySem.W.kitOne K ty (.ref CW) = some true ∧ PySem.W.kitOne K ty (.ref CP) = some true)) ∧ Q (.bl false) H))
theorem scWEq : FnScope ["self", "other"] ["self", "other"] (defScope sWEq) := ⟨rfl, rfl, rfl, by decide +kernel, rfl, by decide +kernel, by decide +kernel⟩
theorem scPEq : FnScope ["self", "other"] ["self", "other"] (defScope sPEq) := ⟨rfl, rfl, rfl, by decide +kernel, rfl, by decide +kernel, by decide +kernel⟩
theorem boot_isi : bootBuiltins "isinstance" = some (.builtin "isinstance") := by decide +kernel
theorem ok_weq {f : Addr} {fd : FuncData} {CW CP : Addr} (F : Fun K "__eq__" "Window.__eq__" sWEq f fd) (T : TwoW K mg CW CP) (mI : mg "isinstance" = none) : FnOk P w K mg base CX0 3 f fd ["self", "other"] (spEqW K CW CP) := by
  refine F.ok scWEq (fun vs H Q E h => ?_) (fun cdv A outer s H vs Q E hr h => ?_)
  · obtain ⟨a, t, y, z, L, rfl, _⟩ := h
    rfl
  · obtain ⟨a, t, y, z, L, rfl, hW, hQ⟩ := h
    refine ⟨_, pss_cons (ps_if (PW.pt (pw_or (pt_not (pt_val (pe_callB call_isi (by rfl) mI boot_isi (pa_cons (pv 1) (pa_cons (pe_glob (v := .ref CW) rfl T.gW rfl) pa_nil))))) (pw_or1 (pt_val (pe_callB call_isi (by rfl) mI boot_isi (pa_cons (pv 1) (pa_cons (pe_glob (v := .ref CP) rfl T.gP rfl) pa_nil))))))) (pss_one (ps_ret pe_bl)) pss_nil)
      (pss_one (ps_ret (pe_and (pe_cmpR op_eq (pe_fld (pv 0) (by rfl)) (pe_fld (pv 1) (by rfl)) (nomark _)) (pe_one (pe_cmpR (op_eqD hr.units) (pe_fld (pv 0) (by rfl)) (pe_fld (pv 1) (by rfl)) (nomark _)))))), ?_⟩
    rcases hQ with ⟨z', b, t', L', rfl, hB, hQ⟩ | ⟨ty, hty, hk | ⟨hk, hk2⟩, hQ⟩
    · obtain ⟨⟨dx, ot, ha, ho⟩, hl⟩ := hW
      obtain ⟨⟨dy, oy, hb, _⟩, hl'⟩ := hB
      have ty := T.tW.ty hb
      refine ⟨_, rfl, _, _, _, _, _, rfl, .own CW, ty, T.ww, _, rfl, iteF ⟨_, rfl, _, _, _, _, _, rfl, .own CP, ty, T.wp, _, rfl, iteF ?_⟩⟩
      refine ⟨_, rfl, a, CW, dx, _, _, rfl, ha, T.fW.cls, T.fW.na _ (by decide), wfs_ext _ _ _, _, rfl, b, CW, dy, _, _, rfl, hb, T.fW.cls, T.fW.na _ (by decide), wfs_ext _ _ _, rfl, _, rfl, ?_⟩
      rw [dec_int]
      by_cases e : z = z'
      · rw [e, decide_eq_true rfl] at hQ
        rw [e]
        refine iteP (by simp) ⟨_, rfl, a, CW, dx, _, _, rfl, ha, T.fW.cls, T.fW.na _ (by decide), wfs_tak _ _ _, _, rfl, b, CW, dy, _, _, rfl, hb, T.fW.cls, T.fW.na _ (by decide), wfs_tak _ _ _, lksD L, lksD L', hl.dp, hl'.dp, lksD_sh _, lksD_sh _, ?_⟩
        rw [lksD_eqv]
        exact hQ
      · rw [decide_eq_false e] at hQ
        exact iteN (beq_eq_false_iff_ne.mpr e) hQ
    · exact ⟨_, rfl, _, _, _, _, _, rfl, .own CW, hty, hk, _, rfl, iteT hQ⟩
    · exact ⟨_, rfl, _, _, _, _, _, rfl, .own CW, hty, hk, _, rfl, iteF ⟨_, rfl, _, _, _, _, _, rfl, .own CP, hty, hk2, _, rfl, iteT hQ⟩⟩
def spEqP (K : PySem.W.Frag) (CP : Addr) : Sp := fun vs H Q _ => ∃ (a t : Addr) (y : V) (z : Int) (s : Pl) (L : List Lk), vs = [.ref a, y] ∧ Win CP (some s) z H a t L ∧
  ((∃ (z' : Int) (b t' : Addr) (s' : Pl) (L' : List Lk), y = .ref b ∧ Win CP (some s') z' H b t' L' ∧ Q (.bl (decide (s = s') && decide (L = L'))) H) ∨ (∃ ty, TyX K H y ty ∧ PySem.W.kitOne K ty (.ref CP) = some false ∧ Q (.bl false) H))
theorem ok_peq {f : Addr} {fd : FuncData} {CW CP : Addr} (F : Fun K "__eq__" "PlacedWindow.__eq__" sPEq f fd) (T : TwoW K mg CW CP) (mI : mg "isinstance" = none) : FnOk P w K mg base CX0 3 f fd ["self", "other"] (spEqP K CP) := by
  refine F.ok scPEq (fun vs H Q E h => ?_) (fun cdv A outer s H vs Q E hr h => ?_)
  · obtain ⟨a, t, y, z, s, L, rfl, _⟩ := h
    rfl
  · obtain ⟨a, t, y, z, sv, L, rfl, hW, hQ⟩ := h
    refine ⟨_, pss_cons (ps_if (pt_not (pt_val (pe_callB call_isi (by rfl) mI boot_isi (pa_cons (pv 1) (pa_cons (pe_glob (v := .ref CP) rfl T.gP rfl) pa_nil))))) (pss_one (ps_ret pe_bl)) pss_nil)
      (pss_one (ps_ret (pe_and (pe_cmpR (op_eqD hr.units) (pe_fld (pv 0) (by rfl)) (pe_fld (pv 1) (by rfl)) (nomark _)) (pe_one (pe_cmpR (op_eqD hr.units) (pe_fld (pv 0) (by rfl)) (pe_fld (pv 1) (by rfl)) (nomark _)))))), ?_⟩
    rcases hQ with ⟨z', b, t', s', L', rfl, hB, hQ⟩ | ⟨ty, hty, hk, hQ⟩
    · obtain ⟨⟨dx, ot, ha, ho⟩, hl⟩ := hW
      obtain ⟨⟨dy, oy, hb, ho'⟩, hl'⟩ := hB
      cases ot with
      | none => exact ho.elim
      | some o =>
        cases oy with
        | none => exact ho'.elim
        | some o' =>
          refine ⟨_, rfl, _, _, _, _, _, rfl, .own CP, T.tP.ty hb, T.pp, _, rfl, iteF ?_⟩
          refine ⟨_, rfl, a, CP, dx, _, _, rfl, ha, T.fP.cls, T.fP.na _ (by decide), wfs_off _ _ _, _, rfl, b, CP, dy, _, _, rfl, hb, T.fP.cls, T.fP.na _ (by decide), wfs_off _ _ _, plD sv, plD s', dp_sqt (SqT.of ho), dp_sqt (SqT.of ho'), plD_sh _, plD_sh _, _, rfl, ?_⟩
          rw [plD_eqv]
          by_cases e : sv = s'
          · rw [decide_eq_true e] at hQ ⊢
            refine iteT ⟨_, rfl, a, CP, dx, _, _, rfl, ha, T.fP.cls, T.fP.na _ (by decide), wfs_tak _ _ _, _, rfl, b, CP, dy, _, _, rfl, hb, T.fP.cls, T.fP.na _ (by decide), wfs_tak _ _ _, lksD L, lksD L', hl.dp, hl'.dp, lksD_sh _, lksD_sh _, ?_⟩
            rw [lksD_eqv]
            exact hQ
          · rw [decide_eq_false e] at hQ ⊢
            exact iteF hQ
    · exact ⟨_, rfl, _, _, _, _, _, rfl, .own CP, hty, hk, _, rfl, iteT hQ⟩
end
end K94
namespace K94
open PySem L2
/-! ### pictures -/
abbrev sCIni : Stmt := inCls 29 0
def pfs (z : Int) (d s h : Addr) : List (Str × V) := [("dimension", .int z), ("words", .ref d), ("seen_places", .ref s), ("hidden_places", .ref h)]
abbrev cF : List Str := ["dimension", "words", "seen_places", "hidden_places"]
theorem pfs_dim (z : Int) (d s h : Addr) : (pfs z d s h).lookup ("dimension" : Str) = some (V.int z) := rfl
theorem pfs_wrd (z : Int) (d s h : Addr) : (pfs z d s h).lookup ("words" : Str) = some (V.ref d) := rfl
theorem pfs_see (z : Int) (d s h : Addr) : (pfs z d s h).lookup ("seen_places" : Str) = some (V.ref s) := rfl
theorem pfs_hid (z : Int) (d s h : Addr) : (pfs z d s h).lookup ("hidden_places" : Str) = some (V.ref h) := rfl
/-- a picture at a -/
def Pic (CI : Addr) (z : Int) (H : Hp) (a : Addr) (S D : List Pl) : Prop := ∃ dx d s h n kvs, H a = some (.ins CI dx (pfs z d s h)) ∧ GotM H d (S ++ D) n kvs ∧ PlsAt H s (srt S) ∧ PlsAt H h (srt D)
theorem Pic.same {CI : Addr} {z : Int} {H H' : Hp} {a : Addr} {S D : List Pl} (h : Pic CI z H a S D) (e : Same H H') : Pic CI z H' a S D := by
  obtain ⟨dx, d, s, h', n, kvs, h1, h2, h3, h4⟩ := h
  exact ⟨dx, d, s, h', n, kvs, e _ _ h1, h2.same e, h3.same e, h4.same e⟩
theorem hu10 {A : Around} {k : Nat} (hr : Room k A) : A.units + 10 < cLine := Nat.lt_of_le_of_lt (Nat.add_le_add_left (by decide : 10 ≤ 64) _) hr.units
theorem ArePl.updI {H : Hp} {us : List V} {qs : List Pl} {a : Addr} {o o' : HO} (h : ArePl H us qs) (ha : H a = some o) (hn : ∀ xs, HO.tup xs ≠ o) : ArePl (L2.upd H a o') us qs := Paired.mapP h fun _ _ z => z.upd ha hn
/-- its two lists are new -/
def PicNew (CI : Addr) (z : Int) (H H' : Hp) (a : Addr) : Prop := ∀ dx d s h, H' a = some (.ins CI dx (pfs z d s h)) → H s = none ∧ H h = none
section
variable {P : Program} {w : World} {K : PySem.W.Frag} {mg : Str → Option Value} {base : Heap} {cn : Str → Addr} {CI : Addr}
def spCIni (K : PySem.W.Frag) (CI : Addr) : Sp := fun vs H Q _ => ∃ (a dx s h : Addr) (z : Int) (S D : List Pl), vs = [.ref a, .int z, .ref s, .ref h] ∧ Sz z ∧ H a = some (.ins CI dx []) ∧ PlsAt H s S ∧ PlsAt H h D ∧ (∀ q ∈ S ++ D, (q.length : Int) = z) ∧ (S ++ D).Nodup ∧ (S ++ D).length ≤ 1000 ∧
  ∀ H', Keep [a] H H' → Pic CI z H' a S D → PicNew CI z H H' a → Q .non H'
theorem scCIni : FnScope ["self", "size", "seen", "hidden", "words", "word", "places", "place"] ["self", "size", "seen", "hidden"] (defScope sCIni) := ⟨rfl, rfl, rfl, by decide +kernel, rfl, by decide +kernel, by decide +kernel⟩
/-- one turn of the loop over the places -/
theorem pic_turn {H0 H1 : Hp} {d l : Addr} {z : Int} {ks : List Pl} {n i : Nat} {ps : List Pl} {us : List V} {x : V} (hd : H0 d = none) (s1 : Same H0 H1) (hu : us = us) (hl : H1 l = some (.lst us)) (hp : ArePl H1 us ps) (hi : us[i]? = some x) (hz : ∀ q ∈ ps, (q.length : Int) = z)
    (hn : (ks ++ ps).Nodup) {kvs : List (List Key × V)} (g : GotM H1 d (ks ++ ps.take i) (n + i) kvs) :
    ∃ (t : Addr) (q : Pl), x = .ref t ∧ H1 t = some (.tup (q.map V.int)) ∧ (q.length : Int) = z ∧ (valV kvs (inl_ q)).isSome = false ∧ ∀ v : V, Same H0 (L2.upd H1 d (.dT (putK kvs (inl_ q) v))) ∧ GotM (L2.upd H1 d (.dT (putK kvs (inl_ q) v))) d (ks ++ ps.take (i + 1)) (n + (i + 1)) (putK kvs (inl_ q) v) := by
  obtain ⟨q, hq, t, rfl, ht⟩ := paired_get hp hi
  refine ⟨t, q, rfl, ht, hz q (List.mem_of_getElem? hq), ?_, fun v => ⟨s1.updN hd, ?_⟩⟩
  · rw [g.has]
    refine decide_eq_false fun m => ?_
    obtain ⟨n1, n2, n3⟩ := List.nodup_append.mp hn
    rcases List.mem_append.mp m with m | m
    · exact n3 q m q (List.mem_of_getElem? hq) rfl
    · obtain ⟨j, hj⟩ := List.mem_iff_getElem?.mp m
      rw [List.getElem?_take] at hj
      by_cases hji : j < i
      · rw [if_pos hji] at hj
        have h1 := (List.getElem?_eq_some_iff.mp hj)
        have h2 := (List.getElem?_eq_some_iff.mp hq)
        exact (List.pairwise_iff_getElem.mp n2 j i h1.1 h2.1 hji) (h1.2.trans h2.2.symm)
      · rw [if_neg hji] at hj
        cases hj
  · have e : ps.take (i + 1) = ps.take i ++ [q] := by
      rw [List.take_add_one, hq]
      rfl
    rw [e, ← List.append_assoc]
    exact g.step
theorem ok_cini {f : Addr} {fd : FuncData} (F : Fun K "__init__" "Picture.__init__" sCIni f fd) (cf : CFacts K CI cF) (mL : mg "len" = none) (mS : mg "sorted" = none) : FnOk P w K mg base CX0 3 f fd ["self", "size", "seen", "hidden"] (spCIni K CI) := by
  refine F.ok scCIni (fun vs H Q E h => ?_) (fun cdv A outer s H vs Q E hr h => ?_)
  · obtain ⟨a, dx, s, h, z, S, D, rfl, _⟩ := h
    rfl
  · obtain ⟨a, dx, s, h, z, S, D, rfl, hz, ha, hS, hD, hlen, hnd, hfew, hQ⟩ := h
    have hb_sorted : bootBuiltins "sorted" = some (.builtin "sorted") := by decide +kernel
    refine ⟨_, pss_cons (ps_if (pt_cmpR op_notIn_seq (pv 1) (pe_tup (pa_cons pe_int (pa_cons pe_int pa_nil))) (by rfl)) (pss_one ps_never) pss_nil)
      (pss_cons (ps_set (i := 4) scCIni.nd rfl (Or.inl rfl) pe_dnewT)
      (pss_cons (ps_for PassesOwn.never rfl (pi_list (pe_lst (pa_cons (pe_tup (pa_cons pe_str (pa_cons (pv 2) pa_nil))) (pa_cons (pe_tup (pa_cons pe_str (pa_cons (pv 3) pa_nil))) pa_nil)))) (pg_tup rfl (pgs_cons (pg_name (i := 5) scCIni.nd rfl (Or.inl rfl)) (pgs_cons (pg_name (i := 6) scCIni.nd rfl (Or.inl rfl)) pgs_nil)))
        (pss_one (ps_for PassesOwn.never rfl (pi_list (pv 6)) (pg_name (i := 7) scCIni.nd rfl (Or.inl rfl))
          (pss_cons (ps_if (pt_cmpR op_ne (pe_callB call_len_seq (by rfl) mL PySem.boot_len (pa_cons (pv 7) pa_nil)) (pv 1) (nomark _)) (pss_one ps_never) pss_nil)
          (pss_cons (ps_if (pt_cmp (pc_din (hu_of hr) (pv 7) (pv 4)) (by rfl)) (pss_one ps_never) pss_nil)
          (pss_one (ps_dput (hu_of hr) (pv 4) (pv 7) (pv 5) (by rfl))))))))
      (pss_cons (ps_fld (pv 0) (pv 1) (by rfl)) (pss_cons (ps_fld (pv 0) (pv 4) (by rfl)) (pss_cons (ps_fld (pv 0) (pe_callB (call_sorted (hu10 hr)) (by rfl) mS hb_sorted (pa_cons (pv 2) pa_nil)) (by rfl))
      (pss_one (ps_fld (pv 0) (pe_callB (call_sorted (hu10 hr)) (by rfl) mS hb_sorted (pa_cons (pv 3) pa_nil)) (by rfl)))))))), ?_⟩
    refine ⟨_, rfl, line1000 (by show 2 ≤ 1000; decide), fun tt htt => ⟨tt, _, rfl, .inr (SqT.of upd_same), rfl, rfl, _, rfl, ?_⟩⟩
    refine iteN (by rcases hz with rfl | rfl <;> decide +kernel) ?_
    intro d hd
    have sA : Same H (L2.upd (L2.upd H tt (.tup [.int 2, .int 3])) d (.dT [])) := (Same.one htt).upd hd
    refine ⟨_, rfl, line1000 (by show 2 ≤ 1000; decide), fun u1 hu1 => ⟨_, rfl, line1000 (by show 2 ≤ 1000; decide), fun u2 hu2 => ⟨line1000 (by show 2 ≤ 1000; decide), fun lp hlp => ⟨lp, rfl, ⟨_, SqL.of upd_same⟩, ?_⟩⟩⟩⟩
    obtain ⟨Hb, eb⟩ : ∃ Hb, Hb = L2.upd (L2.upd (L2.upd (L2.upd (L2.upd H tt (.tup [.int 2, .int 3])) d (.dT [])) u1 (.tup [.str "seen", .ref s])) u2 (.tup [.str "hidden", .ref h])) lp (.lst [.ref u1, .ref u2]) := ⟨_, rfl⟩
    have sB : Same H Hb := by
      rw [eb]
      exact ((sA.upd hu1).upd hu2).upd hlp
    have bd : Hb d = some (.dT []) := by
      rw [eb]
      have e1 : d ≠ u1 := ne_of_none upd_same hu1
      have e2 : d ≠ u2 := ne_of_none ((upd_ne e1).trans upd_same) hu2
      have e3 : d ≠ lp := ne_of_none ((upd_ne e2).trans ((upd_ne e1).trans upd_same)) hlp
      exact (upd_ne e3).trans ((upd_ne e2).trans ((upd_ne e1).trans upd_same))
    have b1 : Hb u1 = some (.tup [.str "seen", .ref s]) := by
      rw [eb]
      have e2 : u1 ≠ u2 := ne_of_none upd_same hu2
      have e3 : u1 ≠ lp := ne_of_none ((upd_ne e2).trans upd_same) hlp
      exact (upd_ne e3).trans ((upd_ne e2).trans upd_same)
    have b2 : Hb u2 = some (.tup [.str "hidden", .ref h]) := by
      rw [eb]
      exact (upd_ne (ne_of_none upd_same hlp)).trans upd_same
    have bl : Hb lp = some (.lst [.ref u1, .ref u2]) := by
      rw [eb]
      exact upd_same
    have hdn : H d = none := by
      cases e : H d with
      | none => rfl
      | some o =>
        rw [(Same.one htt) _ _ e] at hd
        cases hd
    rw [← eb]
    clear eb
    have kp : ∀ {H' : Hp} {b : Addr} {o : HO}, Keep [d] Hb H' → Hb b = some o → o ≠ .dT [] → H' b = some o := fun {H' b o} k e n => k _ _ (by simpa using ne_of e bd n) e
    refine for_list (K := K) (xs := [.ref u1, .ref u2]) (fun i σ H' => Same H H' ∧ Keep [d] Hb H' ∧ (∃ n kvs, n ≤ ((([S, D] : List (List Pl)).take i).flatten).length ∧ GotM H' d ((([S, D] : List (List Pl)).take i).flatten) n kvs) ∧ ∃ v5 v6 v7 : Option V, σ = [some (.ref a), some (.int z), some (.ref s), some (.ref h), some (.ref d), v5, v6, v7])
      ⟨sB, Keep.refl, ⟨0, [], Nat.zero_le _, ⟨bd, List.nodup_nil, by simp, by simp, Nat.le_refl _⟩⟩, none, none, none, rfl⟩ (fun i σ H' _ h => SqL.of (kp h.2.1 bl (by nofun))) ?_ ?_
    · rintro i x σ H1 hi ⟨s1, k1, ⟨n, kvs, hn, g⟩, v5, v6, v7, rfl⟩
      obtain ⟨wd, l, ps, u, rfl, hu, hps, hk, hnd2, hln, hfw⟩ : ∃ (wd : Str) (l : Addr) (ps : List Pl) (u : Addr), x = .ref u ∧ H1 u = some (.tup [.str wd, .ref l]) ∧ PlsAt H l ps ∧ (([S, D] : List (List Pl)).take (i + 1)).flatten = (([S, D] : List (List Pl)).take i).flatten ++ ps ∧
          ((([S, D] : List (List Pl)).take i).flatten ++ ps).Nodup ∧ (∀ q ∈ ps, (q.length : Int) = z) ∧ ((([S, D] : List (List Pl)).take i).flatten ++ ps).length ≤ 1000 := by
        rcases i with _ | _ | i
        · refine ⟨"seen", s, S, u1, by simpa using hi.symm, kp k1 b1 (by nofun), hS, by simp, by simpa using (List.nodup_append.mp hnd).1, fun q hq => hlen q (List.mem_append_left _ hq), ?_⟩
          rw [List.length_append] at hfew
          simp
          omega
        · refine ⟨"hidden", h, D, u2, by simpa using hi.symm, kp k1 b2 (by nofun), hD, by simp, by simpa using hnd, fun q hq => hlen q (List.mem_append_right _ hq), by simpa using hfew⟩
        · simp at hi
      obtain ⟨us, hus, hup⟩ := hps
      have hul := Paired.length hup
      refine ⟨u, _, rfl, SqT.of hu, rfl, _, _, rfl, _, _, rfl, rfl, ?_⟩
      refine ⟨_, rfl, l, rfl, ⟨_, SqL.of (s1 _ _ hus)⟩, for_list (K := K) (xs := us) (fun j σ H' => Same H H' ∧ Keep [d] Hb H' ∧ (∃ kvs, GotM H' d ((([S, D] : List (List Pl)).take i).flatten ++ ps.take j) (n + j) kvs) ∧ ∃ v7 : Option V, σ = [some (.ref a), some (.int z), some (.ref s), some (.ref h), some (.ref d), some (.str wd), some (.ref l), v7])
        ⟨s1, k1, ⟨kvs, by rw [List.take_zero, List.append_nil]; exact g⟩, _, rfl⟩ (fun j σ H' _ h => SqL.of (h.1 _ _ hus)) ?_ ?_⟩
      · rintro j y σ H2 hj ⟨s2, k2, ⟨kvs2, g2⟩, v7', rfl⟩
        obtain ⟨t, q, rfl, ht, hql, hno, hput⟩ := pic_turn hdn s2 rfl (s2 _ _ hus) (hup.same s2) hj hln hnd2 g2
        have hjl := (List.getElem?_eq_some_iff.mp hj).1
        refine ⟨_, rfl, t, _, rfl, .inr (SqT.of ht), _, rfl, rfl, _, rfl, ?_⟩
        rw [List.length_map]
        refine iteN (by rw [hql]; simp) ?_
        refine ⟨_, rfl, _, rfl, d, _, rfl, DGet.t (k := inl_ q) g2.at_ (by rw [inl_kV]; exact ht), _, rfl, ?_⟩
        refine iteN hno ?_
        obtain ⟨p1, p2⟩ := hput (.str wd)
        refine ⟨_, rfl, _, rfl, _, rfl, d, _, rfl, DPut.t (k := inl_ q) g2.at_ (by rw [inl_kV]; exact ht) ?_, p1, k2.upd (by simp), ⟨_, p2⟩, _, rfl⟩
        have := g2.few
        rw [List.length_append] at hfw
        exact small1000 (by omega)
      · rintro σ H2 ⟨s2, k2, ⟨kvs2, g2⟩, v7', rfl⟩
        rw [hul, List.take_length, ← hk] at g2
        refine ⟨s2, k2, ⟨n + ps.length, kvs2, ?_, g2⟩, _, _, _, rfl⟩
        rw [hk, List.length_append]
        omega
    · rintro σ H1 ⟨s1, k1, ⟨n, kvs, hn, g⟩, v5, v6, v7, rfl⟩
      have g' : GotM H1 d (S ++ D) n kvs := by simpa using g
      obtain ⟨us, hus, hup⟩ := hS
      obtain ⟨ts, hts, htp⟩ := hD
      have a1 := s1 _ _ ha
      have ne_d : d ≠ a := ne_of g'.at_ a1 (by nofun)
      have hz0 : 0 < z.toNat := by rcases hz with rfl | rfl <;> decide
      have lenS : ∀ q ∈ S, q.length = z.toNat := fun q hq => by
        have := hlen q (List.mem_append_left _ hq)
        omega
      have lenD : ∀ q ∈ D, q.length = z.toNat := fun q hq => by
        have := hlen q (List.mem_append_right _ hq)
        omega
      refine ⟨_, rfl, _, rfl, a, CI, dx, [], rfl, a1, cf.cls, cf.na _ (by decide), by decide, ?_⟩
      refine ⟨_, rfl, _, rfl, a, CI, dx, [("dimension", .int z)], rfl, upd_same, cf.cls, cf.na _ (by decide), (by show 1 < 1000; decide), ?_⟩
      rw [upd_upd]
      have kA : ∀ {b : Addr} {o : HO} {fs : List (Str × V)}, H1 b = some o → b ≠ a → L2.upd H1 a (.ins CI dx fs) b = some o := fun e n => (upd_ne n).trans e
      have ns : s ≠ a := ne_of (s1 _ _ hus) a1 (by nofun)
      have nh : h ≠ a := ne_of (s1 _ _ hts) a1 (by nofun)
      refine ⟨_, rfl, s, us, S, z.toNat, rfl, kA (s1 _ _ hus) ns, (hup.same s1).updI a1 (by nofun), lenS, hz0, fun p1 w1 hp1 hw1 => ?_⟩
      have np1 : a ≠ p1 := ne_of_none upd_same hp1
      refine ⟨_, rfl, a, CI, dx, [("dimension", .int z), ("words", .ref d)], rfl, (upd_ne np1).trans upd_same, cf.cls, cf.na _ (by decide), (by show 2 < 1000; decide), ?_⟩
      obtain ⟨H3, e3⟩ : ∃ H3, H3 = L2.upd (L2.upd (L2.upd H1 a (.ins CI dx [("dimension", .int z), ("words", .ref d)])) p1 (.lst w1)) a (.ins CI dx [("dimension", .int z), ("words", .ref d), ("seen_places", .ref p1)]) := ⟨_, rfl⟩
      have np1' : H1 p1 = none := by rwa [upd_ne np1.symm] at hp1
      have k3 : Keep [a] H1 H3 := by
        rw [e3]
        exact Keep.upd (Keep.new (Keep.upd Keep.refl (by simp)) hp1) (by simp)
      have a3 : H3 a = some (.ins CI dx [("dimension", .int z), ("words", .ref d), ("seen_places", .ref p1)]) := by
        rw [e3]
        exact upd_same
      have s3 : H3 p1 = some (.lst w1) := by
        rw [e3]
        exact (upd_ne np1.symm).trans upd_same
      have w3 : ArePl H3 w1 (srt S) := by
        rw [e3]
        exact hw1.updI ((upd_ne np1).trans upd_same) (by nofun)
      rw [show L2.upd (L2.upd (L2.upd H1 a (.ins CI dx (putF "words" (.ref d) [("dimension", .int z)]))) p1 (.lst w1)) a (.ins CI dx (putF "seen_places" (.ref p1) [("dimension", .int z), ("words", .ref d)])) = H3 from e3.symm]
      have kat : ∀ m ∈ [a], ∀ ys, H1 m ≠ some (.tup ys) := fun m hm ys q => by
        rw [List.mem_singleton.mp hm, a1] at q
        cases q
      refine ⟨_, rfl, h, ts, D, z.toNat, rfl, k3 _ _ (by simpa using nh) (s1 _ _ hts), Paired.mapP (htp.same s1) (fun v q z => ?_), lenD, hz0, fun p2 w2 hp2 hw2 => ?_⟩
      · obtain ⟨t, e, ht⟩ := z
        exact ⟨t, e, k3 _ _ (fun m => kat _ m _ ht) ht⟩
      have np2 : a ≠ p2 := ne_of_none a3 hp2
      have np3 : p1 ≠ p2 := ne_of_none s3 hp2
      refine ⟨_, rfl, a, CI, dx, [("dimension", .int z), ("words", .ref d), ("seen_places", .ref p1)], rfl, (upd_ne np2).trans a3, cf.cls, cf.na _ (by decide), (by show 3 < 1000; decide), ?_⟩
      have np2' : (L2.upd H3 p2 (.lst w2)) a = some (.ins CI dx [("dimension", .int z), ("words", .ref d), ("seen_places", .ref p1)]) := (upd_ne np2).trans a3
      have k4 : Keep [a] H1 (L2.upd (L2.upd H3 p2 (.lst w2)) a (.ins CI dx (pfs z d p1 p2))) := Keep.upd (Keep.new k3 hp2) (by simp)
      refine hQ _ ((Keep.of s1).trans k4) ⟨dx, d, p1, p2, n, kvs, upd_same, ⟨k4 _ _ (by simpa using ne_d) g'.at_, g'.nd, g'.key, g'.mem, g'.few⟩, ⟨w1, ?_, ?_⟩, ⟨w2, ?_, ?_⟩⟩ fun dx' d' s' h' e => ?_
      · exact (upd_ne np1.symm).trans ((upd_ne np3).trans s3)
      · exact ArePl.updI (ArePl.same w3 (Same.one hp2)) np2' (by nofun)
      · exact (upd_ne np2.symm).trans upd_same
      · exact hw2.updI np2' (by nofun)
      · rw [upd_same] at e
        have e1 := Option.some.inj e
        injection e1 with _ _ e2
        unfold pfs at e2
        injection e2 with _ e2
        injection e2 with _ e2
        injection e2 with e3 e2
        injection e2 with e4 _
        have q3 : p1 = s' := by
          injection e3 with _ e3
          injection e3
        have q4 : p2 = h' := by
          injection e4 with _ e4
          injection e4
        rw [← q3, ← q4]
        have back : ∀ {b : Addr}, H1 b = none → H b = none := fun {b} hb => by
          cases q : H b with
          | none => rfl
          | some o =>
            rw [s1 _ _ q] at hb
            cases hb
        refine ⟨back np1', back ?_⟩
        cases q : H1 p2 with
        | none => rfl
        | some o =>
          rw [k3 _ _ (by simpa using np2.symm) q] at hp2
          cases hp2
end
end K94
namespace K94
open PySem L2
abbrev sCSize : Stmt := inCls 29 1
abbrev sCSeen : Stmt := inCls 29 2
abbrev sCHid : Stmt := inCls 29 3
abbrev sCCon : Stmt := inCls 29 9
abbrev sCLen : Stmt := inCls 29 10
abbrev sCEq : Stmt := inCls 29 11
abbrev sPoss : Stmt := top 31
abbrev sAsk : Stmt := top 32
abbrev sStat : Stmt := top 34
theorem pass0N {X : Cx} : Passes CX0 X.nox E0 := fun _ _ _ _ _ _ _ h => h.elim
theorem pe_pr {X : Cx} {k : Nat} {C : Addr} {m : Str} {sp : Sp} {e : Expr} {ta : TE} {pos : Pos} (he : PE X e ta) (M : PF X.prog X.w X.K X.mg X.base CX0 k C m ["self"] sp) (hr : Room (k + 1) X.A) (hab : attributeBase e m X.env (eval e X.env) = eval e X.env := by rfl) :
    PE X (.Attribute e m pos) (tProp C sp [] E0 ta) := by
  obtain ⟨p, f, fd, c, hp, F, hb⟩ := M.ex
  exact pe_prop he c hp F hr hb .nil pass0N hab
section
variable {P : Program} {w : World} {K : PySem.W.Frag} {mg : Str → Option Value} {base : Heap} {cn : Str → Addr} {CI : Addr}
def spCSize (CI : Addr) : Sp := fun vs H Q _ => ∃ (a : Addr) (z : Int) (S D : List Pl), vs = [.ref a] ∧ Pic CI z H a S D ∧ Q (.int z) H
theorem scCSize : FnScope ["self"] ["self"] (defScope sCSize) := ⟨rfl, rfl, rfl, by decide +kernel, rfl, by decide +kernel, by decide +kernel⟩
theorem ok_csize {f : Addr} {fd : FuncData} (F : Fun K "size" "Picture.size" sCSize f fd) (cf : CFacts K CI cF) : FnOk P w K mg base CX0 1 f fd ["self"] (spCSize CI) := by
  refine F.ok scCSize (fun vs H Q E h => ?_) (fun cdv A outer s H vs Q E hr h => ?_)
  · obtain ⟨a, z, S, D, rfl, _⟩ := h
    rfl
  · obtain ⟨a, z, S, D, rfl, ⟨dx, d, s1, h1, n, kvs, ha, g, hs, hh⟩, hQ⟩ := h
    exact ⟨_, pss_one (ps_ret (pe_fld (pv 0) (by rfl))), _, rfl, a, CI, dx, _, _, rfl, ha, cf.cls, cf.na _ (by decide), pfs_dim _ _ _ _, hQ⟩
def spCSeen (CI : Addr) : Sp := fun vs H Q _ => ∃ (a : Addr) (z : Int) (S D : List Pl), vs = [.ref a] ∧ Pic CI z H a S D ∧ ∀ H' l, Same H H' → PlsAt H' l (srt S) → Q (.ref l) H'
def spCHid (CI : Addr) : Sp := fun vs H Q _ => ∃ (a : Addr) (z : Int) (S D : List Pl), vs = [.ref a] ∧ Pic CI z H a S D ∧ ∀ H' l, Same H H' → PlsAt H' l (srt D) → Q (.ref l) H'
theorem scCSeen : FnScope ["self"] ["self"] (defScope sCSeen) := ⟨rfl, rfl, rfl, by decide +kernel, rfl, by decide +kernel, by decide +kernel⟩
theorem scCHid : FnScope ["self"] ["self"] (defScope sCHid) := ⟨rfl, rfl, rfl, by decide +kernel, rfl, by decide +kernel, by decide +kernel⟩
theorem ok_cseen {f : Addr} {fd : FuncData} (F : Fun K "seen" "Picture.seen" sCSeen f fd) (cf : CFacts K CI cF) (mL : mg "list" = none) : FnOk P w K mg base CX0 1 f fd ["self"] (spCSeen CI) := by
  refine F.ok scCSeen (fun vs H Q E h => ?_) (fun cdv A outer s H vs Q E hr h => ?_)
  · obtain ⟨a, z, S, D, rfl, _⟩ := h
    rfl
  · obtain ⟨a, z, S, D, rfl, ⟨dx, d, s1, h1, n, kvs, ha, g, ⟨us, hus, hup⟩, hh⟩, hQ⟩ := h
    refine ⟨_, pss_one (ps_ret (pe_callTy call_list_of (by rfl) mL (by decide +kernel) (pa_cons (pe_fld (pv 0) (by rfl)) pa_nil))), _, rfl, a, CI, dx, _, _, rfl, ha, cf.cls, cf.na _ (by decide), pfs_see _ _ _ _, s1, us, rfl, .inl (SqL.of hus), fun l hl => ?_⟩
    exact hQ _ l (Same.one hl) ⟨us, upd_same, hup.same (Same.one hl)⟩
theorem ok_chid {f : Addr} {fd : FuncData} (F : Fun K "hidden" "Picture.hidden" sCHid f fd) (cf : CFacts K CI cF) (mL : mg "list" = none) : FnOk P w K mg base CX0 1 f fd ["self"] (spCHid CI) := by
  refine F.ok scCHid (fun vs H Q E h => ?_) (fun cdv A outer s H vs Q E hr h => ?_)
  · obtain ⟨a, z, S, D, rfl, _⟩ := h
    rfl
  · obtain ⟨a, z, S, D, rfl, ⟨dx, d, s1, h1, n, kvs, ha, g, hs, ⟨us, hus, hup⟩⟩, hQ⟩ := h
    refine ⟨_, pss_one (ps_ret (pe_callTy call_list_of (by rfl) mL (by decide +kernel) (pa_cons (pe_fld (pv 0) (by rfl)) pa_nil))), _, rfl, a, CI, dx, _, _, rfl, ha, cf.cls, cf.na _ (by decide), pfs_hid _ _ _ _, h1, us, rfl, .inl (SqL.of hus), fun l hl => ?_⟩
    exact hQ _ l (Same.one hl) ⟨us, upd_same, hup.same (Same.one hl)⟩
def spCCon (CI : Addr) : Sp := fun vs H Q _ => ∃ (a p : Addr) (z : Int) (S D : List Pl) (q : Pl), vs = [.ref a, .ref p] ∧ Pic CI z H a S D ∧ PlAt H p q ∧ Q (.bl (decide (q ∈ S ++ D))) H
theorem scCCon : FnScope ["self", "place"] ["self", "place"] (defScope sCCon) := ⟨rfl, rfl, rfl, by decide +kernel, rfl, by decide +kernel, by decide +kernel⟩
theorem ok_ccon {f : Addr} {fd : FuncData} (F : Fun K "__contains__" "Picture.__contains__" sCCon f fd) (cf : CFacts K CI cF) : FnOk P w K mg base CX0 1 f fd ["self", "place"] (spCCon CI) := by
  refine F.ok scCCon (fun vs H Q E h => ?_) (fun cdv A outer s H vs Q E hr h => ?_)
  · obtain ⟨a, p, z, S, D, q, rfl, _⟩ := h
    rfl
  · obtain ⟨a, p, z, S, D, q, rfl, ⟨dx, d, s1, h1, n, kvs, ha, g, hs, hh⟩, hp, hQ⟩ := h
    refine ⟨_, pss_one (ps_ret (pe_cmp (pc_din (hu_of hr) (pv 1) (pe_fld (pv 0) (by rfl))) (by rfl))), _, rfl, _, rfl, a, CI, dx, _, _, rfl, ha, cf.cls, cf.na _ (by decide), pfs_wrd _ _ _ _, d, _, rfl, DGet.t (k := inl_ q) g.at_ (by rw [inl_kV]; exact hp), ?_⟩
    rw [g.has]
    exact hQ
def spCLen (CI : Addr) : Sp := fun vs H Q _ => ∃ (a : Addr) (z : Int) (S D : List Pl), vs = [.ref a] ∧ Pic CI z H a S D ∧ Q (.int (cnt (S ++ D) : Nat)) H
theorem scCLen : FnScope ["self"] ["self"] (defScope sCLen) := ⟨rfl, rfl, rfl, by decide +kernel, rfl, by decide +kernel, by decide +kernel⟩
theorem ok_clen {f : Addr} {fd : FuncData} (F : Fun K "__len__" "Picture.__len__" sCLen f fd) (cf : CFacts K CI cF) (mL : mg "len" = none) : FnOk P w K mg base CX0 1 f fd ["self"] (spCLen CI) := by
  refine F.ok scCLen (fun vs H Q E h => ?_) (fun cdv A outer s H vs Q E hr h => ?_)
  · obtain ⟨a, z, S, D, rfl, _⟩ := h
    rfl
  · obtain ⟨a, z, S, D, rfl, ⟨dx, d, s1, h1, n, kvs, ha, g, hs, hh⟩, hQ⟩ := h
    refine ⟨_, pss_one (ps_ret (pe_callB call_len_dT (by rfl) mL PySem.boot_len (pa_cons (pe_fld (pv 0) (by rfl)) pa_nil))), _, rfl, a, CI, dx, _, _, rfl, ha, cf.cls, cf.na _ (by decide), pfs_wrd _ _ _ _, d, kvs, rfl, g.at_, ?_⟩
    rw [g.cnt]
    exact hQ
def spCEq (K : PySem.W.Frag) (CI : Addr) : Sp := fun vs H Q _ => ∃ (a : Addr) (y : V) (ty : Value), vs = [.ref a, y] ∧ TyX K H y ty ∧ PySem.W.kitOne K ty (.ref CI) = some false ∧ Q (.bl false) H
theorem scCEq : FnScope ["self", "other"] ["self", "other"] (defScope sCEq) := ⟨rfl, rfl, rfl, by decide +kernel, rfl, by decide +kernel, by decide +kernel⟩
theorem ok_ceq {f : Addr} {fd : FuncData} (F : Fun K "__eq__" "Picture.__eq__" sCEq f fd) (gI : mg "Picture" = some (.ref CI)) (mI : mg "isinstance" = none) : FnOk P w K mg base CX0 3 f fd ["self", "other"] (spCEq K CI) := by
  refine F.ok scCEq (fun vs H Q E h => ?_) (fun cdv A outer s H vs Q E hr h => ?_)
  · obtain ⟨a, y, ty, rfl, _⟩ := h
    rfl
  · obtain ⟨a, y, ty, rfl, hty, hk, hQ⟩ := h
    refine ⟨_, pss_cons (ps_if (PW.pt (pw_or (pt_not (pt_val (pe_callB call_isi (by rfl) mI boot_isi (pa_cons (pv 1) (pa_cons (pe_glob (v := .ref CI) rfl gI rfl) pa_nil))))) (pw_or1 (pt_cmpR op_ne (pe_fld (pv 0) (by rfl)) (pe_fld (pv 1) (by rfl)) (nomark _))))) (pss_one (ps_ret pe_bl)) pss_nil)
      (pss_one ps_never), ?_⟩
    exact ⟨_, rfl, _, _, _, _, _, rfl, .own CI, hty, hk, _, rfl, iteT hQ⟩
end
end K94
namespace K94
open PySem L2
abbrev sWPic : Stmt := inCls 38 2
abbrev sWAt : Stmt := inCls 38 4
/-- what callers know of pictures -/
structure PicP (P : Program) (w : World) (K : PySem.W.Frag) (mg : Str → Option Value) (base : Heap) (CI : Addr) : Prop where
  size : PF P w K mg base CX0 1 CI "size" ["self"] (spCSize CI)
  seen : PF P w K mg base CX0 1 CI "seen" ["self"] (spCSeen CI)
  hid : PF P w K mg base CX0 1 CI "hidden" ["self"] (spCHid CI)
  con : SF P w K mg base CX0 1 CI "__contains__" ["self", "place"] (spCCon CI)
  len : SF P w K mg base CX0 1 CI "__len__" ["self"] (spCLen CI)
  eq : EqF P w K mg base CX0 3 CI ["self", "other"] (spCEq K CI)
  mak : ∃ (f : Addr) (fd : FuncData), Mk K CI f ∧ FnOk P w K mg base CX0 3 f fd ["self", "size", "seen", "hidden"] (spCIni K CI) ∧ Binds K fd ["self", "size", "seen", "hidden"] []
  glob : mg "Picture" = some (.ref CI)
  ty : TyC K CI
theorem hu65 {A : Around} {k : Nat} (hr : Room (k + 1) A) : A.units + 65 < cLine := by
  have := hr.un
  omega
theorem srt_mem {qs : List Pl} {q : Pl} : q ∈ srt qs ↔ q ∈ qs := (srt_perm qs).mem_iff
theorem srt_len (qs : List Pl) : (srt qs).length = qs.length := (srt_perm qs).length_eq
theorem Small.srt {n : Nat} {qs : List Pl} (h : Small n qs) : Small n (K94.srt qs) := ⟨by rw [srt_len]; exact h.1, fun q hq => h.2 q (srt_mem.mp hq)⟩
theorem Small.mono {n m : Nat} {qs : List Pl} (h : Small n qs) (hn : n ≤ m) : Small m qs := ⟨Nat.le_trans h.1 hn, h.2⟩
theorem lone_bd {z : Int} {qs : List Pl} : ∀ x ∈ lone z qs, 1 < x.1 ∧ x.1 ≤ 100 := fun x hx => ps8_bd x.1 (mem_lone.mp hx).1
/-- the word that status gives -/
def statP (z : Int) (S D : List Pl) (q : Pl) : Str := if q ∈ S then "seen" else if q ∈ S ++ D then "hidden" else if (barOf (lone z (srt S)) q).isSome = true then "hidden" else "open"
section
variable {P : Program} {w : World} {K : PySem.W.Frag} {mg : Str → Option Value} {base : Heap} {cn : Str → Addr} {CI : Addr}
/-! ### check_possible, check_asked, status -/
def spPoss (CI : Addr) : Sp := fun vs H Q _ => ∃ (a : Addr) (z : Int) (S D : List Pl), vs = [.ref a] ∧ Sz z ∧ Pic CI z H a S D ∧ Small 50 S ∧ lbar z (srt S) = none ∧ ∀ H', Same H H' → Q .non H'
theorem scPoss : FnScope ["picture", "prime"] ["picture"] (defScope sPoss) := ⟨rfl, rfl, rfl, by decide +kernel, rfl, by decide +kernel, by decide +kernel⟩
theorem ok_poss {f : Addr} {fd : FuncData} (F : Fun K "check_possible" "check_possible" sPoss f fd) (PP : PicP P w K mg base CI) (GL : GF P w K mg base CX0 5 "least_bar" ["size", "places"] spLbar) : FnOk P w K mg base CX0 7 f fd ["picture"] (spPoss CI) := by
  refine F.ok scPoss (fun vs H Q E h => ?_) (fun cdv A outer s H vs Q E hr h => ?_)
  · obtain ⟨a, z, S, D, rfl, _⟩ := h
    rfl
  · obtain ⟨a, z, S, D, rfl, hz, hp, hs, hb, hQ⟩ := h
    refine ⟨_, pss_cons (ps_set (i := 1) scPoss.nd rfl (Or.inl rfl) (pe_g GL (hr.mono (by decide)) rfl pass0 (pa_cons (pe_pr (pv 0) PP.size (hr.mono (by decide))) (pa_cons (pe_pr (pv 0) PP.seen (hr.mono (by decide))) pa_nil))))
      (pss_one (ps_if (pt_cmpR op_notN (pv 1) pe_non (nomark _)) (pss_one ps_never) pss_nil)), ?_⟩
    obtain ⟨dx, d, s1, h1, n, kvs, ha, hrest⟩ := id hp
    refine ⟨_, rfl, a, dx, _, rfl, ha, a, z, S, D, rfl, hp, _, rfl, a, dx, _, rfl, ha, a, z, S, D, rfl, hp, fun H1 l e1 hl => ?_⟩
    refine ⟨z, l, srt S, rfl, hz, hl, hs.srt, fun H2 e2 => ?_⟩
    rw [hb]
    exact ⟨_, rfl, rfl, _, rfl, iteF (hQ H2 (e1.trans e2))⟩
def spAsk (CI : Addr) : Sp := fun vs H Q _ => ∃ (a p : Addr) (z : Int) (S D : List Pl) (q : Pl), vs = [.ref a, .ref p] ∧ Sz z ∧ Pic CI z H a S D ∧ PlAt H p q ∧ (q.length : Int) = z ∧ Small 50 S ∧ lbar z (srt S) = none ∧ ∀ H', Same H H' → Q .non H'
theorem scAsk : FnScope ["picture", "place"] ["picture", "place"] (defScope sAsk) := ⟨rfl, rfl, rfl, by decide +kernel, rfl, by decide +kernel, by decide +kernel⟩
theorem ok_ask {f : Addr} {fd : FuncData} (F : Fun K "check_asked" "check_asked" sAsk f fd) (mL : mg "len" = none) (PP : PicP P w K mg base CI) (GP : GF P w K mg base CX0 7 "check_possible" ["picture"] (spPoss CI)) : FnOk P w K mg base CX0 9 f fd ["picture", "place"] (spAsk CI) := by
  refine F.ok scAsk (fun vs H Q E h => ?_) (fun cdv A outer s H vs Q E hr h => ?_)
  · obtain ⟨a, p, z, S, D, q, rfl, _⟩ := h
    rfl
  · obtain ⟨a, p, z, S, D, q, rfl, hz, hP, hp, hq, hs, hb, hQ⟩ := h
    refine ⟨_, pss_cons (ps_if (pt_cmpR op_ne (pe_callB call_len_seq (by rfl) mL PySem.boot_len (pa_cons (pv 1) pa_nil)) (pe_pr (pv 0) PP.size (hr.mono (by decide))) (nomark _)) (pss_one ps_never) pss_nil)
      (pss_one (ps_expr (pe_g GP (hr.mono (by decide)) rfl pass0 (pa_cons (pv 0) pa_nil)))), ?_⟩
    obtain ⟨dx, d, s1, h1, n, kvs, ha, hrest⟩ := id hP
    refine ⟨_, rfl, p, _, rfl, .inr (SqT.of hp), _, rfl, a, dx, _, rfl, ha, a, z, S, D, rfl, hP, rfl, _, rfl, ?_⟩
    rw [List.length_map, hq]
    refine iteN (by simp) ?_
    exact ⟨_, rfl, a, z, S, D, rfl, hz, hP, hs, hb, hQ⟩
def spStat (CI : Addr) : Sp := fun vs H Q _ => ∃ (a p : Addr) (z : Int) (S D : List Pl) (q : Pl), vs = [.ref a, .ref p] ∧ Sz z ∧ Pic CI z H a S D ∧ PlAt H p q ∧ (q.length : Int) = z ∧ Small 50 S ∧ lbar z (srt S) = none ∧ ∀ H', Same H H' → Q (.str (statP z S D q)) H'
theorem scStat : FnScope ["picture", "place"] ["picture", "place"] (defScope sStat) := ⟨rfl, rfl, rfl, by decide +kernel, rfl, by decide +kernel, by decide +kernel⟩
theorem ok_stat {f : Addr} {fd : FuncData} (F : Fun K "status" "status" sStat f fd) (PP : PicP P w K mg base CI) (GA : GF P w K mg base CX0 9 "check_asked" ["picture", "place"] (spAsk CI))
    (GL : GF P w K mg base CX0 7 "lone_remainders" ["size", "places"] spLone) (GB : GF P w K mg base CX0 7 "bar_of" ["lone", "place"] spBarOf) : FnOk P w K mg base CX0 11 f fd ["picture", "place"] (spStat CI) := by
  refine F.ok scStat (fun vs H Q E h => ?_) (fun cdv A outer s H vs Q E hr h => ?_)
  · obtain ⟨a, p, z, S, D, q, rfl, _⟩ := h
    rfl
  · obtain ⟨a, p, z, S, D, q, rfl, hz, hP, hp, hq, hs, hb, hQ⟩ := h
    refine ⟨_, pss_cons (ps_expr (pe_g GA (hr.mono (by decide)) rfl pass0 (pa_cons (pv 0) (pa_cons (pv 1) pa_nil))))
      (pss_cons (ps_if (pt_cmpR (op_inD (hu65 hr)) (pv 1) (pe_pr (pv 0) PP.seen (hr.mono (by decide))) (by rfl)) (pss_one (ps_ret pe_str)) pss_nil)
      (pss_cons (ps_if (PW.pt (pw_or (pt_cmpR (op_inO PP.con (hr.mono (by decide)) pass0) (pv 1) (pv 0) (by rfl)) (pw_or1 (pt_cmpR op_notN (pe_g GB (hr.mono (by decide)) rfl pass0 (pa_cons (pe_g GL (hr.mono (by decide)) rfl pass0 (pa_cons (pe_pr (pv 0) PP.size (hr.mono (by decide))) (pa_cons (pe_pr (pv 0) PP.seen (hr.mono (by decide))) pa_nil))) (pa_cons (pv 1) pa_nil))) pe_non (nomark _)))))
        (pss_one (ps_ret pe_str)) pss_nil)
      (pss_one (ps_ret pe_str)))), ?_⟩
    obtain ⟨dx, d, s1, h1, n, kvs, ha, hrest⟩ := id hP
    refine ⟨_, rfl, _, rfl, a, p, z, S, D, q, rfl, hz, hP, hp, hq, hs, hb, fun H1 e1 => ?_⟩
    refine ⟨_, rfl, _, rfl, a, dx, _, rfl, e1 _ _ ha, a, z, S, D, rfl, hP.same e1, fun H2 l e2 hl => ?_⟩
    obtain ⟨us, hus, hup⟩ := id hl
    have eA := e1.trans e2
    refine ⟨plD q, (srt S).map plD, dp_sqt (SqT.of (eA _ _ hp)), ArePl.dp hus hup, plD_sh _, plsD_sh _, _, rfl, ?_⟩
    rw [plsD_any]
    unfold statP at hQ
    by_cases hm : q ∈ S
    · rw [decide_eq_true (srt_mem.mpr hm)]
      rw [if_pos hm] at hQ
      exact iteT (hQ H2 eA)
    · rw [decide_eq_false fun x => hm (srt_mem.mp x)]
      rw [if_neg hm] at hQ
      refine iteF ⟨_, rfl, _, rfl, a, dx, _, rfl, eA _ _ ha, a, p, z, S, D, q, rfl, hP.same eA, eA _ _ hp, _, rfl, _, rfl, ?_⟩
      by_cases hm2 : q ∈ S ++ D
      · rw [if_pos hm2] at hQ
        rw [decide_eq_true hm2]
        exact iteT (iteT (hQ H2 eA))
      · rw [if_neg hm2] at hQ
        rw [decide_eq_false hm2]
        refine iteF ⟨_, rfl, a, dx, _, rfl, eA _ _ ha, a, z, S, D, rfl, hP.same eA, _, rfl, a, dx, _, rfl, eA _ _ ha, a, z, S, D, rfl, hP.same eA, fun H3 l3 e3 hl3 => ?_⟩
        refine ⟨z, l3, srt S, rfl, hz, hl3, hs.srt, fun H4 lf e4 hlf => ?_⟩
        have eB := eA.trans (e3.trans e4)
        have hqs := sz_bd hz hq
        refine ⟨_, rfl, lf, _, _, q, rfl, hlf, ⟨p, rfl, eB _ _ hp⟩, lone_bd, by omega, fun H5 e5 => ?_⟩
        have eC := eB.trans e5
        cases hbo : barOf (lone z (srt S)) q with
        | none =>
          rw [hbo, if_neg (by simp)] at hQ
          exact ⟨rfl, _, rfl, iteF (hQ H5 eC)⟩
        | some pr =>
          rw [hbo, if_pos (show (some pr).isSome = true from rfl)] at hQ
          exact ⟨rfl, _, rfl, iteT (hQ H5 eC)⟩
/-! ### Window.picture, word_at -/
theorem with_nodup {L : List Lk} (h : (L.map Prod.fst).Nodup) : (withW L .seen ++ withW L .hidden).Nodup := by
  have sub : ∀ wd, (withW L wd).Nodup := fun wd => h.sublist ((List.filter_sublist).map Prod.fst)
  refine List.nodup_append.mpr ⟨sub _, sub _, fun p hp q hq e => ?_⟩
  obtain ⟨x, hx, e1, w1⟩ := mem_withW hp
  obtain ⟨y, hy, e2, w2⟩ := mem_withW hq
  obtain ⟨i, hi⟩ := List.mem_iff_getElem?.mp hx
  obtain ⟨j, hj⟩ := List.mem_iff_getElem?.mp hy
  have gi := List.getElem?_eq_some_iff.mp hi
  have gj := List.getElem?_eq_some_iff.mp hj
  have li : i < (L.map Prod.fst).length := by rw [List.length_map]; exact gi.1
  have lj : j < (L.map Prod.fst).length := by rw [List.length_map]; exact gj.1
  have ei : (L.map Prod.fst)[i] = (L.map Prod.fst)[j] := by
    rw [List.getElem_map, List.getElem_map, gi.2, gj.2, e1, e2, e]
  have ij : i = j := by
    rcases Nat.lt_trichotomy i j with q | q | q
    · exact absurd ei (List.pairwise_iff_getElem.mp h i j li lj q)
    · exact q
    · exact absurd ei.symm (List.pairwise_iff_getElem.mp h j i lj li q)
  subst ij
  rw [hi] at hj
  have : x = y := Option.some.inj hj
  rw [this, w2] at w1
  cases w1
def spPicture (CI C : Addr) (sh : Option Pl) : Sp := fun vs H Q _ => ∃ (a t : Addr) (z : Int) (L : List Lk), vs = [.ref a] ∧ Sz z ∧ Win C sh z H a t L ∧ Good z L ∧ (L.map Prod.fst).Nodup ∧ ∀ H' p, Same H H' → Pic CI z H' p (withW L .seen) (withW L .hidden) → PicNew CI z H H' p → H p = none → Q (.ref p) H'
theorem scWPic : FnScope ["self"] ["self"] (defScope sWPic) := ⟨rfl, rfl, rfl, by decide +kernel, rfl, by decide +kernel, by decide +kernel⟩
theorem Good.with_len {z : Int} {L : List Lk} (g : Good z L) (wd : Wd) : ∀ q ∈ withW L wd, (q.length : Int) = z := fun q hq => by
  obtain ⟨x, hx, rfl, _⟩ := mem_withW hq
  exact g.len x hx
theorem ok_wpic {f : Addr} {fd : FuncData} {C : Addr} (F : Fun K "picture" "Window.picture" sWPic f fd) (cf : CFacts K C wF) (PP : PicP P w K mg base CI) (GW : GF P w K mg base CX0 3 "places_with" ["looks", "word"] spWith) (sh : Option Pl) : FnOk P w K mg base CX0 6 f fd ["self"] (spPicture CI C sh) := by
  refine F.ok scWPic (fun vs H Q E h => ?_) (fun cdv A outer s H vs Q E hr h => ?_)
  · obtain ⟨a, t, z, L, rfl, _⟩ := h
    rfl
  · obtain ⟨a, t, z, L, rfl, hz, hW, hg, hnd, hQ⟩ := h
    obtain ⟨fI, fdI, M, FI, bI⟩ := PP.mak
    obtain ⟨⟨dx, ot, ha, ho⟩, ⟨xs, hxs, hL⟩⟩ := hW
    have gn := hg.few
    refine ⟨_, pss_one (ps_ret (pe_make M FI (hr.mono (by decide)) rfl PP.glob bI .nil pass0 (pa_cons (pe_fld (pv 0) (by rfl)) (pa_cons (pe_g GW (hr.mono (by decide)) rfl pass0 (pa_cons (pe_fld (pv 0) (by rfl)) (pa_cons pe_str pa_nil))) (pa_cons (pe_g GW (hr.mono (by decide)) rfl pass0 (pa_cons (pe_fld (pv 0) (by rfl)) (pa_cons pe_str pa_nil))) pa_nil))))), ?_⟩
    refine ⟨_, rfl, a, C, dx, _, _, rfl, ha, cf.cls, cf.na _ (by decide), wfs_ext _ _ _, _, rfl, a, C, dx, _, _, rfl, ha, cf.cls, cf.na _ (by decide), wfs_tak _ _ _, t, L, .seen, rfl, ⟨xs, hxs, hL⟩, by omega, fun H1 l1 e1 h1 => ?_⟩
    refine ⟨_, rfl, a, C, dx, _, _, rfl, e1 _ _ ha, cf.cls, cf.na _ (by decide), wfs_tak _ _ _, t, L, .hidden, rfl, ⟨xs, e1 _ _ hxs, hL.same e1⟩, by omega, fun H2 l2 e2 h2 => ?_⟩
    intro x dx' hx hdx hne
    have n1 : ∀ {b : Addr} {o : HO}, H2 b = some o → (L2.upd (L2.upd H2 dx' (.own x)) x (.ins CI dx' [])) b = some o := fun {b o} e => (upd_ne (ne_of_none e hx)).trans ((upd_ne (ne_of_none e hdx)).trans e)
    have sN : Same H2 (L2.upd (L2.upd H2 dx' (.own x)) x (.ins CI dx' [])) := fun b o e => n1 e
    refine ⟨x, dx', l1, l2, z, withW L .seen, withW L .hidden, rfl, hz, upd_same, h1.same (e2.trans sN), h2.same sN, fun q hq => ?_, with_nodup hnd, ?_, fun H3 k3 hP hPn => ⟨rfl, ?_⟩⟩
    · rcases List.mem_append.mp hq with hq | hq <;> exact hg.with_len _ q hq
    · rw [List.length_append]
      have q1 := withW_len L .seen
      have q2 := withW_len L .hidden
      omega
    · have back : ∀ {b : Addr}, H2 b = none → H b = none := fun {b} hb => by
        cases q : H b with
        | none => rfl
        | some o =>
          rw [e2 _ _ (e1 _ _ q)] at hb
          cases hb
      have back2 : ∀ {b : Addr}, (L2.upd (L2.upd H2 dx' (.own x)) x (.ins CI dx' [])) b = none → H2 b = none := fun {b} hb => by
        cases q : H2 b with
        | none => rfl
        | some o =>
          rw [n1 q] at hb
          cases hb
      refine hQ H3 x (fun b o e => ?_) hP (fun dx2 d2 s2 h2 e => ?_) (back hx)
      · have e3 := e2 _ _ (e1 _ _ e)
        exact k3 _ _ (by simpa using ne_of_none e3 hx) (n1 e3)
      · obtain ⟨q1, q2⟩ := hPn dx2 d2 s2 h2 e
        exact ⟨back (back2 q1), back (back2 q2)⟩
def spWAt (C : Addr) (sh : Option Pl) : Sp := fun vs H Q _ => ∃ (a t p : Addr) (z : Int) (L : List Lk) (q : Pl), vs = [.ref a, .ref p] ∧ Sz z ∧ Win C sh z H a t L ∧ Good z L ∧ (L.map Prod.fst).Nodup ∧ PlAt H p q ∧ (q.length : Int) = z ∧ wbar z (withW L .seen) = none ∧
  ∀ H', Same H H' → Q (.str (statP z (withW L .seen) (withW L .hidden) q)) H'
theorem scWAt : FnScope ["self", "place"] ["self", "place"] (defScope sWAt) := ⟨rfl, rfl, rfl, by decide +kernel, rfl, by decide +kernel, by decide +kernel⟩
theorem cnt_congr {α : Type} [DecidableEq α] {l m : List α} (h : ∀ x, x ∈ l ↔ x ∈ m) : cnt l = cnt m := cnt_of (uniq_nodup l) fun x => mem_uniq.trans (h x)
theorem wbar_congr {z : Int} {qs rs : List Pl} (h : ∀ q, q ∈ qs ↔ q ∈ rs) : wbar z qs = wbar z rs := by
  have e : ∀ p, cnt (qs.map (rmd p)) = cnt (rs.map (rmd p)) := fun p => cnt_congr fun k => by
    simp only [List.mem_map, h]
  unfold wbar
  have : ∀ l : List Int, wbarL z qs l = wbarL z rs l := fun l => by
    induction l with
    | nil => rfl
    | cons p l ih => simp only [wbarL, e p, ih]
  exact this ps3
theorem ok_wat {f : Addr} {fd : FuncData} {C : Addr} (F : Fun K "word_at" "Window.word_at" sWAt f fd) (sh : Option Pl) (cl : Cls K C) (MP : PF P w K mg base CX0 6 C "picture" ["self"] (spPicture CI C sh)) (GS : GF P w K mg base CX0 11 "status" ["picture", "place"] (spStat CI)) : FnOk P w K mg base CX0 13 f fd ["self", "place"] (spWAt C sh) := by
  refine F.ok scWAt (fun vs H Q E h => ?_) (fun cdv A outer s H vs Q E hr h => ?_)
  · obtain ⟨a, t, p, z, L, q, rfl, _⟩ := h
    rfl
  · obtain ⟨a, t, p, z, L, q, rfl, hz, hW, hg, hnd, hp, hq, hb, hQ⟩ := h
    obtain ⟨⟨dx, ot, ha, ho⟩, hlk⟩ := id hW
    refine ⟨_, pss_one (ps_ret (pe_g GS (hr.mono (by decide)) rfl pass0 (pa_cons (pe_pr (pv 0) MP (hr.mono (by decide))) (pa_cons (pv 1) pa_nil)))), ?_⟩
    refine ⟨_, rfl, a, dx, _, rfl, ha, a, t, z, L, rfl, hz, hW, hg, hnd, fun H1 c e1 hP _ _ => ⟨_, rfl, c, p, z, _, _, q, rfl, hz, hP, e1 _ _ hp, hq, (hg.small hz .seen).mono (by decide), ?_, fun H2 e2 => hQ H2 (e1.trans e2)⟩⟩
    rw [lbar_wbar hz (by rw [srt_len]; have := (hg.small hz .seen).1; omega), wbar_congr (fun q => srt_mem)]
    exact hb
end
end K94
namespace K94
open PySem L2
abbrev sKinds : Stmt := top 44
abbrev sLStat : Stmt := top 46
abbrev sDue : Stmt := top 48
/-! ### the sums of two tuples, item by item -/
theorem lcZ {K : PySem.W.Frag} {a b : Addr} {q s : Pl} {i j : Nat} {vs : List Nat} {σ : L2.St} {H1 : Hp} {D : Addr} {Qd : Hp → Prop} (hD : H1 D = none) (ha : PlAt H1 a q) (hb : PlAt H1 b s) (hl : q.length = s.length) (hn : q.length ≤ 1000)
    (hw : ∀ u v, wipe (((wipe σ vs).set i (some u)).set j (some v)) vs = wipe σ vs) (hi : ∀ u v, (((wipe σ vs).set i (some u)).set j (some v))[i]? = some (some u)) (hj : ∀ u v, (((wipe σ vs).set i (some u)).set j (some v))[j]? = some (some v))
    (hd : ∀ H', Same H1 H' → H' D = some (.lst ((plusL q s).map V.int)) → Qd H') :
    ∃ W : Nat → Nat → Hp → Prop, (∃ m, W 0 m (L2.upd H1 D (.lst []))) ∧ ∀ n m H, W n m H →
      ((RZ.ItzT K a b).stop n H ∧ Qd H) ∨ ((RZ.ItzT K a b).go n H ∧ ∃ Nx : Hp → Prop, (∀ H', Nx H' → ∃ m', m' < m ∧ W (n + 1) m' H') ∧ ∀ x H', (RZ.ItzT K a b).yld n H x H' → gTup K 2 (gCons (gName i) (gCons (gName j) gNil)) x (wipe σ vs) H' fun σ2 H2 => wipe σ2 vs = wipe σ vs ∧ tYes σ2 H2 fun c H3 =>
        if c = true then tOp (rI0 fun i j => .int (i + j)) (tVar i) (tVar j) σ2 H3 fun y H4 => ∃ acc, H4 D = some (.lst acc) ∧ acc.length < sizeLine ∧ Nx (L2.upd H4 D (.lst (acc ++ [y]))) else Nx H3) := by
  refine ⟨fun n m H => m = q.length - n ∧ n ≤ q.length ∧ Same H1 H ∧ H D = some (.lst (((plusL q s).take n).map V.int)), ⟨q.length, by simp, Nat.zero_le _, Same.one hD, upd_same⟩, ?_⟩
  rintro n m H ⟨rfl, hle, s1, hDn⟩
  have qa : SqT K H a (q.map V.int) := SqT.of (s1 _ _ ha)
  have qb : SqT K H b (s.map V.int) := SqT.of (s1 _ _ hb)
  by_cases hlt : n < q.length
  · have hlt2 : n < s.length := by omega
    have e1 : (q.map V.int)[n]? = some (V.int q[n]) := by rw [List.getElem?_map, List.getElem?_eq_getElem hlt]; rfl
    have e2 : (s.map V.int)[n]? = some (V.int s[n]) := by rw [List.getElem?_map, List.getElem?_eq_getElem hlt2]; rfl
    refine .inr ⟨⟨_, _, _, _, qa, qb, e1, e2⟩, fun H' => Same H1 H' ∧ H' D = some (.lst (((plusL q s).take (n + 1)).map V.int)), fun H' h => ⟨q.length - (n + 1), by omega, rfl, hlt, h.1, h.2⟩, fun x H' y => ?_⟩
    obtain ⟨T, u, v, rfl, hT, rfl, y1, y2⟩ := y
    have eu : u = V.int q[n] := Option.some.inj ((y1 _ qa).symm.trans e1)
    have ev : v = V.int s[n] := Option.some.inj ((y2 _ qb).symm.trans e2)
    subst eu ev
    refine ⟨T, _, rfl, SqT.of upd_same, rfl, _, _, rfl, _, _, rfl, rfl, hw _ _, _, hi _ _, _, hj _ _, _, _, rfl, rfl, _, (upd_ne (ne_of_none hDn hT)).trans hDn, ?_, ?_, ?_⟩
    · rw [List.length_map]
      have := List.length_take_le' n (plusL q s)
      have e : (plusL q s).length ≤ q.length := by
        unfold plusL
        rw [List.length_zipWith]
        exact Nat.min_le_left _ _
      exact small1000 (by omega)
    · exact (s1.upd hT).updN hD
    · rw [upd_same, List.take_add_one]
      have e3 : (plusL q s)[n]? = some (q[n] + s[n]) := by
        unfold plusL
        rw [List.getElem?_zipWith, List.getElem?_eq_getElem hlt, List.getElem?_eq_getElem hlt2]
      rw [e3, List.map_append]
      rfl
  · have e : n = q.length := by omega
    subst e
    refine .inl ⟨⟨_, _, qa, qb, .inl (by rw [List.length_map]; exact Nat.le_refl _)⟩, hd H s1 ?_⟩
    rw [hDn, List.take_of_length_le]
    unfold plusL
    rw [List.length_zipWith]
    exact Nat.min_le_left _ _
/-! ### _law_status -/
def lawStat (z : Int) (L : List Lk) (q : Pl) : Str := match L.find? (fun x => decide (x.1 = q)) with
  | some x => x.2.s
  | none => if (wbar z (withW L .seen ++ [q])).isSome = true then "hidden" else "open"
theorem lawStat_cons {z : Int} {L0 : List Lk} {q : Pl} {x : Lk} {L : List Lk} : (match (x :: L).find? (fun x => decide (x.1 = q)) with
    | some x => x.2.s
    | none => if (wbar z (withW L0 .seen ++ [q])).isSome = true then "hidden" else "open") = if x.1 = q then x.2.s else (match L.find? (fun x => decide (x.1 = q)) with
    | some x => x.2.s
    | none => if (wbar z (withW L0 .seen ++ [q])).isSome = true then "hidden" else ("open" : Str)) := by
  rw [List.find?_cons]
  by_cases h : x.1 = q
  · rw [decide_eq_true h, if_pos h]
  · rw [decide_eq_false h, if_neg h]
section
variable {P : Program} {w : World} {K : PySem.W.Frag} {mg : Str → Option Value} {base : Heap} {cn : Str → Addr}
def spLStat : Sp := fun vs H Q _ => ∃ (l p : Addr) (z : Int) (L : List Lk) (q : Pl), vs = [.ref l, .ref p, .int z] ∧ Sz z ∧ LksAt H l L ∧ Good z L ∧ PlAt H p q ∧ (q.length : Int) = z ∧ ∀ H', Same H H' → Q (.str (lawStat z L q)) H'
abbrev nLStat : List Str := ["_law_looks_here", "_law_place", "_law_size", "_law_other", "_law_word", "_law_seen"]
theorem scLStat : FnScope nLStat ["_law_looks_here", "_law_place", "_law_size"] (defScope sLStat) := ⟨rfl, rfl, rfl, by decide +kernel, rfl, by decide +kernel, by decide +kernel⟩
theorem seen_test {wd : Wd} {x : Wd} : decide (V.str wd.s = V.str x.s) = decide (wd = x) := by rw [dec_str, Wd.beq]
theorem ok_lstat {f : Addr} {fd : FuncData} (F : Fun K "_law_status" "_law_status" sLStat f fd) (GB : GF P w K mg base CX0 5 "_law_bar" ["_law_places", "_law_size"] spLawBar) : FnOk P w K mg base CX0 7 f fd ["_law_looks_here", "_law_place", "_law_size"] spLStat := by
  refine F.ok scLStat (fun vs H Q E h => ?_) (fun cdv A outer s H vs Q E hr h => ?_)
  · obtain ⟨l, p, z, L, q, rfl, _⟩ := h
    rfl
  · obtain ⟨l, p, z, L, q, rfl, hz, ⟨xs, hxs, hL⟩, hg, hp, hq, hQ⟩ := h
    refine ⟨_, pss_cons (ps_for PassesOwn.never rfl (pi_list (pv 0)) (pg_tup rfl (pgs_cons (pg_name (i := 3) scLStat.nd rfl (Or.inl rfl)) (pgs_cons (pg_name (i := 4) scLStat.nd rfl (Or.inl rfl)) pgs_nil)))
        (pss_one (ps_if (pt_cmpR (op_eqD hr.units) (pv 3) (pv 1) (nomark _)) (pss_one (ps_ret (pv 4))) pss_nil)))
      (pss_cons (ps_setLc (i := 5) (own := [("_law_other", 3), ("_law_word", 4)]) (g := gTup K 2 (gCons (gName 3) (gCons (gName 4) gNil))) (tt := tTest (tOp rEq (tVar 4) (tC (.str "seen")))) (te := tVar 3) rfl scLStat.nd rfl rfl (by rfl) (pi_list (pv 0))
        (blkOk_by (N := nLStat) (sc := defScope sLStat) (by decide +kernel)) (fun _ _ _ _ _ => pg_tup rfl (pgs_cons (pg_name (i := 3) scLStat.nd rfl (Or.inl rfl)) (pgs_cons (pg_name (i := 4) scLStat.nd rfl (Or.inl rfl)) pgs_nil)))
        (fun _ _ _ _ _ => pts_one (pt_cmpR op_eq (pv 4) pe_str (nomark _))) (fun _ _ _ _ _ => pv 3))
      (pss_cons (ps_if (pt_cmpR op_notN (pe_g GB (hr.mono (by decide)) rfl pass0 (pa_cons (pe_op op_cat (pv 5) (pe_lst (pa_cons (pv 1) pa_nil))) (pa_cons (pv 2) pa_nil))) pe_non (nomark _)) (pss_one (ps_ret pe_str)) pss_nil)
      (pss_one (ps_ret pe_str)))), ?_⟩
    have hlen := Paired.length hL
    have gn := hg.few
    have hqs := sz_bd hz hq
    refine ⟨_, rfl, l, rfl, ⟨_, SqL.of hxs⟩, for_list (K := K) (xs := xs) (fun i σ H' => Same H H' ∧ (match (L.drop i).find? (fun x => decide (x.1 = q)) with
        | some x => x.2.s
        | none => if (wbar z (withW L .seen ++ [q])).isSome = true then "hidden" else ("open" : Str)) = lawStat z L q ∧ ∃ v3 v4 : Option V, σ = [some (.ref l), some (.ref p), some (.int z), v3, v4, none]) ⟨Same.refl H, rfl, none, none, rfl⟩ (fun i σ H' _ h => SqL.of (h.1 _ _ hxs)) ?_ ?_⟩
    · rintro i x σ H1 hi ⟨s1, hd, v3, v4, rfl⟩
      obtain ⟨y, hy, t, u, rfl, h1, h2⟩ := paired_get hL hi
      have hdrop : L.drop i = y :: L.drop (i + 1) := by
        rw [List.drop_eq_getElem_cons (List.getElem?_eq_some_iff.mp hy).1, (List.getElem?_eq_some_iff.mp hy).2]
      rw [hdrop, lawStat_cons] at hd
      refine ⟨t, _, rfl, SqT.of (s1 _ _ h1), rfl, _, _, rfl, _, _, rfl, rfl, ?_⟩
      refine ⟨_, rfl, _, rfl, plD y.1, plD q, dp_sqt (SqT.of (s1 _ _ h2)), dp_sqt (SqT.of (s1 _ _ hp)), plD_sh _, plD_sh _, _, rfl, ?_⟩
      rw [plD_eqv]
      by_cases he : y.1 = q
      · rw [decide_eq_true he]
        rw [if_pos he] at hd
        have := hQ H1 s1
        rw [← hd] at this
        exact iteT ⟨_, rfl, this⟩
      · rw [decide_eq_false he]
        rw [if_neg he] at hd
        exact iteF ⟨s1, hd, _, _, rfl⟩
    · rintro σ H1 ⟨s1, hd, v3, v4, rfl⟩
      rw [hlen, List.drop_length] at hd
      dsimp only [List.find?_nil] at hd
      refine ⟨_, rfl, l, rfl, ⟨_, SqL.of (s1 _ _ hxs)⟩, fun D hD => lcF (keep := fun w => decide (w = .seen)) hD (s1 _ _ hxs) (hL.same s1) (by omega) (fun _ _ => rfl) (fun _ _ => rfl) (fun u wd H' Q' hq' => ?_) fun H2 ws s2 hws hwp => ?_⟩
      · refine ⟨_, rfl, rfl, _, rfl, ?_⟩
        rw [show decide (V.str wd.s = V.str "seen") = decide (wd = .seen) from seen_test (x := .seen)]
        exact hq'
      · have eA := s1.trans s2
        refine ⟨_, rfl, _, rfl, line1000 (by show 1 ≤ 1000; decide), fun b hb => ⟨D, b, ws, _, rfl, rfl, (upd_ne (ne_of_none hws hb)).trans hws, upd_same, ?_, fun c hc => ?_⟩⟩
        · have h1 := Paired.length hwp
          have h2 := withW_len L .seen
          have h3 : ([V.ref p] : List V).length = 1 := rfl
          have h4 : 1000 ≤ sizeLine := line1000 (Nat.le_refl _)
          rw [fstIf_with] at h1
          omega
        · have s3 : Same H2 (L2.upd (L2.upd H2 b (.lst [.ref p])) c (.lst (ws ++ [.ref p]))) := Same.upd (Same.one hb) hc
          have sm := hg.small hz .seen
          refine ⟨_, rfl, z, c, withW L .seen ++ [q], rfl, hz, ⟨_, upd_same, paired_app (hwp.same s3) (.cons ⟨p, rfl, s3 _ _ (eA _ _ hp)⟩ .nil)⟩, ⟨?_, fun x hx => ?_⟩, fun H3 s4 => ?_⟩
          · rw [List.length_append]
            have := sm.1
            show _ + 1 ≤ 50
            omega
          · rcases List.mem_append.mp hx with hx | hx
            · exact sm.2 x hx
            · rw [List.mem_singleton.mp hx]
              omega
          · have := hQ H3 (eA.trans (s3.trans s4))
            rw [← hd] at this
            cases hb2 : wbar z (withW L .seen ++ [q]) with
            | none =>
              rw [hb2, if_neg (show ¬ ((none : Option Int).isSome = true) from fun q => nomatch q)] at this
              exact ⟨rfl, _, rfl, iteF this⟩
            | some pr =>
              rw [hb2, if_pos (show (some pr).isSome = true from rfl)] at this
              exact ⟨rfl, _, rfl, iteT this⟩
end
end K94
namespace K94
open PySem L2
def Er.w : Er → Str
  | .place _ => "place"
  | .word _ => "word"
  | .taken _ => "taken"
  | .wrong _ => "wrong"
  | .barred _ => "barred"
  | .none_ => "none"
/-- an answer as the law tells it: nothing, or the kind and the value -/
def DueR (H : Hp) (r : Option Er) (x : V) : Prop := match r with
  | none => x = .non
  | some e => ∃ u v, x = .ref u ∧ H u = some (.tup [.str e.w, v]) ∧ e.val H v
theorem DueR.same {H H' : Hp} {r : Option Er} {x : V} (h : DueR H r x) (s : Same H H') : DueR H' r x := by
  cases r with
  | none => exact h
  | some e =>
    obtain ⟨u, v, h1, h2, h3⟩ := h
    exact ⟨u, v, h1, s _ _ h2, Er.val_same h3 s⟩
def ShV (H : Hp) (sh : Option Pl) (x : V) : Prop := match sh with
  | none => x = .non
  | some s => ∃ o, x = .ref o ∧ PlAt H o s
theorem ShV.same {H H' : Hp} {sh : Option Pl} {x : V} (h : ShV H sh x) (s : Same H H') : ShV H' sh x := by
  cases sh with
  | none => exact h
  | some q =>
    obtain ⟨o, h1, h2⟩ := h
    exact ⟨o, h1, s _ _ h2⟩
section
variable {P : Program} {w : World} {K : PySem.W.Frag} {mg : Str → Option Value} {base : Heap} {cn : Str → Addr}
def spDue : Sp := fun vs H Q _ => ∃ (l p : Addr) (x : V) (z : Int) (sh : Option Pl) (L : List Lk) (q : Pl) (wd : Wd), vs = [.ref l, x, .ref p, .str wd.s, .int z] ∧ Sz z ∧ LksAt H l L ∧ Good z L ∧ ShV H sh x ∧ (∀ s, sh = some s → (s.length : Int) = z) ∧ PlAt H p q ∧
  ∀ H' y, Same H H' → DueR H' (due sh z L q wd) y → Q y H'
abbrev nDue : List Str := ["_law_looks_here", "_law_shift", "_law_place", "_law_word", "_law_size", "_law_seen", "_law_prime", "_law_other", "_law_told_here", "_law_a", "_law_b"]
theorem scDue : FnScope nDue ["_law_looks_here", "_law_shift", "_law_place", "_law_word", "_law_size"] (defScope sDue) := ⟨rfl, rfl, rfl, by decide +kernel, rfl, by decide +kernel, by decide +kernel⟩
theorem word_test {σ : L2.St} {H : Hp} {Q : Bool → Hp → Prop} {wd : Wd} {i : Nat} (hi : σ[i]? = some (some (V.str wd.s))) (hw : wd ≠ .none_) (h : Q false H) : tAnd (tTest (tOp rNe (tVar i) (tC (.str "seen")))) (tTest (tOp rNe (tVar i) (tC (.str "hidden")))) σ H Q := by
  refine ⟨_, hi, rfl, _, rfl, ?_⟩
  cases wd with
  | seen => exact iteN (by decide +kernel) h
  | hidden => exact iteP (by decide +kernel) ⟨_, hi, rfl, false, by decide +kernel, h⟩
  | none_ => exact absurd rfl hw
theorem plsD_anyF (L : List Lk) (q : Pl) : ((L.map Prod.fst).map plD).any (fun z => PyData.eqv z (plD q)) = decide (q ∈ L.map Prod.fst) := plsD_any _ _
theorem ok_due {f : Addr} {fd : FuncData} (F : Fun K "_law_due" "_law_due" sDue f fd) (mL : mg "len" = none) (mZ : mg "zip" = none) (GB : GF P w K mg base CX0 5 "_law_bar" ["_law_places", "_law_size"] spLawBar) (GG : GF P w K mg base CX0 3 "_law_gcd" ["_law_values"] (spLgcd K)) :
    FnOk P w K mg base CX0 7 f fd ["_law_looks_here", "_law_shift", "_law_place", "_law_word", "_law_size"] spDue := by
  refine F.ok scDue (fun vs H Q E h => ?_) (fun cdv A outer s H vs Q E hr h => ?_)
  · obtain ⟨l, p, x, z, sh, L, q, wd, rfl, _⟩ := h
    rfl
  · obtain ⟨l, p, x, z, sh, L, q, wd, rfl, hz, ⟨xs, hxs, hL⟩, hg, hsv, hsl, hp, hQ⟩ := h
    refine ⟨_, pss_cons (ps_if (pt_cmpR op_ne (pe_callB call_len_seq (by rfl) mL PySem.boot_len (pa_cons (pv 2) pa_nil)) (pv 4) (nomark _)) (pss_one (ps_ret (pe_tup (pa_cons pe_str (pa_cons (pv 2) pa_nil))))) pss_nil)
      (pss_cons (ps_if (PW.pt (pw_and (pt_cmpR op_ne (pv 3) pe_str (nomark _)) (pw_and1 (pt_cmpR op_ne (pv 3) pe_str (nomark _))))) (pss_one (ps_ret (pe_tup (pa_cons pe_str (pa_cons (pv 3) pa_nil))))) pss_nil)
      (pss_cons (ps_if (pt_cmpR (op_inD (hu65 hr)) (pv 2) (pe_lc (own := [("_law_other", 7), ("_law_told_here", 8)]) (g := gTup K 2 (gCons (gName 7) (gCons (gName 8) gNil))) (tt := tYes) (te := tVar 7) rfl scDue.nd (pi_list (pv 0)) (blkOk_by (N := nDue) (sc := defScope sDue) (by decide +kernel))
          (fun _ _ _ _ _ => pg_tup rfl (pgs_cons (pg_name (i := 7) scDue.nd rfl (Or.inl rfl)) (pgs_cons (pg_name (i := 8) scDue.nd rfl (Or.inl rfl)) pgs_nil))) (fun _ _ _ _ _ => pts_nil) (fun _ _ _ _ _ => pv 7)) (by with_unfolding_all rfl))
        (pss_one (ps_ret (pe_tup (pa_cons pe_str (pa_cons (pv 2) pa_nil))))) pss_nil)
      (pss_cons (ps_if (pt_cmpR op_notN (pv 1) pe_non (nomark _))
        (pss_cons (ps_set (i := 5) scDue.nd rfl (Or.inl rfl) (pe_cmpR op_eq (pe_g GG (hr.mono (by decide)) rfl pass0 (pa_cons
            (pe_lc (own := [("_law_a", 9), ("_law_b", 10)]) (g := gTup K 2 (gCons (gName 9) (gCons (gName 10) gNil))) (tt := tYes) (te := tOp (rI0 fun i j => .int (i + j)) (tVar 9) (tVar 10)) rfl scDue.nd (RZ.pi_zipA (by rfl) mZ (pa_cons (pv 2) (pa_cons (pv 1) pa_nil))) (blkOk_by (N := nDue) (sc := defScope sDue) (by decide +kernel))
              (fun _ _ _ _ _ => pg_tup rfl (pgs_cons (pg_name (i := 9) scDue.nd rfl (Or.inl rfl)) (pgs_cons (pg_name (i := 10) scDue.nd rfl (Or.inl rfl)) pgs_nil))) (fun _ _ _ _ _ => pts_nil) (fun _ _ _ _ _ => pe_op op_add (pv 9) (pv 10))) pa_nil)) pe_int (nomark _)))
        (pss_one (ps_ret (pe_ifExp (pt_cmpR op_eq (pv 5) (pe_cmpR op_eq (pv 3) pe_str (nomark _)) (nomark _)) pe_non (pe_tup (pa_cons pe_str (pa_cons (pv 2) pa_nil))))))) pss_nil)
      (pss_cons (ps_set (i := 6) scDue.nd rfl (Or.inl rfl) (pe_g GB (hr.mono (by decide)) rfl pass0 (pa_cons (pe_op op_cat
          (pe_lc (own := [("_law_other", 7), ("_law_told_here", 8)]) (g := gTup K 2 (gCons (gName 7) (gCons (gName 8) gNil))) (tt := tTest (tOp rEq (tVar 8) (tC (.str "seen")))) (te := tVar 7) rfl scDue.nd (pi_list (pv 0)) (blkOk_by (N := nDue) (sc := defScope sDue) (by decide +kernel))
            (fun _ _ _ _ _ => pg_tup rfl (pgs_cons (pg_name (i := 7) scDue.nd rfl (Or.inl rfl)) (pgs_cons (pg_name (i := 8) scDue.nd rfl (Or.inl rfl)) pgs_nil))) (fun _ _ _ _ _ => pts_one (pt_cmpR op_eq (pv 8) pe_str (nomark _))) (fun _ _ _ _ _ => pv 7)) (pe_lst (pa_cons (pv 2) pa_nil))) (pa_cons (pv 4) pa_nil))))
      (pss_one (ps_ret (pe_ifExp (PW.pt (pw_or (pt_cmpR op_eq (pv 3) pe_str (nomark _)) (pw_or1 (pt_cmpR op_isN (pv 6) pe_non (nomark _))))) pe_non (pe_tup (pa_cons pe_str (pa_cons (pv 6) pa_nil)))))))))), ?_⟩
    have gn := hg.few
    refine ⟨_, rfl, p, _, rfl, .inr (SqT.of hp), _, rfl, rfl, _, rfl, ?_⟩
    rw [List.length_map]
    refine ite2 (fun hc => ?_) (fun hc => ?_)
    · have h1 : (q.length : Int) ≠ z := fun e => by
        rw [e] at hc
        simp at hc
      have h2 : due sh z L q wd = some (.place q) := by
        unfold due chk
        rw [if_pos h1]
      rw [h2] at hQ
      exact ⟨_, rfl, line1000 (by show 2 ≤ 1000; decide), fun u hu => hQ _ _ (Same.one hu) ⟨u, _, rfl, upd_same, p, rfl, (Same.one hu) _ _ hp⟩⟩
    have hql : (q.length : Int) = z := by simpa using hc
    have hqs := sz_bd hz hql
    by_cases hw : wd = .none_
    · subst hw
      have h2 : due sh z L q .none_ = some (.word .none_) := by
        unfold due chk
        rw [if_neg fun n => n hql, if_pos rfl]
      rw [h2] at hQ
      exact ⟨_, rfl, rfl, _, rfl, iteP (by decide +kernel) ⟨_, rfl, rfl, true, by decide +kernel, iteT ⟨_, rfl, line1000 (by show 2 ≤ 1000; decide), fun u hu => hQ _ _ (Same.one hu) ⟨u, _, rfl, upd_same, rfl⟩⟩⟩⟩
    refine word_test rfl hw (iteF ?_)
    refine ⟨_, rfl, _, rfl, l, rfl, ⟨_, SqL.of hxs⟩, fun D hD => lcF (keep := fun _ => true) hD hxs hL (by omega) (fun _ _ => rfl) (fun _ _ => rfl) (fun _ _ _ _ h => h) fun H1 ws s1 hws hwp => ?_⟩
    refine ⟨plD q, (fstIf (fun _ => true) L).map plD, dp_sqt (SqT.of (s1 _ _ hp)), ArePl.dp hws hwp, plD_sh _, plsD_sh _, _, rfl, ?_⟩
    rw [plsD_any, fstIf_all]
    by_cases hm : q ∈ L.map Prod.fst
    · rw [decide_eq_true hm]
      have h2 : due sh z L q wd = some (.taken q) := by
        unfold due chk
        rw [if_neg fun n => n hql, if_neg hw, if_pos hm]
      rw [h2] at hQ
      exact iteT ⟨_, rfl, line1000 (by show 2 ≤ 1000; decide), fun u hu => hQ _ _ (s1.upd hu) ⟨u, _, rfl, upd_same, p, rfl, (s1.upd hu) _ _ hp⟩⟩
    rw [decide_eq_false hm]
    refine iteF ?_
    have hck : chk z L q wd = none := by
      unfold chk
      rw [if_neg fun n => n hql, if_neg hw, if_neg hm]
    unfold due at hQ
    rw [hck] at hQ
    have ew : decide (V.str wd.s = V.str "seen") = decide (wd = .seen) := seen_test (x := .seen)
    cases sh with
    | some sv =>
      obtain ⟨o, rfl, ho⟩ := hsv
      have hsl := hsl sv rfl
      dsimp only at hQ
      refine ⟨_, rfl, rfl, _, rfl, iteT ?_⟩
      refine ⟨_, rfl, _, rfl, p, o, _, _, rfl, .inr ⟨SqT.of (s1 _ _ hp), SqT.of (s1 _ _ ho), fun D2 hD2 => lcZ hD2 (s1 _ _ hp) (s1 _ _ ho) (by omega) (by omega) (fun _ _ => rfl) (fun _ _ => rfl) (fun _ _ => rfl) fun H2 s2 h2 => ?_⟩⟩
      refine ⟨D2, plusL q sv, rfl, SqL.of h2, rfl, ?_⟩
      refine ⟨_, rfl, _, rfl, rfl, rfl, _, rfl, ?_⟩
      have eA := s1.trans s2
      have e2 : decide (V.int ((gcdL (plusL q sv) : Nat) : Int) = V.int 1) = decide (gcdL (plusL q sv) = 1) := by
        rw [dec_int]
        by_cases h : gcdL (plusL q sv) = 1
        · rw [h]
          rfl
        · rw [decide_eq_false h]
          exact beq_eq_false_iff_ne.mpr fun z => h (by omega)
      rw [e2, ew]
      by_cases hd : decide (gcdL (plusL q sv) = 1) = decide (wd = .seen)
      · rw [if_pos hd] at hQ
        exact iteP (by rw [hd]; simp) (hQ _ _ eA rfl)
      · rw [if_neg hd] at hQ
        refine iteN (decide_eq_false fun x => hd (by injection x)) ⟨_, rfl, line1000 (by show 2 ≤ 1000; decide), fun u hu => hQ _ _ (eA.upd hu) ⟨u, _, rfl, upd_same, p, rfl, (eA.upd hu) _ _ hp⟩⟩
    | none =>
      have ex : x = .non := hsv
      subst ex
      dsimp only at hQ
      refine ⟨_, rfl, rfl, _, rfl, iteF ?_⟩
      refine ⟨_, rfl, l, rfl, ⟨_, SqL.of (s1 _ _ hxs)⟩, fun D2 hD2 => lcF (keep := fun w => decide (w = .seen)) hD2 (s1 _ _ hxs) (hL.same s1) (by omega) (fun _ _ => rfl) (fun _ _ => rfl) (fun u wd2 H' Q' hq' => ?_) fun H2 ws2 s2 hws2 hwp2 => ?_⟩
      · refine ⟨_, rfl, rfl, _, rfl, ?_⟩
        rw [show decide (V.str wd2.s = V.str "seen") = decide (wd2 = .seen) from seen_test (x := .seen)]
        exact hq'
      · have eA := s1.trans s2
        refine ⟨_, rfl, line1000 (by show 1 ≤ 1000; decide), fun b hb => ⟨D2, b, ws2, _, rfl, rfl, (upd_ne (ne_of_none hws2 hb)).trans hws2, upd_same, ?_, fun c hc => ?_⟩⟩
        · have h1 := Paired.length hwp2
          have h2 := withW_len L .seen
          have h3 : ([V.ref p] : List V).length = 1 := rfl
          have h4 : 1000 ≤ sizeLine := line1000 (Nat.le_refl _)
          rw [fstIf_with] at h1
          omega
        · have s3 : Same H2 (L2.upd (L2.upd H2 b (.lst [.ref p])) c (.lst (ws2 ++ [.ref p]))) := Same.upd (Same.one hb) hc
          have sm := hg.small hz .seen
          refine ⟨_, rfl, z, c, withW L .seen ++ [q], rfl, hz, ⟨_, upd_same, paired_app (hwp2.same s3) (.cons ⟨p, rfl, s3 _ _ (eA _ _ hp)⟩ .nil)⟩, ⟨?_, fun y hy => ?_⟩, fun H3 s4 => ?_⟩
          · rw [List.length_append]
            have := sm.1
            show _ + 1 ≤ 50
            omega
          · rcases List.mem_append.mp hy with hy | hy
            · exact sm.2 y hy
            · rw [List.mem_singleton.mp hy]
              omega
          · have eB := eA.trans (s3.trans s4)
            have ew2 : decide (V.str wd.s = V.str "hidden") = decide (wd = .hidden) := seen_test (x := .hidden)
            refine ⟨_, rfl, rfl, _, rfl, ?_⟩
            rw [ew2]
            by_cases hs : wd = .seen
            · subst hs
              rw [if_pos rfl] at hQ
              refine iteN (by decide) ?_
              cases hb2 : wbar z (withW L .seen ++ [q]) with
              | none =>
                rw [hb2] at hQ
                exact ⟨_, rfl, rfl, _, rfl, iteT (hQ _ _ eB rfl)⟩
              | some pr =>
                rw [hb2] at hQ
                exact ⟨_, rfl, rfl, _, rfl, iteF ⟨_, rfl, line1000 (by show 2 ≤ 1000; decide), fun u hu => hQ _ _ (eB.upd hu) ⟨u, _, rfl, upd_same, rfl⟩⟩⟩
            · rw [if_neg hs] at hQ
              have hh : wd = .hidden := by cases wd <;> first | rfl | exact absurd rfl hs | exact absurd rfl hw
              exact iteP (decide_eq_true hh) (iteT (hQ _ _ eB rfl))
end
end K94
namespace K94
open PySem L2
/-! ### _law_kinds -/
theorem ExAt.same {H H' : Hp} {a C : Addr} {fs : List (Str × V)} (h : ExAt H a C fs) (s : Same H H') : ExAt H' a C fs := by
  obtain ⟨d, h1, h2⟩ := h
  exact ⟨d, s _ _ h1, s _ _ h2⟩
theorem kinds_one : ∀ nm ∈ exNm, ((exNm.map fun y => decide (nm = y)).filter id).length = 1 := by decide +kernel
section
variable {P : Program} {w : World} {K : PySem.W.Frag} {mg : Str → Option Value} {base : Heap} {cn : Str → Addr}
def spKinds (cn : Str → Addr) : Sp := fun vs H Q _ => ∃ (a : Addr) (nm : Str) (fs : List (Str × V)), vs = [.ref a] ∧ nm ∈ exNm ∧ ExAt H a (cn nm) fs ∧ ∀ H', Same H H' → Q (.int 1) H'
theorem scKinds : FnScope ["_law_caught", "_law_kinds_here", "_law_kind"] ["_law_caught"] (defScope sKinds) := ⟨rfl, rfl, rfl, by decide +kernel, rfl, by decide +kernel, by decide +kernel⟩
theorem ok_kinds {f : Addr} {fd : FuncData} (F : Fun K "_law_kinds" "_law_kinds" sKinds f fd) (EX : Exs K mg cn) (mI : mg "isinstance" = none) (mL : mg "len" = none) : FnOk P w K mg base CX0 3 f fd ["_law_caught"] (spKinds cn) := by
  refine F.ok scKinds (fun vs H Q E h => ?_) (fun cdv A outer s H vs Q E hr h => ?_)
  · obtain ⟨a, nm, fs, rfl, _⟩ := h
    rfl
  · obtain ⟨a, nm, fs, rfl, hnm, hx, hQ⟩ := h
    refine ⟨_, pss_cons (ps_set (i := 1) scKinds.nd rfl (Or.inl rfl) (pe_lst (pa_cons (pe_callB call_isX (by rfl) mI boot_isi (pa_cons (pv 0) (pa_cons (pe_glob (v := .ref (cn "InvalidSize")) rfl (EX.glob _ in_exNm) rfl) pa_nil))) (pa_cons (pe_callB call_isX (by rfl) mI boot_isi (pa_cons (pv 0) (pa_cons (pe_glob (v := .ref (cn "InvalidPlace")) rfl (EX.glob _ in_exNm) rfl) pa_nil))) (pa_cons (pe_callB call_isX (by rfl) mI boot_isi (pa_cons (pv 0) (pa_cons (pe_glob (v := .ref (cn "DoublePlace")) rfl (EX.glob _ in_exNm) rfl) pa_nil))) pa_nil)))))
      (pss_cons (ps_set (i := 1) scKinds.nd rfl (Or.inl rfl) (pe_op op_cat (pv 1) (pe_lst (pa_cons (pe_callB call_isX (by rfl) mI boot_isi (pa_cons (pv 0) (pa_cons (pe_glob (v := .ref (cn "InvalidMatrix")) rfl (EX.glob _ in_exNm) rfl) pa_nil))) (pa_cons (pe_callB call_isX (by rfl) mI boot_isi (pa_cons (pv 0) (pa_cons (pe_glob (v := .ref (cn "InvalidStep")) rfl (EX.glob _ in_exNm) rfl) pa_nil))) (pa_cons (pe_callB call_isX (by rfl) mI boot_isi (pa_cons (pv 0) (pa_cons (pe_glob (v := .ref (cn "Wrong")) rfl (EX.glob _ in_exNm) rfl) pa_nil))) pa_nil))))))
      (pss_cons (ps_set (i := 1) scKinds.nd rfl (Or.inl rfl) (pe_op op_cat (pv 1) (pe_lst (pa_cons (pe_callB call_isX (by rfl) mI boot_isi (pa_cons (pv 0) (pa_cons (pe_glob (v := .ref (cn "InvalidNumber")) rfl (EX.glob _ in_exNm) rfl) pa_nil))) (pa_cons (pe_callB call_isX (by rfl) mI boot_isi (pa_cons (pv 0) (pa_cons (pe_glob (v := .ref (cn "InvalidWord")) rfl (EX.glob _ in_exNm) rfl) pa_nil))) (pa_cons (pe_callB call_isX (by rfl) mI boot_isi (pa_cons (pv 0) (pa_cons (pe_glob (v := .ref (cn "Conflict")) rfl (EX.glob _ in_exNm) rfl) pa_nil))) pa_nil))))))
      (pss_cons (ps_set (i := 1) scKinds.nd rfl (Or.inl rfl) (pe_op op_cat (pv 1) (pe_lst (pa_cons (pe_callB call_isX (by rfl) mI boot_isi (pa_cons (pv 0) (pa_cons (pe_glob (v := .ref (cn "Barred")) rfl (EX.glob _ in_exNm) rfl) pa_nil))) (pa_cons (pe_callB call_isX (by rfl) mI boot_isi (pa_cons (pv 0) (pa_cons (pe_glob (v := .ref (cn "Taken")) rfl (EX.glob _ in_exNm) rfl) pa_nil))) (pa_cons (pe_callB call_isX (by rfl) mI boot_isi (pa_cons (pv 0) (pa_cons (pe_glob (v := .ref (cn "NothingToUndo")) rfl (EX.glob _ in_exNm) rfl) pa_nil))) pa_nil))))))
      (pss_cons (ps_set (i := 1) scKinds.nd rfl (Or.inl rfl) (pe_op op_cat (pv 1) (pe_lst (pa_cons (pe_callB call_isX (by rfl) mI boot_isi (pa_cons (pv 0) (pa_cons (pe_glob (v := .ref (cn "Unreadable")) rfl (EX.glob _ in_exNm) rfl) pa_nil))) pa_nil))))
      (pss_one (ps_ret (pe_callB call_len_seq (by rfl) mL PySem.boot_len (pa_cons (pe_lc (own := [("_law_kind", 2)]) (g := gName 2) (tt := tB (tVar 2)) (te := tVar 2) rfl scKinds.nd (pi_list (pv 1)) (blkOk_by (N := ["_law_caught", "_law_kinds_here", "_law_kind"]) (sc := defScope sKinds) (by decide +kernel))
        (fun _ _ _ _ _ => pg_name (i := 2) scKinds.nd rfl (Or.inl rfl)) (fun _ _ _ _ _ => pts_one (pt_val (pv 2))) (fun _ _ _ _ _ => pv 2)) pa_nil)))))))), ?_⟩
    refine ⟨_, rfl, a, cn nm, fs, _, _, _, rfl, hx, EX.exc _ hnm, .own _, EX.kit _ hnm _ (in_exNm (x := "InvalidSize")), _, rfl, a, cn nm, fs, _, _, _, rfl, hx, EX.exc _ hnm, .own _, EX.kit _ hnm _ (in_exNm (x := "InvalidPlace")), _, rfl, a, cn nm, fs, _, _, _, rfl, hx, EX.exc _ hnm, .own _, EX.kit _ hnm _ (in_exNm (x := "DoublePlace")), line1000 (by show 3 ≤ 1000; decide), fun l0 h0 => ?_⟩
    obtain ⟨H0, eH0, s0, e0⟩ : ∃ H0, H0 = L2.upd H l0 (.lst [V.bl (decide (nm = "InvalidSize")), V.bl (decide (nm = "InvalidPlace")), V.bl (decide (nm = "DoublePlace"))]) ∧ Same H H0 ∧ H0 l0 = some (.lst [V.bl (decide (nm = "InvalidSize")), V.bl (decide (nm = "InvalidPlace")), V.bl (decide (nm = "DoublePlace"))]) := ⟨_, rfl, Same.one h0, upd_same⟩
    rw [← eH0]
    have x0 := hx.same s0
    refine ⟨_, rfl, _, rfl, a, cn nm, fs, _, _, _, rfl, x0, EX.exc _ hnm, .own _, EX.kit _ hnm _ (in_exNm (x := "InvalidMatrix")), _, rfl, a, cn nm, fs, _, _, _, rfl, x0, EX.exc _ hnm, .own _, EX.kit _ hnm _ (in_exNm (x := "InvalidStep")), _, rfl, a, cn nm, fs, _, _, _, rfl, x0, EX.exc _ hnm, .own _, EX.kit _ hnm _ (in_exNm (x := "Wrong")), line1000 (by show 3 ≤ 1000; decide), fun m0 g0 => ⟨_, _, _, _, rfl, rfl, (upd_ne (ne_of_none e0 g0)).trans e0, upd_same, line1000 (by show 6 ≤ 1000; decide), fun l1 h1 => ?_⟩⟩
    obtain ⟨H1, eH1, s1, e1⟩ : ∃ H1, H1 = L2.upd (L2.upd H0 m0 (.lst [V.bl (decide (nm = "InvalidMatrix")), V.bl (decide (nm = "InvalidStep")), V.bl (decide (nm = "Wrong"))])) l1 (.lst ([V.bl (decide (nm = "InvalidSize")), V.bl (decide (nm = "InvalidPlace")), V.bl (decide (nm = "DoublePlace"))] ++ [V.bl (decide (nm = "InvalidMatrix")), V.bl (decide (nm = "InvalidStep")), V.bl (decide (nm = "Wrong"))])) ∧ Same H0 H1 ∧ H1 l1 = some (.lst ([V.bl (decide (nm = "InvalidSize")), V.bl (decide (nm = "InvalidPlace")), V.bl (decide (nm = "DoublePlace"))] ++ [V.bl (decide (nm = "InvalidMatrix")), V.bl (decide (nm = "InvalidStep")), V.bl (decide (nm = "Wrong"))])) := ⟨_, rfl, Same.upd (Same.one g0) h1, upd_same⟩
    rw [← eH1]
    have x1 := x0.same s1
    refine ⟨_, rfl, _, rfl, a, cn nm, fs, _, _, _, rfl, x1, EX.exc _ hnm, .own _, EX.kit _ hnm _ (in_exNm (x := "InvalidNumber")), _, rfl, a, cn nm, fs, _, _, _, rfl, x1, EX.exc _ hnm, .own _, EX.kit _ hnm _ (in_exNm (x := "InvalidWord")), _, rfl, a, cn nm, fs, _, _, _, rfl, x1, EX.exc _ hnm, .own _, EX.kit _ hnm _ (in_exNm (x := "Conflict")), line1000 (by show 3 ≤ 1000; decide), fun m1 g1 => ⟨_, _, _, _, rfl, rfl, (upd_ne (ne_of_none e1 g1)).trans e1, upd_same, line1000 (by show 9 ≤ 1000; decide), fun l2 h2 => ?_⟩⟩
    obtain ⟨H2, eH2, s2, e2⟩ : ∃ H2, H2 = L2.upd (L2.upd H1 m1 (.lst [V.bl (decide (nm = "InvalidNumber")), V.bl (decide (nm = "InvalidWord")), V.bl (decide (nm = "Conflict"))])) l2 (.lst (([V.bl (decide (nm = "InvalidSize")), V.bl (decide (nm = "InvalidPlace")), V.bl (decide (nm = "DoublePlace"))] ++ [V.bl (decide (nm = "InvalidMatrix")), V.bl (decide (nm = "InvalidStep")), V.bl (decide (nm = "Wrong"))]) ++ [V.bl (decide (nm = "InvalidNumber")), V.bl (decide (nm = "InvalidWord")), V.bl (decide (nm = "Conflict"))])) ∧ Same H1 H2 ∧ H2 l2 = some (.lst (([V.bl (decide (nm = "InvalidSize")), V.bl (decide (nm = "InvalidPlace")), V.bl (decide (nm = "DoublePlace"))] ++ [V.bl (decide (nm = "InvalidMatrix")), V.bl (decide (nm = "InvalidStep")), V.bl (decide (nm = "Wrong"))]) ++ [V.bl (decide (nm = "InvalidNumber")), V.bl (decide (nm = "InvalidWord")), V.bl (decide (nm = "Conflict"))])) := ⟨_, rfl, Same.upd (Same.one g1) h2, upd_same⟩
    rw [← eH2]
    have x2 := x1.same s2
    refine ⟨_, rfl, _, rfl, a, cn nm, fs, _, _, _, rfl, x2, EX.exc _ hnm, .own _, EX.kit _ hnm _ (in_exNm (x := "Barred")), _, rfl, a, cn nm, fs, _, _, _, rfl, x2, EX.exc _ hnm, .own _, EX.kit _ hnm _ (in_exNm (x := "Taken")), _, rfl, a, cn nm, fs, _, _, _, rfl, x2, EX.exc _ hnm, .own _, EX.kit _ hnm _ (in_exNm (x := "NothingToUndo")), line1000 (by show 3 ≤ 1000; decide), fun m2 g2 => ⟨_, _, _, _, rfl, rfl, (upd_ne (ne_of_none e2 g2)).trans e2, upd_same, line1000 (by show 12 ≤ 1000; decide), fun l3 h3 => ?_⟩⟩
    obtain ⟨H3, eH3, s3, e3⟩ : ∃ H3, H3 = L2.upd (L2.upd H2 m2 (.lst [V.bl (decide (nm = "Barred")), V.bl (decide (nm = "Taken")), V.bl (decide (nm = "NothingToUndo"))])) l3 (.lst ((([V.bl (decide (nm = "InvalidSize")), V.bl (decide (nm = "InvalidPlace")), V.bl (decide (nm = "DoublePlace"))] ++ [V.bl (decide (nm = "InvalidMatrix")), V.bl (decide (nm = "InvalidStep")), V.bl (decide (nm = "Wrong"))]) ++ [V.bl (decide (nm = "InvalidNumber")), V.bl (decide (nm = "InvalidWord")), V.bl (decide (nm = "Conflict"))]) ++ [V.bl (decide (nm = "Barred")), V.bl (decide (nm = "Taken")), V.bl (decide (nm = "NothingToUndo"))])) ∧ Same H2 H3 ∧ H3 l3 = some (.lst ((([V.bl (decide (nm = "InvalidSize")), V.bl (decide (nm = "InvalidPlace")), V.bl (decide (nm = "DoublePlace"))] ++ [V.bl (decide (nm = "InvalidMatrix")), V.bl (decide (nm = "InvalidStep")), V.bl (decide (nm = "Wrong"))]) ++ [V.bl (decide (nm = "InvalidNumber")), V.bl (decide (nm = "InvalidWord")), V.bl (decide (nm = "Conflict"))]) ++ [V.bl (decide (nm = "Barred")), V.bl (decide (nm = "Taken")), V.bl (decide (nm = "NothingToUndo"))])) := ⟨_, rfl, Same.upd (Same.one g2) h3, upd_same⟩
    rw [← eH3]
    have x3 := x2.same s3
    refine ⟨_, rfl, _, rfl, a, cn nm, fs, _, _, _, rfl, x3, EX.exc _ hnm, .own _, EX.kit _ hnm _ (in_exNm (x := "Unreadable")), line1000 (by show 1 ≤ 1000; decide), fun m3 g3 => ⟨_, _, _, _, rfl, rfl, (upd_ne (ne_of_none e3 g3)).trans e3, upd_same, line1000 (by show 13 ≤ 1000; decide), fun l4 h4 => ?_⟩⟩
    obtain ⟨H4, eH4, s4, e4⟩ : ∃ H4, H4 = L2.upd (L2.upd H3 m3 (.lst [V.bl (decide (nm = "Unreadable"))])) l4 (.lst (((([V.bl (decide (nm = "InvalidSize")), V.bl (decide (nm = "InvalidPlace")), V.bl (decide (nm = "DoublePlace"))] ++ [V.bl (decide (nm = "InvalidMatrix")), V.bl (decide (nm = "InvalidStep")), V.bl (decide (nm = "Wrong"))]) ++ [V.bl (decide (nm = "InvalidNumber")), V.bl (decide (nm = "InvalidWord")), V.bl (decide (nm = "Conflict"))]) ++ [V.bl (decide (nm = "Barred")), V.bl (decide (nm = "Taken")), V.bl (decide (nm = "NothingToUndo"))]) ++ [V.bl (decide (nm = "Unreadable"))])) ∧ Same H3 H4 ∧ H4 l4 = some (.lst (((([V.bl (decide (nm = "InvalidSize")), V.bl (decide (nm = "InvalidPlace")), V.bl (decide (nm = "DoublePlace"))] ++ [V.bl (decide (nm = "InvalidMatrix")), V.bl (decide (nm = "InvalidStep")), V.bl (decide (nm = "Wrong"))]) ++ [V.bl (decide (nm = "InvalidNumber")), V.bl (decide (nm = "InvalidWord")), V.bl (decide (nm = "Conflict"))]) ++ [V.bl (decide (nm = "Barred")), V.bl (decide (nm = "Taken")), V.bl (decide (nm = "NothingToUndo"))]) ++ [V.bl (decide (nm = "Unreadable"))])) := ⟨_, rfl, Same.upd (Same.one g3) h4, upd_same⟩
    rw [← eH4]
    have x4 := x3.same s4
    refine ⟨_, rfl, l4, rfl, ⟨_, SqL.of e4⟩, fun D hD => ?_⟩
    have hxs : ((((([V.bl (decide (nm = "InvalidSize")), V.bl (decide (nm = "InvalidPlace")), V.bl (decide (nm = "DoublePlace"))] ++ [V.bl (decide (nm = "InvalidMatrix")), V.bl (decide (nm = "InvalidStep")), V.bl (decide (nm = "Wrong"))]) ++ [V.bl (decide (nm = "InvalidNumber")), V.bl (decide (nm = "InvalidWord")), V.bl (decide (nm = "Conflict"))]) ++ [V.bl (decide (nm = "Barred")), V.bl (decide (nm = "Taken")), V.bl (decide (nm = "NothingToUndo"))]) ++ [V.bl (decide (nm = "Unreadable"))]) : List V) = (exNm.map fun y => decide (nm = y)).map V.bl := rfl
    have one : ((exNm.map fun y => decide (nm = y)).filter id).length = 1 := kinds_one nm hnm
    rw [hxs] at e4
    have hfew : (exNm.map fun y => decide (nm = y)).length ≤ 13 := by rw [List.length_map]; decide
    generalize (exNm.map fun y => decide (nm = y)) = bs at e4 one hfew
    refine lc_list (K := K) (xs := bs.map V.bl) (fun j H' => Same _ H' ∧ H' D = some (.lst (((bs.take j).filter id).map V.bl))) ⟨Same.one hD, upd_same⟩ (fun j H' _ h => SqL.of (h.1 _ _ e4)) ?_ ?_
    · rintro j y H2 hj ⟨z1, z2⟩
      rw [List.getElem?_map] at hj
      obtain ⟨b, hb, rfl⟩ := Option.map_eq_some_iff.mp hj
      refine ⟨rfl, _, rfl, b, rfl, ?_⟩
      have et : bs.take (j + 1) = bs.take j ++ [b] := by
        rw [List.take_add_one, hb]
        rfl
      cases b with
      | true =>
        refine iteT ⟨_, rfl, _, z2, ?_, z1.updN hD, ?_⟩
        · rw [List.length_map]
          have q1 := List.length_filter_le id (bs.take j)
          have q2 : (bs.take j).length ≤ bs.length := List.length_take_le' j bs
          have q3 := hfew
          exact small1000 (by omega)
        · rw [upd_same, et, List.filter_append, List.map_append]
          rfl
      | false =>
        refine iteF ⟨z1, ?_⟩
        rw [z2, et, List.filter_append]
        simp
    · rintro H2 ⟨z1, z2⟩
      rw [List.length_map, List.take_length] at z2
      refine ⟨D, _, rfl, .inl (SqL.of z2), ?_⟩
      rw [List.length_map, one]
      exact hQ H2 (s0.trans (s1.trans (s2.trans (s3.trans (s4.trans z1)))))
end
end K94
namespace K94
open PySem L2
abbrev sTold : Stmt := top 49
theorem Win.lst {C : Addr} {sh : Option Pl} {z : Int} {H : Hp} {a t : Addr} {L : List Lk} (h : Win C sh z H a t L) : ∃ ys, H t = some (.lst ys) := h.lks.imp fun _ q => q.1
/-- what the law's defs know of a window class -/
structure WinP (P : Program) (w : World) (K : PySem.W.Frag) (mg : Str → Option Value) (base : Heap) (cn : Str → Addr) (CI C : Addr) (sh : Option Pl) : Prop where
  undo : MF P w K mg base (L2.CX P w) 3 C "undo" ["self"] (spUndo cn C sh)
  add : MF P w K mg base (L2.CX P w) 9 C "add_all" ["self", "looks"] (spAdd cn C sh)
  call : OF P w K mg base (L2.CX P w) 7 C ["self", "place", "word"] (spCallW cn C sh)
  looks : PF P w K mg base CX0 1 C "looks" ["self"] (spLooks C sh)
  pic : PF P w K mg base CX0 6 C "picture" ["self"] (spPicture CI C sh)
  wat : MF P w K mg base CX0 13 C "word_at" ["self", "place"] (spWAt C sh)
  len : SF P w K mg base CX0 1 C "__len__" ["self"] (spLen C sh)
theorem fnOk_any {ι : Type} {P : Program} {w : World} {K : PySem.W.Frag} {mg : Str → Option Value} {base : Heap} {CX : CXT} {k : Nat} {f : Addr} {fd : FuncData} {ps : List Str} {sp : ι → Sp} (h : ∀ i, FnOk P w K mg base CX k f fd ps (sp i)) :
    FnOk P w K mg base CX k f fd ps (fun vs H Q E => ∃ i, sp i vs H Q E) := ⟨fun vs H Q E z => by
    obtain ⟨i, z⟩ := z
    exact (h i).len _ _ _ _ z, fun A outer s H args us vs Q E r e b v z => by
    obtain ⟨i, z⟩ := z
    exact (h i).run A outer s H args us vs Q E r e b v z⟩
/-- what a call of undo, add_all or the window itself should do -/
def act (sh : Option Pl) (z : Int) (L : List Lk) (way : Int) (M : List Lk) : Option Er × List Lk :=
  if way = 0 then (if L = [] then (some .none_, L) else (none, L.dropLast))
  else if way = 1 then (match runL sh z L M with
    | none => (none, L ++ M)
    | some e => (some e, L))
  else match M with
    | [] => (none, L)
    | x :: _ => match due sh z L x.1 x.2 with
      | none => (none, L ++ [x])
      | some e => (some e, L)
def nm6 : List Str := ["InvalidPlace", "InvalidWord", "Taken", "Wrong", "Barred", "NothingToUndo"]
def wd6 : List Str := ["place", "word", "taken", "wrong", "barred", "none"]
def Er.ix : Er → Nat
  | .place _ => 0
  | .word _ => 1
  | .taken _ => 2
  | .wrong _ => 3
  | .barred _ => 4
  | .none_ => 5
theorem Er.at6 (e : Er) : wd6[e.ix]? = some e.w := by cases e <;> rfl
theorem Er.kinds6 (e : Er) : nm6.map (fun y => decide (e.nm = y)) = (List.range 6).map fun j => decide (j = e.ix) := by
  have h : ∀ x ∈ nm6, nm6.map (fun y => decide (x = y)) = (List.range 6).map fun j => decide (j = nm6.idxOf x) := by decide +kernel
  have h2 := h e.nm (by cases e <;> simp only [Er.nm] <;> decide +kernel)
  rw [h2]
  congr 1
  funext j
  congr 1
  have h3 : nm6.idxOf e.nm = e.ix := by cases e <;> simp only [Er.nm, Er.ix] <;> decide +kernel
  rw [h3]
theorem wfs_undo (z : Int) (t : Addr) (ot : Option Addr) : (wfs z t ot).lookup ("undo" : Str) = none := by cases ot <;> rfl
theorem wfs_add (z : Int) (t : Addr) (ot : Option Addr) : (wfs z t ot).lookup ("add_all" : Str) = none := by cases ot <;> rfl
theorem wfs_wat (z : Int) (t : Addr) (ot : Option Addr) : (wfs z t ot).lookup ("word_at" : Str) = none := by cases ot <;> rfl
def kl (e : Er) : List V := ((List.range 6).map fun j => decide (j = e.ix)).map V.bl
theorem kl_in (e : Er) : inV (.bl true) (kl e) = true := by cases e <;> rfl
theorem kl_flat (e : Er) : (kl e).all flatV = true := by cases e <;> rfl
theorem kl_at (e : Er) : (kl e)[e.ix]? = some (.bl true) := by cases e <;> rfl
theorem kl_no (e : Er) : ∀ (m : Nat) (z' : V), m < e.ix → (kl e)[m]? = some z' → eqV z' (.bl true) = false := fun m z' hm h => by
  unfold kl at h
  rw [List.getElem?_map, List.getElem?_map] at h
  by_cases h6 : m < 6
  · rw [List.getElem?_range h6] at h
    have : z' = .bl (decide (m = e.ix)) := (Option.some.inj h).symm
    rw [this, decide_eq_false (Nat.ne_of_lt hm)]
    rfl
  · rw [List.getElem?_eq_none (by simpa using h6)] at h
    cases h
theorem wl_at (e : Er) : ([.str "place", .str "word", .str "taken", .str "wrong", .str "barred", .str "none"] : List V)[e.ix]? = some (.str e.w) := by cases e <;> rfl
theorem paired_getR {α β : Type} {F : α → β → Prop} : ∀ {l : List α} {m : List β} {i : Nat} {y : β}, Paired F l m → m[i]? = some y → ∃ x, l[i]? = some x ∧ F x y
  | _, _, i, y, .nil, e => by simp at e
  | _, _, 0, y, .cons r t, e => ⟨_, rfl, by
    have : _ = y := Option.some.inj e
    rw [← this]
    exact r⟩
  | _, _, i + 1, y, .cons r t, e => by
    obtain ⟨x, h1, h2⟩ := paired_getR t (i := i) (by simpa using e)
    exact ⟨x, by simpa using h1, h2⟩
theorem told_keep {K : PySem.W.Frag} {mg : Str → Option Value} {cn : Str → Addr} {D : Ends} {w1 w2 w3 w4 : Option V} {e : Er} {cls : Value} {d : Option Addr} {H1 : Hp} (EX : Exs K mg cn) (he : ErAt cn H1 e cls d)
    (h : ∀ a2 v H2, Same H1 H2 → ExAt H2 a2 (cn e.nm) [("value", v)] → e.val H2 v → D.nx [w1, w2, w3, some (.ref a2), none, w4] H2) :
    WE (wKeep K (.ref (cn "PostError")) 4 (fun _ _ _ => tAsg (tVar 4) (gName 3)) D) [w1, w2, w3, some .non, none, w4] cls d H1 := by
  obtain ⟨rfl, dd, v, rfl, hdd, hv⟩ := he
  refine ⟨EX.exm _ (er_in e), cn e.nm, dd, rfl, rfl, fun a2 ha2 => ⟨_, rfl, fun _ => ?_⟩⟩
  have s1 : Same H1 (L2.upd H1 a2 (exV (cn e.nm) dd a2)) := Same.one ha2
  exact h a2 v _ s1 ⟨dd, upd_same, s1 _ _ hdd⟩ (Er.val_same hv s1)
section
variable {P : Program} {w : World} {K : PySem.W.Frag} {mg : Str → Option Value} {base : Heap} {cn : Str → Addr} {CI C : Addr}
def spTold (cn : Str → Addr) (C : Addr) (sh : Option Pl) : Sp := fun vs H Q _ => ∃ (a t l : Addr) (way z : Int) (L M : List Lk), vs = [.ref a, .int way, .ref l] ∧ Sz z ∧ Win C sh z H a t L ∧ Good z L ∧ (∀ s, sh = some s → (s.length : Int) = z) ∧
  (way = 0 ∨ (way = 1 ∧ LksAt H l M ∧ l ≠ t ∧ L.length + M.length ≤ 35) ∨ (way = 2 ∧ LksAt H l M ∧ M ≠ [] ∧ L.length + 1 ≤ 35)) ∧
  ∀ H' y t', Keep [a, t] H H' → (∃ ys, H' t = some (.lst ys)) → (t' = t ∨ H t' = none) → Win C sh z H' a t' (act sh z L way M).2 → DueR H' (act sh z L way M).1 y → Q y H'
abbrev nTold : List Str := ["_law_window", "_law_way", "_law_looks_here", "_law_told_here", "e", "_law_kinds_here"]
theorem scTold : FnScope nTold ["_law_window", "_law_way", "_law_looks_here"] (defScope sTold) := ⟨rfl, rfl, rfl, by decide +kernel, rfl, by decide +kernel, by decide +kernel⟩
theorem ok_told {f : Addr} {fd : FuncData} {sh : Option Pl} (F : Fun K "_law_told" "_law_told" sTold f fd) (EX : Exs K mg cn) (mI : mg "isinstance" = none) (WP : WinP P w K mg base cn CI C sh) (GK : GF P w K mg base CX0 3 "_law_kinds" ["_law_caught"] (spKinds cn)) :
    FnOk P w K mg base CX0 11 f fd ["_law_window", "_law_way", "_law_looks_here"] (spTold cn C sh) := by
  refine F.ok scTold (fun vs H Q E h => ?_) (fun cdv A outer s H vs Q E hr h => ?_)
  · obtain ⟨a, t, l, way, z, L, M, rfl, _⟩ := h
    rfl
  · obtain ⟨a, t, l, way, z, L, M, rfl, hz, hW, hg, hsh, hway, hQ⟩ := h
    refine ⟨_, pss_cons (ps_set (i := 3) scTold.nd rfl (Or.inl rfl) pe_non)
      (pss_cons (ps_try_keep (c := .ref (cn "PostError")) (i := 4) (tb := fun W => tIfS (tTest (tOp rEq (tVar 1) (tC (.int 0)))) (tAsg (tMS C "undo" (spUndo cn C sh) (WE W) (tVar 0) tNil) (gName 3))
          (tIfS (tTest (tOp rEq (tVar 1) (tC (.int 1)))) (tAsg (tMS C "add_all" (spAdd cn C sh) (WE W) (tVar 0) (tCons (tVar 2) tNil)) (gName 3))
            (tAsg (tOS C (spCallW cn C sh) (WE W) (tVar 0) (tCons (tOp (rIxT K) (tOp (rIxL K) (tVar 2) (tC (.int 0))) (tC (.int 0))) (tCons (tOp (rIxT K) (tOp (rIxL K) (tVar 2) (tC (.int 0))) (tC (.int 1))) tNil))) (gName 3))))
          (ts := fun _ _ _ => tAsg (tVar 4) (gName 3)) rfl rfl rfl scTold.nd rfl rfl (names_pe EX rfl)
        (fun W pn xe tk po => pss_one (ps_if (pt_cmpR op_eq (pv 1) pe_int (nomark _)) (pss_one (ps_set (i := 3) scTold.nd rfl (Or.inl rfl) (pe_mS0 (E := WE W) (pv 0) WP.undo (hr.mono (by decide)) (passAt tk))))
          (pss_one (ps_if (pt_cmpR op_eq (pv 1) pe_int (nomark _)) (pss_one (ps_set (i := 3) scTold.nd rfl (Or.inl rfl) (pe_mS (E := WE W) (pv 0) WP.add (hr.mono (by decide)) (passAt tk) (pa_cons (pv 2) pa_nil))))
            (pss_one (ps_set (i := 3) scTold.nd rfl (Or.inl rfl) (pe_oS (E := WE W) (pv 0) WP.call (hr.mono (by decide)) (passAt tk) (pa_cons (pe_ix ix_tup (pe_ix ix_list (pv 2) pe_int (fun _ _ => rfl)) pe_int (fun _ _ => rfl)) (pa_cons (pe_ix ix_tup (pe_ix ix_list (pv 2) pe_int (fun _ _ => rfl)) pe_int (fun _ _ => rfl)) pa_nil)))))))))
        (fun a oe cls d pn => pss_one (ps_set (i := 3) scTold.nd rfl (Or.inl rfl) (pv 4))))
      (pss_cons (ps_if (pt_cmpR op_isN (pv 3) pe_non (nomark _)) (pss_one (ps_ret pe_non)) pss_nil)
      (pss_cons (ps_set (i := 5) scTold.nd rfl (Or.inl rfl) (pe_lst (pa_cons (pe_callB call_isX (by rfl) mI boot_isi (pa_cons (pv 3) (pa_cons (pe_glob (v := .ref (cn "InvalidPlace")) rfl (EX.glob _ in_exNm) rfl) pa_nil))) (pa_cons (pe_callB call_isX (by rfl) mI boot_isi (pa_cons (pv 3) (pa_cons (pe_glob (v := .ref (cn "InvalidWord")) rfl (EX.glob _ in_exNm) rfl) pa_nil))) (pa_cons (pe_callB call_isX (by rfl) mI boot_isi (pa_cons (pv 3) (pa_cons (pe_glob (v := .ref (cn "Taken")) rfl (EX.glob _ in_exNm) rfl) pa_nil))) pa_nil)))))
      (pss_cons (ps_set (i := 5) scTold.nd rfl (Or.inl rfl) (pe_op op_cat (pv 5) (pe_lst (pa_cons (pe_callB call_isX (by rfl) mI boot_isi (pa_cons (pv 3) (pa_cons (pe_glob (v := .ref (cn "Wrong")) rfl (EX.glob _ in_exNm) rfl) pa_nil))) (pa_cons (pe_callB call_isX (by rfl) mI boot_isi (pa_cons (pv 3) (pa_cons (pe_glob (v := .ref (cn "Barred")) rfl (EX.glob _ in_exNm) rfl) pa_nil))) (pa_cons (pe_callB call_isX (by rfl) mI boot_isi (pa_cons (pv 3) (pa_cons (pe_glob (v := .ref (cn "NothingToUndo")) rfl (EX.glob _ in_exNm) rfl) pa_nil))) pa_nil))))))
      (pss_cons (ps_if (PW.pt (pw_or (pt_cmpR op_ne (pe_g GK (hr.mono (by decide)) rfl pass0 (pa_cons (pv 3) pa_nil)) pe_int (nomark _)) (pw_or1 (pt_cmpR op_notIn_seq pe_bl (pv 5) (by rfl))))) (pss_one ps_never) pss_nil)
      (pss_one (ps_ret (pe_tup (pa_cons (pe_ix ix_list (pe_lst (pa_cons pe_str (pa_cons pe_str (pa_cons pe_str (pa_cons pe_str (pa_cons pe_str (pa_cons pe_str pa_nil))))))) (pe_bm PySem.F.plainAttrs_list PySem.F.slot_list_index PySem.F.type_list_index mt_index (pv 5) (pa_cons pe_bl pa_nil)) (fun _ _ => rfl)) (pa_cons (pe_xv (pv 3)) pa_nil)))))))))), ?_⟩
    obtain ⟨⟨dx, ot, ha, ho⟩, ⟨xs, hxs, hL⟩⟩ := id hW
    rcases hway with rfl | ⟨rfl, ⟨ys, hys, hM⟩, hlt, hn⟩ | ⟨rfl, ⟨ys, hys, hM⟩, hne, hn⟩
    case' inl =>
      refine ⟨_, rfl, rfl, _, rfl, iteP (by decide) ⟨_, rfl, a, dx, _, rfl, ha, wfs_undo _ _ _, a, t, z, L, rfl, hW, hg, ?_⟩⟩
      by_cases hL0 : L = []
      rotate_left
      · refine .inr ⟨hL0, fun H1 k1 hW1 => ?_⟩
        have hact : act sh z L 0 M = (none, L.dropLast) := by
          unfold act
          rw [if_pos rfl, if_neg hL0]
        rw [hact] at hQ
        exact ⟨_, rfl, rfl, _, rfl, iteP (by decide) (hQ H1 .non t (k1.mono (by simp)) hW1.lst (.inl rfl) hW1 rfl)⟩
      refine .inl ⟨hL0, fun cls d H1 s1 he => ?_⟩
      obtain ⟨e, ee⟩ : ∃ e, e = Er.none_ := ⟨_, rfl⟩
      have hact : act sh z L 0 M = (some e, L) := by
        unfold act
        rw [if_pos rfl, if_pos hL0, ee]
      rw [← ee] at he
      have k1 : Keep [a, t] H H1 := Keep.of s1
      have hT : ∃ ys, H1 t = some (.lst ys) := (hW.same s1).lst
      obtain ⟨t', ht, hW1⟩ : ∃ t', (t' = t ∨ H t' = none) ∧ Win C sh z H1 a t' L := ⟨t, .inl rfl, hW.same s1⟩
    case' inr.inl =>
      refine ⟨_, rfl, rfl, _, rfl, iteN (by decide) ⟨_, rfl, rfl, _, rfl, iteP (by decide) ⟨_, rfl, a, dx, _, rfl, ha, wfs_add _ _ _, _, rfl, a, t, l, z, L, M, rfl, hz, hW, hg, hn, ⟨ys, hys, hM⟩, hlt, hsh, ?_⟩⟩⟩
      have ha1 : act sh z L 1 M = (match runL sh z L M with
          | none => (none, L ++ M)
          | some e => (some e, L)) := by
        unfold act
        rw [if_neg (by decide), if_pos rfl]
      cases hr2 : runL sh z L M with
      | none =>
        rw [hr2] at ha1
        intro H1 k1 hW1
        rw [ha1] at hQ
        exact ⟨_, rfl, rfl, _, rfl, iteP (by decide) (hQ H1 .non t (k1.mono (by simp)) hW1.lst (.inl rfl) hW1 rfl)⟩
      | some e => ?_
      intro cls d H1 t' k1 hT ht0 hW1 he
      have ht : t' = t ∨ H t' = none := .inr ht0
      have hact : act sh z L 1 M = (some e, L) := by rw [ha1, hr2]
    case' inr.inr =>
      obtain ⟨y0, hy0⟩ : ∃ y0, M[0]? = some y0 := by
        cases M with
        | nil => exact absurd rfl hne
        | cons y0 M => exact ⟨y0, rfl⟩
      obtain ⟨v0, hv0, u0, p0, rfl, hu0, hp0⟩ := paired_getR hM hy0
      have ha1 : act sh z L 2 M = (match due sh z L y0.1 y0.2 with
          | none => (none, L ++ [y0])
          | some e => (some e, L)) := by
        unfold act
        rw [if_neg (by decide), if_neg (by decide)]
        cases M with
        | nil => exact absurd rfl hne
        | cons y1 M =>
          have : y1 = y0 := Option.some.inj hy0
          subst this
          rfl
      refine ⟨_, rfl, rfl, _, rfl, iteN (by decide) ⟨_, rfl, rfl, _, rfl, iteN (by decide) ⟨_, rfl, a, rfl, _, rfl, l, ys, 0, _, rfl, rfl, SqL.of hys, at_of (j := 0) rfl hv0, u0, _, 0, _, rfl, rfl, SqT.of hu0, at_of (j := 0) rfl rfl, _, rfl, l, ys, 0, _, rfl, rfl, SqL.of hys, at_of (j := 0) rfl hv0, u0, _, 1, _, rfl, rfl, SqT.of hu0, at_of (j := 1) rfl rfl, ⟨dx, _, ha⟩, a, t, p0, z, L, y0.1, y0.2, rfl, hz, hW, hg, hp0, hsh, ?_⟩⟩⟩
      cases hr2 : due sh z L y0.1 y0.2 with
      | none =>
        rw [hr2] at ha1
        intro H1 k1 hW1
        rw [ha1] at hQ
        exact ⟨_, rfl, rfl, _, rfl, iteP (by decide) (hQ H1 .non t (k1.mono (by simp)) hW1.lst (.inl rfl) hW1 rfl)⟩
      | some e => ?_
      intro cls d H1 s1 he
      have k1 : Keep [a, t] H H1 := Keep.of s1
      have hT : ∃ ys, H1 t = some (.lst ys) := (hW.same s1).lst
      obtain ⟨t', ht, hW1⟩ : ∃ t', (t' = t ∨ H t' = none) ∧ Win C sh z H1 a t' L := ⟨t, .inl rfl, hW.same s1⟩
      have hact : act sh z L 2 M = (some e, L) := by rw [ha1, hr2]
    all_goals
      rw [hact] at hQ
      refine told_keep EX he fun a2 v H2 s2 hx hv => ?_
      refine ⟨_, rfl, rfl, _, rfl, iteF ?_⟩
      refine ⟨_, rfl, a2, cn e.nm, _, _, _, _, rfl, hx, EX.exc _ (er_in e), .own _, EX.kit _ (er_in e) _ (in_exNm (x := "InvalidPlace")), _, rfl, a2, cn e.nm, _, _, _, _, rfl, hx, EX.exc _ (er_in e), .own _, EX.kit _ (er_in e) _ (in_exNm (x := "InvalidWord")), _, rfl, a2, cn e.nm, _, _, _, _, rfl, hx, EX.exc _ (er_in e), .own _, EX.kit _ (er_in e) _ (in_exNm (x := "Taken")), line1000 (by show 3 ≤ 1000; decide), fun l1 h1 => ?_⟩
      obtain ⟨H3, eH3, s3, e3⟩ : ∃ H3, H3 = L2.upd H2 l1 (.lst [V.bl (decide (e.nm = "InvalidPlace")), V.bl (decide (e.nm = "InvalidWord")), V.bl (decide (e.nm = "Taken"))]) ∧ Same H2 H3 ∧ H3 l1 = some (.lst [V.bl (decide (e.nm = "InvalidPlace")), V.bl (decide (e.nm = "InvalidWord")), V.bl (decide (e.nm = "Taken"))]) := ⟨_, rfl, Same.one h1, upd_same⟩
      rw [← eH3]
      have hx3 := hx.same s3
      refine ⟨_, rfl, _, rfl, a2, cn e.nm, _, _, _, _, rfl, hx3, EX.exc _ (er_in e), .own _, EX.kit _ (er_in e) _ (in_exNm (x := "Wrong")), _, rfl, a2, cn e.nm, _, _, _, _, rfl, hx3, EX.exc _ (er_in e), .own _, EX.kit _ (er_in e) _ (in_exNm (x := "Barred")), _, rfl, a2, cn e.nm, _, _, _, _, rfl, hx3, EX.exc _ (er_in e), .own _, EX.kit _ (er_in e) _ (in_exNm (x := "NothingToUndo")), line1000 (by show 3 ≤ 1000; decide), fun m2 g2 => ⟨_, _, _, _, rfl, rfl, (upd_ne (ne_of_none e3 g2)).trans e3, upd_same, line1000 (by show 6 ≤ 1000; decide), fun l2 h2 => ?_⟩⟩
      obtain ⟨H4, eH4, s4, e4⟩ : ∃ H4, H4 = L2.upd (L2.upd H3 m2 (.lst [V.bl (decide (e.nm = "Wrong")), V.bl (decide (e.nm = "Barred")), V.bl (decide (e.nm = "NothingToUndo"))])) l2 (.lst ([V.bl (decide (e.nm = "InvalidPlace")), V.bl (decide (e.nm = "InvalidWord")), V.bl (decide (e.nm = "Taken"))] ++ [V.bl (decide (e.nm = "Wrong")), V.bl (decide (e.nm = "Barred")), V.bl (decide (e.nm = "NothingToUndo"))])) ∧ Same H3 H4 ∧ H4 l2 = some (.lst ([V.bl (decide (e.nm = "InvalidPlace")), V.bl (decide (e.nm = "InvalidWord")), V.bl (decide (e.nm = "Taken"))] ++ [V.bl (decide (e.nm = "Wrong")), V.bl (decide (e.nm = "Barred")), V.bl (decide (e.nm = "NothingToUndo"))])) := ⟨_, rfl, Same.upd (Same.one g2) h2, upd_same⟩
      rw [← eH4]
      have hx4 := hx3.same s4
      rw [show ([V.bl (decide (e.nm = "InvalidPlace")), V.bl (decide (e.nm = "InvalidWord")), V.bl (decide (e.nm = "Taken"))] ++ [V.bl (decide (e.nm = "Wrong")), V.bl (decide (e.nm = "Barred")), V.bl (decide (e.nm = "NothingToUndo"))] : List V) = kl e from (congrArg (List.map V.bl) (Er.kinds6 e))] at e4
      refine ⟨_, rfl, a2, e.nm, _, rfl, er_in e, hx4, fun H5 s5 => ⟨rfl, _, rfl, iteN (by decide) ⟨_, rfl, l2, kl e, rfl, .inl (SqL.of (s5 _ _ e4)), rfl, kl_flat e, _, rfl, iteN (by rw [kl_in]; rfl) ?_⟩⟩⟩
      have hx5 := hx4.same s5
      refine ⟨line1000 (by show 6 ≤ 1000; decide), fun l6 h6 => ?_⟩
      have e6 := (upd_ne (o := .lst [.str "place", .str "word", .str "taken", .str "wrong", .str "barred", .str "none"]) (ne_of_none (s5 _ _ e4) h6)).trans (s5 _ _ e4)
      have s6 := Same.one (o := .lst [.str "place", .str "word", .str "taken", .str "wrong", .str "barred", .str "none"]) h6
      refine ⟨_, rfl, .inl ⟨rfl, _, SqL.of e6⟩, l2, kl e, .bl true, e.ix, .bl true, rfl, rfl, SqL.of e6, rfl, kl_flat e, kl_at e, rfl, kl_no e, l6, _, (e.ix : Int), .str e.w, rfl, rfl, SqL.of upd_same, at_of (j := e.ix) rfl (wl_at e), _, rfl, a2, cn e.nm, _, v, rfl, hx5.same s6, EX.xf _ (er_in e), EX.noval _ (er_in e), rfl, line1000 (by show 2 ≤ 1000; decide), fun u hu => ?_⟩
      have sA := s2.trans (s3.trans (s4.trans (s5.trans (s6.upd (o := .tup [.str e.w, v]) hu))))
      exact hQ _ _ t' (k1.trans (Keep.of sA)) (hT.imp fun _ q => sA _ _ q) ht (hW1.same sA) ⟨u, v, rfl, upd_same, Er.val_same hv (s3.trans (s4.trans (s5.trans (s6.upd hu))))⟩
end
end K94
namespace K94
open PySem L2
abbrev sDone : Stmt := top 50
/-! ### answers as data -/
def Er.valD : Er → PyData
  | .place q => plD q
  | .word w => .str w.s
  | .taken q => plD q
  | .wrong q => plD q
  | .barred p => .int p
  | .none_ => .int 0
def erD (r : Option Er) : PyData := match r with
  | none => .none
  | some e => .tuple [.str e.w, e.valD]
theorem erD_sh (r : Option Er) : SeqAt.shaped (erD r) = true := by
  cases r with
  | none => exact shaped_of (by simp [erD, PyData.canLay0]) (by simp [erD, PyData.depth])
  | some e =>
    have hd : e.valD.depth ≤ 2 := by cases e <;> first | exact plD_depth _ | simp [Er.valD, PyData.depth]
    have hl : e.valD.canLay0 = true := by cases e <;> first | exact plD_lay _ | simp [Er.valD, PyData.canLay0, Wd.ok]
    have hw : PyData.strOk e.w = true := by cases e <;> simp only [Er.w] <;> decide +kernel
    refine shaped_of ?_ ?_
    · simp [erD, PyData.canLay0, PyData.canLayAll0, hl, hw]
    · simp only [erD, PyData.depth, PyData.depthAll]
      omega
theorem erD_eqv (r : Option Er) : PyData.eqv (erD r) (erD r) = true := by
  cases r with
  | none => simp [erD, PyData.eqv]
  | some e =>
    have hv : PyData.eqv e.valD e.valD = true := by
      cases e <;> simp only [Er.valD]
      all_goals first | (rw [plD_eqv]; simp) | simp [PyData.eqv]
    simp [erD, PyData.eqv, PyData.eqvAll, hv]
theorem DueR.dp {K : PySem.W.Frag} {H : Hp} {r : Option Er} {x : V} (h : DueR H r x) : Dp K H x (erD r) := by
  cases r with
  | none =>
    have e : x = .non := h
    subst e
    exact .non
  | some e =>
    obtain ⟨u, v, rfl, hu, hv⟩ := h
    refine .tup (SqT.of hu) (.cons (.str _) (.cons ?_ .nil))
    cases e <;> first | exact IsPl.dp hv | (have q := hv; cases q; first | exact .str _ | exact .int _)
theorem cut_last (xs : List V) : cutV xs none (some (-1)) = xs.dropLast := by
  unfold cutV
  have e1 : HT.sIx xs.length 0 none = 0 := rfl
  have e2 : HT.sIx xs.length xs.length (some (-1)) = xs.length - 1 := by
    show (if (-1 : Int) < 0 then ((-1 : Int) + (xs.length : Int)).toNat else min (-1 : Int).toNat xs.length) = _
    rw [if_pos (by decide)]
    omega
  rw [e1, e2, List.drop_zero, Nat.sub_zero, List.dropLast_eq_take]
theorem none_back {H H' : Hp} {b : Addr} (s : Same H H') (h : H' b = none) : H b = none := by
  cases e : H b with
  | none => rfl
  | some o =>
    rw [s _ _ e] at h
    cases h
theorem LksAt.keep {M : List Addr} {H H' : Hp} {l : Addr} {L : List Lk} (h : LksAt H l L) (k : Keep M H H') (hl : l ∉ M) (hM : ∀ m ∈ M, ∀ ys, H m ≠ some (.tup ys)) : LksAt H' l L := by
  obtain ⟨xs, h1, h2⟩ := h
  exact ⟨xs, k _ _ hl h1, h2.keep k hM⟩
theorem Win.keep {M : List Addr} {C : Addr} {sh : Option Pl} {z : Int} {H H' : Hp} {a t : Addr} {L : List Lk} (h : Win C sh z H a t L) (k : Keep M H H') (ha : a ∉ M) (ht : t ∉ M) (hM : ∀ m ∈ M, ∀ ys, H m ≠ some (.tup ys)) : Win C sh z H' a t L := by
  obtain ⟨⟨dx, ot, h1, h2⟩, h3⟩ := h
  refine ⟨⟨dx, ot, k _ _ ha h1, h2.keep k fun o e m => ?_⟩, h3.keep k ht hM⟩
  cases sh with
  | none =>
    subst e
    exact h2
  | some s =>
    subst e
    exact hM o m _ h2
theorem IsPl.keep {M : List Addr} {H H' : Hp} {v : V} {q : Pl} (h : IsPl H v q) (k : Keep M H H') (hM : ∀ m ∈ M, ∀ ys, H m ≠ some (.tup ys)) : IsPl H' v q := by
  obtain ⟨t, e, h⟩ := h
  exact ⟨t, e, k _ _ (fun m => hM _ m _ h) h⟩
theorem DueR.keep {M : List Addr} {H H' : Hp} {r : Option Er} {x : V} (h : DueR H r x) (k : Keep M H H') (hM : ∀ m ∈ M, ∀ ys, H m ≠ some (.tup ys)) : DueR H' r x := by
  cases r with
  | none => exact h
  | some e =>
    obtain ⟨u, v, h1, h2, h3⟩ := h
    refine ⟨u, v, h1, k _ _ (fun m => hM _ m _ h2) h2, ?_⟩
    cases e <;> first | exact IsPl.keep h3 k hM | exact h3
theorem Win.nt {C : Addr} {sh : Option Pl} {z : Int} {H : Hp} {a t : Addr} {L : List Lk} (h : Win C sh z H a t L) : ∀ m ∈ [a, t], ∀ ys, H m ≠ some (.tup ys) := fun m hm ys q => by
  obtain ⟨⟨dx, ot, h1, h2⟩, ⟨xs, h3, _⟩⟩ := h
  rcases List.mem_cons.mp hm with e | hm
  · rw [e, h1] at q
    cases q
  · rw [List.mem_singleton.mp hm, h3] at q
    cases q
theorem act_run {sh : Option Pl} {z : Int} {L : List Lk} {way : Int} {M : List Lk} (h : way = 1 ∨ (way = 2 ∧ M.length = 1)) : act sh z L way M = match runL sh z L M with
    | none => (none, L ++ M)
    | some e => (some e, L) := by
  rcases h with rfl | ⟨rfl, h⟩
  · unfold act
    rw [if_neg (by decide), if_pos rfl] <;> (cases runL sh z L M <;> rfl)
  · unfold act
    rw [if_neg (by decide), if_neg (by decide)]
    match M, h with
    | [x], _ =>
      simp only [runL]
      cases due sh z L x.1 x.2 <;> rfl
section
variable {P : Program} {w : World} {K : PySem.W.Frag} {mg : Str → Option Value} {base : Heap} {cn : Str → Addr} {CI C : Addr}
def spDone (C : Addr) (sh : Option Pl) : Sp := fun vs H Q _ => ∃ (a t l m : Addr) (x : V) (way z : Int) (L M : List Lk), vs = [.ref a, .ref l, x, .int way, .ref m, .int z] ∧ Sz z ∧ Win C sh z H a t L ∧ Good z L ∧ (∀ s, sh = some s → (s.length : Int) = z) ∧ ShV H sh x ∧ LksAt H l L ∧ l ≠ t ∧ LksAt H m M ∧ m ≠ t ∧ L.length + M.length ≤ 35 ∧
  (way = 0 ∨ way = 1 ∨ (way = 2 ∧ M.length = 1)) ∧
  ∀ H' u l' t', Keep [a, t] H H' → (∃ ys, H' t = some (.lst ys)) → (t' = t ∨ H t' = none) → (l' = l ∨ (H l' = none ∧ l' ≠ t')) → Win C sh z H' a t' (act sh z L way M).2 → LksAt H' l' (act sh z L way M).2 → H' u = some (.tup [.bl true, .ref l']) → Q (.ref u) H'
abbrev nDone : List Str := ["_law_window", "_law_looks_here", "_law_shift", "_law_way", "_law_some", "_law_size", "_law_behind", "_law_due_here", "_law_place", "_law_word", "_law_handed", "_law_good"]
theorem scDone : FnScope nDone ["_law_window", "_law_looks_here", "_law_shift", "_law_way", "_law_some", "_law_size"] (defScope sDone) := ⟨rfl, rfl, rfl, by decide +kernel, rfl, by decide +kernel, by decide +kernel⟩
theorem ok_done {f : Addr} {fd : FuncData} {sh : Option Pl} (F : Fun K "_law_done" "_law_done" sDone f fd) (mL : mg "list" = none) (GT : GF P w K mg base CX0 11 "_law_told" ["_law_window", "_law_way", "_law_looks_here"] (spTold cn C sh))
    (GD : GF P w K mg base CX0 7 "_law_due" ["_law_looks_here", "_law_shift", "_law_place", "_law_word", "_law_size"] spDue) : FnOk P w K mg base CX0 13 f fd ["_law_window", "_law_looks_here", "_law_shift", "_law_way", "_law_some", "_law_size"] (spDone C sh) := by
  refine F.ok scDone (fun vs H Q E h => ?_) (fun cdv A outer s H vs Q E hr h => ?_)
  · obtain ⟨a, t, l, m, x, way, z, L, M, rfl, _⟩ := h
    rfl
  · obtain ⟨a, t, l, m, x, way, z, L, M, rfl, hz, hW, hg, hsh, hx, hl, hlt, hm, hmt, hn, hway, hQ⟩ := h
    refine ⟨_, pss_cons (ps_if (PW.pt (pw_and (pt_cmpR op_eq (pv 3) pe_int (nomark _)) (pw_and1 (pt_cmpR (op_eqD hr.units) (pv 1) (pe_lst pa_nil) (nomark _)))))
        (pss_one (ps_ret (pe_tup (pa_cons (pe_cmpR (op_eqD hr.units) (pe_g GT (hr.mono (by decide)) rfl pass0 (pa_cons (pv 0) (pa_cons pe_int (pa_cons (pe_lst pa_nil) pa_nil)))) (pe_tup (pa_cons pe_str (pa_cons pe_int pa_nil))) (nomark _)) (pa_cons (pv 1) pa_nil))))) pss_nil)
      (pss_cons (ps_if (pt_cmpR op_eq (pv 3) pe_int (nomark _))
        (pss_one (ps_ret (pe_tup (pa_cons (pe_cmpR op_isN (pe_g GT (hr.mono (by decide)) rfl pass0 (pa_cons (pv 0) (pa_cons pe_int (pa_cons (pe_lst pa_nil) pa_nil)))) pe_non (nomark _)) (pa_cons (pe_slice sl_list (pv 1) po_none (po_some (pe_un un_neg pe_int))) pa_nil))))) pss_nil)
      (pss_cons (ps_set (i := 6) scDone.nd rfl (Or.inl rfl) (pe_callTy call_list_of (by rfl) mL (by decide +kernel) (pa_cons (pv 1) pa_nil)))
      (pss_cons (ps_set (i := 7) scDone.nd rfl (Or.inl rfl) pe_non)
      (pss_cons (ps_for PassesOwn.never rfl (pi_list (pv 4)) (pg_tup rfl (pgs_cons (pg_name (i := 8) scDone.nd rfl (Or.inl rfl)) (pgs_cons (pg_name (i := 9) scDone.nd rfl (Or.inl rfl)) pgs_nil)))
        (pss_one (ps_if (pt_cmpR op_isN (pv 7) pe_non (nomark _))
          (pss_cons (ps_set (i := 7) scDone.nd rfl (Or.inl rfl) (pe_g GD (hr.mono (by decide)) rfl pass0 (pa_cons (pv 6) (pa_cons (pv 2) (pa_cons (pv 8) (pa_cons (pv 9) (pa_cons (pv 5) pa_nil)))))))
          (pss_one (ps_expr (pe_bm PySem.F.plainAttrs_list PySem.F.slot_list_append PySem.F.type_list_append mt_append (pv 6) (pa_cons (pe_tup (pa_cons (pv 8) (pa_cons (pv 9) pa_nil))) pa_nil))))) pss_nil)))
      (pss_cons (ps_set (i := 10) scDone.nd rfl (Or.inl rfl) (pe_callTy call_list_of (by rfl) mL (by decide +kernel) (pa_cons (pv 4) pa_nil)))
      (pss_cons (ps_set (i := 11) scDone.nd rfl (Or.inl rfl) (pe_and (pe_cmpR (op_eqD hr.units) (pe_g GT (hr.mono (by decide)) rfl pass0 (pa_cons (pv 0) (pa_cons (pv 3) (pa_cons (pv 10) pa_nil)))) (pv 7) (nomark _)) (pe_one (pe_cmpR (op_eqD hr.units) (pv 10) (pv 4) (nomark _)))))
      (pss_cons (ps_expr (pe_bm PySem.F.plainAttrs_list PySem.F.slot_list_append PySem.F.type_list_append mt_append (pv 10) (pa_cons (pe_tup (pa_cons (pe_tup (pa_cons pe_str pa_nil)) (pa_cons pe_str pa_nil))) pa_nil)))
      (pss_one (ps_ret (pe_tup (pa_cons (pv 11) (pa_cons (pe_ifExp (pt_cmpR op_notN (pv 7) pe_non (nomark _)) (pv 1) (pv 6)) pa_nil)))))))))))), ?_⟩
    have nt := hW.nt
    obtain ⟨⟨dx, ot, ha, ho⟩, ⟨xs0, hxs0, hL0⟩⟩ := id hW
    obtain ⟨xs, hxs, hL⟩ := id hl
    obtain ⟨ys, hys, hM⟩ := id hm
    have hla : l ≠ a := ne_of hxs ha (by nofun)
    have hlM : l ∉ [a, t] := by simp [hla, hlt]
    have hma : m ≠ a := ne_of hys ha (by nofun)
    have hmM : m ∉ [a, t] := by simp [hma, hmt]
    have gn := hg.few
    by_cases hw0 : way = 0
    · subst hw0
      refine ⟨_, rfl, rfl, _, rfl, iteP (by decide) ⟨_, rfl, line1000 (by show 0 ≤ 1000; decide), fun e0 he0 => ⟨lksD L, lksD [], (hl.same (Same.one he0)).dp, LksAt.dp ⟨[], upd_same, .nil⟩, lksD_sh _, lksD_sh _, _, rfl, ?_⟩⟩⟩
      rw [lksD_eqv]
      have s0 : Same H (L2.upd H e0 (.lst [])) := Same.one he0
      by_cases hL1 : L = []
      · have hact : act sh z L 0 M = (some .none_, L) := by
          unfold act
          rw [if_pos rfl, if_pos hL1]
        have hact2 : act sh z L 0 [] = (some .none_, L) := by
          unfold act
          rw [if_pos rfl, if_pos hL1]
        rw [hact] at hQ
        rw [decide_eq_true hL1]
        refine iteT ⟨_, rfl, line1000 (by show 0 ≤ 1000; decide), fun e1 he1 => ⟨a, t, e1, 0, z, L, [], rfl, hz, hW.same (s0.upd he1), hg, hsh, .inl rfl, fun H1 y t' k1 hT ht hW1 hy => ?_⟩⟩
        rw [hact2] at hW1 hy
        have sA := s0.upd (o := .lst []) he1
        refine ⟨line1000 (by show 2 ≤ 1000; decide), fun c hc => ?_⟩
        have s2 := Same.one (o := .tup [.str "none", .int 0]) hc
        refine ⟨erD (some .none_), erD (some .none_), (hy.same s2).dp, DueR.dp (r := some .none_) ⟨c, .int 0, rfl, upd_same, rfl⟩, erD_sh _, erD_sh _, ?_⟩
        rw [erD_eqv]
        refine ⟨_, rfl, line1000 (by show 2 ≤ 1000; decide), fun u hu => ?_⟩
        have s3 := s2.upd (o := .tup [.bl true, .ref l]) hu
        have kk : Keep [a, t] H H1 := (Keep.of sA).trans k1
        exact hQ _ u l t' (kk.trans (Keep.of s3)) (hT.imp fun _ q => s3 _ _ q) (ht.imp id (none_back sA)) (.inl rfl) (hW1.same s3) ((hl.keep kk hlM nt).same s3) upd_same
      · have hact : act sh z L 0 M = (none, L.dropLast) := by
          unfold act
          rw [if_pos rfl, if_neg hL1]
        have hact2 : act sh z L 0 [] = (none, L.dropLast) := by
          unfold act
          rw [if_pos rfl, if_neg hL1]
        rw [hact] at hQ
        rw [decide_eq_false hL1]
        refine iteF ⟨_, rfl, rfl, _, rfl, iteP (by decide) ⟨_, rfl, line1000 (by show 0 ≤ 1000; decide), fun e1 he1 => ⟨a, t, e1, 0, z, L, [], rfl, hz, hW.same (s0.upd he1), hg, hsh, .inl rfl, fun H1 y t' k1 hT ht hW1 hy => ?_⟩⟩⟩
        rw [hact2] at hW1 hy
        have sA := s0.upd (o := .lst []) he1
        have ey : y = .non := hy
        subst ey
        have kk : Keep [a, t] H H1 := (Keep.of sA).trans k1
        have hxs1 := kk _ _ hlM hxs
        refine ⟨rfl, _, rfl, 1, rfl, -1, rfl, l, xs, rfl, SqL.of hxs1, fun b hb => ⟨line1000 (by show 2 ≤ 1000; decide), fun u hu => ?_⟩⟩
        rw [cut_last] at hu ⊢
        have s3 : Same H1 (L2.upd (L2.upd H1 b (.lst xs.dropLast)) u (.tup [.bl (decide (V.non = V.non)), .ref b])) := (Same.one hb).upd hu
        have hbn : H b = none := by
          cases e : H b with
          | none => rfl
          | some o =>
            by_cases hbm : b ∈ [a, t]
            · rcases List.mem_cons.mp hbm with q | q
              · rw [q] at hb
                obtain ⟨⟨d1, o1, h1, _⟩, _⟩ := hW1
                rw [h1] at hb
                cases hb
              · rw [List.mem_singleton.mp q] at hb
                obtain ⟨ys1, h1⟩ := hT
                rw [h1] at hb
                cases hb
            · rw [kk _ _ hbm e] at hb
              cases hb
        refine hQ _ u b t' (kk.trans (Keep.of s3)) (hT.imp fun _ q => s3 _ _ q) (ht.imp id (none_back sA)) (.inr ⟨hbn, ?_⟩) (hW1.same s3) ⟨xs.dropLast, (upd_ne (ne_of_none upd_same hu)).trans upd_same, (Paired.mapP (paired_dropLast (hL.keep kk nt)) fun v q z => z.same s3)⟩ upd_same
        obtain ⟨_, ⟨x1, h1, _⟩⟩ := hW1
        exact (ne_of_none h1 hb).symm
    · have hway' : way = 1 ∨ (way = 2 ∧ M.length = 1) := hway.resolve_left hw0
      have hd0 : decide (V.int way = V.int 0) = false := decide_eq_false fun q => hw0 (by injection q)
      have hact := act_run (sh := sh) (z := z) (L := L) hway'
      refine ⟨_, rfl, rfl, _, rfl, iteN hd0 (iteF ⟨_, rfl, rfl, _, rfl, iteN hd0 ?_⟩)⟩
      refine ⟨_, rfl, l, xs, rfl, .inl (SqL.of hxs), fun b hb => ?_⟩
      have sb : Same H (L2.upd H b (.lst xs)) := Same.one hb
      have hml := Paired.length hM
      refine ⟨_, rfl, m, rfl, ⟨_, SqL.of (sb _ _ hys)⟩, for_list (K := K) (xs := ys) (fun i σ H' => Same H H' ∧ ∃ (d7 : V) (zs : List V) (v8 v9 : Option V), H' b = some (.lst zs) ∧
          ((d7 = .non ∧ runL sh z (L ++ M.take i) (M.drop i) = runL sh z L M ∧ Good z (L ++ M.take i) ∧ AreLk H' zs (L ++ M.take i)) ∨ ∃ e, runL sh z L M = some e ∧ DueR H' (some e) d7) ∧
          σ = [some (.ref a), some (.ref l), some x, some (.int way), some (.ref m), some (.int z), some (.ref b), some d7, v8, v9, none, none])
        ⟨sb, .non, xs, none, none, upd_same, .inl ⟨rfl, by rw [List.take_zero, List.append_nil, List.drop_zero], by rw [List.take_zero, List.append_nil]; exact hg, by rw [List.take_zero, List.append_nil]; exact hL.same sb⟩, rfl⟩ (fun i σ H' _ h => SqL.of (h.1 _ _ hys)) ?_ ?_⟩
      · rintro i v σ H1 hi ⟨s1, d7, zs, v8, v9, hb1, hcase, rfl⟩
        obtain ⟨y, hy, u, p, rfl, hu, hp⟩ := paired_get (hM.same s1) hi
        have hilt := (List.getElem?_eq_some_iff.mp hy).1
        refine ⟨u, _, rfl, SqT.of hu, rfl, _, _, rfl, _, _, rfl, rfl, ?_⟩
        rcases hcase with ⟨rfl, hrun, hgi, hzs⟩ | ⟨e, hrun, hd⟩
        · refine ⟨_, rfl, rfl, _, rfl, iteP (by decide) ?_⟩
          have hd2 := runL_drop (sh := sh) (z := z) (L := L) hy
          rw [hrun] at hd2
          refine ⟨_, rfl, _, rfl, _, rfl, _, rfl, _, rfl, b, p, x, z, sh, L ++ M.take i, y.1, y.2, rfl, hz, ⟨zs, hb1, hzs⟩, hgi, hx.same s1, hsh, hp, fun H2 d s2 hdr => ?_⟩
          have eA := s1.trans s2
          have hb2 := s2 _ _ hb1
          refine ⟨_, rfl, .inl ⟨rfl, _, SqL.of hb2⟩, _, rfl, _, rfl, line1000 (by show 2 ≤ 1000; decide), fun w hw => ⟨b, zs, _, rfl, rfl, (upd_ne (ne_of_none hb2 hw)).trans hb2, ?_, (eA.upd hw).updN hb, ?_⟩⟩
          · have q1 := Paired.length hzs
            rw [List.length_append, List.length_take] at q1
            exact small1000 (by omega)
          · have s3 : Same H2 (L2.upd H2 w (.tup [.ref p, .str y.2.s])) := Same.one hw
            have hb3 := s3 _ _ hb2
            cases hdu : due sh z (L ++ M.take i) y.1 y.2 with
            | none =>
              rw [hdu] at hd2 hdr
              have ed : d = .non := hdr
              subst ed
              have e1 : L ++ M.take (i + 1) = (L ++ M.take i) ++ [y] := by
                rw [List.take_add_one, hy, List.append_assoc]
                rfl
              refine ⟨.non, _, _, _, upd_same, .inl ⟨rfl, hd2.symm, ?_, ?_⟩, rfl⟩
              · rw [e1]
                refine hgi.snoc (due_len hdu) ?_
                rw [List.length_append, List.length_take]
                omega
              · rw [e1]
                exact paired_app (Paired.mapP (hzs.same (s2.trans s3)) fun v q z => z.upd hb3) (.cons ⟨w, p, rfl, tup_upd upd_same hb3 tup_lst, tup_upd (s3 _ _ (s2 _ _ hp)) hb3 tup_lst⟩ .nil)
            | some e =>
              rw [hdu] at hd2 hdr
              refine ⟨d, _, _, _, upd_same, .inr ⟨e, hd2, DueR.keep (M := [b]) (hdr.same s3) (Keep.upd Keep.refl (by simp)) fun m hm ys q => ?_⟩, rfl⟩
              rw [List.mem_singleton.mp hm, hb3] at q
              cases q
        · obtain ⟨u2, v2, rfl, q2, q3⟩ := id hd
          exact ⟨_, rfl, rfl, _, rfl, iteF ⟨s1, _, _, _, _, hb1, .inr ⟨e, hrun, hd⟩, rfl⟩⟩
      · rintro σ H1 ⟨s1, d7, zs, v8, v9, hb1, hcase, rfl⟩
        have hd7 : DueR H1 (runL sh z L M) d7 := by
          rcases hcase with ⟨rfl, hrun, _⟩ | ⟨e, hrun, hd⟩
          · rw [hml, List.drop_length] at hrun
            rw [← hrun]
            rfl
          · rw [hrun]
            exact hd
        refine ⟨_, rfl, m, ys, rfl, .inl (SqL.of (s1 _ _ hys)), fun c hc => ?_⟩
        have sc : Same H1 (L2.upd H1 c (.lst ys)) := Same.one hc
        have sA := s1.trans sc
        have hW2 := hW.same sA
        have hcn : H c = none := none_back s1 hc
        have hct : c ≠ t := (ne_of_none hxs0 hcn).symm
        have hca : c ≠ a := (ne_of_none ha hcn).symm
        have hlc : l ≠ c := ne_of_none hxs hcn
        have hbc : b ≠ c := ne_of_none hb1 hc
        have hmc : m ≠ c := ne_of_none hys hcn
        have hba : b ≠ a := (ne_of_none ha hb).symm
        have hbt : b ≠ t := (ne_of_none hxs0 hb).symm
        refine ⟨_, rfl, _, rfl, _, rfl, a, t, c, way, z, L, M, rfl, hz, hW2, hg, hsh, ?_, fun H3 y t' k3 hT ht hW3 hy => ?_⟩
        · rcases hway' with rfl | ⟨rfl, h1⟩
          · exact .inr (.inl ⟨rfl, ⟨ys, upd_same, hM.same sA⟩, hct, hn⟩)
          · exact .inr (.inr ⟨rfl, ⟨ys, upd_same, hM.same sA⟩, (fun q => by rw [q] at h1; cases h1), by omega⟩)
        have nt2 := hW2.nt
        have hd3 : DueR H3 (runL sh z L M) d7 := (hd7.same sc).keep k3 nt2
        have hy3 : DueR H3 (runL sh z L M) y := by
          have : (act sh z L way M).1 = runL sh z L M := by
            rw [hact]
            cases runL sh z L M <;> rfl
          rw [← this]
          exact hy
        have hc3 : H3 c = some (.lst ys) := k3 _ _ (by simp [hct, hca]) upd_same
        have hMc : LksAt H3 c M := ⟨ys, hc3, (hM.same sA).keep k3 nt2⟩
        have hMm : LksAt H3 m M := (hm.same sA).keep k3 hmM nt2
        refine ⟨_, rfl, erD (runL sh z L M), erD (runL sh z L M), hy3.dp, hd3.dp, erD_sh _, erD_sh _, _, rfl, ?_⟩
        rw [erD_eqv]
        refine iteT ⟨_, rfl, _, rfl, lksD M, lksD M, hMc.dp, hMm.dp, lksD_sh _, lksD_sh _, ?_⟩
        rw [lksD_eqv, decide_eq_true rfl]
        refine ⟨_, rfl, .inl ⟨rfl, _, SqL.of hc3⟩, line1000 (by show 1 ≤ 1000; decide), fun w1 hw1 => ⟨line1000 (by show 2 ≤ 1000; decide), fun w2 hw2 => ?_⟩⟩
        have s4 : Same H3 (L2.upd (L2.upd H3 w1 (.tup [.str "spoiled"])) w2 (.tup [.ref w1, .str "later"])) := (Same.one hw1).upd hw2
        refine ⟨c, ys, _, rfl, rfl, s4 _ _ hc3, ?_, ?_⟩
        · have := Paired.length hM
          exact small1000 (by omega)
        have k4 : Keep [c] H3 (L2.upd (L2.upd (L2.upd H3 w1 (.tup [.str "spoiled"])) w2 (.tup [.ref w1, .str "later"])) c (.lst (ys ++ [.ref w2]))) := Keep.upd (Keep.of s4) (by simp)
        have k5 : Keep [a, t] H (L2.upd (L2.upd (L2.upd H3 w1 (.tup [.str "spoiled"])) w2 (.tup [.ref w1, .str "later"])) c (.lst (ys ++ [.ref w2]))) := Keep.updN (((Keep.of sA).trans k3).trans (Keep.of s4)) hcn
        obtain ⟨H4, e4⟩ : ∃ H4, H4 = L2.upd (L2.upd (L2.upd H3 w1 (.tup [.str "spoiled"])) w2 (.tup [.ref w1, .str "later"])) c (.lst (ys ++ [.ref w2])) := ⟨_, rfl⟩
        rw [← e4] at k4 k5 ⊢
        have nc3 : ∀ m ∈ [c], ∀ ys, H3 m ≠ some (.tup ys) := fun m hm ys q => by
          rw [List.mem_singleton.mp hm, hc3] at q
          cases q
        have htc : t' ≠ c := by
          rcases ht with rfl | ht
          · exact hct.symm
          · exact (ne_of_none upd_same ht).symm
        have hac : a ∉ [c] := by simpa using hca.symm
        have hW4 := hW3.keep k4 hac (by simpa using htc) nc3
        have hT4 : ∃ ys, H4 t = some (.lst ys) := hT.imp fun _ q => k4 _ _ (by simpa using hct.symm) q
        have ht' : t' = t ∨ H t' = none := ht.imp id (none_back sA)
        rcases hcase with ⟨rfl, hrun, hgi, hzs⟩ | ⟨e, hrun, hd⟩
        · rw [hml, List.drop_length] at hrun
          have hrn : runL sh z L M = none := hrun.symm
          rw [hml, List.take_length] at hzs
          rw [hact, hrn] at hQ hW4
          have hb4 : LksAt H4 b (L ++ M) := LksAt.keep (LksAt.keep ⟨zs, sc _ _ hb1, hzs.same sc⟩ k3 (by simp [hba, hbt]) nt2) k4 (by simpa using hbc) nc3
          refine ⟨_, rfl, _, rfl, rfl, _, rfl, iteN (by decide) ⟨_, rfl, line1000 (by show 2 ≤ 1000; decide), fun u hu => ?_⟩⟩
          have s5 := Same.one (o := .tup [.bl true, .ref b]) hu
          refine hQ _ u b t' (k5.trans (Keep.of s5)) (hT4.imp fun _ q => s5 _ _ q) ht' (.inr ⟨hb, ?_⟩) (hW4.same s5) (hb4.same s5) upd_same
          rcases ht with rfl | ht
          · exact hbt
          · exact ne_of_none (sc _ _ hb1) ht
        · rw [hact, hrun] at hQ hW4
          have hl4 : LksAt H4 l L := LksAt.keep (LksAt.keep (hl.same sA) k3 hlM nt2) k4 (by simpa using hlc) nc3
          obtain ⟨u2, v2, rfl, q2, q3⟩ := id hd
          refine ⟨_, rfl, _, rfl, rfl, _, rfl, iteT ⟨_, rfl, line1000 (by show 2 ≤ 1000; decide), fun u hu => ?_⟩⟩
          have s5 := Same.one (o := .tup [.bl true, .ref l]) hu
          exact hQ _ u l t' (k5.trans (Keep.of s5)) (hT4.imp fun _ q => s5 _ _ q) ht' (.inl rfl) (hW4.same s5) (hl4.same s5) upd_same
end
end K94
namespace K94
open PySem L2
abbrev sLLooks : Stmt := top 52
abbrev sIsSt : Stmt := top 51
section
variable {P : Program} {w : World} {K : PySem.W.Frag} {mg : Str → Option Value} {base : Heap} {cn : Str → Addr} {CI C : Addr}
theorem pool_ne {H : Hp} {p l : Addr} {L : List Lk} (hp : PoolAt H p) (hl : LksAt H l L) : l ≠ p := fun e => by
  obtain ⟨z, hz⟩ := hp
  obtain ⟨xs, h1, h2⟩ := hl
  rw [e, hz] at h1
  cases h1
  cases h2 with
  | cons h _ =>
    obtain ⟨t, u, q, _⟩ := h
    cases q
theorem pool_nt {H : Hp} {p : Addr} (hp : PoolAt H p) : ∀ m ∈ [p], ∀ ys, H m ≠ some (.tup ys) := fun m hm ys q => by
  obtain ⟨z, hz⟩ := hp
  rw [List.mem_singleton.mp hm, hz] at q
  cases q
theorem Keep.pool {H H1 : Hp} {p : Addr} {z : Int} (k : Keep [p] H H1) : Keep [p] H (L2.upd H1 p (.lst [.int z])) := Keep.upd k (by simp)
/-! ### _law_looks -/
def wd11 : List Wd := [.seen, .hidden, .seen, .hidden, .seen, .hidden, .seen, .hidden, .seen, .hidden, .none_]
theorem wd11_at {d : Int} (h0 : 0 ≤ d) (h1 : d < 11) : ∃ wd : Wd, (((List.replicate 5 ([.str "seen", .str "hidden"] : List V)).flatten ++ [.str "none"]) : List V)[d.toNat]? = some (.str wd.s) := by
  have hl : d.toNat < wd11.length := by
    show d.toNat < 11
    omega
  refine ⟨wd11[d.toNat], ?_⟩
  have e : (((List.replicate 5 ([.str "seen", .str "hidden"] : List V)).flatten ++ [.str "none"]) : List V) = wd11.map fun w => V.str w.s := rfl
  rw [e, List.getElem?_map, List.getElem?_eq_getElem hl]
  rfl
def spLLooks : Sp := fun vs H Q _ => ∃ (p : Addr) (z : Int), vs = [.ref p, .int z] ∧ Sz z ∧ PoolAt H p ∧ ∀ H' l M, Keep [p] H H' → PoolAt H' p → LksAt H' l M → 1 ≤ M.length → M.length ≤ 3 → H l = none → Q (.ref l) H'
abbrev nLLooks : List Str := ["_law_pool_here", "_law_size", "_law_some", "_law_turn", "_law_count", "_law_word", "_law_most"]
theorem scLLooks : FnScope nLLooks ["_law_pool_here", "_law_size"] (defScope sLLooks) := ⟨rfl, rfl, rfl, by decide +kernel, rfl, by decide +kernel, by decide +kernel⟩
theorem at_small {xs : List V} {d : Int} {v : V} (h0 : 0 ≤ d) (h : xs[d.toNat]? = some v) : atI xs d = some v := by
  have e : d = ((d.toNat : Nat) : Int) := by omega
  rw [e]
  exact at_of (j := d.toNat) rfl (by simpa using h)
theorem ints_at {ns : List Int} {d : Int} (h0 : 0 ≤ d) (h1 : d < ns.length) : ∃ n ∈ ns, (ns.map V.int)[d.toNat]? = some (.int n) := by
  have hl : d.toNat < ns.length := by omega
  exact ⟨ns[d.toNat], List.getElem_mem hl, by rw [List.getElem?_map, List.getElem?_eq_getElem hl]; rfl⟩
theorem pow300 {n : Nat} (h : n < 1024) : n < 2 ^ 300 := Nat.lt_of_lt_of_le h (show 2 ^ 10 ≤ 2 ^ 300 from Nat.pow_le_pow_right (by decide) (by decide))
theorem pow290 {n : Nat} (h : n < 1024) : n < 2 ^ 290 := Nat.lt_of_lt_of_le h (show 2 ^ 10 ≤ 2 ^ 290 from Nat.pow_le_pow_right (by decide) (by decide))
/-- a draw from the pool -/
theorem rd_take {σ : L2.St} {H : Hp} {i : Nat} {p : Addr} {m : Int} {Q : VK} (hi : σ[i]? = some (some (V.ref p))) (hp : PoolAt H p) (h : ∀ d H', 0 ≤ d → d < m → Keep [p] H H' → PoolAt H' p → Q (.int d) H') (hm : 0 < m := by decide) (hb : m.natAbs < 1024 := by decide) :
    tCall spTake [] E0 (tCons (tVar i) (tCons (tC (.int m)) tNil)) σ H Q := by
  obtain ⟨z, hz⟩ := hp
  exact ⟨_, hi, p, z, m, rfl, hz, hm, pow300 hb, fun d z' h0 h1 => h d _ h0 h1 (Keep.upd Keep.refl (by simp)) ⟨z', upd_same⟩⟩
/-- [.., ..][a draw] -/
theorem rd_pick {ns : List Int} {t : TA} {σ : L2.St} {H : Hp} {i : Nat} {p : Addr} {m : Int} {Q : VK} (hi : σ[i]? = some (some (V.ref p))) (hp : PoolAt H p) (ht : ∀ R : List V → Hp → Prop, R (ns.map V.int) H → t σ H R) (hn : ns.length ≤ 1000) (hm : m = ns.length) (hm0 : 0 < m) (hb : m.natAbs < 1024)
    (h : ∀ n H', n ∈ ns → Keep [p] H H' → PoolAt H' p → Q (.int n) H') : tOp (rIxL K) (tLst t) (tCall spTake [] E0 (tCons (tVar i) (tCons (tC (.int m)) tNil))) σ H Q := by
  refine ht _ ⟨line1000 (by rw [List.length_map]; exact hn), fun q hq => ?_⟩
  obtain ⟨z, hz⟩ := hp
  have npq : p ≠ q := ne_of_none hz hq
  refine rd_take hi ⟨z, (upd_ne npq).trans hz⟩ (fun d H' h0 h1 k hp' => ?_) hm0 hb
  obtain ⟨n, hn1, hn2⟩ := ints_at (ns := ns) h0 (by omega)
  exact ⟨q, ns.map V.int, d, .int n, rfl, rfl, SqL.of (k _ _ (by simpa using npq.symm) upd_same), at_small h0 hn2, h n H' hn1 ((Keep.of (Same.one hq)).trans k) hp'⟩
theorem ok_llooks {f : Addr} {fd : FuncData} (F : Fun K "_law_looks" "_law_looks" sLLooks f fd) (mR : mg "range" = none) (GT : GF P w K mg base CX0 3 "_law_take" ["_law_pool_here", "_law_parts"] spTake)
    (GN : GF P w K mg base CX0 5 "_law_near" ["_law_pool_here", "_law_many", "_law_most"] spNear) : FnOk P w K mg base CX0 7 f fd ["_law_pool_here", "_law_size"] spLLooks := by
  refine F.ok scLLooks (fun vs H Q E h => ?_) (fun cdv A outer s H vs Q E hr h => ?_)
  · obtain ⟨p, z, rfl, _⟩ := h
    rfl
  · obtain ⟨p, z, rfl, hz, hp, hQ⟩ := h
    refine ⟨_, pss_cons (ps_set (i := 2) scLLooks.nd rfl (Or.inl rfl) (pe_lst pa_nil))
      (pss_cons (ps_for PassesOwn.never rfl (pi_range1 (by rfl) mR (pa_cons (pe_ix ix_list (pe_lst (pa_cons pe_int (pa_cons pe_int (pa_cons pe_int (pa_cons pe_int pa_nil))))) (pe_g GT (hr.mono (by decide)) rfl pass0 (pa_cons (pv 0) (pa_cons pe_int pa_nil))) (fun _ _ => rfl)) pa_nil)) (pg_name (i := 3) scLLooks.nd rfl (Or.inl rfl))
        (pss_cons (ps_set (i := 4) scLLooks.nd rfl (Or.inl rfl) (pv 1))
        (pss_cons (ps_if (pt_cmpR op_eq (pe_g GT (hr.mono (by decide)) rfl pass0 (pa_cons (pv 0) (pa_cons pe_int pa_nil))) pe_int (nomark _)) (pss_one (ps_set (i := 4) scLLooks.nd rfl (Or.inl rfl) (pe_op op_sub pe_int (pv 1)))) pss_nil)
        (pss_cons (ps_set (i := 5) scLLooks.nd rfl (Or.inl rfl) (pe_ix ix_list (pe_op op_cat (pe_op op_rep (pe_lst (pa_cons pe_str (pa_cons pe_str pa_nil))) pe_int) (pe_lst (pa_cons pe_str pa_nil))) (pe_g GT (hr.mono (by decide)) rfl pass0 (pa_cons (pv 0) (pa_cons pe_int pa_nil))) (fun _ _ => rfl)))
        (pss_cons (ps_set (i := 6) scLLooks.nd rfl (Or.inl rfl) (pe_ix ix_list (pe_lst (pa_cons pe_int (pa_cons pe_int (pa_cons pe_int pa_nil)))) (pe_g GT (hr.mono (by decide)) rfl pass0 (pa_cons (pv 0) (pa_cons pe_int pa_nil))) (fun _ _ => rfl)))
        (pss_one (ps_expr (pe_bm PySem.F.plainAttrs_list PySem.F.slot_list_append PySem.F.type_list_append mt_append (pv 2) (pa_cons (pe_tup (pa_cons (pe_g GN (hr.mono (by decide)) rfl pass0 (pa_cons (pv 0) (pa_cons (pv 4) (pa_cons (pv 6) pa_nil)))) (pa_cons (pv 5) pa_nil))) pa_nil)))))))))
      (pss_one (ps_ret (pv 2)))), ?_⟩
    refine ⟨line1000 (by show 0 ≤ 1000; decide), fun D hD => ?_⟩
    have hpD : p ≠ D := by
      obtain ⟨z0, hz0⟩ := hp
      exact ne_of_none hz0 hD
    have hp1 : PoolAt (L2.upd H D (.lst [])) p := by
      obtain ⟨z0, hz0⟩ := hp
      exact ⟨z0, (upd_ne hpD).trans hz0⟩
    have sD : Same H (L2.upd H D (.lst [])) := Same.one hD
    show tOp (rIxL K) (tLst (tCons (tC (.int 1)) (tCons (tC (.int 1)) (tCons (tC (.int 2)) (tCons (tC (.int 3)) tNil))))) (tCall spTake [] E0 (tCons (tVar 0) (tCons (tC (.int 4)) tNil))) _ _ _
    refine rd_pick (K := K) (ns := [1, 1, 2, 3]) (i := 0) (m := 4) (by rfl) hp1 (by exact fun _ h => h) (by decide) (by rfl) (by decide) (by decide) fun j H1 hj k1 hp2 => ?_
    have hj3 : 1 ≤ j ∧ j ≤ 3 := by
      simp at hj
      omega
    have hDn : D ∉ [p] := by simpa using hpD.symm
    refine ⟨j, rfl, by omega, by omega, for_range (lo := 0) (n := j.toNat) (fun i σ H' => Keep [p] H H' ∧ PoolAt H' p ∧ (∃ zs M, H' D = some (.lst zs) ∧ AreLk H' zs M ∧ M.length = i) ∧ ∃ v3 v4 v5 v6 : Option V, σ = [some (.ref p), some (.int z), some (.ref D), v3, v4, v5, v6])
      ⟨(Keep.of sD).trans k1, hp2, ⟨[], [], k1 _ _ hDn upd_same, .nil, rfl⟩, none, none, none, none, rfl⟩ ?_ ?_⟩
    · rintro i σ H2 hi ⟨k2, hp3, ⟨zs, M, hzs, hM, hl⟩, v3, v4, v5, v6, rfl⟩
      refine ⟨_, rfl, rd_take (i := 0) (m := 11) (by rfl) hp3 fun d H3 h0 h1 k3 hp4 => ⟨rfl, _, rfl, ?_⟩⟩
      have key : ∀ (n : Nat) (H4 : Hp), n ≤ 10 → Keep [p] H2 H4 → PoolAt H4 p → ∀ v4' : Option V, v4' = some (.int (n : Nat)) → tSeq (tAsg (tOp (rIxL K) (tOp rCat (tOp rRep (tLst (tCons (tC (.str "seen")) (tCons (tC (.str "hidden")) tNil))) (tC (.int 5))) (tLst (tCons (tC (.str "none")) tNil))) (tCall spTake [] E0 (tCons (tVar 0) (tCons (tC (.int 11)) tNil)))) (gName 5))
          (tSeq (tAsg (tOp (rIxL K) (tLst (tCons (tC (.int 1)) (tCons (tC (.int 1)) (tCons (tC (.int 40)) tNil)))) (tCall spTake [] E0 (tCons (tVar 0) (tCons (tC (.int 3)) tNil)))) (gName 6))
            (tDrop (tBM K "list" rAppend (tVar 2) (tCons (tTup (tCons (tCall spNear [] E0 (tCons (tVar 0) (tCons (tVar 4) (tCons (tVar 6) tNil)))) (tCons (tVar 5) tNil))) tNil))))
          { nx := fun σ H' => Keep [p] H H' ∧ PoolAt H' p ∧ (∃ zs M, H' D = some (.lst zs) ∧ AreLk H' zs M ∧ M.length = i + 1) ∧ ∃ v3 v4 v5 v6 : Option V, σ = [some (.ref p), some (.int z), some (.ref D), v3, v4, v5, v6], rt := Q } [some (.ref p), some (.int z), some (.ref D), some (.int (0 + (i : Nat))), v4', v5, v6] H4 := by
        rintro n H4 hn k4 hp5 v4' rfl
        refine ⟨line1000 (by show 2 ≤ 1000; decide), fun q1 hq1 => ⟨q1, 5, _, rfl, rfl, upd_same, by decide, by decide, line1000 (by decide), fun q2 hq2 => ⟨line1000 (by show 1 ≤ 1000; decide), fun q3 hq3 => ⟨q2, q3, _, _, rfl, rfl, (upd_ne (ne_of_none upd_same hq3)).trans upd_same, upd_same, line1000 (by decide), fun q4 hq4 => ?_⟩⟩⟩⟩
        obtain ⟨H5, e5⟩ : ∃ H5, H5 = L2.upd (L2.upd (L2.upd (L2.upd H4 q1 (.lst [.str "seen", .str "hidden"])) q2 (.lst (List.replicate (5 : Int).toNat ([.str "seen", .str "hidden"] : List V)).flatten)) q3 (.lst [.str "none"])) q4 (.lst ((List.replicate (5 : Int).toNat ([.str "seen", .str "hidden"] : List V)).flatten ++ [.str "none"])) := ⟨_, rfl⟩
        have s5 : Same H4 H5 := by
          rw [e5]
          exact (((Same.one hq1).upd hq2).upd hq3).upd hq4
        have h5 : H5 q4 = some (.lst ((List.replicate (5 : Int).toNat ([.str "seen", .str "hidden"] : List V)).flatten ++ [.str "none"])) := by
          rw [e5]
          exact upd_same
        rw [← e5]
        have hp6 : PoolAt H5 p := hp5.imp fun _ q => s5 _ _ q
        have npq : q4 ∉ [p] := fun m => by
          rw [List.mem_singleton.mp m] at h5
          obtain ⟨z1, hz1⟩ := hp6
          rw [hz1] at h5
          cases h5
        refine rd_take (i := 0) (m := 11) (by rfl) hp6 fun d6 H6 h60 h61 k6 hp7 => ?_
        obtain ⟨wd, hwd⟩ := wd11_at h60 h61
        refine ⟨q4, _, d6, .str wd.s, rfl, rfl, SqL.of (k6 _ _ npq h5), at_small h60 hwd, ?_⟩
        show tOp (rIxL K) (tLst (tCons (tC (.int 1)) (tCons (tC (.int 1)) (tCons (tC (.int 40)) tNil)))) (tCall spTake [] E0 (tCons (tVar 0) (tCons (tC (.int 3)) tNil))) _ _ _
        refine rd_pick (K := K) (ns := [1, 1, 40]) (i := 0) (m := 3) (by rfl) hp7 (by exact fun _ h => h) (by decide) (by rfl) (by decide) (by decide) fun mo H7 hmo k7 hp8 => ?_
        have hmo2 : 1 ≤ mo ∧ mo ≤ 40 := by
          simp at hmo
          omega
        have kA : Keep [p] H2 H7 := ((k4.trans (Keep.of s5)).trans k6).trans k7
        refine ⟨_, rfl, .inl ⟨rfl, _, SqL.of (kA _ _ hDn hzs)⟩, ?_⟩
        refine ⟨_, rfl, _, rfl, _, rfl, p, n, mo, rfl, hp8, hn, by omega, pow290 (show mo.natAbs < 1024 by omega), fun H8 v ns k8 hp9 hv hnl _ => ?_⟩
        obtain ⟨tp, rfl, htp⟩ := hv
        have kB := kA.trans k8
        have hzs8 := kB _ _ hDn hzs
        refine ⟨_, rfl, line1000 (by show 2 ≤ 1000; decide), fun u hu => ⟨D, zs, _, rfl, rfl, (upd_ne (ne_of_none hzs8 hu)).trans hzs8, ?_, ?_⟩⟩
        · have := Paired.length hM
          exact small1000 (by omega)
        have s9 : Same H8 (L2.upd H8 u (.tup [.ref tp, .str wd.s])) := Same.one hu
        have hD9 := s9 _ _ hzs8
        have npt := pool_nt hp3
        refine ⟨Keep.updN (k2.trans (kB.trans (Keep.of s9))) hD, ?_, ⟨_, M ++ [(ns, wd)], upd_same, paired_app (Paired.mapP (hM.keep kB npt) fun v q z => (z.same s9).upd hD9) (.cons ⟨u, tp, rfl, tup_upd upd_same hD9 tup_lst, tup_upd (s9 _ _ htp) hD9 tup_lst⟩ .nil), by rw [List.length_append, hl]; rfl⟩, _, _, _, _, rfl⟩
        obtain ⟨z9, hz9⟩ := hp9
        exact ⟨z9, (upd_ne hpD).trans (s9 _ _ hz9)⟩
      refine ite2 (fun hc => ?_) (fun hc => ?_)
      · refine ⟨_, rfl, _, _, rfl, rfl, ?_⟩
        have e : (5 : Int) - z = (((5 - z).toNat : Nat) : Int) := by
          rcases hz with rfl | rfl <;> rfl
        exact key (5 - z).toNat H3 (by rcases hz with rfl | rfl <;> decide) k3 hp4 _ (congrArg (fun x => some (V.int x)) e)
      · have e : z = ((z.toNat : Nat) : Int) := by
          rcases hz with rfl | rfl <;> rfl
        exact key z.toNat H3 (by rcases hz with rfl | rfl <;> decide) k3 hp4 _ (congrArg (fun x => some (V.int x)) e)
    · rintro σ H2 ⟨k2, hp3, ⟨zs, M, hzs, hM, hl⟩, v3, v4, v5, v6, rfl⟩
      exact ⟨_, rfl, hQ H2 D M k2 hp3 ⟨zs, hzs, hM⟩ (by omega) (by omega) hD⟩
end
end K94
namespace K94
open PySem L2
/-! ### what holds of a window's looks at each turn -/
structure Vld (sh : Option Pl) (z : Int) (L : List Lk) : Prop where
  good : Good z L
  few : L.length ≤ 30
  nd : (L.map Prod.fst).Nodup
  wd : ∀ x ∈ L, x.2 ≠ .none_
  gc : ∀ s, sh = some s → ∀ x ∈ L, x.2 = .seen → gcdL (plusL x.1 s) = 1
  nb : wbar z (withW L .seen) = none
theorem find_nodup {L : List Lk} (h : (L.map Prod.fst).Nodup) {x : Lk} (hx : x ∈ L) : L.find? (fun y => decide (y.1 = x.1)) = some x := by
  induction L with
  | nil => cases hx
  | cons y L ih =>
    rw [List.map_cons, List.nodup_cons] at h
    rw [List.find?_cons]
    rcases List.mem_cons.mp hx with e | hx
    · rw [e, decide_eq_true rfl]
    · have : y.1 ≠ x.1 := fun e => h.1 (e ▸ List.mem_map.mpr ⟨x, hx, rfl⟩)
      rw [decide_eq_false this]
      exact ih h.2 hx
theorem stat_eq {sh : Option Pl} {z : Int} {L : List Lk} {q : Pl} (hz : Sz z) (v : Vld sh z L) (hq : (q.length : Int) = z) : statP z (withW L .seen) (withW L .hidden) q = lawStat z L q := by
  unfold statP lawStat
  have inW : ∀ wd, (q ∈ withW L wd ↔ ∃ x ∈ L, x.1 = q ∧ x.2 = wd) := fun wd => ⟨mem_withW, fun h => by
    obtain ⟨x, hx, e1, e2⟩ := h
    exact List.mem_map.mpr ⟨x, List.mem_filter.mpr ⟨hx, decide_eq_true e2⟩, e1⟩⟩
  cases hf : L.find? (fun x => decide (x.1 = q)) with
  | some x =>
    have hx := List.mem_of_find?_eq_some hf
    have hxq : x.1 = q := by
      have h0 := List.find?_some (p := fun x : Lk => decide (x.1 = q)) hf
      exact of_decide_eq_true h0
    subst hxq
    cases hw : x.2 with
    | seen =>
      rw [if_pos ((inW .seen).mpr ⟨x, hx, rfl, hw⟩)]
      show _ = x.2.s
      rw [hw]
      rfl
    | hidden =>
      have n1 : x.1 ∉ withW L .seen := fun m => by
        obtain ⟨y, hy, e1, e2⟩ := (inW .seen).mp m
        have := find_nodup v.nd hy
        rw [e1] at this
        rw [this] at hf
        have : y = x := Option.some.inj hf
        rw [this, hw] at e2
        cases e2
      rw [if_neg n1, if_pos (List.mem_append_right _ ((inW .hidden).mpr ⟨x, hx, rfl, hw⟩))]
      show _ = x.2.s
      rw [hw]
      rfl
    | none_ => exact absurd hw (v.wd x hx)
  | none =>
    have no : ∀ x ∈ L, x.1 ≠ q := fun x hx e => by
      have := List.find?_eq_none.mp hf x hx
      exact this (decide_eq_true e)
    have n1 : ∀ wd, q ∉ withW L wd := fun wd m => by
      obtain ⟨y, hy, e1, _⟩ := (inW wd).mp m
      exact no y hy e1
    rw [if_neg (n1 .seen), if_neg fun m => (List.mem_append.mp m).elim (n1 _) (n1 _)]
    have e1 := lone_wbar (qs := srt (withW L .seen)) hz (by rw [srt_len]; exact Nat.le_trans (withW_len L .seen) v.few) hq (by rw [wbar_congr fun q => srt_mem]; exact v.nb)
    have e2 : wbar z (srt (withW L .seen) ++ [q]) = wbar z (withW L .seen ++ [q]) := wbar_congr fun y => by
      rw [List.mem_append, List.mem_append, srt_mem]
    rw [e1, e2]
abbrev nIsSt : List Str := ["_law_pool_here", "_law_window", "_law_looks_here", "_law_size", "_law_first", "_law_place", "_law_turn", "_law_which", "_law_seen", "_law_hidden", "_law_one", "_law_word"]
theorem scIsSt : FnScope nIsSt ["_law_pool_here", "_law_window", "_law_looks_here", "_law_size"] (defScope sIsSt) := ⟨rfl, rfl, rfl, by decide +kernel, rfl, by decide +kernel, by decide +kernel⟩
theorem pass0A {X : Cx} : ∀ σ : L2.St, PassesAt CX0 X σ E0 := fun _ _ _ _ _ _ _ h => False.elim h
/-- a test that is asked at one turn alone -/
theorem and_test {i : Nat} {w k : Int} {u : TT} {σ : L2.St} {H : Hp} {Q : Bool → Hp → Prop} (hi : σ[i]? = some (some (V.int w))) (hu : ∀ Q' : Bool → Hp → Prop, (∀ H', Same H H' → Q' false H') → u σ H Q') (h : ∀ H', Same H H' → Q false H') :
    tAnd (tTest (tOp rEq (tVar i) (tC (.int k)))) u σ H Q := by
  refine ⟨_, hi, rfl, _, rfl, ite2 (fun _ => hu Q h) fun _ => h H (Same.refl H)⟩
section
variable {P : Program} {w : World} {K : PySem.W.Frag} {mg : Str → Option Value} {base : Heap} {cn : Str → Addr} {CI C : Addr}
def spIsSt (C : Addr) (sh : Option Pl) : Sp := fun vs H Q _ => ∃ (p a t l : Addr) (z : Int) (L : List Lk), vs = [.ref p, .ref a, .ref l, .int z] ∧ Sz z ∧ PoolAt H p ∧ Win C sh z H a t L ∧ LksAt H l L ∧ Vld sh z L ∧ ∀ H', Keep [p] H H' → PoolAt H' p → Q (.bl true) H'
theorem ok_isst {f : Addr} {fd : FuncData} {sh : Option Pl} (F : Fun K "_law_is_state" "_law_is_state" sIsSt f fd) (mI : mg "int" = none) (mR : mg "range" = none) (mL : mg "len" = none) (mS : mg "sorted" = none) (WP : WinP P w K mg base cn CI C sh) (PP : PicP P w K mg base CI)
    (GT : GF P w K mg base CX0 3 "_law_take" ["_law_pool_here", "_law_parts"] spTake) (GN : GF P w K mg base CX0 5 "_law_near" ["_law_pool_here", "_law_many", "_law_most"] spNear) (GS : GF P w K mg base CX0 7 "_law_status" ["_law_looks_here", "_law_place", "_law_size"] spLStat) :
    FnOk P w K mg base CX0 16 f fd ["_law_pool_here", "_law_window", "_law_looks_here", "_law_size"] (spIsSt C sh) := by
  refine F.ok scIsSt (fun vs H Q E h => ?_) (fun cdv A outer s H vs Q E hr h => ?_)
  · obtain ⟨p, a, t, l, z, L, rfl, _⟩ := h
    rfl
  · obtain ⟨p, a, t, l, z, L, rfl, hz, hp, hW, hl, hv, hQ⟩ := h
    have hb_sorted : bootBuiltins "sorted" = some (.builtin "sorted") := by decide +kernel
    refine ⟨_, pss_cons (ps_set (i := 4) scIsSt.nd rfl (Or.inl rfl) (pe_g GT (hr.mono (by decide)) rfl pass0 (pa_cons (pv 0) (pa_cons pe_int pa_nil))))
      (pss_cons (ps_set (i := 5) scIsSt.nd rfl (Or.inl rfl) (pe_g GN (hr.mono (by decide)) rfl pass0 (pa_cons (pv 0) (pa_cons (pv 3) (pa_cons (pe_ix ix_list (pe_lst (pa_cons pe_int (pa_cons pe_int pa_nil))) (pe_g GT (hr.mono (by decide)) rfl pass0 (pa_cons (pv 0) (pa_cons pe_int pa_nil))) (fun _ _ => rfl)) pa_nil)))))
      (pss_cons (ps_for PassesOwn.never rfl (pi_range1 (by rfl) mR (pa_cons pe_int pa_nil)) (pg_name (i := 6) scIsSt.nd rfl (Or.inl rfl))
        (pss_cons (ps_set (i := 7) scIsSt.nd rfl (Or.inl rfl) (pe_op op_mod (pe_callTy call_int1 (by rfl) mI (by decide +kernel) (pa_cons (pe_op op_add (pv 4) (pv 6)) pa_nil)) pe_int))
        (pss_cons (ps_if (PW.pt (pw_and (pt_cmpR op_eq (pv 7) pe_int (nomark _)) (pw_and1 (pt_cmpR op_ne (pe_callB (call_lenO WP.len (hr.mono (by decide)) pass0) (by rfl) mL PySem.boot_len (pa_cons (pv 1) pa_nil)) (pe_callB call_len_seq (by rfl) mL PySem.boot_len (pa_cons (pv 2) pa_nil)) (nomark _))))) (pss_one (ps_ret pe_bl)) pss_nil)
        (pss_cons (ps_if (PW.pt (pw_and (pt_cmpR op_eq (pv 7) pe_int (nomark _)) (pw_and1 (pt_cmpR (op_neD hr.units) (pe_pr (pv 1) WP.looks (hr.mono (by decide))) (pv 2) (nomark _))))) (pss_one (ps_ret pe_bl)) pss_nil)
        (pss_cons (ps_setLc (i := 8) (own := [("_law_one", 10), ("_law_word", 11)]) (g := gTup K 2 (gCons (gName 10) (gCons (gName 11) gNil))) (tt := tTest (tOp rEq (tVar 11) (tC (.str "seen")))) (te := tVar 10) rfl scIsSt.nd rfl rfl (by rfl) (pi_list (pv 2)) (blkOk_by (N := nIsSt) (sc := defScope sIsSt) (by decide +kernel))
            (fun _ _ _ _ _ => pg_tup rfl (pgs_cons (pg_name (i := 10) scIsSt.nd rfl (Or.inl rfl)) (pgs_cons (pg_name (i := 11) scIsSt.nd rfl (Or.inl rfl)) pgs_nil))) (fun _ _ _ _ _ => pts_one (pt_cmpR op_eq (pv 11) pe_str (nomark _))) (fun _ _ _ _ _ => pv 10))
        (pss_cons (ps_setLc (i := 9) (own := [("_law_one", 10), ("_law_word", 11)]) (g := gTup K 2 (gCons (gName 10) (gCons (gName 11) gNil))) (tt := tTest (tOp rEq (tVar 11) (tC (.str "hidden")))) (te := tVar 10) rfl scIsSt.nd rfl rfl (by rfl) (pi_list (pv 2)) (blkOk_by (N := nIsSt) (sc := defScope sIsSt) (by decide +kernel))
            (fun _ _ _ _ _ => pg_tup rfl (pgs_cons (pg_name (i := 10) scIsSt.nd rfl (Or.inl rfl)) (pgs_cons (pg_name (i := 11) scIsSt.nd rfl (Or.inl rfl)) pgs_nil))) (fun _ _ _ _ _ => pts_one (pt_cmpR op_eq (pv 11) pe_str (nomark _))) (fun _ _ _ _ _ => pv 10))
        (pss_cons (ps_if (PW.pt (pw_and (pt_cmpR op_eq (pv 7) pe_int (nomark _)) (pw_and1 (pt_cmpR (op_neD hr.units) (pe_pr (pe_pr (pv 1) WP.pic (hr.mono (by decide))) PP.seen (hr.mono (by decide))) (pe_callB (call_sorted (hu10 hr)) (by rfl) mS hb_sorted (pa_cons (pv 8) pa_nil)) (nomark _))))) (pss_one (ps_ret pe_bl)) pss_nil)
        (pss_cons (ps_if (PW.pt (pw_and (pt_cmpR op_eq (pv 7) pe_int (nomark _)) (pw_and1 (pt_cmpR (op_neD hr.units) (pe_pr (pe_pr (pv 1) WP.pic (hr.mono (by decide))) PP.hid (hr.mono (by decide))) (pe_callB (call_sorted (hu10 hr)) (by rfl) mS hb_sorted (pa_cons (pv 9) pa_nil)) (nomark _))))) (pss_one (ps_ret pe_bl)) pss_nil)
        (pss_one (ps_if (PW.pt (pw_and (pt_cmpR op_eq (pv 7) pe_int (nomark _)) (pw_and1 (pt_cmpR op_ne (pe_mS (E := fun _ => E0) (pv 1) WP.wat (hr.mono (by decide)) pass0A (pa_cons (pv 5) pa_nil)) (pe_g GS (hr.mono (by decide)) rfl pass0 (pa_cons (pv 2) (pa_cons (pv 5) (pa_cons (pv 3) pa_nil)))) (nomark _))))) (pss_one (ps_ret pe_bl)) pss_nil))))))))))
      (pss_one (ps_ret pe_bl)))), ?_⟩
    obtain ⟨⟨dx, ot, ha, ho⟩, ⟨xs0, hxs0, hL0⟩⟩ := id hW
    have hap : a ∉ [p] := fun m => by
      obtain ⟨z0, hz0⟩ := hp
      rw [List.mem_singleton.mp m, hz0] at ha
      cases ha
    have htp : t ∉ [p] := by simpa using pool_ne hp hW.lks
    have hlp : l ∉ [p] := by simpa using pool_ne hp hl
    have npt := pool_nt hp
    have gn := hv.good.few
    refine rd_take (i := 0) (m := 4) (by rfl) hp fun d H1 h0 h1 k1 hp1 => ?_
    refine ⟨_, rfl, _, rfl, ?_⟩
    show tOp (rIxL K) (tLst (tCons (tC (.int 1)) (tCons (tC (.int 40)) tNil))) (tCall spTake [] E0 (tCons (tVar 0) (tCons (tC (.int 2)) tNil))) _ _ _
    refine rd_pick (K := K) (ns := [1, 40]) (i := 0) (m := 2) (by rfl) hp1 (by exact fun _ h => h) (by decide) (by rfl) (by decide) (by decide) fun mo H2 hmo k2 hp2 => ?_
    have hmo2 : 1 ≤ mo ∧ mo ≤ 40 := by
      simp at hmo
      omega
    have ez : z = ((z.toNat : Nat) : Int) := by
      rcases hz with rfl | rfl <;> rfl
    refine ⟨p, z.toNat, mo, congrArg (fun x => [V.ref p, V.int x, V.int mo]) ez, hp2, by rcases hz with rfl | rfl <;> decide, by omega, pow290 (show mo.natAbs < 1024 by omega), fun H3 v q k3 hp3 hv3 hql _ => ?_⟩
    obtain ⟨tp, rfl, htq⟩ := hv3
    have hq : (q.length : Int) = z := by omega
    have kA := (k1.trans k2).trans k3
    have hW3 := hW.keep kA hap htp npt
    have hl3 := hl.keep kA hlp npt
    refine ⟨4, rfl, by decide, by decide, for_range (lo := 0) (n := (4 : Int).toNat) (fun i σ H' => Same H3 H' ∧ ∃ v6 v7 v8 v9 : Option V, σ = [some (.ref p), some (.ref a), some (.ref l), some (.int z), some (.int d), some (.ref tp), v6, v7, v8, v9, none, none]) ⟨Same.refl H3, none, none, none, none, rfl⟩ ?_ ?_⟩
    · rintro i σ H4 hi ⟨s4, v6, v7, v8, v9, rfl⟩
      refine ⟨_, rfl, _, rfl, _, _, rfl, rfl, .inl ⟨_, rfl, _, _, rfl, rfl, (by show (0 : Int) < 4; decide), ?_⟩⟩
      have fin : ∀ {H' : Hp}, Same H3 H' → ∃ dx' ot', H' a = some (.ins C dx' (wfs z t ot')) := fun {H'} s' => by
        obtain ⟨⟨dx', ot', h1, _⟩, _⟩ := hW3.same s'
        exact ⟨dx', ot', h1⟩
      refine and_test (i := 7) (by rfl) (fun Q' hq' => ?_) (fun H5 s5 => iteF ?_)
      · obtain ⟨dx', ot', ha'⟩ := fin s4
        obtain ⟨xs, hxs, hL⟩ := hl3.same s4
        refine ⟨_, rfl, a, dx', _, rfl, ha', a, t, z, L, rfl, hW3.same s4, L.length, rfl, by omega, _, rfl, l, xs, rfl, .inl (SqL.of hxs), rfl, _, rfl, ?_⟩
        rw [Paired.length hL, decide_eq_true rfl]
        exact hq' _ (Same.refl _)
      have s45 := s4.trans s5
      refine and_test (i := 7) (by rfl) (fun Q' hq' => ?_) (fun H6 s6 => iteF ?_)
      · obtain ⟨dx', ot', ha'⟩ := fin s45
        refine ⟨_, rfl, a, dx', _, rfl, ha', a, t, z, L, rfl, hW3.same s45, fun H7 D s7 hD _ => ⟨_, rfl, lksD L, lksD L, hD.dp, (hl3.same (s45.trans s7)).dp, lksD_sh _, lksD_sh _, _, rfl, ?_⟩⟩
        rw [lksD_eqv, decide_eq_true rfl]
        exact hq' _ s7
      have s46 := s45.trans s6
      obtain ⟨xs, hxs, hL⟩ := hl3.same s46
      refine ⟨_, rfl, l, rfl, ⟨_, SqL.of hxs⟩, fun D8 hD8 => lcF (keep := fun w => decide (w = .seen)) hD8 hxs hL (by omega) (fun _ _ => rfl) (fun _ _ => rfl) (fun u wd H' Q' hq' => ?_) fun H7 ws8 s7 h8 p8 => ?_⟩
      · refine ⟨_, rfl, rfl, _, rfl, ?_⟩
        rw [show decide (V.str wd.s = V.str "seen") = decide (wd = .seen) from seen_test (x := .seen)]
        exact hq'
      refine ⟨_, rfl, l, rfl, ⟨_, SqL.of (s7 _ _ hxs)⟩, fun D9 hD9 => lcF (keep := fun w => decide (w = .hidden)) hD9 (s7 _ _ hxs) (hL.same s7) (by omega) (fun _ _ => rfl) (fun _ _ => rfl) (fun u wd H' Q' hq' => ?_) fun H8 ws9 s8 h9 p9 => ?_⟩
      · refine ⟨_, rfl, rfl, _, rfl, ?_⟩
        rw [show decide (V.str wd.s = V.str "hidden") = decide (wd = .hidden) from seen_test (x := .hidden)]
        exact hq'
      have s38 := (s46.trans s7).trans s8
      have h8' := s8 _ _ h8
      have p8' : ArePl H8 ws8 (withW L .seen) := p8.same s8
      have hz0 : 0 < z.toNat := by rcases hz with rfl | rfl <;> decide
      have lens : ∀ wd, ∀ q ∈ withW L wd, q.length = z.toNat := fun wd q hq => by
        have := hv.good.with_len wd q hq
        omega
      refine and_test (i := 7) (by rfl) (fun Q' hq' => ?_) (fun H9 s9 => iteF ?_)
      · obtain ⟨dx', ot', ha'⟩ := fin s38
        refine ⟨_, rfl, a, dx', _, rfl, ha', a, t, z, L, rfl, hz, hW3.same s38, hv.good, hv.nd, fun Ha c sa hP _ _ => ?_⟩
        obtain ⟨dxc, dc, c1, c2, nn, kvs, hc, _⟩ := id hP
        refine ⟨c, dxc, _, rfl, hc, c, z, _, _, rfl, hP, fun Hb lb sb hlb => ?_⟩
        obtain ⟨us, hus, hup⟩ := hlb
        have sab := sa.trans sb
        refine ⟨_, rfl, D8, ws8, withW L .seen, z.toNat, rfl, sab _ _ h8', p8'.same sab, lens _, hz0, fun pq wq hpq hwq => ?_⟩
        have sc := Same.one (o := .lst wq) hpq
        refine ⟨plsD (srt (withW L .seen)), plsD (srt (withW L .seen)), ArePl.dp (sc _ _ hus) (hup.same sc), ArePl.dp upd_same hwq, plsD_sh _, plsD_sh _, _, rfl, ?_⟩
        rw [plsD_eqv, decide_eq_true rfl]
        exact hq' _ (sab.trans sc)
      have s39 := s38.trans s9
      have h9' := s9 _ _ h9
      have p9' : ArePl H9 ws9 (withW L .hidden) := p9.same s9
      refine and_test (i := 7) (by rfl) (fun Q' hq' => ?_) (fun H10 s10 => iteF ?_)
      · obtain ⟨dx', ot', ha'⟩ := fin s39
        refine ⟨_, rfl, a, dx', _, rfl, ha', a, t, z, L, rfl, hz, hW3.same s39, hv.good, hv.nd, fun Ha c sa hP _ _ => ?_⟩
        obtain ⟨dxc, dc, c1, c2, nn, kvs, hc, _⟩ := id hP
        refine ⟨c, dxc, _, rfl, hc, c, z, _, _, rfl, hP, fun Hb lb sb hlb => ?_⟩
        obtain ⟨us, hus, hup⟩ := hlb
        have sab := sa.trans sb
        refine ⟨_, rfl, D9, ws9, withW L .hidden, z.toNat, rfl, sab _ _ h9', p9'.same sab, lens _, hz0, fun pq wq hpq hwq => ?_⟩
        have sc := Same.one (o := .lst wq) hpq
        refine ⟨plsD (srt (withW L .hidden)), plsD (srt (withW L .hidden)), ArePl.dp (sc _ _ hus) (hup.same sc), ArePl.dp upd_same hwq, plsD_sh _, plsD_sh _, _, rfl, ?_⟩
        rw [plsD_eqv, decide_eq_true rfl]
        exact hq' _ (sab.trans sc)
      have s310 := s39.trans s10
      refine and_test (i := 7) (by rfl) (fun Q' hq' => ?_) (fun H11 s11 => iteF ⟨s310.trans s11, _, _, _, _, rfl⟩)
      · obtain ⟨dx', ot', ha'⟩ := fin s310
        refine ⟨_, rfl, a, dx', _, rfl, ha', wfs_wat _ _ _, _, rfl, a, t, tp, z, L, q, rfl, hz, hW3.same s310, hv.good, hv.nd, s310 _ _ htq, hq, hv.nb, fun Ha sa => ?_⟩
        refine ⟨_, rfl, _, rfl, _, rfl, l, tp, z, L, q, rfl, hz, hl3.same (s310.trans sa), hv.good, (s310.trans sa) _ _ htq, hq, fun Hb sb => ⟨rfl, _, rfl, ?_⟩⟩
        rw [stat_eq hz hv hq, decide_eq_true rfl]
        exact hq' _ (sa.trans sb)
    · rintro σ H4 ⟨s4, v6, v7, v8, v9, rfl⟩
      exact hQ H4 (kA.trans (Keep.of s4)) (hp3.imp fun _ q => s4 _ _ q)
end
end K94
namespace K94
open PySem L2
abbrev sHeld : Stmt := top 54
/-- what is held of an earlier turn -/
def IsHeld (CI : Addr) (z : Int) (H : Hp) (v : V) (L : List Lk) : Prop := ∃ t c d e : Addr, v = .ref t ∧ H t = some (.tup [.ref c, .ref d, .ref e]) ∧ Pic CI z H c (withW L .seen) (withW L .hidden) ∧ LksAt H d L ∧ LksAt H e L
theorem IsHeld.same {CI : Addr} {z : Int} {H H' : Hp} {v : V} {L : List Lk} (h : IsHeld CI z H v L) (s : Same H H') : IsHeld CI z H' v L := by
  obtain ⟨t, c, d, e, h1, h2, h3, h4, h5⟩ := h
  exact ⟨t, c, d, e, h1, s _ _ h2, h3.same s, h4.same s, h5.same s⟩
structure Dull (z : Int) (L : List Lk) : Prop where
  good : Good z L
  nd : (L.map Prod.fst).Nodup
  wd : ∀ x ∈ L, x.2 ≠ .none_
theorem both_len : ∀ {L : List Lk}, (∀ x ∈ L, x.2 ≠ .none_) → (withW L .seen).length + (withW L .hidden).length = L.length
  | [], _ => rfl
  | x :: L, h => by
    have ih := both_len (L := L) fun y hy => h y (List.mem_cons_of_mem _ hy)
    have hx := h x List.mem_cons_self
    unfold withW at ih ⊢
    rw [List.length_map, List.length_map] at ih ⊢
    cases hw : x.2 with
    | seen =>
      rw [List.filter_cons_of_pos (by rw [hw]; rfl), List.filter_cons_of_neg (by rw [hw]; decide), List.length_cons, List.length_cons]
      omega
    | hidden =>
      rw [List.filter_cons_of_neg (by rw [hw]; decide), List.filter_cons_of_pos (by rw [hw]; rfl), List.length_cons, List.length_cons]
      omega
    | none_ => exact absurd hw hx
theorem cnt_nodup {α : Type} [DecidableEq α] {l : List α} (h : l.Nodup) : cnt l = l.length := (cnt_of h fun _ => Iff.rfl).symm
theorem Dull.cnt {z : Int} {L : List Lk} (d : Dull z L) : K94.cnt (withW L .seen ++ withW L .hidden) = L.length := by
  rw [cnt_nodup (with_nodup d.nd), List.length_append, both_len d.wd]
theorem Dull.mem {z : Int} {L : List Lk} (d : Dull z L) {x : Lk} (hx : x ∈ L) : x.1 ∈ withW L .seen ++ withW L .hidden := by
  have h := d.wd x hx
  cases hw : x.2 with
  | seen => exact List.mem_append_left _ (List.mem_map.mpr ⟨x, List.mem_filter.mpr ⟨hx, decide_eq_true hw⟩, rfl⟩)
  | hidden => exact List.mem_append_right _ (List.mem_map.mpr ⟨x, List.mem_filter.mpr ⟨hx, decide_eq_true hw⟩, rfl⟩)
  | none_ => exact absurd hw h
section
variable {P : Program} {w : World} {K : PySem.W.Frag} {mg : Str → Option Value} {base : Heap} {cn : Str → Addr} {CI C : Addr}
def spHeld (CI : Addr) : Sp := fun vs H Q _ => ∃ (l : Addr) (z : Int) (xs : List V) (Ls : List (List Lk)), vs = [.ref l] ∧ Sz z ∧ H l = some (.lst xs) ∧ Paired (IsHeld CI z H) xs Ls ∧ (∀ L ∈ Ls, Dull z L) ∧ ∀ H', Same H H' → Q (.bl true) H'
abbrev nHeld : List Str := ["_law_held", "_law_picture", "_law_told_here", "_law_looks_here", "_law_place", "_law_word"]
theorem scHeld : FnScope nHeld ["_law_held"] (defScope sHeld) := ⟨rfl, rfl, rfl, by decide +kernel, rfl, by decide +kernel, by decide +kernel⟩
theorem ok_held {f : Addr} {fd : FuncData} (F : Fun K "_law_is_held" "_law_is_held" sHeld f fd) (mL : mg "len" = none) (mS : mg "sorted" = none) (mA : mg "all" = none) (PP : PicP P w K mg base CI) : FnOk P w K mg base CX0 5 f fd ["_law_held"] (spHeld CI) := by
  refine F.ok scHeld (fun vs H Q E h => ?_) (fun cdv A outer s H vs Q E hr h => ?_)
  · obtain ⟨l, z, xs, Ls, rfl, _⟩ := h
    rfl
  · obtain ⟨l, z, xs, Ls, rfl, hz, hxs, hH, hd, hQ⟩ := h
    have hb_sorted : bootBuiltins "sorted" = some (.builtin "sorted") := by decide +kernel
    have hb_all : bootBuiltins "all" = some (.builtin "all") := by decide +kernel
    refine ⟨_, pss_cons (ps_for PassesOwn.never rfl (pi_list (pv 0)) (pg_tup rfl (pgs_cons (pg_name (i := 1) scHeld.nd rfl (Or.inr rfl)) (pgs_cons (pg_name (i := 2) scHeld.nd rfl (Or.inl rfl)) (pgs_cons (pg_name (i := 3) scHeld.nd rfl (Or.inl rfl)) pgs_nil))))
        (pss_cons (ps_if (PW.pt (pw_or (pt_cmpR (op_neD hr.units) (pv 2) (pv 3) (nomark _)) (pw_or1 (pt_cmpR op_ne (pe_callB (call_lenO PP.len (hr.mono (by decide)) pass0) (by rfl) mL PySem.boot_len (pa_cons (pv 1) pa_nil)) (pe_callB call_len_seq (by rfl) mL PySem.boot_len (pa_cons (pv 3) pa_nil)) (nomark _))))) (pss_one (ps_ret pe_bl)) pss_nil)
        (pss_cons (ps_if (pt_cmpR (op_neD hr.units) (pe_pr (pv 1) PP.seen (hr.mono (by decide))) (pe_callB (call_sorted (hu10 hr)) (by rfl) mS hb_sorted (pa_cons
            (pe_lc (own := [("_law_place", 4), ("_law_word", 5)]) (g := gTup K 2 (gCons (gName 4) (gCons (gName 5) gNil))) (tt := tTest (tOp rEq (tVar 5) (tC (.str "seen")))) (te := tVar 4) rfl scHeld.nd (pi_list (pv 3)) (blkOk_by (N := nHeld) (sc := defScope sHeld) (by decide +kernel))
              (fun _ _ _ _ _ => pg_tup rfl (pgs_cons (pg_name (i := 4) scHeld.nd rfl (Or.inl rfl)) (pgs_cons (pg_name (i := 5) scHeld.nd rfl (Or.inl rfl)) pgs_nil))) (fun _ _ _ _ _ => pts_one (pt_cmpR op_eq (pv 5) pe_str (nomark _))) (fun _ _ _ _ _ => pv 4)) pa_nil)) (nomark _)) (pss_one (ps_ret pe_bl)) pss_nil)
        (pss_cons (ps_if (pt_cmpR (op_neD hr.units) (pe_pr (pv 1) PP.hid (hr.mono (by decide))) (pe_callB (call_sorted (hu10 hr)) (by rfl) mS hb_sorted (pa_cons
            (pe_lc (own := [("_law_place", 4), ("_law_word", 5)]) (g := gTup K 2 (gCons (gName 4) (gCons (gName 5) gNil))) (tt := tTest (tOp rEq (tVar 5) (tC (.str "hidden")))) (te := tVar 4) rfl scHeld.nd (pi_list (pv 3)) (blkOk_by (N := nHeld) (sc := defScope sHeld) (by decide +kernel))
              (fun _ _ _ _ _ => pg_tup rfl (pgs_cons (pg_name (i := 4) scHeld.nd rfl (Or.inl rfl)) (pgs_cons (pg_name (i := 5) scHeld.nd rfl (Or.inl rfl)) pgs_nil))) (fun _ _ _ _ _ => pts_one (pt_cmpR op_eq (pv 5) pe_str (nomark _))) (fun _ _ _ _ _ => pv 4)) pa_nil)) (nomark _)) (pss_one (ps_ret pe_bl)) pss_nil)
        (pss_one (ps_if (pt_not (pt_val (pe_callB (cr_all rfl) (by rfl) mA hb_all (pa_cons
            (pe_lc (own := [("_law_place", 4), ("_law_word", 5)]) (g := gTup K 2 (gCons (gName 4) (gCons (gName 5) gNil))) (tt := tYes) (te := tOp (rInO CI (spCCon CI) E0) (tVar 4) (tVar 1)) rfl scHeld.nd (pi_list (pv 3)) (blkOk_by (N := nHeld) (sc := defScope sHeld) (by decide +kernel))
              (fun _ _ _ _ _ => pg_tup rfl (pgs_cons (pg_name (i := 4) scHeld.nd rfl (Or.inl rfl)) (pgs_cons (pg_name (i := 5) scHeld.nd rfl (Or.inl rfl)) pgs_nil))) (fun _ _ _ _ _ => pts_nil) (fun _ _ _ _ _ => pe_cmpR (op_inO PP.con (hr.mono (by decide)) pass0) (pv 4) (pv 1) (by rfl))) pa_nil)))) (pss_one (ps_ret pe_bl)) pss_nil))))))
      (pss_one (ps_ret pe_bl)), ?_⟩
    refine ⟨_, rfl, l, rfl, ⟨_, SqL.of hxs⟩, for_list (K := K) (xs := xs) (fun i σ H' => Same H H' ∧ ∃ v1 v2 v3 : Option V, σ = [some (.ref l), v1, v2, v3, none, none]) ⟨Same.refl H, none, none, none, rfl⟩ (fun i σ H' _ h => SqL.of (h.1 _ _ hxs)) ?_ ?_⟩
    · rintro i x σ H1 hi ⟨S1, v1, v2, v3, rfl⟩
      obtain ⟨L, hL, t, c, d, e, rfl, ht, hP, hld, hle⟩ := paired_get hH hi
      have hd1 := hd L (List.mem_of_getElem? hL)
      have gn := hd1.good.few
      obtain ⟨dxc, dc, c1, c2, nn, kvs, hc, _⟩ := id hP
      have hz0 : 0 < z.toNat := by rcases hz with rfl | rfl <;> decide
      have lens : ∀ wd, ∀ q ∈ withW L wd, q.length = z.toNat := fun wd q hq => by
        have := hd1.good.with_len wd q hq
        omega
      refine ⟨t, _, rfl, SqT.of (S1 _ _ ht), rfl, _, _, rfl, _, _, rfl, _, _, rfl, rfl, ?_⟩
      refine ⟨_, rfl, _, rfl, lksD L, lksD L, (hld.same S1).dp, (hle.same S1).dp, lksD_sh _, lksD_sh _, _, rfl, ?_⟩
      rw [lksD_eqv, decide_eq_true rfl]
      refine iteN rfl ?_
      obtain ⟨es0, hes0, hE0⟩ := hle.same S1
      refine ⟨_, rfl, c, dxc, _, rfl, S1 _ _ hc, c, z, _, _, rfl, hP.same S1, _, rfl, by rw [hd1.cnt]; omega, _, rfl, e, es0, rfl, .inl (SqL.of hes0), rfl, _, rfl, ?_⟩
      rw [hd1.cnt, Paired.length hE0, decide_eq_true rfl]
      refine iteN rfl ?_
      · clear hes0 hE0
        refine ⟨_, rfl, c, dxc, _, rfl, S1 _ _ hc, c, z, _, _, rfl, hP.same S1, fun Ha la sa hla => ?_⟩
        obtain ⟨us, hus, hup⟩ := hla
        obtain ⟨es, hes, hE⟩ := hle.same (S1.trans sa)
        refine ⟨_, rfl, e, rfl, ⟨_, SqL.of hes⟩, fun D hD => lcF (keep := fun w => decide (w = .seen)) hD hes hE (by omega) (fun _ _ => rfl) (fun _ _ => rfl) (fun u w2 H' Q' hq' => ?_) fun Hb ws sb hb pb => ?_⟩
        · refine ⟨_, rfl, rfl, _, rfl, ?_⟩
          rw [show decide (V.str w2.s = V.str "seen") = decide (w2 = .seen) from seen_test (x := .seen)]
          exact hq'
        refine ⟨D, ws, withW L .seen, z.toNat, rfl, hb, pb, lens _, hz0, fun pq wq hpq hwq => ?_⟩
        have sc := Same.one (o := .lst wq) hpq
        have sbc := sb.trans sc
        refine ⟨plsD (srt (withW L .seen)), plsD (srt (withW L .seen)), ArePl.dp (sbc _ _ hus) (hup.same sbc), ArePl.dp upd_same hwq, plsD_sh _, plsD_sh _, _, rfl, ?_⟩
        rw [plsD_eqv, decide_eq_true rfl]
        refine iteN rfl ?_
        have S2 := (S1.trans sa).trans sbc
        generalize L2.upd Hb pq (.lst wq) = H3 at S2 ⊢
        clear hpq hwq sc sbc hus hup hes hE hb pb sa sb hD

        refine ⟨_, rfl, c, dxc, _, rfl, S2 _ _ hc, c, z, _, _, rfl, hP.same S2, fun Ha la sa hla => ?_⟩
        obtain ⟨us, hus, hup⟩ := hla
        obtain ⟨es, hes, hE⟩ := hle.same (S2.trans sa)
        refine ⟨_, rfl, e, rfl, ⟨_, SqL.of hes⟩, fun D hD => lcF (keep := fun w => decide (w = .hidden)) hD hes hE (by omega) (fun _ _ => rfl) (fun _ _ => rfl) (fun u w2 H' Q' hq' => ?_) fun Hb ws sb hb pb => ?_⟩
        · refine ⟨_, rfl, rfl, _, rfl, ?_⟩
          rw [show decide (V.str w2.s = V.str "hidden") = decide (w2 = .hidden) from seen_test (x := .hidden)]
          exact hq'
        refine ⟨D, ws, withW L .hidden, z.toNat, rfl, hb, pb, lens _, hz0, fun pq wq hpq hwq => ?_⟩
        have sc := Same.one (o := .lst wq) hpq
        have sbc := sb.trans sc
        refine ⟨plsD (srt (withW L .hidden)), plsD (srt (withW L .hidden)), ArePl.dp (sbc _ _ hus) (hup.same sbc), ArePl.dp upd_same hwq, plsD_sh _, plsD_sh _, _, rfl, ?_⟩
        rw [plsD_eqv, decide_eq_true rfl]
        refine iteN rfl ?_
        have S3 := (S2.trans sa).trans sbc
        generalize L2.upd Hb pq (.lst wq) = H4 at S3 ⊢
        clear hpq hwq sc sbc hus hup hes hE hb pb sa sb hD

        obtain ⟨es, hes, hE⟩ := hle.same S3
        have hel := Paired.length hE
        refine ⟨_, rfl, e, rfl, ⟨_, SqL.of hes⟩, fun D hD => ?_⟩
        refine lc_list (K := K) (xs := es) (fun j H' => Same H4 H' ∧ H' D = some (.lst ((List.replicate j true).map V.bl))) ⟨Same.one hD, upd_same⟩ (fun j H' _ h => SqL.of (h.1 _ _ hes)) ?_ ?_
        · rintro j y H5 hj ⟨s5, h5⟩
          obtain ⟨z5, hz5, u, p, rfl, hu, hp⟩ := paired_get hE hj
          have hjl := (List.getElem?_eq_some_iff.mp hj).1
          refine ⟨u, _, rfl, SqT.of (s5 _ _ hu), rfl, _, _, rfl, _, _, rfl, rfl, rfl, _, rfl, _, rfl, c, dxc, _, rfl, s5 _ _ (S3 _ _ hc), c, p, z, _, _, z5.1, rfl, hP.same (S3.trans s5), s5 _ _ hp, _, rfl, _, h5, ?_, s5.updN hD, ?_⟩
          · rw [List.length_map, List.length_replicate]
            exact small1000 (by omega)
          · rw [upd_same, decide_eq_true (hd1.mem (List.mem_of_getElem? hz5)), List.replicate_succ', List.map_append]
            rfl
        · rintro H5 ⟨s5, h5⟩
          refine ⟨D, _, rfl, SqL.of h5, _, rfl, ?_⟩
          have e1 : (List.replicate es.length true).all id = true := by simp
          rw [e1]
          exact iteN rfl ⟨S3.trans s5, _, _, _, rfl⟩
    · rintro σ H1 ⟨S1, v1, v2, v3, rfl⟩
      exact hQ H1 S1
end
end K94
namespace K94
open PySem L2
abbrev sUnl : Stmt := top 53
/-! ### windows made -/
structure MkF (P : Program) (w : World) (K : PySem.W.Frag) (mg : Str → Option Value) (base : Heap) (k : Nat) (x : Str) (C : Addr) (ps : List Str) (sp : Sp) : Prop where
  ex : ∃ (f : Addr) (fd : FuncData), Mk K C f ∧ FnOk P w K mg base CX0 k f fd ps sp ∧ Binds K fd ps []
  glob : mg x = some (.ref C)
theorem pe_mk {X : Cx} {k : Nat} {x : Str} {C : Addr} {ps : List Str} {sp : Sp} {e : Expr} {es : List Expr} {t : TA} {p pos : Pos} (M : MkF X.prog X.w X.K X.mg X.base k x C ps sp) (hr : Room (k + 1) X.A) (hg : Gl X x) (ha : PA X (e :: es) t)
    (hdb : (x == ("__debug__" : Str)) = false := by decide) (he : starEach (e :: es) X.env = (false, eval e X.env) :: starEach es X.env := by rfl) (hpl : (backTo pos (starEach es X.env)).any (·.1) = false := by rfl) :
    PE X (.Call (.Name x p) (e :: es) [] pos) (tMake C sp [] E0 t) := by
  obtain ⟨f, fd, m, F, b⟩ := M.ex
  exact pe_make m F hr hg M.glob b .nil pass0 ha hdb he hpl
def spPIni (K : PySem.W.Frag) (C : Addr) : Sp := fun vs H Q _ => ∃ (a dx o : Addr) (z : Int) (s : Pl), vs = [.ref a, .ref o] ∧ Sz z ∧ (s.length : Int) = z ∧ PlAt H o s ∧ CFacts K C wF ∧ H a = some (.ins C dx []) ∧
  ∀ H' t, Keep [a] H H' → H' a = some (.ins C dx (wfs z t (some o))) → H' t = some (.lst []) → H t = none → Q .non H'
theorem passLA {X : Cx} : ∀ σ : L2.St, PassesAt (L2.CX X.prog X.w) X σ E0 := fun σ pins H s e s' I c => passL pins σ H s e s' I c
section
variable {K : PySem.W.Frag} {H : Hp} {C : Addr} {z : Int} {Q : VK}
theorem rd_mkW (hz : Sz z) (cf : CFacts K C wF) (h : ∀ H' x t, Same H H' → Win C none z H' x t [] → H x = none → H t = none → Q (.ref x) H') :
    ∀ x dx, H x = none → H dx = none → dx ≠ x → spWIni K (.ref x :: ([.int z] ++ [])) (L2.upd (L2.upd H dx (.own x)) x (.ins C dx [])) (fun v H2 => v = .non ∧ Q (.ref x) H2) E0 := by
  intro x dx hx hdx hne
  have n1 : ∀ {b : Addr} {o : HO}, H b = some o → (L2.upd (L2.upd H dx (.own x)) x (.ins C dx [])) b = some o := fun {b o} e => (upd_ne (ne_of_none e hx)).trans ((upd_ne (ne_of_none e hdx)).trans e)
  refine ⟨x, dx, C, z, rfl, hz, cf, upd_same, fun H' t k ha ht htn => ⟨rfl, h H' x t (fun b o e => k _ _ (by simpa using ne_of_none e hx) (n1 e)) ⟨⟨dx, none, ha, trivial⟩, [], ht, .nil⟩ hx ?_⟩⟩
  cases e : H t with
  | none => rfl
  | some o =>
    rw [n1 e] at htn
    cases htn
theorem rd_mkP {o : Addr} {s : Pl} (hz : Sz z) (hs : (s.length : Int) = z) (ho : PlAt H o s) (cf : CFacts K C wF) (h : ∀ H' x t, Same H H' → Win C (some s) z H' x t [] → H x = none → H t = none → Q (.ref x) H') :
    ∀ x dx, H x = none → H dx = none → dx ≠ x → spPIni K C (.ref x :: ([.ref o] ++ [])) (L2.upd (L2.upd H dx (.own x)) x (.ins C dx [])) (fun v H2 => v = .non ∧ Q (.ref x) H2) E0 := by
  intro x dx hx hdx hne
  have n1 : ∀ {b : Addr} {o : HO}, H b = some o → (L2.upd (L2.upd H dx (.own x)) x (.ins C dx [])) b = some o := fun {b o} e => (upd_ne (ne_of_none e hx)).trans ((upd_ne (ne_of_none e hdx)).trans e)
  have s1 : ∀ {H' : Hp}, Keep [x] (L2.upd (L2.upd H dx (.own x)) x (.ins C dx [])) H' → Same H H' := fun {H'} k b o e => k _ _ (by simpa using ne_of_none e hx) (n1 e)
  refine ⟨x, dx, o, z, s, rfl, hz, hs, n1 ho, cf, upd_same, fun H' t k ha ht htn => ⟨rfl, h H' x t (s1 k) ⟨⟨dx, some o, ha, s1 k _ _ ho⟩, [], ht, .nil⟩ hx ?_⟩⟩
  cases e : H t with
  | none => rfl
  | some o =>
    rw [n1 e] at htn
    cases htn
theorem mk_keep {x dx : Addr} (hx : H x = none) (hdx : H dx = none) {b : Addr} {o : HO} (e : H b = some o) : (L2.upd (L2.upd H dx (.own x)) x (.ins C dx [])) b = some o := (upd_ne (ne_of_none e hx)).trans ((upd_ne (ne_of_none e hdx)).trans e)
theorem mk_none {x dx t : Addr} (hx : H x = none) (hdx : H dx = none) (h : (L2.upd (L2.upd H dx (.own x)) x (.ins C dx [])) t = none) : H t = none := by
  cases e : H t with
  | none => rfl
  | some o =>
    rw [mk_keep hx hdx e] at h
    cases h
theorem mkP_facts {H' : Hp} {x dx t o : Addr} {s : Pl} (hx : H x = none) (hdx : H dx = none) (ho : PlAt H o s) (k : Keep [x] (L2.upd (L2.upd H dx (.own x)) x (.ins C dx [])) H') (ha : H' x = some (.ins C dx (wfs z t (some o)))) (ht : H' t = some (.lst [])) : Same H H' ∧ Win C (some s) z H' x t [] := by
  have s1 : Same H H' := fun b o e => k _ _ (by simpa using ne_of_none e hx) (mk_keep hx hdx e)
  exact ⟨s1, ⟨dx, some o, ha, s1 _ _ ho⟩, [], ht, .nil⟩
theorem mkW_facts {H' : Hp} {x dx t : Addr} (hx : H x = none) (hdx : H dx = none) (k : Keep [x] (L2.upd (L2.upd H dx (.own x)) x (.ins C dx [])) H') (ha : H' x = some (.ins C dx (wfs z t none))) (ht : H' t = some (.lst [])) : Same H H' ∧ Win C none z H' x t [] :=
  ⟨fun b o e => k _ _ (by simpa using ne_of_none e hx) (mk_keep hx hdx e), ⟨dx, none, ha, trivial⟩, [], ht, .nil⟩
theorem Win.nil_at {sh : Option Pl} {a t : Addr} (h : Win C sh z H a t []) : H t = some (.lst []) := by
  obtain ⟨_, ⟨xs, h1, h2⟩⟩ := h
  cases h2
  exact h1
/-! ### tuples cut and joined -/
theorem rd_catA {a b : Addr} {xs ys : Pl} (ha : PlAt H a xs) (hb : PlAt H b ys) (hl : xs.length + ys.length ≤ 1000) (h : ∀ H' c, Same H H' → PlAt H' c (xs ++ ys) → Q (.ref c) H') : rCatA K (.ref a) (.ref b) H Q := by
  refine ⟨a, b, _, _, rfl, rfl, SqT.of ha, SqT.of hb, line1000 (by rw [List.length_map, List.length_map]; exact hl), fun e => ?_, fun _ e => ?_, fun _ _ p hp => ?_⟩
  · have : xs = [] := List.map_eq_nil_iff.mp e
    subst this
    exact h H b (Same.refl H) hb
  · have : ys = [] := List.map_eq_nil_iff.mp e
    subst this
    exact h H a (Same.refl H) (by rw [List.append_nil]; exact ha)
  · have q := h (L2.upd H p (.tup (xs.map V.int ++ ys.map V.int))) p (Same.one hp) (by unfold PlAt; rw [upd_same, List.map_append])
    exact q
theorem rd_slA {a : Addr} {xs : Pl} {lo hi : Option Int} {ys : Pl} (ha : PlAt H a xs) (hc : cutV (xs.map V.int) lo hi = ys.map V.int) (hw : HT.sIx (xs.map V.int).length 0 lo = 0 ∧ HT.sIx (xs.map V.int).length (xs.map V.int).length hi = (xs.map V.int).length → ys = xs)
    (h : ∀ H' c, Same H H' → PlAt H' c ys → Q (.ref c) H') : rSlA K (.ref a) lo hi H Q := by
  refine ⟨a, _, rfl, SqT.of ha, fun q => ?_, fun _ p hp => ?_⟩
  · have e := hw q
    subst e
    exact h H a (Same.refl H) ha
  · rw [hc]
    exact h _ p (Same.one hp) upd_same
end
/-- what unlike windows are -/
inductive Uneq (CW CP : Addr) (H : Hp) (x y : Addr) : Prop
  | ww {z z' : Int} {t t' : Addr} {L L' : List Lk} (h : Win CW none z H x t L) (h' : Win CW none z' H y t' L') (n : z ≠ z' ∨ L ≠ L') : Uneq CW CP H x y
  | pp {z z' : Int} {s s' : Pl} {t t' : Addr} {L L' : List Lk} (h : Win CP (some s) z H x t L) (h' : Win CP (some s') z' H y t' L') (n : s ≠ s' ∨ L ≠ L') : Uneq CW CP H x y
  | wp {z z' : Int} {s' : Pl} {t t' : Addr} {L L' : List Lk} (h : Win CW none z H x t L) (h' : Win CP (some s') z' H y t' L') : Uneq CW CP H x y
  | pw {z z' : Int} {s : Pl} {t t' : Addr} {L L' : List Lk} (h : Win CP (some s) z H x t L) (h' : Win CW none z' H y t' L') : Uneq CW CP H x y
theorem Uneq.same {CW CP : Addr} {H H' : Hp} {x y : Addr} (h : Uneq CW CP H x y) (s : Same H H') : Uneq CW CP H' x y := by
  cases h with
  | ww h h' n => exact .ww (h.same s) (h'.same s) n
  | pp h h' n => exact .pp (h.same s) (h'.same s) n
  | wp h h' => exact .wp (h.same s) (h'.same s)
  | pw h h' => exact .pw (h.same s) (h'.same s)
def IsPair (CW CP : Addr) (H : Hp) (v : V) : Prop := ∃ t x y : Addr, v = .ref t ∧ H t = some (.tup [.ref x, .ref y]) ∧ Uneq CW CP H x y
theorem IsPair.same {CW CP : Addr} {H H' : Hp} {v : V} (h : IsPair CW CP H v) (s : Same H H') : IsPair CW CP H' v := by
  obtain ⟨t, x, y, h1, h2, h3⟩ := h
  exact ⟨t, x, y, h1, s _ _ h2, h3.same s⟩
theorem Win.pool {C : Addr} {sh : Option Pl} {z : Int} {H H' : Hp} {a t p : Addr} {L : List Lk} (h : Win C sh z H a t L) (hp : PoolAt H p) (k : Keep [p] H H') : Win C sh z H' a t L := by
  refine h.keep k (fun m => ?_) (by simpa using pool_ne hp h.lks) (pool_nt hp)
  obtain ⟨z0, hz0⟩ := hp
  obtain ⟨⟨dx, ot, h1, _⟩, _⟩ := h
  rw [List.mem_singleton.mp m, hz0] at h1
  cases h1
theorem IsPair.pool {CW CP : Addr} {H H' : Hp} {v : V} {p : Addr} (h : IsPair CW CP H v) (hp : PoolAt H p) (k : Keep [p] H H') : IsPair CW CP H' v := by
  obtain ⟨t, x, y, h1, h2, h3⟩ := h
  refine ⟨t, x, y, h1, k _ _ (fun m => pool_nt hp _ m _ h2) h2, ?_⟩
  cases h3 with
  | ww h h' n => exact .ww (h.pool hp k) (h'.pool hp k) n
  | pp h h' n => exact .pp (h.pool hp k) (h'.pool hp k) n
  | wp h h' => exact .wp (h.pool hp k) (h'.pool hp k)
  | pw h h' => exact .pw (h.pool hp k) (h'.pool hp k)
/-! ### the other shift -/
def farL (s : Pl) (k : Nat) (x : Int) : Pl := s.take k ++ [s.getD k 0 + x] ++ s.drop (k + 1)
theorem farL_len {s : Pl} {k : Nat} {x : Int} (h : k < s.length) : (farL s k x).length = s.length := by
  unfold farL
  rw [List.length_append, List.length_append, List.length_take, List.length_drop]
  show min k s.length + 1 + (s.length - (k + 1)) = s.length
  omega
theorem farL_ne {s : Pl} {k : Nat} {x : Int} (h : k < s.length) (hx : x ≠ 0) : s ≠ farL s k x := fun e => by
  have e2 : s.take k ++ s[k] :: s.drop (k + 1) = s := by
    rw [← List.drop_eq_getElem_cons h]
    exact List.take_append_drop k s
  unfold farL at e
  rw [List.append_assoc] at e
  have e3 := e2.trans e
  have e4 := List.append_cancel_left e3
  have e5 : s[k] = s.getD k 0 + x := by
    injection e4
  have e6 : s.getD k 0 = s[k] := by
    rw [List.getD_eq_getElem?_getD, List.getElem?_eq_getElem h]
    rfl
  omega
theorem six_nat {n e : Nat} {d : Int} (h : 0 ≤ d) : HT.sIx n e (some d) = min d.toNat n := by
  show (if d < 0 then (d + (n : Int)).toNat else min d.toNat n) = min d.toNat n
  rw [if_neg (by omega)]
theorem cut_to {s : Pl} {d : Int} (h : 0 ≤ d) : cutV (s.map V.int) none (some d) = (s.take d.toNat).map V.int := by
  unfold cutV
  rw [six_nat h, show HT.sIx (s.map V.int).length 0 none = 0 from rfl, List.drop_zero, Nat.sub_zero, List.length_map, List.map_take]
  rcases Nat.le_total d.toNat s.length with q | q
  · rw [Nat.min_eq_left q]
  · rw [Nat.min_eq_right q, List.take_of_length_le (by rw [List.length_map]; exact Nat.le_refl _), List.take_of_length_le (by rw [List.length_map]; exact q)]
theorem cut_from {s : Pl} {d : Int} (h : 0 ≤ d) : cutV (s.map V.int) (some d) none = (s.drop d.toNat).map V.int := by
  unfold cutV
  rw [six_nat h, show HT.sIx (s.map V.int).length (s.map V.int).length none = (s.map V.int).length from rfl, List.length_map, List.map_drop]
  rcases Nat.le_total d.toNat s.length with q | q
  · rw [Nat.min_eq_left q, List.take_of_length_le (by rw [List.length_drop, List.length_map]; exact Nat.le_refl _)]
  · rw [Nat.min_eq_right q, List.drop_eq_nil_of_le (by rw [List.length_map]; exact Nat.le_refl _), List.drop_eq_nil_of_le (by rw [List.length_map]; exact q), List.take_nil]
theorem due0 {z : Int} (hz : Sz z) : due none z [] (List.replicate z.toNat 0) .seen = none := by rcases hz with rfl | rfl <;> decide +kernel
theorem due1 {z : Int} (hz : Sz z) : due none z [] (List.replicate z.toNat 0) .hidden = none := by rcases hz with rfl | rfl <;> decide +kernel
theorem rep0 {z : Int} (hz : Sz z) : (List.replicate z.toNat ([.int 0] : List V)).flatten = (List.replicate z.toNat (0 : Int)).map V.int := by rcases hz with rfl | rfl <;> rfl
theorem rep0_len {z : Int} (hz : Sz z) : ((List.replicate z.toNat (0 : Int)).length : Int) = z := by rcases hz with rfl | rfl <;> rfl
def wordOf (q s : Pl) : Wd := if gcdL (plusL q s) = 1 then .seen else .hidden
theorem due_ok {s : Pl} {z : Int} {L : List Lk} {q : Pl} (hq : (q.length : Int) = z) (hn : q ∉ L.map Prod.fst) : due (some s) z L q (wordOf q s) = none := by
  have h1 : chk z L q (wordOf q s) = none := by
    unfold chk
    rw [if_neg fun n => n hq, if_neg, if_neg hn]
    unfold wordOf
    split <;> exact fun e => nomatch e
  unfold due
  rw [h1]
  dsimp only
  rw [if_pos]
  unfold wordOf
  by_cases h : gcdL (plusL q s) = 1
  · rw [if_pos h, decide_eq_true h]
    rfl
  · rw [if_neg h, decide_eq_false h]
    rfl
section
variable {P : Program} {w : World} {K : PySem.W.Frag} {mg : Str → Option Value} {base : Heap} {cn : Str → Addr} {CI CW CP : Addr}
def spUnl (CW CP : Addr) : Sp := fun vs H Q _ => ∃ (p o : Addr) (z : Int) (s : Pl), vs = [.ref p, .int z, .ref o] ∧ Sz z ∧ PoolAt H p ∧ PlAt H o s ∧ (s.length : Int) = z ∧ ∀ H' D xs, Keep [p] H H' → PoolAt H' p → H' D = some (.lst xs) → xs.length ≤ 3 → (∀ v ∈ xs, IsPair CW CP H' v) → Q (.ref D) H'
abbrev nUnl : List Str := ["_law_pool_here", "_law_size", "_law_shift", "_law_away", "_law_far", "_law_pairs", "_law_one", "_law_other", "_law_turn", "_law_place", "_law_words", "_law_base", "_law_a", "_law_b", "_law_known", "_law_word"]
theorem scUnl : FnScope nUnl ["_law_pool_here", "_law_size", "_law_shift"] (defScope sUnl) := ⟨rfl, rfl, rfl, by decide +kernel, rfl, by decide +kernel, by decide +kernel⟩
theorem ok_unl {f : Addr} {fd : FuncData} (F : Fun K "_law_unlike" "_law_unlike" sUnl f fd) (mI : mg "int" = none) (mR : mg "range" = none) (mZ : mg "zip" = none) (T : TwoW K mg CW CP) (WW : WinP P w K mg base cn CI CW none) (WPP : ∀ s, WinP P w K mg base cn CI CP (some s))
    (MW : MkF P w K mg base 1 "Window" CW ["self", "size"] (spWIni K)) (MP : MkF P w K mg base 5 "PlacedWindow" CP ["self", "shift"] (spPIni K CP))
    (GT : GF P w K mg base CX0 3 "_law_take" ["_law_pool_here", "_law_parts"] spTake) (GN : GF P w K mg base CX0 5 "_law_near" ["_law_pool_here", "_law_many", "_law_most"] spNear) (GG : GF P w K mg base CX0 3 "_law_gcd" ["_law_values"] (spLgcd K))
    (OA : OF P w K mg base (L2.CX P w) 7 CP ["self", "place", "word"] (fun vs H Q E => ∃ s, spCallW cn CP (some s) vs H Q E)) : FnOk P w K mg base CX0 9 f fd ["_law_pool_here", "_law_size", "_law_shift"] (spUnl CW CP) := by
  refine F.ok scUnl (fun vs H Q E h => ?_) (fun cdv A outer s H vs Q E hr h => ?_)
  · obtain ⟨p, o, z, s, rfl, _⟩ := h
    rfl
  · obtain ⟨p, o, z, sv, rfl, hz, hp, ho, hs, hQ⟩ := h
    refine ⟨_, pss_cons (ps_set (i := 3) scUnl.nd rfl (Or.inl rfl) (pe_g GT (hr.mono (by decide)) rfl pass0 (pa_cons (pv 0) (pa_cons (pv 1) pa_nil))))
      (pss_cons (ps_set (i := 4) scUnl.nd rfl (Or.inl rfl) (pe_op op_catA (pe_op op_catA (pe_slice sl_tupA (pv 2) po_none (po_some (pv 3)))
          (pe_tup (pa_cons (pe_op op_add (pe_ix ix_tup (pv 2) (pv 3) (fun _ _ => rfl)) (pe_ix ix_list (pe_lst (pa_cons pe_int (pa_cons pe_int (pa_cons pe_int (pa_cons (pe_op op_pow pe_int pe_int) pa_nil))))) (pe_g GT (hr.mono (by decide)) rfl pass0 (pa_cons (pv 0) (pa_cons pe_int pa_nil))) (fun _ _ => rfl))) pa_nil)))
          (pe_slice sl_tupA (pv 2) (po_some (pe_op op_add (pv 3) pe_int)) po_none)))
      (pss_cons (ps_set (i := 5) scUnl.nd rfl (Or.inl rfl) (pe_lst (pa_cons (pe_tup (pa_cons (pe_mk MP (hr.mono (by decide)) rfl (pa_cons (pv 2) pa_nil)) (pa_cons (pe_mk MP (hr.mono (by decide)) rfl (pa_cons (pv 4) pa_nil)) pa_nil)))
          (pa_cons (pe_tup (pa_cons (pe_mk MW (hr.mono (by decide)) rfl (pa_cons (pv 1) pa_nil)) (pa_cons (pe_mk MW (hr.mono (by decide)) rfl (pa_cons (pv 1) pa_nil)) pa_nil))) pa_nil))))
      (pss_cons (ps_expr (pe_oS (E := fun _ => E0) (pe_ix ix_tup (pe_ix ix_list (pv 5) pe_int (fun _ _ => rfl)) pe_int (fun _ _ => rfl)) WW.call (hr.mono (by decide)) passLA (pa_cons (pe_op op_repT (pe_tup (pa_cons pe_int pa_nil)) (pv 1)) (pa_cons pe_str pa_nil))))
      (pss_cons (ps_expr (pe_oS (E := fun _ => E0) (pe_ix ix_tup (pe_ix ix_list (pv 5) pe_int (fun _ _ => rfl)) pe_int (fun _ _ => rfl)) WW.call (hr.mono (by decide)) passLA (pa_cons (pe_op op_repT (pe_tup (pa_cons pe_int pa_nil)) (pv 1)) (pa_cons pe_str pa_nil))))
      (pss_cons (ps_par (i := 6) (j := 7) rfl scUnl.nd rfl rfl (by decide) rfl rfl (pa_cons (pe_mk MP (hr.mono (by decide)) rfl (pa_cons (pv 2) pa_nil)) (pa_cons (pe_mk MP (hr.mono (by decide)) rfl (pa_cons (pv 4) pa_nil)) pa_nil)) (by rfl))
      (pss_cons (ps_for PassesOwn.never rfl (pi_range1 (by rfl) mR (pa_cons pe_int pa_nil)) (pg_name (i := 8) scUnl.nd rfl (Or.inl rfl))
        (pss_cons (ps_set (i := 9) scUnl.nd rfl (Or.inl rfl) (pe_g GN (hr.mono (by decide)) rfl pass0 (pa_cons (pv 0) (pa_cons (pv 1) (pa_cons pe_int pa_nil)))))
        (pss_cons (ps_set (i := 10) scUnl.nd rfl (Or.inl rfl) (pe_lst pa_nil))
        (pss_cons (ps_for PassesOwn.never rfl (pi_list (pe_lst (pa_cons (pv 2) (pa_cons (pv 4) pa_nil)))) (pg_name (i := 11) scUnl.nd rfl (Or.inl rfl))
          (pss_one (ps_expr (pe_bm PySem.F.plainAttrs_list PySem.F.slot_list_append PySem.F.type_list_append mt_append (pv 10) (pa_cons (pe_ix ix_list (pe_lst (pa_cons pe_str (pa_cons pe_str pa_nil))) (pe_callTy call_int1 (by rfl) mI (by decide +kernel) (pa_cons (pe_cmpR op_eq (pe_g GG (hr.mono (by decide)) rfl pass0 (pa_cons
              (pe_lc (own := [("_law_a", 12), ("_law_b", 13)]) (g := gTup K 2 (gCons (gName 12) (gCons (gName 13) gNil))) (tt := tYes) (te := tOp (rI0 fun i j => .int (i + j)) (tVar 12) (tVar 13)) rfl scUnl.nd (RZ.pi_zipA (by rfl) mZ (pa_cons (pv 9) (pa_cons (pv 11) pa_nil))) (blkOk_by (N := nUnl) (sc := defScope sUnl) (by decide +kernel))
                (fun _ _ _ _ _ => pg_tup rfl (pgs_cons (pg_name (i := 12) scUnl.nd rfl (Or.inl rfl)) (pgs_cons (pg_name (i := 13) scUnl.nd rfl (Or.inl rfl)) pgs_nil))) (fun _ _ _ _ _ => pts_nil) (fun _ _ _ _ _ => pe_op op_add (pv 12) (pv 13))) pa_nil)) pe_int (nomark _)) pa_nil)) (fun _ _ => rfl)) pa_nil)))))
        (pss_one (ps_if (PW.pt (pw_and (pt_cmpR op_eq (pe_ix ix_list (pv 10) pe_int (fun _ _ => rfl)) (pe_ix ix_list (pv 10) pe_int (fun _ _ => rfl)) (nomark _)) (pw_and1 (pt_cmpR (op_notInD (hu65 hr)) (pv 9)
              (pe_lc (own := [("_law_known", 14), ("_law_word", 15)]) (g := gTup K 2 (gCons (gName 14) (gCons (gName 15) gNil))) (tt := tYes) (te := tVar 14) rfl scUnl.nd (pi_list (pe_pr (pv 6) (WPP sv).looks (hr.mono (by decide)))) (blkOk_by (N := nUnl) (sc := defScope sUnl) (by decide +kernel))
                (fun _ _ _ _ _ => pg_tup rfl (pgs_cons (pg_name (i := 14) scUnl.nd rfl (Or.inl rfl)) (pgs_cons (pg_name (i := 15) scUnl.nd rfl (Or.inl rfl)) pgs_nil))) (fun _ _ _ _ _ => pts_nil) (fun _ _ _ _ _ => pv 14)) (by with_unfolding_all rfl)))))
          (pss_cons (ps_expr (pe_oS (E := fun _ => E0) (pv 6) OA (hr.mono (by decide)) passLA (pa_cons (pv 9) (pa_cons (pe_ix ix_list (pv 10) pe_int (fun _ _ => rfl)) pa_nil))))
          (pss_one (ps_expr (pe_oS (E := fun _ => E0) (pv 7) OA (hr.mono (by decide)) passLA (pa_cons (pv 9) (pa_cons (pe_ix ix_list (pv 10) pe_int (fun _ _ => rfl)) pa_nil)))))) pss_nil))))))
      (pss_one (ps_ret (pe_op op_cat (pv 5) (pe_lst (pa_cons (pe_tup (pa_cons (pv 6) (pa_cons (pv 7) pa_nil))) pa_nil))))))))))), ?_⟩
    obtain ⟨z0, hz0⟩ := id hp
    have hzd : z.natAbs < 1024 := by rcases hz with rfl | rfl <;> decide
    have hz1 : 0 < z := by rcases hz with rfl | rfl <;> decide
    have hz3 : 2 ≤ z ∧ z ≤ 3 := by rcases hz with rfl | rfl <;> decide
    refine ⟨_, rfl, _, rfl, p, z0, z, rfl, hz0, hz1, pow300 hzd, fun d z' h0 h1 => ?_⟩
    obtain ⟨H1, e1⟩ : ∃ H1, H1 = L2.upd H p (.lst [.int z']) := ⟨_, rfl⟩
    have k1 : Keep [p] H H1 := by
      rw [e1]
      exact Keep.upd Keep.refl (by simp)
    have hp1 : PoolAt H1 p := ⟨z', by rw [e1]; exact upd_same⟩
    rw [← e1]
    have npt := pool_nt hp
    have hop : o ∉ [p] := fun m => npt _ m _ ho
    have ho1 : PlAt H1 o sv := k1 _ _ hop ho
    have hk : d.toNat < sv.length := by omega
    have hd : ((d.toNat : Nat) : Int) = d := by omega
    have svb : sv.length ≤ 3 := by omega
    refine ⟨_, rfl, _, rfl, d, rfl, rd_slA (ys := sv.take d.toNat) ho1 ?_ ?_ fun H2 c2 s2 hc2 => ?_⟩
    · exact cut_to h0
    · intro q
      have q2 := q.2
      rw [six_nat h0, List.length_map] at q2
      exact List.take_of_length_le (by omega)
    have ho2 : PlAt H2 o sv := s2 _ _ ho1
    have hp2 : PoolAt H2 p := hp1.imp fun _ q => s2 _ _ q
    refine ⟨_, rfl, _, rfl, o, _, d, .int (sv.getD d.toNat 0), rfl, rfl, SqT.of ho2, at_small h0 ?_, ?_⟩
    · rw [List.getElem?_map, List.getElem?_eq_getElem hk, List.getD_eq_getElem?_getD, List.getElem?_eq_getElem hk]
      rfl
    show tOp (rIxL K) (tLst _) (tCall spTake [] E0 (tCons (tVar 0) (tCons (tC (.int 4)) tNil))) _ _ _
    refine rd_pick (K := K) (ns := [1, 2, 30, 10 ^ 9]) (i := 0) (m := 4) (by rfl) hp2 (by exact fun _ h => ⟨10, 9, rfl, rfl, ⟨by decide, by decide, by decide⟩, h⟩) (by decide) (by rfl) (by decide) (by decide) fun dl H3 hdl k3 hp3 => ?_
    have hdl0 : dl ≠ 0 := by
      intro q
      rw [q] at hdl
      simp at hdl
    have kA : Keep [p] H H3 := (k1.trans (Keep.of s2)).trans k3
    have npt2 := pool_nt hp2
    have hc3 : PlAt H3 c2 (sv.take d.toNat) := k3 _ _ (fun m => npt2 _ m _ hc2) hc2
    have ho3 : PlAt H3 o sv := k3 _ _ hop ho2
    refine ⟨_, _, rfl, rfl, line1000 (by show 1 ≤ 1000; decide), fun u0 hu0 => ?_⟩
    have su := Same.one (o := .tup [.int (sv.getD d.toNat 0 + dl)]) hu0
    refine rd_catA (xs := sv.take d.toNat) (ys := [sv.getD d.toNat 0 + dl]) (su _ _ hc3) upd_same (by rw [List.length_take]; show _ + 1 ≤ 1000; omega) fun H4 c4 s4 hc4 => ?_
    have s34 := su.trans s4
    have ho4 : PlAt H4 o sv := s34 _ _ ho3
    refine ⟨_, rfl, _, rfl, _, _, rfl, rfl, d + 1, rfl, ?_⟩
    unfold tNoPart
    refine rd_slA (ys := sv.drop (d.toNat + 1)) ho4 ?_ ?_ fun H5 c5 s5 hc5 => ?_
    · rw [cut_from (by omega)]
      congr 2
      omega
    · intro q
      have q2 := q.1
      rw [six_nat (by omega), List.length_map] at q2
      omega
    refine rd_catA (xs := sv.take d.toNat ++ [sv.getD d.toNat 0 + dl]) (ys := sv.drop (d.toNat + 1)) (s5 _ _ hc4) hc5 (by rw [List.length_append, List.length_take, List.length_drop]; show _ + 1 + _ ≤ 1000; omega) fun H6 fo s6 hfo => ?_
    have hff : PlAt H6 fo (farL sv d.toNat dl) := hfo
    have flen : ((farL sv d.toNat dl).length : Int) = z := by rw [farL_len hk]; exact hs
    have fne := farL_ne (x := dl) hk hdl0
    generalize farL sv d.toNat dl = far at hff flen fne
    have s36 := (s34.trans s5).trans s6
    have kB : Keep [p] H H6 := kA.trans (Keep.of s36)
    have ho6 : PlAt H6 o sv := s36 _ _ ho3
    have hp6 : PoolAt H6 p := hp3.imp fun _ q => s36 _ _ q
    clear hfo hc5 hc4 hc3 hc2 ho4 ho3 ho2 ho1 hp3 hp2 hp1 s36 s34 su s6 s5 s4 kA k3 s2 k1 npt2 hu0 hk hd
    refine ⟨_, rfl, fun x1 dx1 hx1 hdx1 hnx1 => ⟨x1, dx1, o, z, sv, rfl, hz, hs, mk_keep hx1 hdx1 (ho6), T.fP, upd_same, fun Ha t1 kx1 ax1 lx1 nx1 => ⟨rfl, ?_⟩⟩⟩
    obtain ⟨sa, w1⟩ := mkP_facts (s := sv) hx1 hdx1 (ho6) kx1 ax1 lx1
    have ht1 := mk_none hx1 hdx1 nx1
    clear kx1 ax1 lx1 nx1 hnx1 hdx1
    refine ⟨_, rfl, fun x2 dx2 hx2 hdx2 hnx2 => ⟨x2, dx2, fo, z, far, rfl, hz, flen, mk_keep hx2 hdx2 (sa _ _ hff), T.fP, upd_same, fun Hb t2 kx2 ax2 lx2 nx2 => ⟨rfl, ?_⟩⟩⟩
    obtain ⟨sb, w2⟩ := mkP_facts (s := far) hx2 hdx2 (sa _ _ hff) kx2 ax2 lx2
    have ht2 := mk_none hx2 hdx2 nx2
    clear kx2 ax2 lx2 nx2 hnx2 hdx2
    refine ⟨line1000 (by show 2 ≤ 1000; decide), fun u1 hu1 => ?_⟩
    obtain ⟨Hb', eb⟩ : ∃ Hb', Hb' = L2.upd Hb u1 (.tup [.ref x1, .ref x2]) := ⟨_, rfl⟩
    have sbu : Same Hb Hb' := by
      rw [eb]
      exact Same.one hu1
    have bu1 : Hb' u1 = some (.tup [.ref x1, .ref x2]) := by
      rw [eb]
      exact upd_same
    rw [← eb]
    clear eb
    refine ⟨_, rfl, fun y1 dy1 hy1 hdy1 hny1 => ⟨y1, dy1, CW, z, rfl, hz, T.fW, upd_same, fun Hc r1 ky1 ay1 ly1 ny1 => ⟨rfl, ?_⟩⟩⟩
    obtain ⟨sc, v1⟩ := mkW_facts hy1 hdy1 ky1 ay1 ly1
    have hr1 := mk_none hy1 hdy1 ny1
    clear ky1 ay1 ly1 ny1 hny1 hdy1
    refine ⟨_, rfl, fun y2 dy2 hy2 hdy2 hny2 => ⟨y2, dy2, CW, z, rfl, hz, T.fW, upd_same, fun Hd r2 ky2 ay2 ly2 ny2 => ⟨rfl, ?_⟩⟩⟩
    obtain ⟨sd, v2⟩ := mkW_facts hy2 hdy2 ky2 ay2 ly2
    have hr2 := mk_none hy2 hdy2 ny2
    clear ky2 ay2 ly2 ny2 hny2 hdy2
    refine ⟨line1000 (by show 2 ≤ 1000; decide), fun u2 hu2 => ⟨line1000 (by show 2 ≤ 1000; decide), fun D hD => ?_⟩⟩
    obtain ⟨He, ee⟩ : ∃ He, He = L2.upd (L2.upd Hd u2 (.tup [.ref y1, .ref y2])) D (.lst [.ref u1, .ref u2]) := ⟨_, rfl⟩
    have sde : Same Hd He := by
      rw [ee]
      exact (Same.one hu2).upd hD
    have eu2 : He u2 = some (.tup [.ref y1, .ref y2]) := by
      rw [ee]
      exact (upd_ne (ne_of_none upd_same hD)).trans upd_same
    have eD : He D = some (.lst [.ref u1, .ref u2]) := by
      rw [ee]
      exact upd_same
    rw [← ee]
    clear ee
    have zl := rep0_len hz
    have seen0 : Good z [] := ⟨by decide, fun x hx => nomatch hx⟩
    -- the first call
    obtain ⟨⟨dy1, oy1, ey1, _⟩, _⟩ := (v1.same sd).same sde
    refine ⟨_, rfl, D, _, 1, .ref u2, rfl, rfl, SqL.of eD, at_of (j := 1) rfl rfl, u2, _, 0, .ref y1, rfl, rfl, SqT.of eu2, at_of (j := 0) rfl rfl, y1, rfl, line1000 (by show 1 ≤ 1000; decide), fun c1 hc1 => ⟨_, rfl, c1, z, _, rfl, rfl, SqT.of upd_same, by simp, hz3.1, by omega, by decide, fun c2 hc2 => ?_⟩⟩
    have sF : Same He (L2.upd (L2.upd He c1 (.tup [.int 0])) c2 (.tup (List.replicate z.toNat ([.int 0] : List V)).flatten)) := (Same.one hc1).upd hc2
    refine ⟨⟨_, _, sF _ _ ey1⟩, y1, r1, c2, z, [], List.replicate z.toNat 0, .seen, rfl, hz, ((v1.same sd).same sde).same sF, seen0, ?_, (fun s e => nomatch e), ?_⟩
    · unfold PlAt
      rw [upd_same, rep0 hz]
    rw [due0 hz]
    intro Hf kf v1f
    have er1 : He r1 = some (.lst []) := ((v1.same sd).same sde).nil_at
    have er2 : He r2 = some (.lst []) := (v2.same sde).nil_at
    have nD1 : D ≠ r1 := ne_of eD er1 (by nofun)
    have nD2 : D ≠ r2 := ne_of eD er2 (by nofun)
    have nu1 : u2 ≠ r1 := ne_of eu2 er1 (by nofun)
    have nu2 : u2 ≠ r2 := ne_of eu2 er2 (by nofun)
    have fD : Hf D = some (.lst [.ref u1, .ref u2]) := kf _ _ (by simpa using nD1) (sF _ _ eD)
    have fu2 : Hf u2 = some (.tup [.ref y1, .ref y2]) := kf _ _ (by simpa using nu1) (sF _ _ eu2)
    have nt1 : ∀ m ∈ [r1], ∀ ys, (L2.upd (L2.upd He c1 (.tup [.int 0])) c2 (.tup (List.replicate z.toNat ([.int 0] : List V)).flatten)) m ≠ some (.tup ys) := fun m hm ys q => by
      rw [List.mem_singleton.mp hm, sF _ _ er1] at q
      cases q
    have ny2 : y2 ∉ [r1] := by simpa using (ne_of_none (v1.nil_at) hy2).symm
    have nr2 : r2 ∉ [r1] := by simpa using (ne_of_none (v1.nil_at) hr2).symm
    have v2f : Win CW none z Hf y2 r2 [] := ((v2.same sde).same sF).keep kf ny2 nr2 nt1
    obtain ⟨⟨dy2, oy2, ey2, _⟩, _⟩ := id v2f
    -- the second call
    refine ⟨_, rfl, D, _, 1, .ref u2, rfl, rfl, SqL.of fD, at_of (j := 1) rfl rfl, u2, _, 1, .ref y2, rfl, rfl, SqT.of fu2, at_of (j := 1) rfl rfl, y2, rfl, line1000 (by show 1 ≤ 1000; decide), fun c3 hc3 => ⟨_, rfl, c3, z, _, rfl, rfl, SqT.of upd_same, by simp, hz3.1, by omega, by decide, fun c4 hc4 => ?_⟩⟩
    have sG : Same Hf (L2.upd (L2.upd Hf c3 (.tup [.int 0])) c4 (.tup (List.replicate z.toNat ([.int 0] : List V)).flatten)) := (Same.one hc3).upd hc4
    refine ⟨⟨_, _, sG _ _ ey2⟩, y2, r2, c4, z, [], List.replicate z.toNat 0, .hidden, rfl, hz, v2f.same sG, seen0, ?_, (fun s e => nomatch e), ?_⟩
    · unfold PlAt
      rw [upd_same, rep0 hz]
    rw [due1 hz]
    intro Hg kg v2g
    have nt2 : ∀ m ∈ [r2], ∀ ys, (L2.upd (L2.upd Hf c3 (.tup [.int 0])) c4 (.tup (List.replicate z.toNat ([.int 0] : List V)).flatten)) m ≠ some (.tup ys) := fun m hm ys q => by
      rw [List.mem_singleton.mp hm, sG _ _ v2f.nil_at] at q
      cases q
    have nr12 : r1 ≠ r2 := fun e => nr2 (by rw [e]; simp)
    have ny1 : y1 ∉ [r2] := by
      obtain ⟨⟨dy, oy, ey, _⟩, _⟩ := v1
      simpa using ne_of_none ey hr2
    have v1g : Win CW none z Hg y1 r1 ([] ++ [(List.replicate z.toNat 0, .seen)]) := (v1f.same sG).keep kg ny1 (by simpa using nr12) nt2
    have gD : Hg D = some (.lst [.ref u1, .ref u2]) := kg _ _ (by simpa using nD2) (sG _ _ fD)
    have gu2 : Hg u2 = some (.tup [.ref y1, .ref y2]) := kg _ _ (by simpa using nu2) (sG _ _ fu2)
    have br2 : Hb' r2 = none := none_back sc hr2
    have sBg : Same Hb' Hg := fun b ob e => by
      have n1 : b ≠ r1 := ne_of_none e hr1
      have n2 : b ≠ r2 := ne_of_none e br2
      exact kg _ _ (by simpa using n2) (sG _ _ (kf _ _ (by simpa using n1) (sF _ _ (sde _ _ (sd _ _ (sc _ _ e))))))
    have s6g : Same H6 Hg := (sa.trans (sb.trans sbu)).trans sBg
    have w1g : Win CP (some sv) z Hg x1 t1 [] := w1.same ((sb.trans sbu).trans sBg)
    have w2g : Win CP (some far) z Hg x2 t2 [] := w2.same (sbu.trans sBg)
    have gu1 := sBg _ _ bu1
    have kpg : Keep [p] H Hg := kB.trans (Keep.of s6g)
    have og : PlAt Hg o sv := s6g _ _ ho6
    have fog : PlAt Hg fo far := s6g _ _ hff
    have pg : PoolAt Hg p := hp6.imp fun _ q => s6g _ _ q
    have pair1 : IsPair CW CP Hg (.ref u1) := ⟨u1, x1, x2, rfl, gu1, .pp w1g w2g (.inl fne)⟩
    have pair2 : IsPair CW CP Hg (.ref u2) := ⟨u2, y1, y2, rfl, gu2, .ww v1g v2g (.inr (by simp))⟩
    clear v1f v2f v1g v2g w1g w2g gu1 gu2 sBg s6g nt1 nt2 kg sG kf sF sde sd sc sbu sb sa w1 w2 v1 v2 er1 er2 nD1 nD2 nu1 nu2 fD fu2 ny2 nr2 nr12 ny1 br2 eD eu2 bu1 ho6 hff hp6 kB
    refine ⟨_, rfl, fun x3 dx3 hx3 hdx3 hnx3 => ⟨x3, dx3, o, z, sv, rfl, hz, hs, mk_keep hx3 hdx3 (og), T.fP, upd_same, fun Hh t3 kx3 ax3 lx3 nx3 => ⟨rfl, ?_⟩⟩⟩
    obtain ⟨sh3, w3⟩ := mkP_facts (s := sv) hx3 hdx3 (og) kx3 ax3 lx3
    have ht3 := mk_none hx3 hdx3 nx3
    clear kx3 ax3 lx3 nx3 hnx3 hdx3
    refine ⟨_, rfl, fun x4 dx4 hx4 hdx4 hnx4 => ⟨x4, dx4, fo, z, far, rfl, hz, flen, mk_keep hx4 hdx4 (sh3 _ _ fog), T.fP, upd_same, fun Hi t4 kx4 ax4 lx4 nx4 => ⟨rfl, ?_⟩⟩⟩
    obtain ⟨sh4, w4⟩ := mkP_facts (s := far) hx4 hdx4 (sh3 _ _ fog) kx4 ax4 lx4
    have ht4 := mk_none hx4 hdx4 nx4
    clear kx4 ax4 lx4 nx4 hnx4 hdx4
    have s34 := sh3.trans sh4
    have ht4g : Hg t4 = none := none_back sh3 ht4
    have w3i : Win CP (some sv) z Hi x3 t3 [] := w3.same sh4
    refine ⟨_, _, rfl, 4, rfl, by decide, by decide, for_range (lo := 0) (n := (4 : Int).toNat) (fun i σ H' => Keep [p] Hg H' ∧ PoolAt H' p ∧ (∃ L, Win CP (some sv) z H' x3 t3 L ∧ Win CP (some far) z H' x4 t4 L ∧ Good z L ∧ L.length ≤ i) ∧ ∃ v8 v9 v10 v11 : Option V, σ = [some (.ref p), some (.int z), some (.ref o), some (.int d), some (.ref fo), some (.ref D), some (.ref x3), some (.ref x4), v8, v9, v10, v11, none, none, none, none])
      ⟨Keep.of s34, pg.imp fun _ q => s34 _ _ q, ⟨[], w3i, w4, seen0, Nat.zero_le _⟩, none, none, none, none, rfl⟩ ?_ ?_⟩
    · rintro i σ H4 hi ⟨kk, hp4, ⟨L, W3, W4, g, hl⟩, v8, v9, v10, v11, rfl⟩
      have hi4 : i < 4 := hi
      have gn := g.few
      have npt4 := pool_nt hp4
      have o4 : PlAt H4 o sv := kk _ _ hop og
      have fop : fo ∉ [p] := fun m => pool_nt pg _ m _ fog
      have fo4 : PlAt H4 fo far := kk _ _ fop fog
      have ez : z = ((z.toNat : Nat) : Int) := by
        rcases hz with rfl | rfl <;> rfl
      refine ⟨_, rfl, _, rfl, p, z.toNat, 9, congrArg (fun x => [V.ref p, V.int x, V.int 9]) ez, hp4, by rcases hz with rfl | rfl <;> decide, by decide, pow290 (by decide), fun H5 v q k5 hp5 hv5 hql _ => ?_⟩
      obtain ⟨tp, rfl, htq⟩ := hv5
      have hq : (q.length : Int) = z := by omega
      have W3' := W3.pool hp4 k5
      have W4' := W4.pool hp4 k5
      have o5 : PlAt H5 o sv := k5 _ _ hop o4
      have fo5 : PlAt H5 fo far := k5 _ _ fop fo4
      refine ⟨line1000 (by show 0 ≤ 1000; decide), fun wl hwl => ?_⟩
      refine ⟨_, rfl, _, rfl, line1000 (by show 2 ≤ 1000; decide), fun bl hbl => ?_⟩
      obtain ⟨H6', e6⟩ : ∃ H6', H6' = L2.upd (L2.upd H5 wl (.lst [])) bl (.lst [.ref o, .ref fo]) := ⟨_, rfl⟩
      have s56 : Same H5 H6' := by
        rw [e6]
        exact (Same.one hwl).upd hbl
      have wl6 : H6' wl = some (.lst []) := by
        rw [e6]
        exact (upd_ne (ne_of_none upd_same hbl)).trans upd_same
      have bl6 : H6' bl = some (.lst [.ref o, .ref fo]) := by
        rw [e6]
        exact upd_same
      have nbw : bl ≠ wl := ne_of bl6 wl6 (by nofun)
      rw [← e6]
      clear e6
      have ntw : ∀ m ∈ [wl], ∀ ys, H6' m ≠ some (.tup ys) := fun m hm ys e => by
        rw [List.mem_singleton.mp hm, wl6] at e
        cases e
      have o6 := s56 _ _ o5
      have fo6 := s56 _ _ fo5
      have tq6 := s56 _ _ htq
      refine ⟨bl, rfl, ⟨_, SqL.of bl6⟩, for_list (K := K) (xs := [.ref o, .ref fo]) (fun j σ H' => Keep [wl] H6' H' ∧ H' wl = some (.lst (([.str (wordOf q sv).s, .str (wordOf q far).s] : List V).take j)) ∧ ∃ v11 : Option V, σ = [some (.ref p), some (.int z), some (.ref o), some (.int d), some (.ref fo), some (.ref D), some (.ref x3), some (.ref x4), some (.int (0 + (i : Nat))), some (.ref tp), some (.ref wl), v11, none, none, none, none])
        ⟨Keep.refl, wl6, _, rfl⟩ (fun j σ H' _ h => SqL.of (h.1 _ _ (by simpa using nbw) bl6)) ?_ ?_⟩
      · rintro j y σ H7 hj ⟨k7, hw7, v11, rfl⟩
        obtain ⟨b, sj, rfl, hb6, hsj, htk⟩ : ∃ (b : Addr) (sj : Pl), y = .ref b ∧ PlAt H6' b sj ∧ (sj.length : Int) = z ∧ ([.str (wordOf q sv).s, .str (wordOf q far).s] : List V).take (j + 1) = ([.str (wordOf q sv).s, .str (wordOf q far).s] : List V).take j ++ [.str (wordOf q sj).s] := by
          rcases j with _ | _ | j
          · exact ⟨o, sv, by simpa using hj.symm, o6, hs, rfl⟩
          · exact ⟨fo, far, by simpa using hj.symm, fo6, flen, rfl⟩
          · simp at hj
        have hb7 : PlAt H7 b sj := k7 _ _ (fun m => ntw _ m _ hb6) hb6
        have tq7 : PlAt H7 tp q := k7 _ _ (fun m => ntw _ m _ tq6) tq6
        refine ⟨_, rfl, .inl ⟨rfl, _, SqL.of hw7⟩, line1000 (by show 2 ≤ 1000; decide), fun q1 hq1 => ?_⟩
        have s78 := Same.one (o := .lst [.str "hidden", .str "seen"]) hq1
        refine ⟨_, rfl, _, rfl, tp, b, _, _, rfl, .inr ⟨SqT.of (s78 _ _ tq7), SqT.of (s78 _ _ hb7), fun D2 hD2 => lcZ hD2 (s78 _ _ tq7) (s78 _ _ hb7) (by omega) (by omega) (fun _ _ => rfl) (fun _ _ => rfl) (fun _ _ => rfl) fun H8 s8 h8 => ?_⟩⟩
        have e2 : decide (V.int ((gcdL (plusL q sj) : Nat) : Int) = V.int 1) = decide (gcdL (plusL q sj) = 1) := by
          rw [dec_int]
          by_cases h : gcdL (plusL q sj) = 1
          · rw [h]
            rfl
          · rw [decide_eq_false h]
            exact beq_eq_false_iff_ne.mpr fun z => h (by omega)
        have s7A := s78.trans s8
        have q18 : H8 q1 = some (.lst [.str "hidden", .str "seen"]) := s8 _ _ upd_same
        refine ⟨D2, plusL q sj, rfl, SqL.of h8, rfl, .inr ⟨_, rfl, ?_⟩⟩
        have fin : ∀ (ii : Int), atI ([.str "hidden", .str "seen"] : List V) ii = some (.str (wordOf q sj).s) → ii = (if decide (V.int ((gcdL (plusL q sj) : Nat) : Int) = V.int 1) = true then 1 else 0) → rIxL K (.ref q1) (.int ii) H8 (fun y H' => rAppend (.ref wl) [y] H' (fun _ H' => Keep [wl] H6' H' ∧ H' wl = some (.lst (([.str (wordOf q sv).s, .str (wordOf q far).s] : List V).take (j + 1))) ∧ ∃ v11 : Option V, [some (V.ref p), some (.int z), some (.ref o), some (.int d), some (.ref fo), some (.ref D), some (.ref x3), some (.ref x4), some (.int (0 + (i : Nat))), some (.ref tp), some (.ref wl), some (.ref b), none, none, none, none] = [some (.ref p), some (.int z), some (.ref o), some (.int d), some (.ref fo), some (.ref D), some (.ref x3), some (.ref x4), some (.int (0 + (i : Nat))), some (.ref tp), some (.ref wl), v11, none, none, none, none])) := by
          intro ii hat _
          refine ⟨q1, _, ii, _, rfl, rfl, SqL.of q18, hat, wl, _, _, rfl, rfl, s7A _ _ hw7, ?_, (k7.trans (Keep.of s7A)).upd (by simp), ?_, _, rfl⟩
          · rw [List.length_take]
            exact small1000 (by show min j 2 ≤ 1000; omega)
          · rw [upd_same, htk]
        have wv : (wordOf q sj) = if gcdL (plusL q sj) = 1 then .seen else .hidden := rfl
        by_cases h : gcdL (plusL q sj) = 1
        · refine fin _ ?_ rfl
          rw [e2, decide_eq_true h, wv, if_pos h]
          exact at_of (j := 1) rfl rfl
        · refine fin _ ?_ rfl
          rw [e2, decide_eq_false h, wv, if_neg h]
          exact at_of (j := 0) rfl rfl
      · rintro σ H7 ⟨k7, hw7, v11, rfl⟩
        have kw7 : Keep [p] H4 H7 := fun b ob hb e => by
          have e5 := k5 _ _ hb e
          have n1 : b ≠ wl := ne_of_none e5 hwl
          exact k7 _ _ (by simpa using n1) (s56 _ _ e5)
        have hwlp : wl ∉ [p] := fun m => by
          obtain ⟨z5, hz5⟩ := hp5
          rw [List.mem_singleton.mp m, hz5] at hwl
          cases hwl
        have hp7 : PoolAt H7 p := hp5.imp fun _ q => k7 _ _ (fun m => hwlp (by rw [List.mem_singleton.mp m]; simp)) (s56 _ _ q)
        have W37 := W3.pool hp4 kw7
        have W47 := W4.pool hp4 kw7
        have tq7 : PlAt H7 tp q := k7 _ _ (fun m => ntw _ m _ tq6) tq6
        have wl7 : H7 wl = some (.lst [.str (wordOf q sv).s, .str (wordOf q far).s]) := hw7
        have kkk : Keep [p] Hg H7 := kk.trans kw7
        have stay : ∀ {H' : Hp} {v9 v10 v11 : Option V}, Same H7 H' → (Keep [p] Hg H' ∧ PoolAt H' p ∧ (∃ L, Win CP (some sv) z H' x3 t3 L ∧ Win CP (some far) z H' x4 t4 L ∧ Good z L ∧ L.length ≤ i + 1) ∧ ∃ w8 w9 w10 w11 : Option V, [some (V.ref p), some (.int z), some (.ref o), some (.int d), some (.ref fo), some (.ref D), some (.ref x3), some (.ref x4), some (.int (0 + (i : Nat))), v9, v10, v11, none, none, none, none] = [some (.ref p), some (.int z), some (.ref o), some (.int d), some (.ref fo), some (.ref D), some (.ref x3), some (.ref x4), w8, w9, w10, w11, none, none, none, none]) := fun {H' v9 v10 v11} s' =>
          ⟨kkk.trans (Keep.of s'), hp7.imp fun _ q => s' _ _ q, ⟨L, W37.same s', W47.same s', g, by omega⟩, _, _, _, _, rfl⟩
        refine ⟨_, rfl, wl, _, 0, _, rfl, rfl, SqL.of wl7, at_of (j := 0) rfl rfl, _, rfl, wl, _, 1, _, rfl, rfl, SqL.of wl7, at_of (j := 1) rfl rfl, rfl, _, rfl, ?_⟩
        rw [dec_str, Wd.beq]
        by_cases hww : wordOf q sv = wordOf q far
        · refine iteP (decide_eq_true hww) ?_
          obtain ⟨⟨dx3, ot3, e3, _⟩, _⟩ := id W37
          refine ⟨_, rfl, _, rfl, x3, dx3, _, rfl, e3, x3, t3, z, L, rfl, W37, fun H8 D8 s8 hD8 _ => ?_⟩
          obtain ⟨us, hus, hup⟩ := hD8
          refine ⟨D8, rfl, ⟨_, SqL.of hus⟩, fun D9 hD9 => lcF (keep := fun _ => true) hD9 hus hup (by omega) (fun _ _ => rfl) (fun _ _ => rfl) (fun _ _ _ _ h => h) fun H9 ws s9 hws hwp => ?_⟩
          have s79 := s8.trans s9
          refine ⟨plD q, (fstIf (fun _ => true) L).map plD, dp_sqt (SqT.of (s79 _ _ tq7)), ArePl.dp hws hwp, plD_sh _, plsD_sh _, _, rfl, ?_⟩
          rw [plsD_any, fstIf_all]
          by_cases hm : q ∈ L.map Prod.fst
          · rw [decide_eq_true hm]
            exact iteN rfl (stay s79)
          · rw [decide_eq_false hm]
            refine iteP rfl ?_
            have W39 := W37.same s79
            have W49 := W47.same s79
            have wl9 := s79 _ _ wl7
            have tq9 : PlAt H9 tp q := s79 _ _ tq7
            refine ⟨_, rfl, x3, rfl, _, rfl, _, rfl, wl, _, 0, _, rfl, rfl, SqL.of wl9, at_of (j := 0) rfl rfl, ⟨dx3, _, s79 _ _ e3⟩, sv, x3, t3, tp, z, L, q, wordOf q sv, rfl, hz, W39, g, tq9, (fun s e => by injection e with e; rw [← e]; exact hs), ?_⟩
            rw [due_ok hq hm]
            intro H10 k10 W3a
            have t34 : t3 ≠ t4 := ne_of_none w3.nil_at ht4
            have x34 : x4 ≠ t3 := by
              obtain ⟨⟨dx4, ot4, e4, _⟩, _⟩ := id W49
              obtain ⟨xs3, h3, _⟩ := W39.lks
              exact ne_of e4 h3 (by nofun)
            have nt3 : ∀ m ∈ [t3], ∀ ys, H9 m ≠ some (.tup ys) := fun m hm ys e => by
              obtain ⟨xs3, h3, _⟩ := W39.lks
              rw [List.mem_singleton.mp hm, h3] at e
              cases e
            have W4a := W49.keep k10 (by simpa using x34) (by simpa using t34.symm) nt3
            have wlt3 : wl ≠ t3 := fun e => by
              obtain ⟨xs3, h3, h4⟩ := W39.lks
              rw [← e, wl9] at h3
              cases h3
              cases h4 with
              | cons hh _ =>
                obtain ⟨_, _, q, _⟩ := hh
                cases q
            have wl10 : H10 wl = some (.lst [.str (wordOf q sv).s, .str (wordOf q far).s]) := k10 _ _ (by simpa using wlt3) wl9
            have tq10 : PlAt H10 tp q := k10 _ _ (fun m => nt3 _ m _ tq9) tq9
            obtain ⟨⟨dx4, ot4, e4, _⟩, _⟩ := id W4a
            refine ⟨_, rfl, x4, rfl, _, rfl, _, rfl, wl, _, 0, _, rfl, rfl, SqL.of wl10, at_of (j := 0) rfl rfl, ⟨dx4, _, e4⟩, far, x4, t4, tp, z, L, q, wordOf q sv, rfl, hz, W4a, g, tq10, (fun s e => by injection e with e; rw [← e]; exact flen), ?_⟩
            rw [hww, due_ok hq hm]
            intro H11 k11 W4b
            have x43 : x3 ≠ t4 := by
              obtain ⟨⟨dx3', ot3', e3', _⟩, _⟩ := id W3a
              obtain ⟨xs4, h4, _⟩ := W4a.lks
              exact ne_of e3' h4 (by nofun)
            have nt4 : ∀ m ∈ [t4], ∀ ys, H10 m ≠ some (.tup ys) := fun m hm ys e => by
              obtain ⟨xs4, h4, _⟩ := W4a.lks
              rw [List.mem_singleton.mp hm, h4] at e
              cases e
            have W3b := W3a.keep k11 (by simpa using x43) (by simpa using t34) nt4
            rw [hww] at W3b
            have hpt3 : p ≠ t3 := (pool_ne (hp7.imp fun _ q => s79 _ _ q) W39.lks).symm
            have hpt4 : p ≠ t4 := (pool_ne (hp7.imp fun _ q => s79 _ _ q) W49.lks).symm
            refine ⟨fun b ob hb e => ?_, ?_, ⟨L ++ [(q, wordOf q far)], W3b, W4b, g.snoc hq (by omega), by rw [List.length_append]; show _ + 1 ≤ _; omega⟩, _, _, _, _, rfl⟩
            · have n3 : b ≠ t3 := ne_of_none e ht3
              have n4 : b ≠ t4 := ne_of_none e ht4g
              exact k11 _ _ (by simpa using n4) (k10 _ _ (by simpa using n3) (s79 _ _ (kkk _ _ hb e)))
            · exact hp7.imp fun _ q => k11 _ _ (by simpa using hpt4) (k10 _ _ (by simpa using hpt3) (s79 _ _ q))
        · exact iteN (decide_eq_false hww) (iteF (stay (Same.refl H7)))
    · rintro σ H1 ⟨kk, hp1, ⟨L, W3, W4, g, hl⟩, v8, v9, v10, v11, rfl⟩
      have nDp : D ∉ [p] := fun m => by
        obtain ⟨z1, hz1⟩ := pg
        rw [List.mem_singleton.mp m, hz1] at gD
        cases gD
      refine ⟨_, rfl, _, rfl, _, rfl, line1000 (by show 2 ≤ 1000; decide), fun u3 hu3 => ⟨line1000 (by show 1 ≤ 1000; decide), fun q hq => ⟨D, q, [.ref u1, .ref u2], [.ref u3], rfl, rfl, ?_, upd_same, line1000 (by show 3 ≤ 1000; decide), fun E' hE => ?_⟩⟩⟩
      · have e1 := (Same.one (o := .tup [.ref x3, .ref x4]) hu3) _ _ (kk _ _ nDp gD)
        exact (upd_ne (ne_of_none e1 hq)).trans e1
      · have sZ : Same H1 (L2.upd (L2.upd (L2.upd H1 u3 (.tup [.ref x3, .ref x4])) q (.lst [.ref u3])) E' (.lst ([.ref u1, .ref u2] ++ [.ref u3]))) := Same.upd (Same.upd (Same.one hu3) hq) hE
        refine hQ _ E' _ ((kpg.trans kk).trans (Keep.of sZ)) (hp1.imp fun _ q => sZ _ _ q) upd_same (by simp) fun v hv => ?_
        rcases List.mem_append.mp hv with hv | hv
        · rcases List.mem_cons.mp hv with rfl | hv
          · exact (pair1.pool pg kk).same sZ
          · rw [List.mem_singleton.mp hv]
            exact (pair2.pool pg kk).same sZ
        · rw [List.mem_singleton.mp hv]
          have e3 : (L2.upd (L2.upd H1 u3 (.tup [.ref x3, .ref x4])) q (.lst [.ref u3])) u3 = some (.tup [.ref x3, .ref x4]) := (upd_ne (ne_of_none upd_same hq)).trans upd_same
          exact ⟨u3, x3, x4, rfl, (upd_ne (ne_of_none e3 hE)).trans e3, .pp (W3.same sZ) (W4.same sZ) (.inl fne)⟩
end
end K94
namespace K94
open PySem L2
abbrev sEqu : Stmt := top 55
/-! ### comparisons of windows with anything -/
structure EqK (P : Program) (w : World) (K : PySem.W.Frag) (mg : Str → Option Value) (base : Heap) (CW CP CI : Addr) : Prop where
  eW : EqF P w K mg base CX0 3 CW ["self", "other"] (spEqW K CW CP)
  eP : EqF P w K mg base CX0 3 CP ["self", "other"] (spEqP K CP)
  eI : EqF P w K mg base CX0 3 CI ["self", "other"] (spCEq K CI)
  ne : CP ≠ CW
  sub : PySem.W.subIn K (.ref CP) (.ref CW) = some true
  nPW : PySem.W.notFirst K CP (.ref CW) = true
  ty : ∀ C ∈ [CW, CP], ∀ T ∈ (["NoneType", "int", "list", "tuple"] : List String), PySem.W.notFirst K C (.type T) = true ∧ PySem.W.subIn K (.ref C) (.type T) = some false ∧ PySem.W.kitOne K (.type T) (.ref C) = some false
  pic : ∀ C ∈ [CW, CP], PySem.W.notFirst K C (.ref CI) = true ∧ PySem.W.notFirst K CI (.ref C) = true ∧ PySem.W.kitOne K (.ref CI) (.ref C) = some false ∧ PySem.W.kitOne K (.ref C) (.ref CI) = some false
theorem nf_self (K : PySem.W.Frag) (C : Addr) : PySem.W.notFirst K C (.ref C) = true := by
  unfold PySem.W.notFirst
  simp
def clOf (CW CP : Addr) (sh : Option Pl) : Addr := match sh with
  | none => CW
  | some _ => CP
theorem clOf_in (CW CP : Addr) (sh : Option Pl) : clOf CW CP sh ∈ [CW, CP] := by cases sh <;> simp [clOf]
/-- other things -/
inductive Thing (CI : Addr) (H : Hp) : V → Prop
  | non : Thing CI H .non
  | int (i : Int) : Thing CI H (.int i)
  | lst {a : Addr} {xs : List V} (h : H a = some (.lst xs)) : Thing CI H (.ref a)
  | tup {a : Addr} {xs : List V} (h : H a = some (.tup xs)) : Thing CI H (.ref a)
  | pic {a dx : Addr} {fs : List (Str × V)} (h : H a = some (.ins CI dx fs)) : Thing CI H (.ref a)
section
variable {X : Cx} {CW CP CI : Addr} {H : Hp} {op : CmpOp} {Q : VK}
theorem cmp_kin {sh : Option Pl} {z : Int} {x y t t' : Addr} {L L' : List Lk} (T : TwoW X.K X.mg CW CP) (e : EqK X.prog X.w X.K X.mg X.base CW CP CI) (h : Win (clOf CW CP sh) sh z H x t L) (h' : Win (clOf CW CP sh) sh z H y t' L') (q : Q (.bl (sgn op (decide (L = L')))) H) : rCmp X CX0 3 E0 op (.ref x) (.ref y) H Q := by
  obtain ⟨⟨dx, ot, hx, _⟩, _⟩ := id h
  obtain ⟨⟨dy, oy, hy, _⟩, _⟩ := id h'
  cases sh with
  | none => exact .inl ⟨x, CW, dx, _, .ref CW, _, _, rfl, hx, T.tW.ty hy, nf_self _ _, e.eW, x, t, _, z, L, rfl, h, .inl ⟨z, y, t', L', rfl, h', _, rfl, by simpa using q⟩⟩
  | some s => exact .inl ⟨x, CP, dx, _, .ref CP, _, _, rfl, hx, T.tP.ty hy, nf_self _ _, e.eP, x, t, _, z, s, L, rfl, h, .inl ⟨z, y, t', s, L', rfl, h', _, rfl, by simpa using q⟩⟩
theorem cmp_uneq {x y : Addr} (T : TwoW X.K X.mg CW CP) (e : EqK X.prog X.w X.K X.mg X.base CW CP CI) (h : Uneq CW CP H x y) (q : Q (.bl (sgn op false)) H) : rCmp X CX0 3 E0 op (.ref x) (.ref y) H Q := by
  cases h with
  | @ww z z' t t' L L' h h' n =>
    obtain ⟨⟨dx, ot, hx, _⟩, _⟩ := id h
    obtain ⟨⟨dy, oy, hy, _⟩, _⟩ := id h'
    refine .inl ⟨x, CW, dx, _, .ref CW, _, _, rfl, hx, T.tW.ty hy, nf_self _ _, e.eW, x, t, _, z, L, rfl, h, .inl ⟨z', y, t', L', rfl, h', _, rfl, ?_⟩⟩
    have : (decide (z = z') && decide (L = L')) = false := by
      rcases n with n | n
      · rw [decide_eq_false n]
        rfl
      · rw [decide_eq_false n, Bool.and_false]
    rw [this]
    exact q
  | @pp z z' s s' t t' L L' h h' n =>
    obtain ⟨⟨dx, ot, hx, _⟩, _⟩ := id h
    obtain ⟨⟨dy, oy, hy, _⟩, _⟩ := id h'
    refine .inl ⟨x, CP, dx, _, .ref CP, _, _, rfl, hx, T.tP.ty hy, nf_self _ _, e.eP, x, t, _, z, s, L, rfl, h, .inl ⟨z', y, t', s', L', rfl, h', _, rfl, ?_⟩⟩
    have : (decide (s = s') && decide (L = L')) = false := by
      rcases n with n | n
      · rw [decide_eq_false n]
        rfl
      · rw [decide_eq_false n, Bool.and_false]
    rw [this]
    exact q
  | @wp z z' s' t t' L L' h h' =>
    obtain ⟨⟨dx, ot, hx, _⟩, _⟩ := id h
    obtain ⟨⟨dy, oy, hy, _⟩, _⟩ := id h'
    exact .inr (.inl ⟨x, CW, dx, _, y, CP, dy, _, _, _, rfl, rfl, hx, hy, e.ne, e.sub, e.eP, y, t', _, z', s', L', rfl, h', .inr ⟨.ref CW, T.tW.ty hx, T.wp, _, rfl, q⟩⟩)
  | @pw z z' s t t' L L' h h' =>
    obtain ⟨⟨dx, ot, hx, _⟩, _⟩ := id h
    obtain ⟨⟨dy, oy, hy, _⟩, _⟩ := id h'
    exact .inl ⟨x, CP, dx, _, .ref CW, _, _, rfl, hx, T.tW.ty hy, e.nPW, e.eP, x, t, _, z, s, L, rfl, h, .inr ⟨.ref CW, T.tW.ty hy, T.wp, _, rfl, q⟩⟩
theorem Uneq.symm {x y : Addr} (h : Uneq CW CP H x y) : Uneq CW CP H y x := by
  cases h with
  | ww h h' n => exact .ww h' h (n.imp Ne.symm Ne.symm)
  | pp h h' n => exact .pp h' h (n.imp Ne.symm Ne.symm)
  | wp h h' => exact .pw h' h
  | pw h h' => exact .wp h' h
theorem thing_ty {y : V} (tI : TyC X.K CI) (e : EqK X.prog X.w X.K X.mg X.base CW CP CI) (h : Thing CI H y) {C : Addr} (hC : C ∈ [CW, CP]) : ∃ t, TyX X.K H y t ∧ PySem.W.notFirst X.K C t = true ∧ PySem.W.kitOne X.K t (.ref C) = some false := by
  cases h with
  | non => exact ⟨_, .base .non, (e.ty C hC "NoneType" (by decide)).1, (e.ty C hC "NoneType" (by decide)).2.2⟩
  | int i => exact ⟨_, .base (.int i), (e.ty C hC "int" (by decide)).1, (e.ty C hC "int" (by decide)).2.2⟩
  | lst h => exact ⟨_, .base (.lst h), (e.ty C hC "list" (by decide)).1, (e.ty C hC "list" (by decide)).2.2⟩
  | tup h => exact ⟨_, .base (.tup h), (e.ty C hC "tuple" (by decide)).1, (e.ty C hC "tuple" (by decide)).2.2⟩
  | pic h => exact ⟨_, tI.ty h, (e.pic C hC).1, (e.pic C hC).2.2.1⟩
/-- a window's own == with a thing -/
theorem eq_thing {sh : Option Pl} {z : Int} {x t : Addr} {L : List Lk} {y : V} {ty : Value} {R : VK} (h : Win (clOf CW CP sh) sh z H x t L) (hy : TyX X.K H y ty) (hk : PySem.W.kitOne X.K ty (.ref (clOf CW CP sh)) = some false) (e : EqK X.prog X.w X.K X.mg X.base CW CP CI) (q : R (.bl false) H) :
    ∃ ps sp, EqF X.prog X.w X.K X.mg X.base CX0 3 (clOf CW CP sh) ps sp ∧ sp [.ref x, y] H R E0 := by
  cases sh with
  | none => exact ⟨_, _, e.eW, x, t, y, z, L, rfl, h, .inr ⟨ty, hy, .inl hk, q⟩⟩
  | some s => exact ⟨_, _, e.eP, x, t, y, z, s, L, rfl, h, .inr ⟨ty, hy, hk, q⟩⟩
theorem cmp_thing {sh : Option Pl} {z : Int} {x t : Addr} {L : List Lk} {y : V} (tI : TyC X.K CI) (e : EqK X.prog X.w X.K X.mg X.base CW CP CI) (h : Win (clOf CW CP sh) sh z H x t L) (hy : Thing CI H y) (q : Q (.bl (sgn op false)) H) : rCmp X CX0 3 E0 op (.ref x) y H Q := by
  obtain ⟨⟨dx, ot, hx, _⟩, _⟩ := id h
  obtain ⟨ty, h1, h2, h3⟩ := thing_ty tI e hy (clOf_in CW CP sh)
  obtain ⟨ps, sp, h4, h5⟩ := eq_thing (R := BQ op Q) h h1 h3 e ⟨_, rfl, q⟩
  exact .inl ⟨x, _, dx, _, ty, ps, sp, rfl, hx, h1, h2, h4, h5⟩
theorem cmp_thing' {sh : Option Pl} {z : Int} {x t : Addr} {L : List Lk} {y : V} (T : TwoW X.K X.mg CW CP) (tI : TyC X.K CI) (e : EqK X.prog X.w X.K X.mg X.base CW CP CI) (h : Win (clOf CW CP sh) sh z H x t L) (hy : Thing CI H y) (q : Q (.bl false) H) : rCmp X CX0 3 E0 .Eq y (.ref x) H Q := by
  obtain ⟨⟨dx, ot, hx, _⟩, _⟩ := id h
  have hC := clOf_in CW CP sh
  obtain ⟨ty, h1, h2, h3⟩ := thing_ty tI e hy hC
  obtain ⟨ps, sp, h4, h5⟩ := eq_thing (R := BQ .Eq Q) h h1 h3 e ⟨_, rfl, q⟩
  cases hy with
  | non => exact .inr (.inr ⟨rfl, "NoneType", x, _, dx, _, ps, sp, rfl, .non, hx, (e.ty _ hC "NoneType" (by decide)).2.1, h4, h5⟩)
  | int i => exact .inr (.inr ⟨rfl, "int", x, _, dx, _, ps, sp, rfl, .int i, hx, (e.ty _ hC "int" (by decide)).2.1, h4, h5⟩)
  | lst hh => exact .inr (.inr ⟨rfl, "list", x, _, dx, _, ps, sp, rfl, .lst hh, hx, (e.ty _ hC "list" (by decide)).2.1, h4, h5⟩)
  | tup hh => exact .inr (.inr ⟨rfl, "tuple", x, _, dx, _, ps, sp, rfl, .tup hh, hx, (e.ty _ hC "tuple" (by decide)).2.1, h4, h5⟩)
  | @pic a da fs hh =>
    have tx : TyX X.K H (.ref x) (.ref (clOf CW CP sh)) := by
      cases sh with
      | none => exact T.tW.ty hx
      | some s => exact T.tP.ty hx
    exact .inl ⟨a, CI, da, fs, _, _, _, rfl, hh, tx, (e.pic _ hC).2.1, e.eI, a, _, _, rfl, tx, (e.pic _ hC).2.2.2, _, rfl, q⟩
end
theorem pe_or2 {X : Cx} {e : Expr} {t u : TE} (h1 : PE X e t) (h2 : PE X e u) : PE X e (fun σ H Q => t σ H Q ∨ u σ H Q) := ⟨fun pins s σ H Q I q => by
  rcases q with q | q
  · exact h1.run pins s σ H Q I q
  · exact h2.run pins s σ H Q I q⟩
end K94
namespace K94
open PySem L2
/-! ### looks that were taken one behind another -/
theorem runL_app {sh : Option Pl} {z : Int} : ∀ {A B C : List Lk}, runL sh z A (B ++ C) = match runL sh z A B with
    | some e => some e
    | none => runL sh z (A ++ B) C
  | A, [], C => by
    show runL sh z A C = runL sh z (A ++ []) C
    rw [List.append_nil]
  | A, x :: B, C => by
    show (match due sh z A x.1 x.2 with | some e => some e | none => runL sh z (A ++ [x]) (B ++ C)) = match (match due sh z A x.1 x.2 with | some e => some e | none => runL sh z (A ++ [x]) B) with
      | some e => some e
      | none => runL sh z (A ++ x :: B) C
    cases due sh z A x.1 x.2 with
    | some e => rfl
    | none =>
      show runL sh z (A ++ [x]) (B ++ C) = match runL sh z (A ++ [x]) B with
        | some e => some e
        | none => runL sh z (A ++ x :: B) C
      rw [runL_app (A := A ++ [x]) (B := B) (C := C), List.append_assoc]
      rfl
theorem runL_snoc {sh : Option Pl} {z : Int} {L : List Lk} {x : Lk} (h : runL sh z [] (L ++ [x]) = none) : runL sh z [] L = none ∧ due sh z L x.1 x.2 = none := by
  rw [runL_app] at h
  cases h1 : runL sh z [] L with
  | some e => rw [h1] at h; cases h
  | none =>
    rw [h1] at h
    refine ⟨rfl, ?_⟩
    have h2 : (match due sh z ([] ++ L) x.1 x.2 with | some e => some e | none => (none : Option Er)) = none := h
    rw [List.nil_append] at h2
    cases h3 : due sh z L x.1 x.2 with
    | some e => rw [h3] at h2; cases h2
    | none => rfl
theorem runL_last {sh : Option Pl} {z : Int} {L : List Lk} (h : runL sh z [] L = none) : runL sh z [] L.dropLast = none := by
  rcases List.eq_nil_or_concat L with rfl | ⟨M, x, rfl⟩
  · exact h
  · rw [List.concat_eq_append, List.dropLast_concat]
    exact (runL_snoc (by rwa [List.concat_eq_append] at h)).1
theorem withW_snoc (L : List Lk) (x : Lk) (wd : Wd) : withW (L ++ [x]) wd = withW L wd ++ if x.2 = wd then [x.1] else [] := by
  unfold withW
  rw [List.filter_append, List.map_append]
  congr 1
  by_cases h : x.2 = wd
  · rw [if_pos h, List.filter_cons_of_pos (p := fun y : Lk => decide (y.2 = wd)) (decide_eq_true h)]
    rfl
  · rw [if_neg h, List.filter_cons_of_neg (p := fun y : Lk => decide (y.2 = wd)) (by rw [decide_eq_false h]; decide)]
    rfl
theorem vld_of {sh : Option Pl} {z : Int} (hz : Sz z) (hs : ∀ s, sh = some s → (s.length : Int) = z) : ∀ (n : Nat) (L : List Lk), L.length = n → runL sh z [] L = none → L.length ≤ 30 → Vld sh z L
  | 0, L, hl, _, _ => by
    have : L = [] := List.length_eq_zero_iff.mp hl
    subst this
    exact ⟨⟨by decide, (fun x hx => nomatch hx)⟩, by decide, List.nodup_nil, (fun x hx => nomatch hx), (fun _ _ x hx => nomatch hx), by rcases hz with rfl | rfl <;> decide +kernel⟩
  | n + 1, L, hl, hr, hf => by
    rcases List.eq_nil_or_concat L with rfl | ⟨M, x, rfl⟩
    · cases hl
    rw [List.concat_eq_append] at hl hr hf ⊢
    rw [List.length_append] at hl hf
    have hl' : M.length = n := by
      have : ([x] : List Lk).length = 1 := rfl
      omega
    have hf' : M.length ≤ 30 := by omega
    obtain ⟨hr', hd⟩ := runL_snoc hr
    have v := vld_of hz hs n M hl' hr' hf'
    have hck : chk z M x.1 x.2 = none := by
      unfold due at hd
      cases h : chk z M x.1 x.2 with
      | some e => rw [h] at hd; cases hd
      | none => rfl
    have hlen := chk_len hck
    have hwd : x.2 ≠ .none_ := fun e => by
      unfold chk at hck
      rw [if_neg fun n => n hlen, if_pos e] at hck
      cases hck
    have hnew : x.1 ∉ M.map Prod.fst := fun e => by
      unfold chk at hck
      rw [if_neg fun n => n hlen, if_neg hwd, if_pos e] at hck
      cases hck
    have one1 : ([x] : List Lk).length = 1 := rfl
    have good : Good z (M ++ [x]) := ⟨by rw [List.length_append]; omega, fun y hy => by
      rcases List.mem_append.mp hy with hy | hy
      · exact v.good.len y hy
      · rw [List.mem_singleton.mp hy]
        exact hlen⟩
    have gc : ∀ s, sh = some s → ∀ y ∈ M ++ [x], y.2 = .seen → gcdL (plusL y.1 s) = 1 := fun s e y hy hw => by
      rcases List.mem_append.mp hy with hy | hy
      · exact v.gc s e y hy hw
      · rw [List.mem_singleton.mp hy] at hw ⊢
        subst e
        unfold due at hd
        rw [hck] at hd
        dsimp only at hd
        by_cases h : decide (gcdL (plusL x.1 s) = 1) = decide (x.2 = .seen)
        · rw [decide_eq_true hw] at h
          exact of_decide_eq_true h
        · rw [if_neg h] at hd
          cases hd
    refine ⟨good, by rw [List.length_append]; omega, ?_, fun y hy => ?_, gc, ?_⟩
    · rw [List.map_append, List.nodup_append]
      refine ⟨v.nd, by simp, fun a ha b hb e => ?_⟩
      rw [List.map_cons, List.map_nil, List.mem_singleton] at hb
      exact hnew (by rw [← hb, ← e]; exact ha)
    · rcases List.mem_append.mp hy with hy | hy
      · exact v.wd y hy
      · rw [List.mem_singleton.mp hy]
        exact hwd
    · cases sh with
      | some s =>
        refine seen_nobar hz (hs s rfl) fun q hq => ?_
        obtain ⟨y, hy, rfl, hw⟩ := mem_withW hq
        exact ⟨good.len y hy, gc s rfl y hy hw⟩
      | none =>
        rw [withW_snoc]
        by_cases hw : x.2 = .seen
        · rw [if_pos hw]
          unfold due at hd
          rw [hck] at hd
          dsimp only at hd
          rw [if_pos hw] at hd
          cases h : wbar z (withW M .seen ++ [x.1]) with
          | none => rfl
          | some p => rw [h] at hd; cases hd
        · rw [if_neg hw, List.append_nil]
          exact v.nb
end K94
namespace K94
open PySem L2
section
variable {P : Program} {w : World} {K : PySem.W.Frag} {mg : Str → Option Value} {base : Heap} {cn : Str → Addr} {CI CW CP : Addr}
def spEqu (CW CP : Addr) : Sp := fun vs H Q _ => ∃ (p ws lo o a0 a1 t0 t1 l0 l1 : Addr) (z : Int) (s : Pl) (L0 L1 : List Lk), vs = [.ref p, .ref ws, .ref lo, .int z, .ref o] ∧ Sz z ∧ (s.length : Int) = z ∧ PoolAt H p ∧ PlAt H o s ∧ H ws = some (.lst [.ref a0, .ref a1]) ∧ H lo = some (.lst [.ref l0, .ref l1]) ∧
  Win CW none z H a0 t0 L0 ∧ Win CP (some s) z H a1 t1 L1 ∧ LksAt H l0 L0 ∧ LksAt H l1 L1 ∧ runL none z [] L0 = none ∧ runL (some s) z [] L1 = none ∧ L0.length ≤ 30 ∧ L1.length ≤ 30 ∧ ∀ H', Q (.bl true) H'
abbrev nEqu : List Str := ["_law_pool_here", "_law_windows", "_law_looks_here", "_law_size", "_law_shift", "_law_same", "_law_pairs", "_law_one", "_law_other", "_law_k", "_law_thing"]
theorem scEqu : FnScope nEqu ["_law_pool_here", "_law_windows", "_law_looks_here", "_law_size", "_law_shift"] (defScope sEqu) := ⟨rfl, rfl, rfl, by decide +kernel, rfl, by decide +kernel, by decide +kernel⟩
theorem or_undo {sh : Option Pl} {sv : Pl} {E : L2.St → XK} {ta : TE} {t : TA} {σ : L2.St} {H : Hp} {Q : VK} (hsh : sh = none ∨ sh = some sv) (h : tMS (clOf CW CP sh) "undo" (spUndo cn (clOf CW CP sh) sh) E ta t σ H Q) : tMS CW "undo" (spUndo cn CW none) E ta t σ H Q ∨ tMS CP "undo" (spUndo cn CP (some sv)) E ta t σ H Q := by
  rcases hsh with rfl | rfl
  · exact .inl h
  · exact .inr h
theorem or_pic {sh : Option Pl} {sv : Pl} {ta : TE} {σ : L2.St} {H : Hp} {Q : VK} (hsh : sh = none ∨ sh = some sv) (h : tProp (clOf CW CP sh) (spPicture CI (clOf CW CP sh) sh) [] E0 ta σ H Q) : tProp CW (spPicture CI CW none) [] E0 ta σ H Q ∨ tProp CP (spPicture CI CP (some sv)) [] E0 ta σ H Q := by
  rcases hsh with rfl | rfl
  · exact .inl h
  · exact .inr h
theorem uneq_kin {sh : Option Pl} {z : Int} {H : Hp} {x y t t' : Addr} {L L' : List Lk} (h : Win (clOf CW CP sh) sh z H x t L) (h' : Win (clOf CW CP sh) sh z H y t' L') (n : L ≠ L') : Uneq CW CP H x y := by
  cases sh with
  | none => exact .ww h h' (.inr n)
  | some s => exact .pp h h' (.inr n)
theorem LksAt.pool {H H' : Hp} {l p : Addr} {L : List Lk} (h : LksAt H l L) (hp : PoolAt H p) (k : Keep [p] H H') : LksAt H' l L := h.keep k (by simpa using pool_ne hp h) (pool_nt hp)
theorem refs_ne {H : Hp} {p l a b : Addr} (hp : PoolAt H p) (h : H l = some (.lst [.ref a, .ref b])) : l ∉ [p] := fun m => by
  obtain ⟨z1, hz1⟩ := hp
  rw [List.mem_singleton.mp m, hz1] at h
  cases h
theorem ok_equ {f : Addr} {fd : FuncData} (F : Fun K "_law_is_equal" "_law_is_equal" sEqu f fd) (mL : mg "list" = none) (mR : mg "range" = none) (T : TwoW K mg CW CP) (tI : TyC K CI) (EK : EqK P w K mg base CW CP CI) (WW : WinP P w K mg base cn CI CW none) (WPP : ∀ s, WinP P w K mg base cn CI CP (some s))
    (MW : MkF P w K mg base 1 "Window" CW ["self", "size"] (spWIni K)) (MP : MkF P w K mg base 5 "PlacedWindow" CP ["self", "shift"] (spPIni K CP)) (GU : GF P w K mg base CX0 9 "_law_unlike" ["_law_pool_here", "_law_size", "_law_shift"] (spUnl CW CP)) :
    FnOk P w K mg base CX0 11 f fd ["_law_pool_here", "_law_windows", "_law_looks_here", "_law_size", "_law_shift"] (spEqu CW CP) := by
  refine F.ok scEqu (fun vs H Q E h => ?_) (fun cdv A outer s H vs Q E hr h => ?_)
  · obtain ⟨p, ws, lo, o, a0, a1, t0, t1, l0, l1, z, sv, L0, L1, rfl, _⟩ := h
    rfl
  · obtain ⟨p, ws, lo, o, a0, a1, t0, t1, l0, l1, z, sv, L0, L1, rfl, hz, hs, hp, ho, hws, hlo, W0, W1, K0, K1, re0, re1, f0, f1, hQ⟩ := h
    refine ⟨_, pss_cons (ps_set (i := 5) scEqu.nd rfl (Or.inl rfl) (pe_lst (pa_cons (pe_mk MW (hr.mono (by decide)) rfl (pa_cons (pv 3) pa_nil)) (pa_cons (pe_mk MP (hr.mono (by decide)) rfl (pa_cons (pv 4) pa_nil)) pa_nil))))
      (pss_cons (ps_expr (pe_mS (E := fun _ => E0) (pe_ix ix_list (pv 5) pe_int (fun _ _ => rfl)) WW.add (hr.mono (by decide)) passLA (pa_cons (pe_callTy call_list_of (by rfl) mL (by decide +kernel) (pa_cons (pe_ix ix_list (pv 2) pe_int (fun _ _ => rfl)) pa_nil)) pa_nil)))
      (pss_cons (ps_expr (pe_mS (E := fun _ => E0) (pe_ix ix_list (pv 5) pe_int (fun _ _ => rfl)) (WPP sv).add (hr.mono (by decide)) passLA (pa_cons (pe_callTy call_list_of (by rfl) mL (by decide +kernel) (pa_cons (pe_ix ix_list (pv 2) pe_int (fun _ _ => rfl)) pa_nil)) pa_nil)))
      (pss_cons (ps_if (PW.pt (pw_or (pt_not (pt_cmpR (op_own (k := 3) (CX := CX0) (E := E0) (op := .Eq) (.inl rfl) (hr.mono (by decide)) pass0) (pe_ix ix_list (pv 5) pe_int (fun _ _ => rfl)) (pe_ix ix_list (pv 1) pe_int (fun _ _ => rfl)) (nomark _)))
          (pw_or (pt_not (pt_cmpR (op_own (k := 3) (CX := CX0) (E := E0) (op := .Eq) (.inl rfl) (hr.mono (by decide)) pass0) (pe_ix ix_list (pv 5) pe_int (fun _ _ => rfl)) (pe_ix ix_list (pv 1) pe_int (fun _ _ => rfl)) (nomark _)))
            (pw_or1 (pt_cmpR (op_own (k := 3) (CX := CX0) (E := E0) (op := .NotEq) (.inr rfl) (hr.mono (by decide)) pass0) (pe_ix ix_list (pv 5) pe_int (fun _ _ => rfl)) (pe_ix ix_list (pv 1) pe_int (fun _ _ => rfl)) (nomark _)))))) (pss_one (ps_ret pe_bl)) pss_nil)
      (pss_cons (ps_set (i := 6) scEqu.nd rfl (Or.inl rfl) (pe_lst (pa_cons (pe_tup (pa_cons (pe_ix ix_list (pv 1) pe_int (fun _ _ => rfl)) (pa_cons (pe_ix ix_list (pv 1) pe_int (fun _ _ => rfl)) pa_nil)))
          (pa_cons (pe_tup (pa_cons (pe_mk MW (hr.mono (by decide)) rfl (pa_cons pe_int pa_nil)) (pa_cons (pe_mk MW (hr.mono (by decide)) rfl (pa_cons pe_int pa_nil)) pa_nil)))
          (pa_cons (pe_tup (pa_cons (pe_mk MP (hr.mono (by decide)) rfl (pa_cons (pv 4) pa_nil)) (pa_cons (pe_mk MW (hr.mono (by decide)) rfl (pa_cons (pv 3) pa_nil)) pa_nil))) pa_nil)))))
      (pss_cons (ps_set (i := 6) scEqu.nd rfl (Or.inl rfl) (pe_op op_cat (pv 6) (pe_g GU (hr.mono (by decide)) rfl pass0 (pa_cons (pv 0) (pa_cons (pv 3) (pa_cons (pv 4) pa_nil))))))
      (pss_cons (ps_for PassesOwn.never rfl (pi_list (pv 6)) (pg_tup rfl (pgs_cons (pg_name (i := 7) scEqu.nd rfl (Or.inl rfl)) (pgs_cons (pg_name (i := 8) scEqu.nd rfl (Or.inl rfl)) pgs_nil)))
        (pss_one (ps_if (PW.pt (pw_or (pt_cmpR (op_own (k := 3) (CX := CX0) (E := E0) (op := .Eq) (.inl rfl) (hr.mono (by decide)) pass0) (pv 7) (pv 8) (nomark _)) (pw_or (pt_cmpR (op_own (k := 3) (CX := CX0) (E := E0) (op := .Eq) (.inl rfl) (hr.mono (by decide)) pass0) (pv 8) (pv 7) (nomark _)) (pw_or1 (pt_not (pt_cmpR (op_own (k := 3) (CX := CX0) (E := E0) (op := .NotEq) (.inr rfl) (hr.mono (by decide)) pass0) (pv 7) (pv 8) (nomark _))))))) (pss_one (ps_ret pe_bl)) pss_nil)))
      (pss_cons (ps_for PassesOwn.never rfl (pi_range1 (by rfl) mR (pa_cons pe_int pa_nil)) (pg_name (i := 9) scEqu.nd rfl (Or.inl rfl))
        (pss_cons (ps_if (pt_cmpR (op_neD hr.units) (pe_ix ix_list (pv 2) (pv 9) (fun _ _ => rfl)) (pe_lst pa_nil) (nomark _))
            (pss_cons (ps_expr (pe_or2 (pe_mS0 (E := fun _ => E0) (pe_ix ix_list (pv 5) (pv 9) (fun _ _ => rfl)) WW.undo (hr.mono (by decide)) passLA) (pe_mS0 (E := fun _ => E0) (pe_ix ix_list (pv 5) (pv 9) (fun _ _ => rfl)) (WPP sv).undo (hr.mono (by decide)) passLA)))
            (pss_one (ps_if (PW.pt (pw_or (pt_cmpR (op_own (k := 3) (CX := CX0) (E := E0) (op := .Eq) (.inl rfl) (hr.mono (by decide)) pass0) (pe_ix ix_list (pv 5) (pv 9) (fun _ _ => rfl)) (pe_ix ix_list (pv 1) (pv 9) (fun _ _ => rfl)) (nomark _)) (pw_or1 (pt_cmpR (op_own (k := 3) (CX := CX0) (E := E0) (op := .Eq) (.inl rfl) (hr.mono (by decide)) pass0) (pe_ix ix_list (pv 1) (pv 9) (fun _ _ => rfl)) (pe_ix ix_list (pv 5) (pv 9) (fun _ _ => rfl)) (nomark _))))) (pss_one (ps_ret pe_bl)) pss_nil))) pss_nil)
        (pss_one (ps_for PassesOwn.never rfl (pi_list (pe_lst (pa_cons pe_non (pa_cons pe_int (pa_cons (pe_ix ix_list (pv 2) (pv 9) (fun _ _ => rfl)) (pa_cons (pe_or2 (pe_pr (pe_ix ix_list (pv 1) (pv 9) (fun _ _ => rfl)) WW.pic (hr.mono (by decide))) (pe_pr (pe_ix ix_list (pv 1) (pv 9) (fun _ _ => rfl)) (WPP sv).pic (hr.mono (by decide)))) (pa_cons (pv 4) pa_nil))))))) (pg_name (i := 10) scEqu.nd rfl (Or.inl rfl))
          (pss_one (ps_if (PW.pt (pw_or (pt_cmpR (op_own (k := 3) (CX := CX0) (E := E0) (op := .Eq) (.inl rfl) (hr.mono (by decide)) pass0) (pe_ix ix_list (pv 1) (pv 9) (fun _ _ => rfl)) (pv 10) (nomark _)) (pw_or (pt_cmpR (op_own (k := 3) (CX := CX0) (E := E0) (op := .Eq) (.inl rfl) (hr.mono (by decide)) pass0) (pv 10) (pe_ix ix_list (pv 1) (pv 9) (fun _ _ => rfl)) (nomark _)) (pw_or1 (pt_not (pt_cmpR (op_own (k := 3) (CX := CX0) (E := E0) (op := .NotEq) (.inr rfl) (hr.mono (by decide)) pass0) (pe_ix ix_list (pv 1) (pv 9) (fun _ _ => rfl)) (pv 10) (nomark _))))))) (pss_one (ps_ret pe_bl)) pss_nil))))))
      (pss_one (ps_ret pe_bl))))))))), ?_⟩
    refine ⟨_, rfl, fun b0 db0 hb0 hdb0 hnb0 => ⟨b0, db0, CW, z, rfl, hz, T.fW, upd_same, fun Ha r0 kb0 ab0 lb0 nb0 => ⟨rfl, ?_⟩⟩⟩
    obtain ⟨sa, wb0⟩ := mkW_facts hb0 hdb0 kb0 ab0 lb0
    have hr0 := mk_none hb0 hdb0 nb0
    clear kb0 ab0 lb0 nb0 hnb0 hdb0
    refine ⟨_, rfl, fun b1 db1 hb1 hdb1 hnb1 => ⟨b1, db1, o, z, sv, rfl, hz, hs, mk_keep hb1 hdb1 (sa _ _ ho), T.fP, upd_same, fun Hb r1 kb1 ab1 lb1 nb1 => ⟨rfl, ?_⟩⟩⟩
    obtain ⟨sb, wb1⟩ := mkP_facts (s := sv) hb1 hdb1 (sa _ _ ho) kb1 ab1 lb1
    have hr1 := mk_none hb1 hdb1 nb1
    clear kb1 ab1 lb1 nb1 hnb1 hdb1
    refine ⟨line1000 (by show 2 ≤ 1000; decide), fun sm hsm => ?_⟩
    obtain ⟨Hc, ec⟩ : ∃ Hc, Hc = L2.upd Hb sm (.lst [.ref b0, .ref b1]) := ⟨_, rfl⟩
    have sc : Same Hb Hc := by
      rw [ec]
      exact Same.one hsm
    have csm : Hc sm = some (.lst [.ref b0, .ref b1]) := by
      rw [ec]
      exact upd_same
    rw [← ec]
    clear ec
    have sac : Same H Hc := sa.trans (sb.trans sc)
    have wb0c : Win CW none z Hc b0 r0 [] := wb0.same (sb.trans sc)
    have wb1c : Win CP (some sv) z Hc b1 r1 [] := wb1.same sc
    have hb1H : Ha b1 = none := hb1
    have hr1H : Ha r1 = none := hr1
    have r01 : r0 ≠ r1 := ne_of_none wb0.nil_at hr1
    have b1r0 : b1 ≠ r0 := (ne_of_none wb0.nil_at hb1).symm
    have b0r1 : b0 ≠ r1 := by
      obtain ⟨⟨dx, ot, e, _⟩, _⟩ := wb0
      exact ne_of_none e hr1
    have hr1n : H r1 = none := none_back sa hr1
    have smr0 : sm ≠ r0 := ne_of csm wb0c.nil_at (by nofun)
    have smr1 : sm ≠ r1 := ne_of csm wb1c.nil_at (by nofun)
    clear wb0 wb1 sa sb sc hsm hb1 hr1 hb0
    have seen0 : Good z [] := ⟨by decide, fun x hx => nomatch hx⟩
    -- the first add_all
    obtain ⟨xs0, hxs0, hL0⟩ := id K0
    obtain ⟨⟨db0, ob0, eb0, _⟩, _⟩ := id wb0c
    refine ⟨_, rfl, sm, _, 0, _, rfl, rfl, SqL.of csm, at_of (j := 0) rfl rfl, b0, db0, _, rfl, eb0, wfs_add _ _ _, _, rfl, lo, _, 0, _, rfl, rfl, SqL.of (sac _ _ hlo), at_of (j := 0) rfl rfl, l0, xs0, rfl, .inl (SqL.of (sac _ _ hxs0)), fun q0 hq0 => ?_⟩
    have sd : Same Hc (L2.upd Hc q0 (.lst xs0)) := Same.one hq0
    refine ⟨b0, r0, q0, z, [], L0, rfl, hz, wb0c.same sd, seen0, (by show 0 + L0.length ≤ 35; omega), ⟨xs0, upd_same, hL0.same (sac.trans sd)⟩, (ne_of_none wb0c.nil_at hq0).symm, (fun s e => nomatch e), ?_⟩
    rw [re0]
    intro Hd kd wb0d
    rw [List.nil_append] at wb0d
    have nt0 : ∀ m ∈ [r0], ∀ ys, (L2.upd Hc q0 (.lst xs0)) m ≠ some (.tup ys) := fun m hm ys q => by
      rw [List.mem_singleton.mp hm, sd _ _ wb0c.nil_at] at q
      cases q
    have sHd : Same H Hd := fun b ob e => kd _ _ (by simpa using ne_of_none e hr0) (sd _ _ (sac _ _ e))
    have wb1d : Win CP (some sv) z Hd b1 r1 [] := (wb1c.same sd).keep kd (by simpa using b1r0) (by simpa using r01.symm) nt0
    have dsm : Hd sm = some (.lst [.ref b0, .ref b1]) := kd _ _ (by simpa using smr0) (sd _ _ csm)
    clear kd sd hq0 nt0 wb0c wb1c csm sac eb0
    -- the second
    obtain ⟨xs1, hxs1, hL1⟩ := id K1
    obtain ⟨⟨db1, ob1, eb1, _⟩, _⟩ := id wb1d
    refine ⟨_, rfl, sm, _, 1, _, rfl, rfl, SqL.of dsm, at_of (j := 1) rfl rfl, b1, db1, _, rfl, eb1, wfs_add _ _ _, _, rfl, lo, _, 1, _, rfl, rfl, SqL.of (sHd _ _ hlo), at_of (j := 1) rfl rfl, l1, xs1, rfl, .inl (SqL.of (sHd _ _ hxs1)), fun q1 hq1 => ?_⟩
    have se : Same Hd (L2.upd Hd q1 (.lst xs1)) := Same.one hq1
    refine ⟨b1, r1, q1, z, [], L1, rfl, hz, wb1d.same se, seen0, (by show 0 + L1.length ≤ 35; omega), ⟨xs1, upd_same, hL1.same (sHd.trans se)⟩, (ne_of_none wb1d.nil_at hq1).symm, (fun s e => by injection e with e; rw [← e]; exact hs), ?_⟩
    rw [re1]
    intro He ke wb1e
    rw [List.nil_append] at wb1e
    have nt1 : ∀ m ∈ [r1], ∀ ys, (L2.upd Hd q1 (.lst xs1)) m ≠ some (.tup ys) := fun m hm ys q => by
      rw [List.mem_singleton.mp hm, se _ _ wb1d.nil_at] at q
      cases q
    have sHe : Same H He := fun b ob e => ke _ _ (by simpa using ne_of_none e hr1n) (se _ _ (sHd _ _ e))
    have wb0e : Win CW none z He b0 r0 L0 := (wb0d.same se).keep ke (by simpa using b0r1) (by simpa using r01) nt1
    have esm : He sm = some (.lst [.ref b0, .ref b1]) := ke _ _ (by simpa using smr1) (se _ _ dsm)
    clear ke se hq1 nt1 wb0d wb1d dsm sHd eb1
    -- the same
    have ews := sHe _ _ hws
    refine ⟨_, rfl, sm, _, 0, _, rfl, rfl, SqL.of esm, at_of (j := 0) rfl rfl, _, rfl, ws, _, 0, _, rfl, rfl, SqL.of ews, at_of (j := 0) rfl rfl, cmp_kin (sh := none) T EK wb0e (W0.same sHe) ⟨_, rfl, iteN (by simp [sgn]) ?_⟩⟩
    refine ⟨_, rfl, sm, _, 1, _, rfl, rfl, SqL.of esm, at_of (j := 1) rfl rfl, _, rfl, ws, _, 1, _, rfl, rfl, SqL.of ews, at_of (j := 1) rfl rfl, cmp_kin (sh := some sv) T EK wb1e (W1.same sHe) ⟨_, rfl, iteN (by simp [sgn]) ?_⟩⟩
    refine ⟨_, rfl, sm, _, 0, _, rfl, rfl, SqL.of esm, at_of (j := 0) rfl rfl, _, rfl, ws, _, 0, _, rfl, rfl, SqL.of ews, at_of (j := 0) rfl rfl, cmp_kin (sh := none) T EK wb0e (W0.same sHe) ⟨_, rfl, iteN (by simp [sgn]) ?_⟩⟩
    -- the pairs
    refine ⟨_, rfl, ws, _, 0, _, rfl, rfl, SqL.of ews, at_of (j := 0) rfl rfl, _, rfl, ws, _, 1, _, rfl, rfl, SqL.of ews, at_of (j := 1) rfl rfl, line1000 (by show 2 ≤ 1000; decide), fun u1 hu1 => ?_⟩
    obtain ⟨Hf, ef⟩ : ∃ Hf, Hf = L2.upd He u1 (.tup [.ref a0, .ref a1]) := ⟨_, rfl⟩
    have sf : Same He Hf := by
      rw [ef]
      exact Same.one hu1
    have fu1 : Hf u1 = some (.tup [.ref a0, .ref a1]) := by
      rw [ef]
      exact upd_same
    rw [← ef]
    clear ef
    refine fun c0 dc0 hc0 hdc0 hnc0 => ⟨c0, dc0, CW, 2, rfl, (.inl rfl), T.fW, upd_same, fun Hg e0 kc0 ac0 lc0 nc0 => ⟨rfl, ?_⟩⟩
    obtain ⟨sg, wc0⟩ := mkW_facts hc0 hdc0 kc0 ac0 lc0
    have he0 := mk_none hc0 hdc0 nc0
    clear kc0 ac0 lc0 nc0 hnc0 hdc0
    refine fun c1 dc1 hc1 hdc1 hnc1 => ⟨c1, dc1, CW, 3, rfl, (.inr rfl), T.fW, upd_same, fun Hh e1 kc1 ac1 lc1 nc1 => ⟨rfl, ?_⟩⟩
    obtain ⟨sh1, wc1⟩ := mkW_facts hc1 hdc1 kc1 ac1 lc1
    have he1 := mk_none hc1 hdc1 nc1
    clear kc1 ac1 lc1 nc1 hnc1 hdc1
    refine ⟨line1000 (by show 2 ≤ 1000; decide), fun u2 hu2 => ?_⟩
    obtain ⟨Hi, ei⟩ : ∃ Hi, Hi = L2.upd Hh u2 (.tup [.ref c0, .ref c1]) := ⟨_, rfl⟩
    have si : Same Hh Hi := by
      rw [ei]
      exact Same.one hu2
    have iu2 : Hi u2 = some (.tup [.ref c0, .ref c1]) := by
      rw [ei]
      exact upd_same
    rw [← ei]
    clear ei
    have oi : PlAt Hi o sv := (((sHe.trans sf).trans sg).trans (sh1.trans si)) _ _ ho
    refine ⟨_, rfl, fun c2 dc2 hc2 hdc2 hnc2 => ⟨c2, dc2, o, z, sv, rfl, hz, hs, mk_keep hc2 hdc2 (oi), T.fP, upd_same, fun Hj e2 kc2 ac2 lc2 nc2 => ⟨rfl, ?_⟩⟩⟩
    obtain ⟨sj, wc2⟩ := mkP_facts (s := sv) hc2 hdc2 (oi) kc2 ac2 lc2
    have he2 := mk_none hc2 hdc2 nc2
    clear kc2 ac2 lc2 nc2 hnc2 hdc2
    refine ⟨_, rfl, fun c3 dc3 hc3 hdc3 hnc3 => ⟨c3, dc3, CW, z, rfl, hz, T.fW, upd_same, fun Hk e3 kc3 ac3 lc3 nc3 => ⟨rfl, ?_⟩⟩⟩
    obtain ⟨sk, wc3⟩ := mkW_facts hc3 hdc3 kc3 ac3 lc3
    have he3 := mk_none hc3 hdc3 nc3
    clear kc3 ac3 lc3 nc3 hnc3 hdc3
    refine ⟨line1000 (by show 2 ≤ 1000; decide), fun u3 hu3 => ⟨line1000 (by show 3 ≤ 1000; decide), fun D hD => ?_⟩⟩
    obtain ⟨Hl, el⟩ : ∃ Hl, Hl = L2.upd (L2.upd Hk u3 (.tup [.ref c2, .ref c3])) D (.lst [.ref u1, .ref u2, .ref u3]) := ⟨_, rfl⟩
    have sl : Same Hk Hl := by
      rw [el]
      exact (Same.one hu3).upd hD
    have lu3 : Hl u3 = some (.tup [.ref c2, .ref c3]) := by
      rw [el]
      exact (upd_ne (ne_of_none upd_same hD)).trans upd_same
    have lD : Hl D = some (.lst [.ref u1, .ref u2, .ref u3]) := by
      rw [el]
      exact upd_same
    rw [← el]
    clear el
    have sjl : Same Hj Hl := sk.trans sl
    have sil : Same Hi Hl := sj.trans sjl
    have shl : Same Hh Hl := si.trans sil
    have sgl : Same Hg Hl := sh1.trans shl
    have sfl : Same Hf Hl := sg.trans sgl
    have sel : Same He Hl := sf.trans sfl
    have sHl : Same H Hl := sHe.trans sel
    have pair1 : IsPair CW CP Hl (.ref u1) := ⟨u1, a0, a1, rfl, sfl _ _ fu1, .wp (W0.same sHl) (W1.same sHl)⟩
    have pair2 : IsPair CW CP Hl (.ref u2) := ⟨u2, c0, c1, rfl, sil _ _ iu2, .ww (wc0.same sgl) (wc1.same shl) (.inl (by decide))⟩
    have pair3 : IsPair CW CP Hl (.ref u3) := ⟨u3, c2, c3, rfl, lu3, .pw (wc2.same sjl) (wc3.same sl)⟩
    have pl : PoolAt Hl p := hp.imp fun _ q => sHl _ _ q
    have lsm : Hl sm = some (.lst [.ref b0, .ref b1]) := sel _ _ esm
    have wb0l : Win CW none z Hl b0 r0 L0 := wb0e.same sel
    have wb1l : Win CP (some sv) z Hl b1 r1 L1 := wb1e.same sel
    clear sjl sil shl sgl sfl sel sHe sf sg sh1 si sj sk sl hu1 hu2 hu3 hD fu1 iu2 lu3 hc0 hc1 hc2 hc3 wc0 wc1 wc2 wc3 wb0e wb1e esm ews oi he0 he1 he2 he3
    -- unlike
    refine ⟨_, rfl, _, rfl, _, rfl, _, rfl, p, o, z, sv, rfl, hz, pl, sHl _ _ ho, hs, fun Hm D2 xs km pm hD2 hxl hpairs => ?_⟩
    have mD : Hm D = some (.lst [.ref u1, .ref u2, .ref u3]) := km _ _ (fun m => by
      obtain ⟨z1, hz1⟩ := pl
      rw [List.mem_singleton.mp m, hz1] at lD
      cases lD) lD
    refine ⟨D, D2, _, xs, rfl, rfl, mD, hD2, line1000 (by show 3 + xs.length ≤ 1000; omega), fun pr hpr => ?_⟩
    obtain ⟨Hn, en⟩ : ∃ Hn, Hn = L2.upd Hm pr (.lst ([.ref u1, .ref u2, .ref u3] ++ xs)) := ⟨_, rfl⟩
    have sn : Same Hm Hn := by
      rw [en]
      exact Same.one hpr
    have npr : Hn pr = some (.lst ([.ref u1, .ref u2, .ref u3] ++ xs)) := by
      rw [en]
      exact upd_same
    rw [← en]
    clear en
    have kn : Keep [p] Hl Hn := km.trans (Keep.of sn)
    have allp : ∀ v ∈ ([.ref u1, .ref u2, .ref u3] ++ xs : List V), IsPair CW CP Hn v := fun v hv => by
      rcases List.mem_append.mp hv with hv | hv
      · simp only [List.mem_cons, List.not_mem_nil, or_false] at hv
        rcases hv with rfl | rfl | rfl
        · exact pair1.pool pl kn
        · exact pair2.pool pl kn
        · exact pair3.pool pl kn
      · exact (hpairs v hv).same sn
    have kHn : Keep [p] H Hn := (Keep.of sHl).trans kn
    have pn : PoolAt Hn p := pm.imp fun _ q => sn _ _ q
    have smp : sm ∉ [p] := refs_ne pl lsm
    have nsm : Hn sm = some (.lst [.ref b0, .ref b1]) := kn _ _ smp lsm
    have wb0n := wb0l.pool pl kn
    have wb1n := wb1l.pool pl kn
    generalize ([.ref u1, .ref u2, .ref u3] ++ xs : List V) = ps at npr allp
    clear hpairs hxl hD2 mD hpr sn km pm lD kn pair1 pair2 pair3 wb0l wb1l sHl lsm pl
    refine ⟨_, rfl, pr, rfl, ⟨_, SqL.of npr⟩, for_list (K := K) (xs := ps) (fun i σ H' => H' = Hn ∧ ∃ v7 v8 : Option V, σ = [some (.ref p), some (.ref ws), some (.ref lo), some (.int z), some (.ref o), some (.ref sm), some (.ref pr), v7, v8, none, none])
      ⟨rfl, none, none, rfl⟩ (fun i σ H' _ h => h.1 ▸ SqL.of npr) ?_ ?_⟩
    · rintro i v σ H1 hi ⟨rfl, v7, v8, rfl⟩
      obtain ⟨t, x, y, rfl, ht, hu⟩ := allp v (List.mem_of_getElem? hi)
      refine ⟨t, _, rfl, SqT.of ht, rfl, _, _, rfl, _, _, rfl, rfl, ?_⟩
      refine ⟨_, rfl, _, rfl, cmp_uneq T EK hu ⟨_, rfl, iteN (by simp [sgn]) ?_⟩⟩
      refine ⟨_, rfl, _, rfl, cmp_uneq T EK hu.symm ⟨_, rfl, iteN (by simp [sgn]) ?_⟩⟩
      refine ⟨_, rfl, _, rfl, cmp_uneq T EK hu ⟨_, rfl, iteN (by simp [sgn]) ?_⟩⟩
      exact ⟨rfl, _, _, rfl⟩
    · rintro σ H1 ⟨rfl, v7, v8, rfl⟩
      clear allp
      -- each of the two
      refine ⟨2, rfl, by decide, by decide, for_range (lo := 0) (n := (2 : Int).toNat) (fun i σ H' => Keep [p] H H' ∧ H' sm = some (.lst [.ref b0, .ref b1]) ∧ (i = 0 → Win CW none z H' b0 r0 L0) ∧ (i ≤ 1 → Win CP (some sv) z H' b1 r1 L1) ∧ ∃ v9 v10 : Option V, σ = [some (.ref p), some (.ref ws), some (.ref lo), some (.int z), some (.ref o), some (.ref sm), some (.ref pr), v7, v8, v9, v10])
        ⟨kHn, nsm, fun _ => wb0n, fun _ => wb1n, none, none, rfl⟩ ?_ ?_⟩
      · rintro i σ H2 hi ⟨k2, m2, h0, h1, v9, v10, rfl⟩
        have hi2 : i < 2 := hi
        have hpw : ws ∉ [p] := refs_ne hp hws
        have hpl : lo ∉ [p] := refs_ne hp hlo
        have hop : o ∉ [p] := fun m => pool_nt hp _ m _ ho
        have ws2 : H2 ws = some (.lst [.ref a0, .ref a1]) := k2 _ _ hpw hws
        have lo2 : H2 lo = some (.lst [.ref l0, .ref l1]) := k2 _ _ hpl hlo
        have o2 : PlAt H2 o sv := k2 _ _ hop ho
        obtain ⟨sh, a, t, l, b, r, L, hsh, ha, hl, hb, Wa, Kl, Wb, hre, hfw, hshz, hinv⟩ : ∃ (sh : Option Pl) (a t l b r : Addr) (L : List Lk), (sh = none ∨ sh = some sv) ∧ ([.ref a0, .ref a1] : List V)[i]? = some (.ref a) ∧ ([.ref l0, .ref l1] : List V)[i]? = some (.ref l) ∧ ([.ref b0, .ref b1] : List V)[i]? = some (.ref b) ∧
            Win (clOf CW CP sh) sh z H2 a t L ∧ LksAt H2 l L ∧ Win (clOf CW CP sh) sh z H2 b r L ∧ runL sh z [] L = none ∧ L.length ≤ 30 ∧ (∀ s, sh = some s → (s.length : Int) = z) ∧
            (∀ H', Keep [r] H2 H' → Keep [p] H H' ∧ H' sm = some (.lst [.ref b0, .ref b1]) ∧ H' ws = some (.lst [.ref a0, .ref a1]) ∧ H' lo = some (.lst [.ref l0, .ref l1]) ∧ PlAt H' o sv ∧ (i + 1 ≤ 1 → Win CP (some sv) z H' b1 r1 L1) ∧ Win (clOf CW CP sh) sh z H' a t L ∧ LksAt H' l L) := by
          have nofr : ∀ {r : Addr} {H' : Hp}, H r = none → Keep [r] H2 H' → Keep [p] H H' := fun {r H'} hr k bb ob hbm e => k _ _ (by simpa using ne_of_none e hr) (k2 _ _ hbm e)
          have winA : ∀ {C : Addr} {sh : Option Pl} {a t : Addr} {L : List Lk} {H' : Hp}, Win C sh z H a t L → Keep [p] H H' → Win C sh z H' a t L := fun w k => w.pool hp k
          rcases i with _ | _ | i
          · refine ⟨none, a0, t0, l0, b0, r0, L0, .inl rfl, rfl, rfl, rfl, winA W0 k2, K0.pool hp k2, h0 rfl, re0, f0, (fun s e => nomatch e), fun H' k => ?_⟩
            have kk := nofr hr0 k
            have nt : ∀ m ∈ [r0], ∀ ys, H2 m ≠ some (.tup ys) := fun m hm ys q => by
              obtain ⟨ys1, h⟩ := (h0 rfl).lst
              rw [List.mem_singleton.mp hm, h] at q
              cases q
            exact ⟨kk, k _ _ (by simpa using smr0) m2, kk _ _ hpw hws, kk _ _ hpl hlo, kk _ _ hop ho, fun _ => (h1 (by omega)).keep k (by simpa using b1r0) (by simpa using r01.symm) nt, winA W0 kk, K0.pool hp kk⟩
          · refine ⟨some sv, a1, t1, l1, b1, r1, L1, .inr rfl, rfl, rfl, rfl, winA W1 k2, K1.pool hp k2, h1 (Nat.le_refl _), re1, f1, (fun s e => by injection e with e; rw [← e]; exact hs), fun H' k => ?_⟩
            have kk := nofr hr1n k
            exact ⟨kk, k _ _ (by simpa using smr1) m2, kk _ _ hpw hws, kk _ _ hpl hlo, kk _ _ hop ho, fun q => by omega, winA W1 kk, K1.pool hp kk⟩
          · omega
        have vl := vld_of hz hshz L.length L rfl hre hfw
        have aix : ∀ {xs : List V} {v : V}, xs[i]? = some v → atI xs (0 + ((i : Nat) : Int)) = some v := fun e => at_of (j := i) (by omega) e
        refine ⟨_, rfl, _, rfl, lo, _, _, _, rfl, rfl, SqL.of lo2, aix hl, line1000 (by show 0 ≤ 1000; decide), fun e0 he0 => ?_⟩
        have s0 : Same H2 (L2.upd H2 e0 (.lst [])) := Same.one he0
        refine ⟨lksD L, lksD [], (Kl.same s0).dp, LksAt.dp ⟨[], upd_same, .nil⟩, lksD_sh _, lksD_sh _, _, rfl, ?_⟩
        rw [lksD_eqv]
        by_cases hLe : L = []
        case' pos =>
          refine iteN (by rw [decide_eq_true hLe]; rfl) ?_
          obtain ⟨H3, e3⟩ : ∃ H3, H3 = L2.upd H2 e0 (.lst []) := ⟨_, rfl⟩
          rw [← e3] at s0 ⊢
          have k3 : Keep [r] H2 H3 := Keep.of s0
        case' neg =>
          refine iteP (by rw [decide_eq_false hLe]; rfl) ?_
          obtain ⟨⟨db, ob, eb, _⟩, _⟩ := id (Wb.same s0)
          refine or_undo hsh ⟨_, rfl, _, rfl, sm, _, _, _, rfl, rfl, SqL.of (s0 _ _ m2), aix hb, b, db, _, rfl, eb, wfs_undo _ _ _, b, r, z, L, rfl, Wb.same s0, vl.good, .inr ⟨hLe, fun H3 k3' Wb3 => ?_⟩⟩
          have k3 : Keep [r] H2 H3 := (Keep.of s0).trans k3'
          obtain ⟨_, m3, ws3, _, _, _, Wa3, _⟩ := hinv H3 k3
          have hne : L.dropLast ≠ L := fun e => by
            have h1 := congrArg List.length e
            rw [List.length_dropLast] at h1
            have h2 : 0 < L.length := List.length_pos_iff.mpr hLe
            omega
          have hu := uneq_kin (CW := CW) (CP := CP) Wb3 Wa3 hne
          refine ⟨_, rfl, _, rfl, sm, _, _, _, rfl, rfl, SqL.of m3, aix hb, _, rfl, _, rfl, ws, _, _, _, rfl, rfl, SqL.of ws3, aix ha, cmp_uneq T EK hu ⟨_, rfl, iteN (by simp [sgn]) ?_⟩⟩
          refine ⟨_, rfl, _, rfl, ws, _, _, _, rfl, rfl, SqL.of ws3, aix ha, _, rfl, _, rfl, sm, _, _, _, rfl, rfl, SqL.of m3, aix hb, cmp_uneq T EK hu.symm ⟨_, rfl, iteN (by simp [sgn]) ?_⟩⟩
        all_goals
          obtain ⟨kp3, m3, ws3, lo3, o3, w13, Wa3, Kl3⟩ := hinv H3 k3
          obtain ⟨⟨da, oa, ea, _⟩, _⟩ := id Wa3
          refine ⟨_, rfl, _, rfl, lo, _, _, _, rfl, rfl, SqL.of lo3, aix hl, or_pic hsh ⟨_, rfl, _, rfl, ws, _, _, _, rfl, rfl, SqL.of ws3, aix ha, a, da, _, rfl, ea, a, t, z, L, rfl, hz, Wa3, vl.good, vl.nd, fun H4 c s4 hP _ _ => ?_⟩⟩
          obtain ⟨dxc, dc, cc1, cc2, nn, kvs, hc, _⟩ := id hP
          refine ⟨_, rfl, line1000 (by show 5 ≤ 1000; decide), fun lt hlt => ⟨lt, rfl, ⟨_, SqL.of upd_same⟩, ?_⟩⟩
          have s5 : Same H4 (L2.upd H4 lt (.lst [.non, .int 0, .ref l, .ref c, .ref o])) := Same.one hlt
          have s35 := s4.trans s5
          have Wa5 := Wa3.same s35
          obtain ⟨xsl, hxsl, _⟩ := Kl3.same s35
          have hth : ∀ v ∈ ([.non, .int 0, .ref l, .ref c, .ref o] : List V), Thing CI (L2.upd H4 lt (.lst [.non, .int 0, .ref l, .ref c, .ref o])) v := fun v hv => by
            simp only [List.mem_cons, List.not_mem_nil, or_false] at hv
            rcases hv with rfl | rfl | rfl | rfl | rfl
            · exact .non
            · exact .int 0
            · exact .lst hxsl
            · exact .pic (s5 _ _ hc)
            · exact .tup (s35 _ _ o3)
          have ws5 := s35 _ _ ws3
          have k5 := hinv _ (k3.trans (Keep.of s35))
          have lt5 : (L2.upd H4 lt (.lst [.non, .int 0, .ref l, .ref c, .ref o])) lt = some (.lst [.non, .int 0, .ref l, .ref c, .ref o]) := upd_same
          generalize L2.upd H4 lt (.lst [.non, .int 0, .ref l, .ref c, .ref o]) = H5 at s5 s35 Wa5 hxsl hth ws5 k5 lt5 ⊢
          refine for_list (K := K) (a := lt) (xs := [.non, .int 0, .ref l, .ref c, .ref o]) (fun j σ H' => H' = H5 ∧ ∃ v10 : Option V, σ = [some (.ref p), some (.ref ws), some (.ref lo), some (.int z), some (.ref o), some (.ref sm), some (.ref pr), v7, v8, some (.int (0 + ((i : Nat) : Int))), v10]) ⟨rfl, _, rfl⟩ (fun j σ H' _ h => h.1 ▸ SqL.of lt5) ?_ ?_
          · rintro j v σ H6 hj ⟨rfl, w10, rfl⟩
            have hv := hth v (List.mem_of_getElem? hj)
            refine ⟨_, rfl, _, rfl, ws, _, _, _, rfl, rfl, SqL.of ws5, aix ha, _, rfl, cmp_thing tI EK Wa5 hv ⟨_, rfl, iteN (by simp [sgn]) ?_⟩⟩
            refine ⟨_, rfl, _, rfl, _, rfl, ws, _, _, _, rfl, rfl, SqL.of ws5, aix ha, cmp_thing' T tI EK Wa5 hv ⟨_, rfl, iteN rfl ?_⟩⟩
            refine ⟨_, rfl, _, rfl, ws, _, _, _, rfl, rfl, SqL.of ws5, aix ha, _, rfl, cmp_thing tI EK Wa5 hv ⟨_, rfl, iteN (by simp [sgn]) ?_⟩⟩
            exact ⟨rfl, _, rfl⟩
          · rintro σ H6 ⟨rfl, w10, rfl⟩
            exact ⟨k5.1, k5.2.1, fun q => by omega, k5.2.2.2.2.2.1, _, _, rfl⟩
      · rintro σ H2 ⟨k2, m2, h0, h1, v9, v10, rfl⟩
        exact hQ H2
end
end K94
namespace K94
open PySem L2
/-! ### PlacedWindow.__init__: super().__init__ -/
abbrev sPIni : Stmt := inCls 39 0
/-- what the written part says of it -/
structure Sup (P : Program) (K : PySem.W.Frag) (CP f : Addr) (fd : FuncData) (fW : Addr) : Prop where
  ex : ∃ (oc : Value) (od : Option Addr) (osl : Array (Option Value)) (dV kV doc pm ct : Value) (an : Option Addr) (cda cc : Addr) (ccl cl : Value) (cdd cld : Option Addr) (ccs csl : Array (Option Value)) (vs : Array Value) (file : Str) (tf : Tok) (cd : ClassData),
    fd = PySem.W.fnX "__init__" "PlacedWindow.__init__" (defArgs sPIni) (defBody sPIni) (defScope sPIni) [("__class__", cc)] dV kV doc pm an (.ref cda) ct ∧ K.lookup f = some ⟨oc, od, .func fd, osl⟩ ∧ PySem.W.codeIn K (.ref cda) "PlacedWindow.__init__" = true ∧
    K.lookup cda = some ⟨ccl, cdd, .fields vs, ccs⟩ ∧ vs[2]? = some (.str file tf) ∧ ((P.main.file : Str) == file) = true ∧ K.lookup cc = some ⟨cl, cld, .cell (some (.ref CP)), csl⟩ ∧ PySem.W.clsIn K CP = some cd
  mro : PySem.W.mroIn K CP (.ref CP) = some true
  meth : PySem.W.ks_superIn K CP CP "__init__" = some (some (.ref fW))
  fn : PySem.W.typeIn K (.ref fW) = some (.type "function")
  fi : PySem.W.fnIn K fW = true
  any : PySem.W.nsIn K cStatics "thirdparty.any" = some none
  top : (P.main.scope.names.lookup ("super" : Str)).isSome = false
abbrev nPIni : List Str := ["self", "shift", "__class__"]
theorem scPIni : NdefX.NScope nPIni ["self", "shift"] ["__class__"] (defScope sPIni) := NdefX.nscope_by (by decide +kernel)
section
variable {P : Program} {w : World} {K : PySem.W.Frag} {mg : Str → Option Value} {base : Heap} {CP : Addr}
abbrev nfP (cda cc : Addr) : NdefX.NF := ⟨"__init__", "PlacedWindow.__init__", defArgs sPIni, defBody sPIni, defScope sPIni, [("__class__", cc)], cda⟩
theorem ok_pini {f fW : Addr} {fd fdW : FuncData} (F : Sup P K CP f fd fW) (mS : mg "super" = none) (mL : mg "len" = none) (FW : FnOk P w K mg base CX0 1 fW fdW ["self", "size"] (spWIni K)) (bW : Binds K fdW ["self", "size"] []) : FnOk P w K mg base CX0 5 f fd ["self", "shift"] (spPIni K CP) := by
  obtain ⟨oc, od, osl, dV, kV, doc, pm, ct, an, cda, cc, ccl, cl, cdd, cld, ccs, csl, vs, file, tf, cd, rfl, lk, hcd, lcd, hvs, hfile, lcc, hcls⟩ := F.ex
  have hlen : ∀ vs H Q E, spPIni K CP vs H Q E → vs.length = (["self", "shift"] : List Str).length := fun vs H Q E h => by
    obtain ⟨a, dx, o, z, s, rfl, _⟩ := h
    rfl
  refine ⟨hlen, fun A outer s H args us vals Q E hr e0 hb r hsp => ?_⟩
  have hl := hlen _ _ _ _ hsp
  obtain ⟨a, dx, o, z, sv, rfl, hz, hs, ho, cf, ha, hQ⟩ := hsp
  have lim : s.heap.NoLimit := e0.mod.nolimit.keeps fun b o e => (e0.bs b o e).1
  have KX : K.In s.heap := e0.mod.kin.keeps fun b o e => (e0.bs b o e).1
  refine PySem.ks_codeAny_call_defAt (fd := PySem.W.fnX "__init__" "PlacedWindow.__init__" (defArgs sPIni) (defBody sPIni) (defScope sPIni) [("__class__", cc)] dV kV doc pm an (.ref cda) ct) (body := defBody sPIni) (binds := (["self", "shift"] : List Str).zip us) hr.depth (KX _ _ lk) rfl lim (PySem.W.codeRec_of KX hcd) rfl hb
    (fun y hy => scPIni.nocell y hy) (fun y hy => scPIni.par y.1 (List.of_mem_zip (show (y.1, y.2) ∈ _ from hy)).1) (fun h₁ hns kp => ?_) rfl rfl rfl
  have C : NdefX.CellsAt (nfP cda cc).cl ["__class__"] [none] s.heap H := by
    have one : ∀ y c, ([("__class__", cc)] : List (Str × Addr)).lookup y = some c → c = cc ∧ y = "__class__" := fun y c e => by
      have e' : (match y == ("__class__" : Str) with | true => some cc | false => none) = some c := e
      cases q : y == ("__class__" : Str) with
      | true =>
        rw [q] at e'
        exact ⟨(Option.some.inj e').symm, beq_iff_eq.mp q⟩
      | false =>
        rw [q] at e'
        cases e'
    refine ⟨rfl, fun y c e => ?_, fun x y c e1 e2 => (one x c e1).2.trans (one y c e2).2.symm, fun i y e => ?_⟩
    · rw [(one y c e).1]
      exact ⟨(e0.bs _ _ (e0.mod.kin _ _ lcc)).2, _, _, KX _ _ lcc, rfl⟩
    · rcases i with _ | i
      · have ey : y = "__class__" := by simpa using e.symm
        subst ey
        exact ⟨cc, rfl, fun v hv => by simp at hv⟩
      · simp at e
  have I : Inv (NdefX.ncx CX0 P w K mg base nPIni (nfP cda cc) f A outer s H E) [] (NdefX.startF nPIni [.ref a, .ref o] [none]) H { s with heap := h₁, toks := s.toks + ((["self", "shift"] : List Str).zip us).length } := NdefX.inv_startN scPIni hr.hd e0 hl r C hns kp
  have hrX : Room 4 (NdefX.ncx CX0 P w K mg base nPIni (nfP cda cc) f A outer s H E).A := hr.deeper _
  have leaf : ∀ {fl : Flow} {s' : Shared}, False → PySem.wpAt (model P w) (A.deeper (NdefX.envF (nfP cda cc) f s.heap.objs.size)) (.func (defBody sPIni) (NdefX.envF (nfP cda cc) f s.heap.objs.size)) (pure fl) (fun _ _ => True) (fun _ _ => True) s' := fun q => q.elim
  refine PySem.ks_wpAt_execs_cons (wpAt_of_wpAny (wpAny_mono ((ps_if (X := NdefX.ncx CX0 P w K mg base nPIni (nfP cda cc) f A outer s H E) (pt_cmpR op_notIn_seq (pe_callB call_len_seq (by rfl) mL PySem.boot_len (pa_cons (pv 1) pa_nil)) (pe_tup (pa_cons pe_int (pa_cons pe_int pa_nil))) (by rfl)) (pss_one ps_never) pss_nil).run [] _ _ H
    { nx := fun σ' H' => Same H H' ∧ σ' = [some (.ref a), some (.ref o), none], rt := fun _ _ => False, bk := fun _ _ => False, ct := fun _ _ => False } I ?_) (fun fl s1 hs1 => ?_) fun e s' he => he))
  · refine ⟨_, rfl, o, _, rfl, .inr (SqT.of ho), line1000 (by show 2 ≤ 1000; decide), fun tt htt => ⟨tt, _, rfl, .inr (SqT.of upd_same), rfl, rfl, _, rfl, ?_⟩⟩
    rw [List.length_map, hs]
    exact iteN (by rcases hz with rfl | rfl <;> decide +kernel) ⟨Same.one htt, rfl⟩
  cases fl with
  | brk =>
    obtain ⟨_, _, _, q⟩ := hs1
    exact q.elim
  | cont =>
    obtain ⟨_, _, _, q⟩ := hs1
    exact q.elim
  | ret u =>
    obtain ⟨_, _, _, _, _, q⟩ := hs1
    exact q.elim
  | next =>
    obtain ⟨σ1, H1, I1, s01, rfl⟩ := hs1
    obtain ⟨hh, g, d, t, os⟩ := s1
    have ha1 := s01 _ _ ha
    have ho1 : PlAt H1 o sv := s01 _ _ ho
    obtain ⟨mb, hmb, hbt⟩ := I1.mod.blt
    obtain ⟨m, hns1, hlook⟩ := I1.loc
    obtain ⟨u0, ru, lk0⟩ := hlook 0 "self" (.ref a) rfl rfl (.inl rfl)
    cases ru
    have hv : m "self" = some (.ref a) := by
      rcases lk0 with ⟨_, h⟩ | ⟨h | h, _⟩
      · exact h
      · exact absurd (h.symm.trans (show (NdefX.envF (nfP cda cc) f s.heap.objs.size).kindOf ("self" : Str) = some .local from rfl)) (by decide)
      · exact absurd (h.symm.trans (show (NdefX.envF (nfP cda cc) f s.heap.objs.size).kindOf ("self" : Str) = some .local from rfl)) (by decide)
    have KX1 : K.In hh := I1.kIn
    obtain ⟨oD, hD1, hD2⟩ : ∃ oD, hh.get? CP = some oD ∧ oD.data = .cls cd := by
      have hc := hcls
      unfold PySem.W.clsIn at hc
      split at hc
      · rename_i c d cd' sl ho
        cases hc
        exact ⟨_, KX1 _ _ ho, rfl⟩
      · cases hc
    obtain ⟨ox, od1, J⟩ := ins_looks I1 ha1
    refine PySem.ks_wpAt_execs_cons (PySem.ks_wpAt_Expr_any (PySem.ks_wpAt_MethodCall (PySem.ks_wpAt_super_base (f := f) (cc := cda) (by rfl) (by rfl) (by rfl) rfl (KX1 _ _ lk) rfl (by rfl) rfl (KX1 _ _ lcd) rfl hvs hfile F.top ?_)))
    refine PySem.W.ks_loadName_global (by rfl) (by rfl) (PySem.Calls.loadGlobal_builtin (I1.mod.glob.keeps I1.bk) mS (hmb.keeps I1.bk) ((hbt "super" (by decide)).trans (show bootBuiltins "super" = some (.type "super") by decide +kernel)) ⟨rfl, ?_⟩)
    refine wpAny_loadName_free (by rfl) (by rfl) rfl ⟨_, KX1 _ _ lcc, rfl⟩ ?_
    refine wpAny_loadName_local (by rfl) (by rfl) hns1 hv ?_
    refine PySem.ks_wpAny_isType_cls hD1 hD2 ⟨rfl, ?_⟩
    refine PySem.ks_wpAny_call_super hD1 hD2 J.at_ J.cls (fun c e => ?_) (PySem.W.looks_mroIn KX1 F.mro) (fun h' e k => ?_)
    · have := J.no
      unfold PySem.W.notCls at this
      rw [e] at this
      exact Bool.noConfusion this
    have I2 : Inv (NdefX.ncx CX0 P w K mg base nPIni (nfP cda cc) f A outer s H E) [] [some (.ref a), some (.ref o), none] H1 ⟨h', g, d, t, os⟩ := I1.kept (t' := t) k
    have KX2 : K.In h' := I2.kIn
    have hf2 : PySem.W.alongIn K "__init__" ((cd.mro.dropWhile (· != .ref CP)).drop 1) = some (some (.ref fW)) := by
      have h9 := F.meth
      unfold PySem.W.ks_superIn at h9
      rw [hcls] at h9
      exact h9
    obtain ⟨oF, hF1, hF2⟩ : ∃ oF, h'.get? fW = some oF ∧ oF.cls = .type "function" := by
      have ht : (K.lookup fW).map (·.cls) = some (.type "function") := F.fn
      cases q : K.lookup fW with
      | none => rw [q] at ht; cases ht
      | some oF => rw [q] at ht; exact ⟨oF, KX2 _ _ q, Option.some.inj ht⟩
    obtain ⟨ox2, od2, J2⟩ := ins_looks I2 ha1
    refine PySem.ks_wpAny_getMethod_super e (PySem.W.looks_opaque KX2 F.any) (l₀ := cd.mro) (fun A Q E s k q => wpAny_bind ((PySem.W.looks_clsIn KX2 hcls) A _ E s k (wpAny_pure q))) rfl KX2 hf2 hF1 hF2 (PySem.W.ks_ne KX2 J2 hcls) (by rfl) ?_
    have I3 := ClX.met_new (g := fW) (C := a) I2
    refine ClX.callwith_cm I3 (ClX.base_none I2 (Nat.le_refl _)) F.fi (thn ((pa_cons (pe_callB (X := NdefX.ncx CX0 P w K mg base nPIni (nfP cda cc) f A outer s H E) call_len_seq (by rfl) mL PySem.boot_len (pa_cons (pv 1) pa_nil)) pa_nil).run _ _ _ _ _ (fun vs H' => vs = [.int z] ∧ H' = H1) I3 ?_) fun us s2 hz2 => ?_) rfl rfl
    · refine ⟨_, rfl, o, _, rfl, .inr (SqT.of ho1), ?_, rfl⟩
      rw [List.length_map, hs]
    obtain ⟨vs2, H2, I4, r4, rfl, rfl⟩ := hz2
    refine ⟨⟨ClX.pin_at I4, I4.kIn⟩, ?_⟩
    refine thn (wpAny_call (PySem.W.method_call (ClX.pin_at I4) (run_cS (E := fun _ => E0) (Q := fun v H' => v = .non ∧ ∃ t, Keep [a] H2 H' ∧ H' a = some (.ins CP dx (wfs z t none)) ∧ H' t = some (.lst []) ∧ H2 t = none) (us := .ref a :: us) (vs := [.ref a, .int z]) FW (hrX.mono (by decide)) bW (pass0A _) I4 (.cons rfl r4)
      ⟨a, dx, CP, z, rfl, hz, cf, ha1, fun H' t k1 k2 k3 k4 => ⟨rfl, t, k1, k2, k3, k4⟩⟩))) fun u s3 hz3 => ?_
    obtain ⟨v3, H3, I5, r5, rfl, t3, k3, a3, l3, n3⟩ := hz3
    have I6 := ClX.unpin I5
    refine wpAt_of_wpAny (wpAny_mono ((pss_one (ps_fld (pv 0) (pv 1) (by rfl))).run [] _ _ H3 { nx := fun _ H' => Q .non H', rt := fun _ _ => False, bk := fun _ _ => False, ct := fun _ _ => False } I6 ?_) (fun fl s4 hs4 => ?_) fun e s' he => he)
    · refine ⟨_, rfl, _, rfl, a, CP, dx, _, rfl, a3, cf.cls, cf.na _ (by decide), wfs_len _ _ _, ?_⟩
      have kt : t3 ≠ a := ne_of l3 a3 (by nofun)
      refine hQ _ t3 (Keep.upd ((Keep.of s01).trans k3) (by simp)) upd_same ((upd_ne kt).trans l3) (none_back s01 n3)
    · cases fl with
      | brk =>
        obtain ⟨_, _, _, q⟩ := hs4
        exact q.elim
      | cont =>
        obtain ⟨_, _, _, q⟩ := hs4
        exact q.elim
      | ret u =>
        obtain ⟨_, _, _, _, _, q⟩ := hs4
        exact q.elim
      | next =>
        obtain ⟨σ4, H4, J4, q4⟩ := hs4
        exact ⟨.non, H4, J4.os, J4.bare, J4.base, J4.hok, rfl, q4⟩
end
end K94
namespace K94
open PySem L2
/-! ### the law's state between two turns -/
theorem PlsAt.keep {M : List Addr} {H H' : Hp} {l : Addr} {qs : List Pl} (h : PlsAt H l qs) (k : Keep M H H') (hl : l ∉ M) (hM : ∀ m ∈ M, ∀ ys, H m ≠ some (.tup ys)) : PlsAt H' l qs := by
  obtain ⟨xs, h1, h2⟩ := h
  exact ⟨xs, k _ _ hl h1, Paired.mapP h2 fun v q z => IsPl.keep z k hM⟩
theorem pls_pool {H : Hp} {p l : Addr} {qs : List Pl} (hp : PoolAt H p) (hl : PlsAt H l qs) : l ≠ p := fun e => by
  obtain ⟨z, hz⟩ := hp
  obtain ⟨xs, h1, h2⟩ := hl
  rw [e, hz] at h1
  cases h1
  cases h2 with
  | cons h _ =>
    obtain ⟨t, q, _⟩ := h
    cases q
/-- what is held of an earlier turn, its objects at none of the places F -/
structure HeldO (CI : Addr) (z : Int) (F : Addr → Prop) (H : Hp) (t : Addr) (L : List Lk) (c d e dx dd s h : Addr) (n : Nat) (kvs : List (List Key × V)) : Prop where
  tup : H t = some (.tup [.ref c, .ref d, .ref e])
  ins : H c = some (.ins CI dx (pfs z dd s h))
  dic : GotM H dd (withW L .seen ++ withW L .hidden) n kvs
  see : PlsAt H s (srt (withW L .seen))
  hid : PlsAt H h (srt (withW L .hidden))
  told : LksAt H d L
  was : LksAt H e L
  out : ∀ x ∈ [c, d, e, dd, s, h], ¬ F x
def HeldF (CI : Addr) (z : Int) (F : Addr → Prop) (H : Hp) (v : V) (L : List Lk) : Prop := ∃ t c d e dx dd s h n kvs, v = .ref t ∧ HeldO CI z F H t L c d e dx dd s h n kvs
theorem HeldF.is {CI : Addr} {z : Int} {F : Addr → Prop} {H : Hp} {v : V} {L : List Lk} (h : HeldF CI z F H v L) : IsHeld CI z H v L := by
  obtain ⟨t, c, d, e, dx, dd, s, h', n, kvs, rfl, o⟩ := h
  exact ⟨t, c, d, e, rfl, o.tup, ⟨dx, dd, s, h', n, kvs, o.ins, o.dic, o.see, o.hid⟩, o.told, o.was⟩
theorem HeldO.there {CI : Addr} {z : Int} {F : Addr → Prop} {H : Hp} {t : Addr} {L : List Lk} {c d e dx dd s h : Addr} {n : Nat} {kvs : List (List Key × V)} (o : HeldO CI z F H t L c d e dx dd s h n kvs) : ∀ x ∈ [c, d, e, dd, s, h], H x ≠ none := fun x hx q => by
  obtain ⟨_, h1, _⟩ := o.told
  obtain ⟨_, h2, _⟩ := o.was
  obtain ⟨_, h3, _⟩ := o.see
  obtain ⟨_, h4, _⟩ := o.hid
  simp only [List.mem_cons, List.not_mem_nil, or_false] at hx
  rcases hx with rfl | rfl | rfl | rfl | rfl | rfl
  · rw [o.ins] at q; cases q
  · rw [h1] at q; cases q
  · rw [h2] at q; cases q
  · rw [o.dic.at_] at q; cases q
  · rw [h3] at q; cases q
  · rw [h4] at q; cases q
theorem HeldF.refr {CI : Addr} {z : Int} {F F' : Addr → Prop} {H : Hp} {v : V} {L : List Lk} (h : HeldF CI z F H v L) (hF : ∀ x, F' x → F x ∨ H x = none) : HeldF CI z F' H v L := by
  obtain ⟨t, c, d, e, dx, dd, s, h', n, kvs, rfl, o⟩ := h
  refine ⟨t, c, d, e, dx, dd, s, h', n, kvs, rfl, o.tup, o.ins, o.dic, o.see, o.hid, o.told, o.was, fun x hx q => ?_⟩
  rcases hF x q with q | q
  · exact o.out x hx q
  · exact o.there x hx q
theorem HeldF.keepN {CI : Addr} {z : Int} {F : Addr → Prop} {M : List Addr} {H H' : Hp} {v : V} {L : List Lk} (h : HeldF CI z F H v L) (k : Keep M H H') (hn : ∀ t c d e dx dd s h n kvs, v = .ref t → HeldO CI z F H t L c d e dx dd s h n kvs → ∀ x ∈ [c, d, e, dd, s, h], x ∉ M) (hM : ∀ m ∈ M, ∀ ys, H m ≠ some (.tup ys)) : HeldF CI z F H' v L := by
  obtain ⟨t, c, d, e, dx, dd, s, h', n, kvs, rfl, o⟩ := h
  have hx := hn t c d e dx dd s h' n kvs rfl o
  have at_ : ∀ {x : Addr} {u : HO}, x ∈ [c, d, e, dd, s, h'] → H x = some u → H' x = some u := fun {x u} m e => k _ _ (hx x m) e
  refine ⟨t, c, d, e, dx, dd, s, h', n, kvs, rfl, k _ _ (fun m => hM _ m _ o.tup) o.tup, at_ (by simp) o.ins, ⟨at_ (by simp) o.dic.at_, o.dic.nd, o.dic.key, o.dic.mem, o.dic.few⟩, o.see.keep k (hx _ (by simp)) hM, o.hid.keep k (hx _ (by simp)) hM, o.told.keep k (hx _ (by simp)) hM, o.was.keep k (hx _ (by simp)) hM, o.out⟩
theorem HeldF.keep {CI : Addr} {z : Int} {F : Addr → Prop} {M : List Addr} {H H' : Hp} {v : V} {L : List Lk} (h : HeldF CI z F H v L) (k : Keep M H H') (hF : ∀ m ∈ M, F m) (hM : ∀ m ∈ M, ∀ ys, H m ≠ some (.tup ys)) : HeldF CI z F H' v L :=
  h.keepN k (fun _ _ _ _ _ _ _ _ _ _ _ o x hx m => o.out x hx (hF x m)) hM
theorem HeldF.same {CI : Addr} {z : Int} {F : Addr → Prop} {H H' : Hp} {v : V} {L : List Lk} (h : HeldF CI z F H v L) (s : Same H H') : HeldF CI z F H' v L := h.keep (M := []) (Keep.of s) (by simp) (by simp)
theorem HeldF.pool {CI : Addr} {z : Int} {F : Addr → Prop} {p : Addr} {H H' : Hp} {v : V} {L : List Lk} (h : HeldF CI z F H v L) (hp : PoolAt H p) (k : Keep [p] H H') : HeldF CI z F H' v L := by
  refine h.keepN k (fun t c d e dx dd s h' n kvs _ o x hx m => ?_) (pool_nt hp)
  obtain ⟨z0, hz0⟩ := id hp
  rw [List.mem_singleton.mp m] at hx
  simp only [List.mem_cons, List.not_mem_nil, or_false] at hx
  rcases hx with e1 | e1 | e1 | e1 | e1 | e1
  · rw [e1, o.ins] at hz0; cases hz0
  · exact pool_ne hp o.told e1.symm
  · exact pool_ne hp o.was e1.symm
  · rw [e1, o.dic.at_] at hz0; cases hz0
  · exact pls_pool hp o.see e1.symm
  · exact pls_pool hp o.hid e1.symm
def shf (sv : Pl) (i : Nat) : Option Pl := if i = 0 then none else some sv
abbrev clI (CW CP : Addr) (sv : Pl) (i : Nat) : Addr := clOf CW CP (shf sv i)
def setf {α : Type} (f : Nat → α) (w : Nat) (x : α) : Nat → α := fun i => if i = w then x else f i
theorem setf_at {α : Type} {f : Nat → α} {w : Nat} {x : α} : setf f w x w = x := if_pos rfl
theorem setf_ne {α : Type} {f : Nat → α} {w i : Nat} {x : α} (h : i ≠ w) : setf f w x i = f i := if_neg h
/-- the places that are written -/
def FS (hd lo : Addr) (a t : Nat → Addr) (x : Addr) : Prop := x = hd ∨ x = lo ∨ ∃ i, i < 2 ∧ (x = a i ∨ x = t i)
structure LS (CW CP CI : Addr) (z : Int) (sv : Pl) (Hb : Hp) (o ws lo hd : Addr) (a : Nat → Addr) (N : Nat) (H : Hp) (t l : Nat → Addr) (L : Nat → List Lk) : Prop where
  sm : Same Hb H
  nw : ∀ x, FS hd lo a t x → Hb x = none
  oA : PlAt H o sv
  wsA : H ws = some (.lst [.ref (a 0), .ref (a 1)])
  loA : H lo = some (.lst [.ref (l 0), .ref (l 1)])
  win : ∀ i, i < 2 → Win (clI CW CP sv i) (shf sv i) z H (a i) (t i) (L i)
  lks : ∀ i, i < 2 → LksAt H (l i) (L i)
  run : ∀ i, i < 2 → runL (shf sv i) z [] (L i) = none
  few : ∀ i, i < 2 → (L i).length ≤ 30
  held : ∃ xs Ls, H hd = some (.lst xs) ∧ Paired (HeldF CI z (FS hd lo a t) H) xs Ls ∧ (∀ L ∈ Ls, Dull z L) ∧ xs.length ≤ N
  tt : t 0 ≠ t 1
  aa : a 0 ≠ a 1
  lt : ∀ i j, i < 2 → j < 2 → l i ≠ t j
  ht : ∀ i, i < 2 → hd ≠ t i
  hl : ∀ i, i < 2 → hd ≠ l i
theorem Same.keepN {Hb H H' : Hp} {M : List Addr} (s : Same Hb H) (k : Keep M H H') (hM : ∀ m ∈ M, Hb m = none) : Same Hb H' := fun b o e => k _ _ (fun m => by rw [hM b m] at e; cases e) (s _ _ e)
section
variable {CW CP CI : Addr} {z : Int} {sv : Pl} {Hb : Hp} {o ws lo hd : Addr} {a : Nat → Addr} {N : Nat} {H H' : Hp} {t l : Nat → Addr} {L : Nat → List Lk}
theorem LS.ain (S : LS CW CP CI z sv Hb o ws lo hd a N H t l L) {i : Nat} (hi : i < 2) : ∃ dx ot, H (a i) = some (.ins (clI CW CP sv i) dx (wfs z (t i) ot)) := by
  obtain ⟨⟨dx, ot, h, _⟩, _⟩ := S.win i hi
  exact ⟨dx, ot, h⟩
theorem LS.tlst (S : LS CW CP CI z sv Hb o ws lo hd a N H t l L) {i : Nat} (hi : i < 2) : ∃ ys, H (t i) = some (.lst ys) := (S.win i hi).lst
theorem LS.aix (S : LS CW CP CI z sv Hb o ws lo hd a N H t l L) {i : Nat} (hi : i < 2) : ([.ref (a 0), .ref (a 1)] : List V)[i]? = some (.ref (a i)) := by
  rcases i with _ | _ | i
  · rfl
  · rfl
  · omega
theorem two_ix {f : Nat → Addr} {i : Nat} (hi : i < 2) : ([.ref (f 0), .ref (f 1)] : List V)[i]? = some (.ref (f i)) := by
  rcases i with _ | _ | i
  · rfl
  · rfl
  · omega
/-- the written places are no tuples -/
theorem LS.fsO (S : LS CW CP CI z sv Hb o ws lo hd a N H t l L) {x : Addr} (h : FS hd lo a t x) : ∃ u, H x = some u ∧ (∀ ys, u ≠ .tup ys) ∧ ∀ kvs, u ≠ .dT kvs := by
  rcases h with rfl | rfl | ⟨i, hi, rfl | rfl⟩
  · obtain ⟨xs, _, h, _⟩ := S.held
    exact ⟨_, h, by nofun, by nofun⟩
  · exact ⟨_, S.loA, by nofun, by nofun⟩
  · obtain ⟨dx, ot, h⟩ := S.ain hi
    exact ⟨_, h, by nofun, by nofun⟩
  · obtain ⟨ys, h⟩ := S.tlst hi
    exact ⟨_, h, by nofun, by nofun⟩
theorem LS.same (S : LS CW CP CI z sv Hb o ws lo hd a N H t l L) (s : Same H H') : LS CW CP CI z sv Hb o ws lo hd a N H' t l L := by
  obtain ⟨xs, Ls, h1, h2, h3, h4⟩ := S.held
  exact ⟨S.sm.trans s, S.nw, s _ _ S.oA, s _ _ S.wsA, s _ _ S.loA, fun i hi => (S.win i hi).same s, fun i hi => (S.lks i hi).same s, S.run, S.few, ⟨xs, Ls, s _ _ h1, Paired.mapP h2 fun v q z => z.same s, h3, h4⟩, S.tt, S.aa, S.lt, S.ht, S.hl⟩
theorem LS.pool {p : Addr} (S : LS CW CP CI z sv Hb o ws lo hd a N H t l L) (hp : PoolAt H p) (hb : Hb p = none) (k : Keep [p] H H') : LS CW CP CI z sv Hb o ws lo hd a N H' t l L := by
  obtain ⟨xs, Ls, h1, h2, h3, h4⟩ := S.held
  have hdp : hd ∉ [p] := fun m => by
    obtain ⟨z1, hz1⟩ := hp
    rw [List.mem_singleton.mp m, hz1] at h1
    cases h1
    cases h2 with
    | cons q _ =>
      obtain ⟨_, _, _, _, _, _, _, _, _, _, q, _⟩ := q
      cases q
  exact ⟨Same.keepN S.sm k (fun m hm => by rw [List.mem_singleton.mp hm]; exact hb), S.nw, k _ _ (fun m => pool_nt hp _ m _ S.oA) S.oA, k _ _ (refs_ne hp S.wsA) S.wsA, k _ _ (refs_ne hp S.loA) S.loA, fun i hi => (S.win i hi).pool hp k, fun i hi => (S.lks i hi).pool hp k, S.run, S.few,
    ⟨xs, Ls, k _ _ hdp h1, Paired.mapP h2 fun v q z => z.pool hp k, h3, h4⟩, S.tt, S.aa, S.lt, S.ht, S.hl⟩
theorem LS.vld (S : LS CW CP CI z sv Hb o ws lo hd a N H t l L) (hz : Sz z) (hs : (sv.length : Int) = z) {i : Nat} (hi : i < 2) : Vld (shf sv i) z (L i) :=
  vld_of hz (fun s e => by
    unfold shf at e
    split at e
    · cases e
    · injection e with e
      rw [← e]
      exact hs) (L i).length (L i) rfl (S.run i hi) (S.few i hi)
theorem shf_len {s : Pl} {i : Nat} (hs : (sv.length : Int) = z) (e : shf sv i = some s) : (s.length : Int) = z := by
  unfold shf at e
  split at e
  · cases e
  · injection e with e
    rw [← e]
    exact hs
theorem two_lt {i j : Nat} (hi : i < 2) (hj : j < 2) : i = j ∨ (i = 0 ∧ j = 1) ∨ (i = 1 ∧ j = 0) := by omega
theorem LS.lks_lo (S : LS CW CP CI z sv Hb o ws lo hd a N H t l L) {H2 : Hp} {x : Addr} {M : List Lk} (h0 : H2 lo = some (.lst [.ref (l 0), .ref (l 1)])) (h1 : ∃ ys, H2 (l 0) = some (.lst ys)) (h : LksAt H2 x M) : x ≠ lo := fun e => by
  obtain ⟨ys, hy⟩ := h1
  obtain ⟨xs, h2, h3⟩ := h
  rw [e, h0] at h2
  cases h2
  cases h3 with
  | cons q _ =>
    obtain ⟨u, p, e2, e3, _⟩ := q
    cases e2
    rw [hy] at e3
    cases e3
theorem LS.l0 (S : LS CW CP CI z sv Hb o ws lo hd a N H t l L) {i : Nat} (hi : i < 2) : ∃ ys, H (l i) = some (.lst ys) := by
  obtain ⟨xs, h, _⟩ := S.lks i hi
  exact ⟨xs, h⟩
theorem LS.ws_lks (S : LS CW CP CI z sv Hb o ws lo hd a N H t l L) {x : Addr} {M : List Lk} (h : LksAt H x M) : ws ≠ x := fun e => by
  obtain ⟨dx, ot, h1⟩ := S.ain (i := 0) (by decide)
  obtain ⟨xs, h2, h3⟩ := h
  rw [← e, S.wsA] at h2
  cases h2
  cases h3 with
  | cons q _ =>
    obtain ⟨u, p, e2, e3, _⟩ := q
    cases e2
    rw [h1] at e3
    cases e3
theorem LS.ws_lo (S : LS CW CP CI z sv Hb o ws lo hd a N H t l L) : ws ≠ lo := fun e => by
  obtain ⟨dx, ot, h1⟩ := S.ain (i := 0) (by decide)
  obtain ⟨ys, h2⟩ := S.l0 (i := 0) (by decide)
  have h3 := S.wsA
  rw [e, S.loA] at h3
  have h4 : l 0 = a 0 := by
    injection h3 with h3
    injection h3 with h3
    injection h3 with h3 _
    injection h3
  rw [h4, h1] at h2
  cases h2
theorem LS.hd_list (S : LS CW CP CI z sv Hb o ws lo hd a N H t l L) {x y : Addr} {ys : List V} (hx : H x = some (.lst (.ref y :: ys))) (hy : ∀ us, H y ≠ some (.tup us)) : hd ≠ x := fun e => by
  obtain ⟨xs, Ls, h1, h2, _⟩ := S.held
  rw [e, hx] at h1
  cases h1
  cases h2 with
  | cons q _ =>
    obtain ⟨u, c, d, e, dx, dd, s, h', n, kvs, e2, q⟩ := q
    cases e2
    exact hy _ q.tup
theorem LS.hd_ws (S : LS CW CP CI z sv Hb o ws lo hd a N H t l L) : hd ≠ ws := S.hd_list S.wsA fun us e => by
  obtain ⟨dx, ot, h1⟩ := S.ain (i := 0) (by decide)
  rw [h1] at e
  cases e
theorem LS.hd_lo (S : LS CW CP CI z sv Hb o ws lo hd a N H t l L) : hd ≠ lo := S.hd_list S.loA fun us e => by
  obtain ⟨ys, h1⟩ := S.l0 (i := 0) (by decide)
  rw [h1] at e
  cases e
theorem LS.a_lst (S : LS CW CP CI z sv Hb o ws lo hd a N H t l L) {i : Nat} (hi : i < 2) {x : Addr} {ys : List V} (hx : H x = some (.lst ys)) : a i ≠ x := by
  obtain ⟨dx, ot, h1⟩ := S.ain hi
  exact ne_of h1 hx (by nofun)
theorem LS.a_ne (S : LS CW CP CI z sv Hb o ws lo hd a N H t l L) {i j : Nat} (hi : i < 2) (hj : j < 2) (h : i ≠ j) : a i ≠ a j := by
  rcases two_lt hi hj with e | ⟨rfl, rfl⟩ | ⟨rfl, rfl⟩
  · exact absurd e h
  · exact S.aa
  · exact S.aa.symm
theorem LS.t_ne (S : LS CW CP CI z sv Hb o ws lo hd a N H t l L) {i j : Nat} (hi : i < 2) (hj : j < 2) (h : i ≠ j) : t i ≠ t j := by
  rcases two_lt hi hj with e | ⟨rfl, rfl⟩ | ⟨rfl, rfl⟩
  · exact absurd e h
  · exact S.tt
  · exact S.tt.symm
theorem ne_new {H : Hp} {x y : Addr} {u : HO} (hx : H x = some u) (hy : H y = none) : x ≠ y := ne_of_none hx hy
theorem LS.loK (S : LS CW CP CI z sv Hb o ws lo hd a N H t l L) {w : Nat} (hw : w < 2) (k : Keep [a w, t w] H H') : H' lo = some (.lst [.ref (l 0), .ref (l 1)]) := by
  have loa : lo ≠ a w := (S.a_lst hw S.loA).symm
  have lot : t w ≠ lo := S.lks_lo S.loA (S.l0 (by decide)) (S.win w hw).lks
  exact k _ _ (by simp [loa, lot.symm]) S.loA
theorem LS.poolK (S : LS CW CP CI z sv Hb o ws lo hd a N H t l L) {w : Nat} (hw : w < 2) (k : Keep [a w, t w] H H') {p : Addr} (hp : PoolAt H p) {o' : HO} : PoolAt (L2.upd H' lo o') p := by
  have h1 : lo ∉ [p] := refs_ne hp S.loA
  have h2 := pool_ne hp (S.win w hw).lks
  obtain ⟨z1, hz1⟩ := hp
  have h3 := S.a_lst hw hz1
  exact ⟨z1, (upd_ne (fun e => h1 (by rw [e]; simp))).trans (k _ _ (by simp [h3.symm, h2.symm]) hz1)⟩
/-- a deed at window w, its looks stored -/
theorem LS.done (S : LS CW CP CI z sv Hb o ws lo hd a N H t l L) {w : Nat} (hw : w < 2) {tn ln : Addr} {Lw : List Lk} (k : Keep [a w, t w] H H') (ht : tn = t w ∨ H tn = none) (hl : ln = l w ∨ (H ln = none ∧ ln ≠ tn)) (W : Win (clI CW CP sv w) (shf sv w) z H' (a w) tn Lw) (K : LksAt H' ln Lw)
    (hr : runL (shf sv w) z [] Lw = none) (hf : Lw.length ≤ 30) : LS CW CP CI z sv Hb o ws lo hd a N (L2.upd H' lo (.lst [.ref (setf l w ln 0), .ref (setf l w ln 1)])) (setf t w tn) (setf l w ln) (setf L w Lw) := by
  obtain ⟨tys, htw⟩ := S.tlst hw
  have hMt := (S.win w hw).nt
  have loa : lo ≠ a w := (S.a_lst hw S.loA).symm
  have lot : t w ≠ lo := S.lks_lo S.loA (S.l0 (by decide)) (S.win w hw).lks
  have loM : lo ∉ [a w, t w] := by simp [loa, lot.symm]
  have lo' : H' lo = some (.lst [.ref (l 0), .ref (l 1)]) := k _ _ loM S.loA
  have l0M : ∀ i, i < 2 → l i ∉ [a w, t w] := fun i hi => by
    obtain ⟨ys, h⟩ := S.l0 hi
    simp [(S.a_lst hw h).symm, S.lt i w hi hw]
  have l0' : ∃ ys, H' (l 0) = some (.lst ys) := by
    obtain ⟨ys, h⟩ := S.l0 (i := 0) (by decide)
    exact ⟨ys, k _ _ (l0M 0 (by decide)) h⟩
  have tnlo : tn ≠ lo := S.lks_lo lo' l0' W.lks
  have lnlo : ln ≠ lo := S.lks_lo lo' l0' K
  have k2 : Keep [lo] H' (L2.upd H' lo (.lst [.ref (setf l w ln 0), .ref (setf l w ln 1)])) := Keep.upd Keep.refl (by simp)
  have k' : Keep [lo, a w, t w] H (L2.upd H' lo (.lst [.ref (setf l w ln 0), .ref (setf l w ln 1)])) := Keep.upd (k.mono fun x hx => List.mem_cons_of_mem _ hx) (by simp)
  have nt2 : ∀ m ∈ [lo], ∀ ys, H' m ≠ some (.tup ys) := fun m hm ys e => by
    rw [List.mem_singleton.mp hm, lo'] at e
    cases e
  have nt' : ∀ m ∈ [lo, a w, t w], ∀ ys, H m ≠ some (.tup ys) := fun m hm ys e => by
    rcases List.mem_cons.mp hm with q | q
    · rw [q, S.loA] at e
      cases e
    · exact hMt m q ys e
  obtain ⟨xs, Ls, h1, h2, h3, h4⟩ := S.held
  have hdM : hd ∉ [lo, a w, t w] := by simp [S.hd_lo, (S.a_lst hw h1).symm, S.ht w hw]
  have oldt : ∀ {x : Addr}, x = tn → (∃ u, H x = some u) → x = t w := fun {x} e h => by
    obtain ⟨u, h⟩ := h
    rcases ht with q | q
    · exact e.trans q
    · rw [e, q] at h
      cases h
  have oldl : ∀ {x : Addr}, x = ln → (∃ u, H x = some u) → x = l w := fun {x} e h => by
    obtain ⟨u, h⟩ := h
    rcases hl with q | q
    · exact e.trans q
    · rw [e, q.1] at h
      cases h
  have fsM : ∀ m ∈ [lo, a w, t w], FS hd lo a t m := fun m hm => by
    simp only [List.mem_cons, List.not_mem_nil, or_false] at hm
    rcases hm with rfl | rfl | rfl
    · exact .inr (.inl rfl)
    · exact .inr (.inr ⟨w, hw, .inl rfl⟩)
    · exact .inr (.inr ⟨w, hw, .inr rfl⟩)
  have fsN : ∀ x, FS hd lo a (setf t w tn) x → FS hd lo a t x ∨ H x = none := fun x h => by
    rcases h with q | q | ⟨i, hi, q | q⟩
    · exact .inl (.inl q)
    · exact .inl (.inr (.inl q))
    · exact .inl (.inr (.inr ⟨i, hi, .inl q⟩))
    · by_cases e : i = w
      · subst e
        rw [setf_at] at q
        rcases ht with r | r
        · exact .inl (.inr (.inr ⟨i, hi, .inr (q.trans r)⟩))
        · rw [q]
          exact .inr r
      · rw [setf_ne e] at q
        exact .inl (.inr (.inr ⟨i, hi, .inr q⟩))
  refine ⟨Same.keepN S.sm k' (fun m hm => S.nw m (fsM m hm)), fun x hx => ?_, k' _ _ (fun m => nt' _ m _ S.oA) S.oA, k' _ _ ?_ S.wsA, upd_same, fun i hi => ?_, fun i hi => ?_, fun i hi => ?_, fun i hi => ?_, ⟨xs, Ls, k' _ _ hdM h1, Paired.mapP h2 fun v q h => ?_, h3, h4⟩, ?_, S.aa, fun i j hi hj => ?_, fun i hi => ?_, fun i hi => ?_⟩
  · rcases fsN x hx with q | q
    · exact S.nw x q
    · exact none_back S.sm q
  · simp [S.ws_lo, S.ws_lks (S.win w hw).lks, (S.a_lst hw S.wsA).symm]
  · by_cases e : i = w
    · subst e
      rw [setf_at, setf_at]
      refine W.keep k2 ?_ (by simpa using tnlo) nt2
      simpa using loa.symm
    · rw [setf_ne e, setf_ne e]
      obtain ⟨ys, h⟩ := S.tlst hi
      refine (S.win i hi).keep k' ?_ ?_ nt'
      · simp [S.a_ne hi hw e, S.a_lst hi S.loA, S.a_lst hi htw]
      · simp [S.t_ne hi hw e, (S.a_lst hw h).symm, S.lks_lo S.loA (S.l0 (by decide)) (S.win i hi).lks]
  · by_cases e : i = w
    · subst e
      rw [setf_at, setf_at]
      exact K.keep k2 (by simpa using lnlo) nt2
    · rw [setf_ne e, setf_ne e]
      refine (S.lks i hi).keep k' ?_ nt'
      obtain ⟨ys, h⟩ := S.l0 hi
      simp [S.lks_lo S.loA (S.l0 (by decide)) (S.lks i hi), (S.a_lst hw h).symm, S.lt i w hi hw]
  · by_cases e : i = w
    · subst e
      rw [setf_at]
      exact hr
    · rw [setf_ne e]
      exact S.run i hi
  · by_cases e : i = w
    · subst e
      rw [setf_at]
      exact hf
    · rw [setf_ne e]
      exact S.few i hi
  · have g1 : HeldF CI z (fun x => FS hd lo a t x ∨ FS hd lo a (setf t w tn) x) H v q := h.refr fun x hx => hx.elim .inl (fsN x)
    exact (g1.keep k' (fun m hm => .inl (fsM m hm)) nt').refr fun x hx => .inl (.inr hx)
  · rcases (show w = 0 ∨ w = 1 by omega) with rfl | rfl
    · rw [setf_at, setf_ne (by decide)]
      intro e
      exact S.tt (oldt e.symm (by obtain ⟨ys, h⟩ := S.tlst (i := 1) (by decide); exact ⟨_, h⟩)).symm
    · rw [setf_at, setf_ne (by decide)]
      intro e
      exact S.tt (oldt e (by obtain ⟨ys, h⟩ := S.tlst (i := 0) (by decide); exact ⟨_, h⟩))
  · by_cases e1 : i = w
    · subst e1
      rw [setf_at]
      by_cases e2 : j = i
      · subst e2
        rw [setf_at]
        rcases hl with q | q
        · rw [q]
          intro e
          obtain ⟨ys, h⟩ := S.l0 hi
          exact S.lt j j hi hi (oldt e ⟨_, h⟩)
        · exact q.2
      · rw [setf_ne e2]
        intro e
        obtain ⟨ys, h⟩ := S.tlst hj
        exact S.lt i j hi hj (oldl e.symm ⟨_, h⟩).symm
    · rw [setf_ne e1]
      by_cases e2 : j = w
      · subst e2
        rw [setf_at]
        intro e
        obtain ⟨ys, h⟩ := S.l0 hi
        exact S.lt i j hi hj (oldt e ⟨_, h⟩)
      · rw [setf_ne e2]
        exact S.lt i j hi hj
  · by_cases e : i = w
    · subst e
      rw [setf_at]
      intro e
      exact S.ht i hi (oldt e ⟨_, h1⟩)
    · rw [setf_ne e]
      exact S.ht i hi
  · by_cases e : i = w
    · subst e
      rw [setf_at]
      intro e
      exact S.hl i hi (oldl e ⟨_, h1⟩)
    · rw [setf_ne e]
      exact S.hl i hi
/-- a picture, two lists: held -/
theorem LS.hold (S : LS CW CP CI z sv Hb o ws lo hd a N H t l L) {w : Nat} {c d e u : Addr} (s : Same H H') (hP : Pic CI z H' c (withW (L w) .seen) (withW (L w) .hidden)) (pn : PicNew CI z H H' c) (cn : H c = none) (hd' : LksAt H' d (L w)) (dn : H d = none) (he : LksAt H' e (L w)) (en : H e = none)
    (hu : H' u = some (.tup [.ref c, .ref d, .ref e])) (dl : Dull z (L w)) : ∃ xs, H' hd = some (.lst xs) ∧ xs.length ≤ N ∧ LS CW CP CI z sv Hb o ws lo hd a (N + 1) (L2.upd H' hd (.lst (xs ++ [.ref u]))) t l L := by
  have S' := S.same s
  obtain ⟨xs, Ls, h1, h2, h3, h4⟩ := S'.held
  refine ⟨xs, h1, h4, ?_⟩
  have k : Keep [hd] H' (L2.upd H' hd (.lst (xs ++ [.ref u]))) := Keep.upd Keep.refl (by simp)
  have nt : ∀ m ∈ [hd], ∀ ys, H' m ≠ some (.tup ys) := fun m hm ys q => by
    rw [List.mem_singleton.mp hm, h1] at q
    cases q
  have fsM : ∀ m ∈ [hd], FS hd lo a t m := fun m hm => .inl (List.mem_singleton.mp hm)
  have new : HeldF CI z (FS hd lo a t) H' (.ref u) (L w) := by
    obtain ⟨dx, dd, s1, s2, n, kvs, q1, q2, q3, q4⟩ := hP
    obtain ⟨n1, n2⟩ := pn dx dd s1 s2 q1
    refine ⟨u, c, d, e, dx, dd, s1, s2, n, kvs, rfl, hu, q1, q2, q3, q4, hd', he, fun x hx q => ?_⟩
    obtain ⟨v, hv, _⟩ := S.fsO q
    obtain ⟨v', hv', _, hv2⟩ := S'.fsO q
    simp only [List.mem_cons, List.not_mem_nil, or_false] at hx
    rcases hx with rfl | rfl | rfl | rfl | rfl | rfl
    · rw [cn] at hv; cases hv
    · rw [dn] at hv; cases hv
    · rw [en] at hv; cases hv
    · rw [q2.at_] at hv'
      exact hv2 _ (Option.some.inj hv').symm
    · rw [n1] at hv; cases hv
    · rw [n2] at hv; cases hv
  refine ⟨Same.keepN S'.sm k (fun m hm => S.nw m (fsM m hm)), S.nw, k _ _ (fun m => nt _ m _ S'.oA) S'.oA, k _ _ (by simpa using S'.hd_ws.symm) S'.wsA, k _ _ (by simpa using S'.hd_lo.symm) S'.loA, fun i hi => (S'.win i hi).keep k ?_ ?_ nt, fun i hi => (S'.lks i hi).keep k ?_ nt, S.run, S.few,
    ⟨xs ++ [.ref u], Ls ++ [L w], upd_same, paired_app (Paired.mapP h2 fun v q h => h.keep k fsM nt) (.cons (new.keep k fsM nt) .nil), fun M hM => ?_, by rw [List.length_append]; exact Nat.succ_le_succ h4⟩, S.tt, S.aa, S.lt, S.ht, S.hl⟩
  · simpa using S'.a_lst hi h1
  · simpa using (S.ht i hi).symm
  · simpa using (S.hl i hi).symm
  · rcases List.mem_append.mp hM with hM | hM
    · exact h3 M hM
    · rw [List.mem_singleton.mp hM]
      exact dl
end
end K94
namespace K94
open PySem L2
abbrev sLawD : Stmt := top 56
abbrev nLaw : List Str := ["_law_script", "_law_pool_here", "_law_size", "_law_shift", "_law_windows", "_law_looks_here", "_law_held", "_law_k", "_law_which", "_law_way", "_law_some", "_law_good", "_law_turn"]
theorem scLaw : FnScope nLaw ["_law_script"] (defScope sLawD) := ⟨rfl, rfl, rfl, by decide +kernel, rfl, by decide +kernel, by decide +kernel⟩
theorem seq_split {s r : TS} {D : Ends} {σ : L2.St} {H : Hp} (N : L2.St → Hp → Prop) (h1 : ∀ nx : L2.St → Hp → Prop, (∀ σ' H', N σ' H' → nx σ' H') → s { D with nx := nx } σ H) (h2 : ∀ σ' H', N σ' H' → r D σ' H') : tSeq s r D σ H := h1 _ h2
theorem gname_ {i : Nat} {v : V} {σ : L2.St} {H : Hp} {Q : L2.St → Hp → Prop} (h : Q (σ.set i (some v)) H) : gName i v σ H Q := h
theorem seq_ {s r : TS} {D : Ends} {σ : L2.St} {H : Hp} (h : s { D with nx := r D } σ H) : tSeq s r D σ H := h
theorem asg_ {te : TE} {g : TG} {D : Ends} {σ : L2.St} {H : Hp} (h : te σ H fun v H' => g v σ H' D.nx) : tAsg te g D σ H := h
theorem cut_toG {xs : List V} {d : Int} (h : 0 ≤ d) : cutV xs none (some d) = xs.take d.toNat := by
  unfold cutV
  rw [six_nat h, show HT.sIx xs.length 0 none = 0 from rfl, List.drop_zero, Nat.sub_zero]
  rcases Nat.le_total d.toNat xs.length with q | q
  · rw [Nat.min_eq_left q]
  · rw [Nat.min_eq_right q, List.take_of_length_le (Nat.le_refl _), List.take_of_length_le q]
theorem paired_take {α β : Type} {F : α → β → Prop} : ∀ {l : List α} {m : List β} (n : Nat), Paired F l m → Paired F (l.take n) (m.take n)
  | _, _, n, .nil => by
    rw [List.take_nil, List.take_nil]
    exact .nil
  | _, _, 0, .cons _ _ => .nil
  | _, _, n + 1, .cons h t => .cons h (paired_take n t)
theorem Same.sql {K : PySem.W.Frag} {H H' : Hp} {a : Addr} {xs : List V} (e : Same H H') (h : SqL K H a xs) : SqL K H' a xs := by
  exact h.imp (fun x => x.imp (fun y => e _ _ y) fun ⟨o, y⟩ => ⟨o, e _ _ y⟩) id
def two (x y : Addr) : Nat → Addr
  | 0 => x
  | _ + 1 => y
theorem set_two {f : Nat → Addr} {w : Nat} {x : Addr} (hw : w < 2) : ([.ref (f 0), .ref (f 1)] : List V).set w (.ref x) = [.ref (setf f w x 0), .ref (setf f w x 1)] := by
  rcases (show w = 0 ∨ w = 1 by omega) with rfl | rfl
  · rw [setf_at, setf_ne (by decide)]
    rfl
  · rw [setf_at, setf_ne (by decide)]
    rfl
theorem ix_two {w : Nat} (hw : w < 2) : ixN 2 ((w : Nat) : Int) = some w := by
  rcases (show w = 0 ∨ w = 1 by omega) with rfl | rfl <;> rfl
theorem act_ok {sh : Option Pl} {z : Int} {L M : List Lk} {way : Int} (h : runL sh z [] L = none) (hw : way = 0 ∨ way = 1 ∨ (way = 2 ∧ M.length = 1)) (hn : L.length + M.length ≤ 30) : runL sh z [] (act sh z L way M).2 = none ∧ (act sh z L way M).2.length ≤ 30 := by
  by_cases h0 : way = 0
  · subst h0
    unfold act
    rw [if_pos rfl]
    by_cases hL : L = []
    · rw [if_pos hL]
      exact ⟨h, by show L.length ≤ 30; omega⟩
    · rw [if_neg hL]
      refine ⟨runL_last h, ?_⟩
      show L.dropLast.length ≤ 30
      rw [List.length_dropLast]
      omega
  · rw [act_run (hw.resolve_left h0)]
    cases hr : runL sh z L M with
    | none =>
      refine ⟨?_, by show (L ++ M).length ≤ 30; rw [List.length_append]; exact hn⟩
      show runL sh z [] (L ++ M) = none
      rw [runL_app, h]
      show runL sh z ([] ++ L) M = none
      rw [List.nil_append]
      exact hr
    | some e => exact ⟨h, by show L.length ≤ 30; omega⟩
theorem Vld.dull {sh : Option Pl} {z : Int} {L : List Lk} (v : Vld sh z L) : Dull z L := ⟨v.good, v.nd, v.wd⟩
section
variable {P : Program} {w : World} {K : PySem.W.Frag} {mg : Str → Option Value} {base : Heap} {cn : Str → Addr} {CI CW CP : Addr}
/-- a property of an instance of one of two classes -/
def tPrA (C1 C2 : Addr) (sp1 sp2 : Sp) (ta : TE) : TE := fun σ H Q => ta σ H fun x H1 => ∃ a dx fs, x = .ref a ∧ ((H1 a = some (.ins C1 dx fs) ∧ sp1 [.ref a] H1 Q E0) ∨ (H1 a = some (.ins C2 dx fs) ∧ sp2 [.ref a] H1 Q E0))
theorem pe_prA {X : Cx} {k : Nat} {C1 C2 : Addr} {m : Str} {sp1 sp2 : Sp} {e : Expr} {ta : TE} {pos : Pos} (he : PE X e ta) (M1 : PF X.prog X.w X.K X.mg X.base CX0 k C1 m ["self"] sp1) (M2 : PF X.prog X.w X.K X.mg X.base CX0 k C2 m ["self"] sp2) (hr : Room (k + 1) X.A) (hab : attributeBase e m X.env (eval e X.env) = eval e X.env := by rfl) :
    PE X (.Attribute e m pos) (tPrA C1 C2 sp1 sp2 ta) := by
  refine ⟨fun pins s σ H Q I h => ?_⟩
  refine attr_of hab (thn (he.run pins s σ H _ I h) fun u s1 ⟨x, H1, I1, rx, a, dx, fs, ex, q⟩ => ?_)
  subst ex
  obtain rfl : u = Value.ref a := rx
  rcases q with ⟨ea, q⟩ | ⟨ea, q⟩
  · obtain ⟨p, f, fd, c, hp, F, hb⟩ := M1.ex
    exact getprop_ok I1 ea c hp F hr hb .nil pass0N q
  · obtain ⟨p, f, fd, c, hp, F, hb⟩ := M2.ex
    exact getprop_ok I1 ea c hp F hr hb .nil pass0N q
abbrev spPicA (CI CP : Addr) : Sp := fun vs H Q E => ∃ s, spPicture CI CP (some s) vs H Q E
abbrev spLooksA (CP : Addr) : Sp := fun vs H Q E => ∃ s, spLooks CP (some s) vs H Q E
theorem prA {sp : Addr → Option Pl → Sp} {sv : Pl} {i : Nat} {H : Hp} {Q : VK} {a dx : Addr} {fs : List (Str × V)} (ha : H a = some (.ins (clI CW CP sv i) dx fs)) (h : sp (clI CW CP sv i) (shf sv i) [.ref a] H Q E0) :
    (H a = some (.ins CW dx fs) ∧ sp CW none [.ref a] H Q E0) ∨ (H a = some (.ins CP dx fs) ∧ ∃ s, sp CP (some s) [.ref a] H Q E0) := by
  by_cases hi : i = 0
  · subst hi
    exact .inl ⟨ha, h⟩
  · have e : shf sv i = some sv := if_neg hi
    unfold clI at h ha
    rw [e] at h ha
    exact .inr ⟨ha, sv, h⟩
abbrev spDoneA (CW CP : Addr) : Sp := fun vs H Q E => ∃ sh, spDone (clOf CW CP sh) sh vs H Q E
abbrev spIsStA (CW CP : Addr) : Sp := fun vs H Q E => ∃ sh, spIsSt (clOf CW CP sh) sh vs H Q E
def spLaw (K : PySem.W.Frag) : Sp := fun vs H Q _ => ∃ (a : Addr) (ns : List Int), vs = [.ref a] ∧ SqL K H a (ns.map V.int) ∧ ∀ H', Q (.bl true) H'
theorem ok_law {f : Addr} {fd : FuncData} (F : Fun K "law" "law" sLawD f fd) (mL : mg "len" = none) (mR : mg "range" = none) (mM : mg "min" = none) (mLs : mg "list" = none) (T : TwoW K mg CW CP)
    (GPl : GF P w K mg base CX0 3 "_law_pool" ["_law_script", "_law_k"] (spPool K)) (GT : GF P w K mg base CX0 3 "_law_take" ["_law_pool_here", "_law_parts"] spTake) (GN : GF P w K mg base CX0 5 "_law_near" ["_law_pool_here", "_law_many", "_law_most"] spNear)
    (MW : MkF P w K mg base 1 "Window" CW ["self", "size"] (spWIni K)) (MP : MkF P w K mg base 5 "PlacedWindow" CP ["self", "shift"] (spPIni K CP)) (GL : GF P w K mg base CX0 7 "_law_looks" ["_law_pool_here", "_law_size"] spLLooks)
    (GD : GF P w K mg base CX0 13 "_law_done" ["_law_window", "_law_looks_here", "_law_shift", "_law_way", "_law_some", "_law_size"] (spDoneA CW CP)) (GI : GF P w K mg base CX0 16 "_law_is_state" ["_law_pool_here", "_law_window", "_law_looks_here", "_law_size"] (spIsStA CW CP))
    (PW : PF P w K mg base CX0 6 CW "picture" ["self"] (spPicture CI CW none)) (PA : PF P w K mg base CX0 6 CP "picture" ["self"] (spPicA CI CP)) (LW : PF P w K mg base CX0 1 CW "looks" ["self"] (spLooks CW none)) (LA : PF P w K mg base CX0 1 CP "looks" ["self"] (spLooksA CP))
    (GH : GF P w K mg base CX0 5 "_law_is_held" ["_law_held"] (spHeld CI)) (GE : GF P w K mg base CX0 11 "_law_is_equal" ["_law_pool_here", "_law_windows", "_law_looks_here", "_law_size", "_law_shift"] (spEqu CW CP)) :
    FnOk P w K mg base CX0 18 f fd ["_law_script"] (spLaw K) := by
  refine F.ok scLaw (fun vs H Q E h => ?_) (fun cdv A outer s H vs Q E hr h => ?_)
  · obtain ⟨a, ns, rfl, _⟩ := h
    rfl
  · obtain ⟨sc, ns, rfl, hS, hQ⟩ := h
    have boot_min : bootBuiltins "min" = some (.builtin "min") := by decide +kernel
    refine ⟨_, pss_cons (ps_set (i := 1) scLaw.nd rfl (Or.inl rfl) (pe_g GPl (hr.mono (by decide)) rfl pass0 (pa_cons (pv 0) (pa_cons pe_int pa_nil))))
      (pss_cons (ps_set (i := 2) scLaw.nd rfl (Or.inl rfl) (pe_op op_add pe_int (pe_g GT (hr.mono (by decide)) rfl pass0 (pa_cons (pv 1) (pa_cons pe_int pa_nil)))))
      (pss_cons (ps_set (i := 3) scLaw.nd rfl (Or.inl rfl) (pe_g GN (hr.mono (by decide)) rfl pass0 (pa_cons (pv 1) (pa_cons (pv 2) (pa_cons (pe_ix ix_list (pe_lst (pa_cons pe_int (pa_cons (pe_op op_pow pe_int pe_int) pa_nil))) (pe_g GT (hr.mono (by decide)) rfl pass0 (pa_cons (pv 1) (pa_cons pe_int pa_nil))) (fun _ _ => rfl)) pa_nil)))))
      (pss_cons (ps_set (i := 4) scLaw.nd rfl (Or.inl rfl) (pe_lst (pa_cons (pe_mk MW (hr.mono (by decide)) rfl (pa_cons (pv 2) pa_nil)) (pa_cons (pe_mk MP (hr.mono (by decide)) rfl (pa_cons (pv 3) pa_nil)) pa_nil))))
      (pss_cons (ps_set (i := 5) scLaw.nd rfl (Or.inl rfl) (pe_lst (pa_cons (pe_lst pa_nil) (pa_cons (pe_lst pa_nil) pa_nil))))
      (pss_cons (ps_set (i := 6) scLaw.nd rfl (Or.inl rfl) (pe_lst pa_nil))
      (pss_cons (ps_for PassesOwn.never rfl (pi_range2 (by rfl) mR (pa_cons pe_int (pa_cons (pe_op op_add (pe_callB (call_min2 rfl) (by rfl) mM boot_min (pa_cons (pe_callB call_len_seq (by rfl) mL PySem.boot_len (pa_cons (pv 0) pa_nil)) (pa_cons pe_int pa_nil))) pe_int) pa_nil))) (pg_name (i := 7) scLaw.nd rfl (Or.inl rfl))
        (pss_cons (ps_set (i := 1) scLaw.nd rfl (Or.inl rfl) (pe_g GPl (hr.mono (by decide)) rfl pass0 (pa_cons (pv 0) (pa_cons (pv 7) pa_nil))))
        (pss_cons (ps_set (i := 8) scLaw.nd rfl (Or.inl rfl) (pe_g GT (hr.mono (by decide)) rfl pass0 (pa_cons (pv 1) (pa_cons pe_int pa_nil))))
        (pss_cons (ps_set (i := 9) scLaw.nd rfl (Or.inl rfl) (pe_ix ix_list (pe_lst (pa_cons pe_int (pa_cons pe_int (pa_cons pe_int (pa_cons pe_int (pa_cons pe_int (pa_cons pe_int pa_nil))))))) (pe_g GT (hr.mono (by decide)) rfl pass0 (pa_cons (pv 1) (pa_cons pe_int pa_nil))) (fun _ _ => rfl)))
        (pss_cons (ps_set (i := 10) scLaw.nd rfl (Or.inl rfl) (pe_g GL (hr.mono (by decide)) rfl pass0 (pa_cons (pv 1) (pa_cons (pv 2) pa_nil))))
        (pss_cons (ps_if (pt_cmpR op_ne (pv 9) pe_int (nomark _)) (pss_one (ps_set (i := 10) scLaw.nd rfl (Or.inl rfl) (pe_slice sl_list (pv 10) po_none (po_some (pe_op op_fdiv (pv 9) pe_int))))) pss_nil)
        (pss_cons (ps_if (pt_cmpR op_le (pe_op op_add (pe_callB call_len_seq (by rfl) mL PySem.boot_len (pa_cons (pe_ix ix_list (pv 5) (pv 8) (fun _ _ => rfl)) pa_nil)) (pe_callB call_len_seq (by rfl) mL PySem.boot_len (pa_cons (pv 10) pa_nil))) pe_int (nomark _))
            (pss_cons (ps_asg (pe_g GD (hr.mono (by decide)) rfl pass0 (pa_cons (pe_ix ix_list (pv 4) (pv 8) (fun _ _ => rfl)) (pa_cons (pe_ix ix_list (pv 5) (pv 8) (fun _ _ => rfl)) (pa_cons (pe_ix ix_list (pe_lst (pa_cons pe_non (pa_cons (pv 3) pa_nil))) (pv 8) (fun _ _ => rfl)) (pa_cons (pv 9) (pa_cons (pv 10) (pa_cons (pv 2) pa_nil)))))))
                (pg_tup rfl (pgs_cons (pg_name (i := 11) scLaw.nd rfl (Or.inl rfl)) (pgs_cons (pg_sub (pv 5) (pv 8) set_list) pgs_nil))))
            (pss_one (ps_if (pt_not (pt_val (pv 11))) (pss_one (ps_ret pe_bl)) pss_nil))) pss_nil)
        (pss_cons (ps_expr (pe_bm PySem.F.plainAttrs_list PySem.F.slot_list_append PySem.F.type_list_append mt_append (pv 6) (pa_cons (pe_tup (pa_cons (pe_prA (pe_ix ix_list (pv 4) (pv 8) (fun _ _ => rfl)) PW PA (hr.mono (by decide))) (pa_cons (pe_prA (pe_ix ix_list (pv 4) (pv 8) (fun _ _ => rfl)) LW LA (hr.mono (by decide)))
            (pa_cons (pe_callTy call_list_of (by rfl) mLs (by decide +kernel) (pa_cons (pe_ix ix_list (pv 5) (pv 8) (fun _ _ => rfl)) pa_nil)) pa_nil)))) pa_nil)))
        (pss_one (ps_for PassesOwn.never rfl (pi_list (pe_lst (pa_cons (pv 8) (pa_cons (pe_op op_sub pe_int (pv 8)) pa_nil)))) (pg_name (i := 12) scLaw.nd rfl (Or.inl rfl))
          (pss_one (ps_if (pt_not (pt_val (pe_g GI (hr.mono (by decide)) rfl pass0 (pa_cons (pv 1) (pa_cons (pe_ix ix_list (pv 4) (pv 12) (fun _ _ => rfl)) (pa_cons (pe_ix ix_list (pv 5) (pv 12) (fun _ _ => rfl)) (pa_cons (pv 2) pa_nil))))))) (pss_one (ps_ret pe_bl)) pss_nil))))))))))))
      (pss_one (ps_ret (pe_and (pe_g GH (hr.mono (by decide)) rfl pass0 (pa_cons (pv 6) pa_nil)) (pe_one (pe_g GE (hr.mono (by decide)) rfl pass0 (pa_cons (pv 1) (pa_cons (pv 4) (pa_cons (pv 5) (pa_cons (pv 2) (pa_cons (pv 3) pa_nil)))))))))))))))), ?_⟩
    refine ⟨_, rfl, sc, ns, 0, rfl, hS, by decide, by decide, fun p z0 hp => ?_⟩
    obtain ⟨H1, e1⟩ : ∃ H1, H1 = L2.upd H p (.lst [.int z0]) := ⟨_, rfl⟩
    have s1 : Same H H1 := by
      rw [e1]
      exact Same.one hp
    have hp1 : PoolAt H1 p := ⟨z0, by rw [e1]; exact upd_same⟩
    rw [← e1]
    clear e1
    refine rd_take (i := 1) (m := 2) (by rfl) hp1 fun d H2 h0 h1 k2 hp2 => ⟨_, _, rfl, rfl, ?_⟩
    obtain ⟨z, ez⟩ : ∃ z, z = 2 + d := ⟨_, rfl⟩
    have hz : Sz z := by
      rcases (show d = 0 ∨ d = 1 by omega) with rfl | rfl
      · exact .inl ez
      · exact .inr ez
    show gName 2 (.int (2 + d)) _ _ _
    rw [← ez]
    have kA : Keep [p] H1 H2 := k2
    refine ⟨_, rfl, _, rfl, ?_⟩
    show tOp (rIxL K) (tLst _) (tCall spTake [] E0 (tCons (tVar 1) (tCons (tC (.int 2)) tNil))) _ _ _
    refine rd_pick (K := K) (ns := [3, 10 ^ 59]) (i := 1) (m := 2) (by rfl) hp2 (by exact fun _ h => ⟨10, 59, rfl, rfl, ⟨by decide, by decide, by decide⟩, h⟩) (by decide) (by rfl) (by decide) (by decide) fun mo H3 hmo k3 hp3 => ?_
    have hmo2 : 0 ≤ mo ∧ mo.natAbs < 2 ^ 290 := by
      simp only [List.mem_cons, List.not_mem_nil, or_false] at hmo
      rcases hmo with rfl | rfl
      · exact ⟨by decide, by decide⟩
      · exact ⟨by decide, by decide⟩
    have ez2 : z = ((z.toNat : Nat) : Int) := by
      rcases hz with rfl | rfl <;> rfl
    refine ⟨p, z.toNat, mo, congrArg (fun x => [V.ref p, V.int x, V.int mo]) ez2, hp3, by rcases hz with rfl | rfl <;> decide, hmo2.1, hmo2.2, fun H4 v sv k4 hp4 hv hsl _ => ?_⟩
    obtain ⟨o, rfl, ho⟩ := hv
    have hs : (sv.length : Int) = z := by omega
    have sH4 : Same H H4 := Same.keepN s1 ((k2.trans k3).trans k4) (fun m hm => by rw [List.mem_singleton.mp hm]; exact hp)
    clear k2 k3 k4 kA hp1 hp2 hp3 s1 hmo hmo2 h0 h1 ez
    -- the windows
    refine ⟨_, rfl, fun a0 da0 ha0 hda0 hna0 => ⟨a0, da0, CW, z, rfl, hz, T.fW, upd_same, fun H5 t0 ka0 aa0 la0 na0 => ⟨rfl, ?_⟩⟩⟩
    obtain ⟨s5, w0⟩ := mkW_facts ha0 hda0 ka0 aa0 la0
    have ht0 := mk_none ha0 hda0 na0
    clear ka0 aa0 la0 na0 hna0 hda0
    refine ⟨_, rfl, fun a1 da1 ha1 hda1 hna1 => ⟨a1, da1, o, z, sv, rfl, hz, hs, mk_keep ha1 hda1 (s5 _ _ ho), T.fP, upd_same, fun H6 t1 ka1 aa1 la1 na1 => ⟨rfl, ?_⟩⟩⟩
    obtain ⟨s6, w1⟩ := mkP_facts (s := sv) ha1 hda1 (s5 _ _ ho) ka1 aa1 la1
    have ht1 := mk_none ha1 hda1 na1
    clear ka1 aa1 la1 na1 hna1 hda1
    refine ⟨line1000 (by show 2 ≤ 1000; decide), fun ws hws => ⟨line1000 (by show 0 ≤ 1000; decide), fun l0 hl0 => ⟨line1000 (by show 0 ≤ 1000; decide), fun l1 hl1 => ⟨line1000 (by show 2 ≤ 1000; decide), fun lo hlo => ⟨line1000 (by show 0 ≤ 1000; decide), fun hd hhd => ?_⟩⟩⟩⟩⟩
    obtain ⟨H7, e7⟩ : ∃ H7, H7 = L2.upd H6 ws (.lst [.ref a0, .ref a1]) := ⟨_, rfl⟩
    have s7 : Same H6 H7 := by
      rw [e7]
      exact Same.one hws
    have f7 : H7 ws = some (.lst [.ref a0, .ref a1]) := by
      rw [e7]
      exact upd_same
    rw [← e7] at hl0 hl1 hlo hhd ⊢
    clear e7
    obtain ⟨H8, e8⟩ : ∃ H8, H8 = L2.upd H7 l0 (.lst []) := ⟨_, rfl⟩
    have s8 : Same H7 H8 := by
      rw [e8]
      exact Same.one hl0
    have f8 : H8 l0 = some (.lst []) := by
      rw [e8]
      exact upd_same
    rw [← e8] at hl1 hlo hhd ⊢
    clear e8
    obtain ⟨H9, e9⟩ : ∃ H9, H9 = L2.upd H8 l1 (.lst []) := ⟨_, rfl⟩
    have s9 : Same H8 H9 := by
      rw [e9]
      exact Same.one hl1
    have f9 : H9 l1 = some (.lst []) := by
      rw [e9]
      exact upd_same
    rw [← e9] at hlo hhd ⊢
    clear e9
    obtain ⟨H10, e10⟩ : ∃ H10, H10 = L2.upd H9 lo (.lst [.ref l0, .ref l1]) := ⟨_, rfl⟩
    have s10 : Same H9 H10 := by
      rw [e10]
      exact Same.one hlo
    have f10 : H10 lo = some (.lst [.ref l0, .ref l1]) := by
      rw [e10]
      exact upd_same
    rw [← e10] at hhd ⊢
    clear e10
    obtain ⟨H11, e11⟩ : ∃ H11, H11 = L2.upd H10 hd (.lst []) := ⟨_, rfl⟩
    have s11 : Same H10 H11 := by
      rw [e11]
      exact Same.one hhd
    have f11 : H11 hd = some (.lst []) := by
      rw [e11]
      exact upd_same
    rw [← e11]
    clear e11
    have S0 : LS CW CP CI z sv H o ws lo hd (two a0 a1) 0 H11 (two t0 t1) (two l0 l1) (fun _ => []) := by
      have sH5 := sH4.trans s5
      have sH6 := sH5.trans s6
      have sH7 := sH6.trans s7
      have sH8 := sH7.trans s8
      have sH9 := sH8.trans s9
      have sH10 := sH9.trans s10
      have s9L := s10.trans s11
      have s8L := s9.trans s9L
      have s7L := s8.trans s8L
      have s6L := s7.trans s7L
      have s5L := s6.trans s6L
      obtain ⟨⟨dx0, ot0, g0, _⟩, _⟩ := id w0
      have q0 := w0.nil_at
      have q1 := w1.nil_at
      have e06 : H6 t0 = some (.lst []) := s6 _ _ q0
      have two2 : ∀ {C : Nat → Prop}, C 0 → C 1 → ∀ i, i < 2 → C i := fun {C} c0 c1 i hi => by
        rcases (show i = 0 ∨ i = 1 by omega) with rfl | rfl
        · exact c0
        · exact c1
      refine ⟨sH10.trans s11, fun x hx => ?_, s5L _ _ (s5 _ _ ho), s7L _ _ f7, s11 _ _ f10, two2 (w0.same s5L) (w1.same s6L), two2 ⟨[], s8L _ _ f8, .nil⟩ ⟨[], s9L _ _ f9, .nil⟩, fun i hi => rfl, fun i hi => Nat.zero_le _, ⟨[], [], f11, .nil, (fun M hM => nomatch hM), Nat.le_refl _⟩, ne_of_none q0 ht1, ne_of_none g0 ha1, ?_, ?_, ?_⟩
      · rcases hx with rfl | rfl | ⟨i, hi, rfl | rfl⟩
        · exact none_back sH10 hhd
        · exact none_back sH9 hlo
        · exact two2 (C := fun i => H (two a0 a1 i) = none) (none_back sH4 ha0) (none_back sH5 ha1) i hi
        · exact two2 (C := fun i => H (two t0 t1 i) = none) (none_back sH4 ht0) (none_back sH5 ht1) i hi
      · intro i j hi hj
        refine two2 (C := fun i => ∀ j, j < 2 → two l0 l1 i ≠ two t0 t1 j) (two2 ?_ ?_) (two2 ?_ ?_) i hi j hj
        · exact (ne_of_none (s7 _ _ e06) hl0).symm
        · exact (ne_of_none (s7 _ _ q1) hl0).symm
        · exact (ne_of_none (s8 _ _ (s7 _ _ e06)) hl1).symm
        · exact (ne_of_none (s8 _ _ (s7 _ _ q1)) hl1).symm
      · have s610 := ((s7.trans s8).trans s9).trans s10
        exact two2 (C := fun i => hd ≠ two t0 t1 i) (ne_of_none (s610 _ _ e06) hhd).symm (ne_of_none (s610 _ _ q1) hhd).symm
      · exact two2 (C := fun i => hd ≠ two l0 l1 i) (ne_of_none ((s9.trans s10) _ _ f8) hhd).symm (ne_of_none (s10 _ _ f9) hhd).symm
    have pS : PoolAt H11 p := hp4.imp fun _ q => (((((s5.trans s6).trans s7).trans s8).trans s9).trans s10).trans s11 _ _ q
    clear s11 s10 s9 s8 s7 s6 s5 f7 f8 f9 f10 f11 w0 w1 ha0 ha1 ht0 ht1 hws hl0 hl1 hlo hhd ho hp4 sH4
    have sq : ∀ {H' : Hp} {t l : Nat → Addr} {L : Nat → List Lk} {n : Nat}, LS CW CP CI z sv H o ws lo hd (two a0 a1) n H' t l L → SqL K H' sc (ns.map V.int) := fun S => Same.sql S.sm hS
    refine ⟨_, rfl, sc, _, rfl, .inl (sq S0), _, _, rfl, _, _, rfl, rfl, _, _, rfl, ?_, ?_⟩
    · rw [List.length_map]
      split <;> omega
    refine for_range (lo := 1) (fun i σ H' => ∃ (p : Addr) (t l : Nat → Addr) (L : Nat → List Lk), PoolAt H' p ∧ H p = none ∧ LS CW CP CI z sv H o ws lo hd (two a0 a1) i H' t l L ∧ ∃ v7 v8 v9 v10 v11 v12 : Option V, σ = [some (.ref sc), some (.ref p), some (.int z), some (.ref o), some (.ref ws), some (.ref lo), some (.ref hd), v7, v8, v9, v10, v11, v12])
      ⟨p, _, _, _, pS, hp, S0, none, none, none, none, none, none, rfl⟩ ?_ ?_
    · rintro i σ Ha hi ⟨p0, t, l, L, hp0, hpn0, S1, v7, v8, v9, v10, v11, v12, rfl⟩
      have hi30 : i < 30 := by
        rw [List.length_map] at hi
        split at hi <;> omega
      clear hp0 hpn0 S0 pS hp
      refine ⟨_, rfl, _, rfl, sc, ns, 1 + (i : Int), rfl, sq S1, by omega, by omega, fun p z1 hp => ?_⟩
      have hpb : H p = none := none_back S1.sm hp
      have S2 := S1.same (Same.one (o := .lst [.int z1]) hp)
      have hp2 : PoolAt (L2.upd Ha p (.lst [.int z1])) p := ⟨z1, upd_same⟩
      clear S1
      generalize L2.upd Ha p (.lst [.int z1]) = Hb at S2 hp2 ⊢
      clear hp
      refine rd_take (i := 1) (m := 2) (by rfl) hp2 fun d Hc h0 h1 k3 hp3 => ?_
      obtain ⟨w, rfl⟩ : ∃ w : Nat, d = (w : Int) := ⟨d.toNat, by omega⟩
      have hw : w < 2 := by omega
      clear h0 h1
      have S3 := S2.pool hp2 hpb k3
      clear S2 k3 hp2
      refine gname_ ?_
      dsimp only
      refine seq_ (asg_ ?_)
      refine rd_pick (K := K) (ns := [0, 1, 2, 2, 1, 2]) (i := 1) (m := 6) (by rfl) hp3 (by exact fun _ h => h) (by decide) (by rfl) (by decide) (by decide) fun way Hd hway k4 hp4 => ?_
      have hway3 : way = 0 ∨ way = 1 ∨ way = 2 := by
        simp only [List.mem_cons, List.not_mem_nil, or_false] at hway
        omega
      have S4 := S3.pool hp3 hpb k4
      clear S3 k4 hp3 hway
      refine ⟨_, rfl, _, rfl, p, z, rfl, hz, hp4, fun He m M k5 hp5 hM hM1 hM3 hmn => ?_⟩
      have S5 := S4.pool hp4 hpb k5
      have mt : m ≠ t w := by
        obtain ⟨ys, h⟩ := S4.tlst hw
        exact (ne_of_none h hmn).symm
      clear S4 k5 hp4 hmn
      -- the looks of the deed
      refine gname_ ?_
      dsimp only
      refine seq_split (fun σ' H' => ∃ (m' : Addr) (M' : List Lk), σ' = [some (.ref sc), some (.ref p), some (.int z), some (.ref o), some (.ref ws), some (.ref lo), some (.ref hd), some (.int (1 + (i : Int))), some (.int (w : Int)), some (.int way), some (.ref m'), v11, v12] ∧ PoolAt H' p ∧ LS CW CP CI z sv H o ws lo hd (two a0 a1) i H' t l L ∧ LksAt H' m' M' ∧ m' ≠ t w ∧ M'.length ≤ 3 ∧ (way = 0 ∨ way = 1 ∨ (way = 2 ∧ M'.length = 1))) (fun nx hnx => ?_) ?_
      · refine ⟨_, rfl, rfl, _, rfl, ?_⟩
        by_cases h1 : way = 1
        · subst h1
          exact iteN (by decide) (hnx _ _ ⟨m, M, rfl, hp5, S5, hM, mt, hM3, .inr (.inl rfl)⟩)
        · have h1' : (!decide (V.int way = V.int 1)) = true := by
            rw [decide_eq_false fun q => h1 (by injection q)]
            rfl
          refine iteP h1' ?_
          obtain ⟨ys, hys, hyM⟩ := id hM
          refine ⟨_, rfl, _, rfl, _, _, rfl, rfl, ⟨by decide, by decide⟩, _, rfl, m, ys, rfl, SqL.of hys, fun b hb => ?_⟩
          have hd0 : (0 : Int) ≤ way / 2 := by omega
          rw [cut_toG hd0]
          have sb : Same He (L2.upd He b (.lst (ys.take (way / 2).toNat))) := Same.one hb
          refine hnx _ _ ⟨b, M.take (way / 2).toNat, rfl, hp5.imp fun _ q => sb _ _ q, S5.same sb, ⟨_, upd_same, paired_take _ (hyM.same sb)⟩, ?_, Nat.le_trans (List.length_take_le' _ _) hM3, ?_⟩
          · obtain ⟨zs, h⟩ := S5.tlst hw
            exact (ne_of_none h hb).symm
          · rcases hway3 with rfl | rfl | rfl
            · exact .inl rfl
            · exact absurd rfl h1
            · refine .inr (.inr ⟨rfl, ?_⟩)
              rw [List.length_take]
              show min 1 M.length = 1
              omega
      · rintro σ' Hf ⟨m', M', rfl, hp6, S6, hM', mt', hl3, hway'⟩
        clear S5 hp5 hM mt hM1 hM3 hway3
        obtain ⟨x, hx, hxv⟩ : ∃ x, ([.non, .ref o] : List V)[w]? = some x ∧ ∀ H', PlAt H' o sv → ShV H' (shf sv w) x := by
          rcases (show w = 0 ∨ w = 1 by omega) with rfl | rfl
          · exact ⟨.non, rfl, fun H' _ => rfl⟩
          · exact ⟨.ref o, rfl, fun H' h => ⟨o, rfl, h⟩⟩
        have aix : ∀ {xs : List V} {v : V}, xs[w]? = some v → atI xs ((w : Nat) : Int) = some v := fun e => at_of (j := w) rfl e
        refine seq_split (fun σ' H' => ∃ (t l : Nat → Addr) (L : Nat → List Lk) (v10 v11 : Option V), σ' = [some (.ref sc), some (.ref p), some (.int z), some (.ref o), some (.ref ws), some (.ref lo), some (.ref hd), some (.int (1 + (i : Int))), some (.int (w : Int)), some (.int way), v10, v11, v12] ∧ PoolAt H' p ∧ LS CW CP CI z sv H o ws lo hd (two a0 a1) i H' t l L) (fun nx hnx => ?_) ?_
        · obtain ⟨xsl, hxsl, hxL⟩ := S6.lks w hw
          obtain ⟨ysm, hysm, hyM⟩ := id hM'
          refine ⟨_, rfl, _, rfl, lo, _, _, _, rfl, rfl, SqL.of S6.loA, aix (two_ix hw), l w, xsl, rfl, .inl (SqL.of hxsl), _, rfl, m', ysm, rfl, .inl (SqL.of hysm), _, _, rfl, rfl, _, _, rfl, rfl, _, rfl, ?_⟩
          rw [Paired.length hxL, Paired.length hyM]
          refine ite2 (fun hc => ?_) (fun hc => hnx _ _ ⟨t, l, L, _, _, rfl, hp6, S6⟩)
          have hc' : (L w).length + M'.length ≤ 30 := by
            have := of_decide_eq_true hc
            omega
          refine ⟨_, rfl, _, rfl, ws, _, _, _, rfl, rfl, SqL.of S6.wsA, aix (two_ix hw), _, rfl, _, rfl, lo, _, _, _, rfl, rfl, SqL.of S6.loA, aix (two_ix hw), _, rfl, line1000 (by show 2 ≤ 1000; decide), fun q hq => ⟨_, rfl, q, _, _, x, rfl, rfl, SqL.of upd_same, aix hx, _, rfl, _, rfl, _, rfl, ?_⟩⟩
          have s7 : Same Hf (L2.upd Hf q (.lst [.non, .ref o])) := Same.one hq
          have S7 := S6.same s7
          have hp7 : PoolAt (L2.upd Hf q (.lst [.non, .ref o])) p := hp6.imp fun _ h => s7 _ _ h
          have hM7 := hM'.same s7
          have vl := S7.vld hz hs hw
          refine ⟨shf sv w, two a0 a1 w, t w, l w, m', x, way, z, L w, M', rfl, hz, S7.win w hw, vl.good, fun s e => shf_len hs e, hxv _ S7.oA, S7.lks w hw, S7.lt w w hw hw, hM7, mt', by omega, hway', fun H8 u ln tn k8 hT8 ht8 hl8 W8 K8 hu8 => ?_⟩
          obtain ⟨ok1, ok2⟩ := act_ok (way := way) (S7.run w hw) hway' hc'
          have S8 := S7.done hw k8 ht8 hl8 W8 K8 ok1 ok2
          have hp8 : PoolAt (L2.upd H8 lo (.lst [.ref (setf l w ln 0), .ref (setf l w ln 1)])) p := S7.poolK hw k8 hp7
          refine ⟨u, _, rfl, SqT.of hu8, rfl, _, _, rfl, _, _, rfl, _, rfl, _, rfl, lo, _, _, w, rfl, rfl, S7.loK hw k8, ix_two hw, rfl, ?_⟩
          rw [set_two hw]
          exact ⟨_, rfl, _, rfl, iteN rfl (hnx _ _ ⟨_, _, _, _, _, rfl, hp8, S8⟩)⟩
        · rintro σ' Hg ⟨t2, l2, L2', v10, v11', rfl, hp8, S8⟩
          clear S6 hp6 hM' mt' hxv hx
          obtain ⟨xs0, Ls0, hx0, _⟩ := S8.held
          obtain ⟨dx, ot, ha⟩ := S8.ain hw
          have vl := S8.vld hz hs hw
          refine ⟨_, rfl, .inl ⟨rfl, _, SqL.of hx0⟩, _, rfl, _, rfl, ws, _, _, _, rfl, rfl, SqL.of S8.wsA, aix (two_ix hw), two a0 a1 w, dx, _, rfl, prA (sp := fun C sh => spPicture CI C sh) ha ⟨two a0 a1 w, t2 w, z, L2' w, rfl, hz, S8.win w hw, vl.good, vl.nd, fun H9 c s9 hP pn cn => ?_⟩⟩
          refine ⟨_, rfl, _, rfl, ws, _, _, _, rfl, rfl, SqL.of (s9 _ _ S8.wsA), aix (two_ix hw), two a0 a1 w, dx, _, rfl, prA (sp := fun C sh => spLooks C sh) (s9 _ _ ha) ⟨two a0 a1 w, t2 w, z, L2' w, rfl, (S8.win w hw).same s9, fun H10 d s10 hd10 dn => ?_⟩⟩
          have s90 := s9.trans s10
          obtain ⟨xsl, hxsl, hxL⟩ := (S8.lks w hw).same s90
          refine ⟨_, rfl, _, rfl, lo, _, _, _, rfl, rfl, SqL.of (s90 _ _ S8.loA), aix (two_ix hw), l2 w, xsl, rfl, .inl (SqL.of hxsl), fun e he => ⟨line1000 (by show 3 ≤ 1000; decide), fun u hu => ?_⟩⟩
          have s11 : Same H10 (L2.upd (L2.upd H10 e (.lst xsl)) u (.tup [.ref c, .ref d, .ref e])) := (Same.one he).upd hu
          have s9L := s10.trans s11
          obtain ⟨xsh, hxh, hxn, S9⟩ := S8.hold (w := w) (s90.trans s11) (hP.same s9L) (fun dx2 d2 s2 h2 q => by
            obtain ⟨dxp, ddp, sp1, sp2, np, kvp, q1, _⟩ := id hP
            have q2 := (s9L _ _ q1).symm.trans q
            refine pn dx2 d2 s2 h2 ?_
            rw [q1]
            exact q2) cn (hd10.same s11) (none_back s9 dn) ⟨xsl, (upd_ne (ne_of_none upd_same hu)).trans upd_same, hxL.same s11⟩ (none_back s90 he) upd_same vl.dull
          refine ⟨hd, xsh, _, rfl, rfl, hxh, small1000 (by omega), ?_⟩
          have hp9 : PoolAt (L2.upd (L2.upd (L2.upd H10 e (.lst xsl)) u (.tup [.ref c, .ref d, .ref e])) hd (.lst (xsh ++ [.ref u]))) p := by
            have h1 : hd ≠ p := fun q => by
              obtain ⟨z1, hz1⟩ := hp8
              obtain ⟨xs1, Ls1, g1, g2, _⟩ := S8.held
              rw [q, hz1] at g1
              cases g1
              cases g2 with
              | cons g _ =>
                obtain ⟨_, _, _, _, _, _, _, _, _, _, g, _⟩ := g
                cases g
            exact hp8.imp fun _ q => (upd_ne h1.symm).trans ((s90.trans s11) _ _ q)
          generalize L2.upd (L2.upd (L2.upd H10 e (.lst xsl)) u (.tup [.ref c, .ref d, .ref e])) hd (.lst (xsh ++ [.ref u])) = Hh at S9 hp9 ⊢
          clear hxh hxn s9L s11 hu he hxL hxsl s90 dn hd10 s10 cn pn hP s9 vl ha hx0 S8 hp8
          -- both windows as they should be
          refine ⟨_, rfl, _, rfl, _, _, rfl, rfl, line1000 (by show 2 ≤ 1000; decide), fun q hq => ⟨q, rfl, ⟨_, SqL.of upd_same⟩, ?_⟩⟩
          have sq1 : Same Hh (L2.upd Hh q (.lst [.int (w : Int), .int (1 - (w : Int))])) := Same.one hq
          refine for_list (K := K) (a := q) (xs := [.int (w : Int), .int (1 - (w : Int))]) (fun j σ H' => H' q = some (.lst [.int (w : Int), .int (1 - (w : Int))]) ∧ PoolAt H' p ∧ LS CW CP CI z sv H o ws lo hd (two a0 a1) (i + 1) H' t2 l2 L2' ∧ ∃ v12 : Option V, σ = [some (.ref sc), some (.ref p), some (.int z), some (.ref o), some (.ref ws), some (.ref lo), some (.ref hd), some (.int (1 + (i : Int))), some (.int (w : Int)), some (.int way), v10, v11', v12])
            ⟨upd_same, hp9.imp fun _ h => sq1 _ _ h, S9.same sq1, _, rfl⟩ (fun j σ H' _ h => SqL.of h.1) ?_ ?_
          · rintro j y σ Hj hj ⟨hq1, hpj, Sj, w12, rfl⟩
            obtain ⟨k, hk, rfl⟩ : ∃ k : Nat, k < 2 ∧ y = .int (k : Int) := by
              rcases j with _ | _ | j
              · exact ⟨w, hw, by simpa using hj.symm⟩
              · refine ⟨1 - w, by omega, ?_⟩
                have : y = .int (1 - (w : Int)) := by simpa using hj.symm
                rw [this]
                congr 1
                omega
              · simp at hj
            have kix : ∀ {xs : List V} {v : V}, xs[k]? = some v → atI xs ((k : Nat) : Int) = some v := fun e => at_of (j := k) rfl e
            refine ⟨_, rfl, _, rfl, _, rfl, ws, _, _, _, rfl, rfl, SqL.of Sj.wsA, kix (two_ix hk), _, rfl, _, rfl, lo, _, _, _, rfl, rfl, SqL.of Sj.loA, kix (two_ix hk), _, rfl, shf sv k, p, two a0 a1 k, t2 k, l2 k, z, L2' k, rfl, hz, hpj, Sj.win k hk, Sj.lks k hk, Sj.vld hz hs hk, fun Hk kk hpk => ⟨_, rfl, iteN rfl ?_⟩⟩
            have hqp : q ∉ [p] := fun m => by
              obtain ⟨z1, hz1⟩ := hpj
              rw [List.mem_singleton.mp m, hz1] at hq1
              cases hq1
            exact ⟨kk _ _ hqp hq1, hpk, Sj.pool hpj hpb kk, _, rfl⟩
          · rintro σ Hj ⟨hq1, hpj, Sj, w12, rfl⟩
            exact ⟨p, t2, l2, L2', hpj, hpb, Sj, _, _, _, _, _, _, rfl⟩
    · rintro σ Ha ⟨p0, t, l, L, hp0, hpn0, S1, v7, v8, v9, v10, v11, v12, rfl⟩
      obtain ⟨xs, Ls, h1, h2, h3, h4⟩ := S1.held
      refine ⟨_, rfl, hd, z, xs, Ls, rfl, hz, h1, Paired.mapP h2 fun v q h => h.is, h3, fun Hb sb => ⟨_, rfl, iteT ?_⟩⟩
      have S2 := S1.same sb
      exact ⟨_, rfl, _, rfl, _, rfl, _, rfl, _, rfl, p0, ws, lo, o, a0, a1, t 0, t 1, l 0, l 1, z, sv, L 0, L 1, rfl, hz, hs, hp0.imp fun _ q => sb _ _ q, S2.oA, S2.wsA, S2.loA, S2.win 0 (by decide), S2.win 1 (by decide), S2.lks 0 (by decide), S2.lks 1 (by decide), S2.run 0 (by decide), S2.run 1 (by decide), S2.few 0 (by decide), S2.few 1 (by decide), fun H' => hQ H'⟩
end
end K94
namespace K94
open PySem L2

/-! ### what is looked at behind the top -/
def rD (g : Addr → Option Obj) (a : Addr) : List Addr := match g a with
  | some ⟨_, _, .dict es _, _⟩ => es.toList.flatMap fun e => He.refV e.val
  | _ => []
def rF (g : Addr → Option Obj) (a : Addr) : List Addr := match g a with
  | some ⟨_, _, .func fd, _⟩ => He.refV fd.code ++ fd.closure.map (·.2)
  | _ => []
def rC (g : Addr → Option Obj) (a : Addr) : List Addr := match g a with
  | some ⟨_, _, .cls cd, _⟩ => [cd.ns]
  | _ => []
def rP (g : Addr → Option Obj) (a : Addr) : List Addr := match g a with
  | some ⟨_, _, .fields vs, _⟩ => vs.toList.flatMap He.refV
  | _ => []
def lv1 (g : Addr → Option Obj) : List Addr := rD g mainGlobals
def lv2 (g : Addr → Option Obj) (l : List Addr) : List Addr := l.flatMap fun a => rF g a ++ rC g a
def lv3 (g : Addr → Option Obj) (l : List Addr) : List Addr := l.flatMap (rD g)
def lv4 (g : Addr → Option Obj) (l : List Addr) : List Addr := l.flatMap fun a => rF g a ++ rP g a
def lv5 (g : Addr → Option Obj) (l : List Addr) : List Addr := l.flatMap (rF g)
def asK2 (g : Addr → Option Obj) (l1 l2 l3 l4 : List Addr) : List Addr := mainGlobals :: cStatics :: (l1 ++ (l2 ++ (l3 ++ (l4 ++ lv5 g l4))))
def asK (g : Addr → Option Obj) : List Addr := asK2 g (lv1 g) (lv2 g (lv1 g)) (lv3 g (lv2 g (lv1 g))) (lv4 g (lv3 g (lv2 g (lv1 g))))
/-! ### functions -/
abbrev FnV : Type := Option (Str × Str × Arguments × FuncBody × Scope × Addr × Addr)
def fnV (K : PySem.W.Frag) (a : Addr) : FnV := match K.lookup a with
  | some ⟨_, _, .func fd, _⟩ => some (fd.name, fd.qualname, fd.params, fd.body, fd.scope, fd.globals, fd.builtins)
  | _ => none
def pget (K : PySem.W.Frag) (C : Addr) (m : Str) : Addr := match PySem.W.recIn K (He.ma K C m) "property" with
  | some (.ref g :: _) => g
  | _ => 0
structure DD where
  at_ : PySem.W.Frag → Addr
  name : Str
  qual : Str
  st : Stmt
def DD.val (d : DD) : FnV := some (d.name, d.qual, defArgs d.st, .stmts (defBody d.st), defScope d.st, mainGlobals, builtinsNs)
def fnB (K : PySem.W.Frag) (a : Addr) (q : Str) : Bool := PySem.W.keepIn K (.ref a) && (match K.lookup a with
  | some ⟨_, _, .func fd, _⟩ => PySem.W.codeIn K fd.code q && (fd.closure.isEmpty && (match fd.defaults with
    | .none => true
    | _ => false))
  | _ => false)
theorem DD.fn {K : PySem.W.Frag} {d : DD} (e : fnV K (d.at_ K) = d.val) (c : fnB K (d.at_ K) d.qual = true) : ∃ fd, Fun K d.name d.qual d.st (d.at_ K) fd := by
  obtain ⟨kp, c2⟩ := He.ba c
  unfold fnV at e
  cases q : K.lookup (d.at_ K) with
  | none =>
    rw [q] at c2
    cases c2
  | some o =>
    obtain ⟨oc, od, dt, osl⟩ := o
    rw [q] at c2 e
    cases dt with
    | func fd =>
      obtain ⟨n1, n2, n3, n4, n5, n6, n7, n8, n9, n10, n11, n12, n13, n14, n15⟩ := fd
      have e2 : (some (n1, n2, n3, n4, n5, n6, n15) : FnV) = some (d.name, d.qual, defArgs d.st, .stmts (defBody d.st), defScope d.st, mainGlobals, builtinsNs) := e
      simp only [Option.some.injEq, Prod.mk.injEq] at e2
      obtain ⟨h1, h2, h3, h4, h5, h6, h7⟩ := e2
      subst h1 h2 h3 h4 h5 h6 h7
      obtain ⟨k1, k2⟩ := He.ba c2
      obtain ⟨k3, k4⟩ := He.ba k2
      have k3' : n7 = [] := List.isEmpty_iff.mp k3
      subst k3'
      cases n8 with
      | none => exact ⟨_, ⟨oc, od, n9, n10, n11, n12, n13, n14, osl, rfl, q, k1⟩, kp⟩
      | _ => cases k4
    | _ => cases c2

def dds : List DD := [
  ⟨fun K => He.ga K "common_divisor", "common_divisor", "common_divisor", top 2⟩,
  ⟨fun K => He.ga K "divisor_of", "divisor_of", "divisor_of", top 3⟩,
  ⟨fun K => He.ga K "plus", "plus", "plus", top 4⟩,
  ⟨fun K => He.ga K "power", "power", "power", top 22⟩,
  ⟨fun K => He.ga K "remainders_by", "remainders_by", "remainders_by", top 23⟩,
  ⟨fun K => He.ga K "numbered", "numbered", "numbered", top 24⟩,
  ⟨fun K => He.ga K "all_remainders", "all_remainders", "all_remainders", top 25⟩,
  ⟨fun K => He.ga K "least_bar", "least_bar", "least_bar", top 26⟩,
  ⟨fun K => He.ga K "lone_remainders", "lone_remainders", "lone_remainders", top 27⟩,
  ⟨fun K => He.ga K "check_possible", "check_possible", "check_possible", top 31⟩,
  ⟨fun K => He.ga K "check_asked", "check_asked", "check_asked", top 32⟩,
  ⟨fun K => He.ga K "bar_of", "bar_of", "bar_of", top 33⟩,
  ⟨fun K => He.ga K "status", "status", "status", top 34⟩,
  ⟨fun K => He.ga K "check_look", "check_look", "check_look", top 36⟩,
  ⟨fun K => He.ga K "places_with", "places_with", "places_with", top 37⟩,
  ⟨fun K => He.ga K "_law_pool", "_law_pool", "_law_pool", top 41⟩,
  ⟨fun K => He.ga K "_law_take", "_law_take", "_law_take", top 42⟩,
  ⟨fun K => He.ga K "_law_gcd", "_law_gcd", "_law_gcd", top 43⟩,
  ⟨fun K => He.ga K "_law_kinds", "_law_kinds", "_law_kinds", top 44⟩,
  ⟨fun K => He.ga K "_law_bar", "_law_bar", "_law_bar", top 45⟩,
  ⟨fun K => He.ga K "_law_status", "_law_status", "_law_status", top 46⟩,
  ⟨fun K => He.ga K "_law_near", "_law_near", "_law_near", top 47⟩,
  ⟨fun K => He.ga K "_law_due", "_law_due", "_law_due", top 48⟩,
  ⟨fun K => He.ga K "_law_told", "_law_told", "_law_told", top 49⟩,
  ⟨fun K => He.ga K "_law_done", "_law_done", "_law_done", top 50⟩,
  ⟨fun K => He.ga K "_law_is_state", "_law_is_state", "_law_is_state", top 51⟩,
  ⟨fun K => He.ga K "_law_looks", "_law_looks", "_law_looks", top 52⟩,
  ⟨fun K => He.ga K "_law_unlike", "_law_unlike", "_law_unlike", top 53⟩,
  ⟨fun K => He.ga K "_law_is_held", "_law_is_held", "_law_is_held", top 54⟩,
  ⟨fun K => He.ga K "_law_is_equal", "_law_is_equal", "_law_is_equal", top 55⟩,
  ⟨fun K => He.ga K "law", "law", "law", top 56⟩,
  ⟨fun K => He.ma K (He.ga K "Picture") "__init__", "__init__", "Picture.__init__", inCls 29 0⟩,
  ⟨fun K => pget K (He.ga K "Picture") "size", "size", "Picture.size", inCls 29 1⟩,
  ⟨fun K => pget K (He.ga K "Picture") "seen", "seen", "Picture.seen", inCls 29 2⟩,
  ⟨fun K => pget K (He.ga K "Picture") "hidden", "hidden", "Picture.hidden", inCls 29 3⟩,
  ⟨fun K => He.ma K (He.ga K "Picture") "__contains__", "__contains__", "Picture.__contains__", inCls 29 9⟩,
  ⟨fun K => He.ma K (He.ga K "Picture") "__len__", "__len__", "Picture.__len__", inCls 29 10⟩,
  ⟨fun K => He.ma K (He.ga K "Picture") "__eq__", "__eq__", "Picture.__eq__", inCls 29 11⟩,
  ⟨fun K => He.ma K (He.ga K "Window") "__init__", "__init__", "Window.__init__", inCls 38 0⟩,
  ⟨fun K => He.ma K (He.ga K "Window") "__call__", "__call__", "Window.__call__", inCls 38 1⟩,
  ⟨fun K => pget K (He.ga K "Window") "picture", "picture", "Window.picture", inCls 38 2⟩,
  ⟨fun K => pget K (He.ga K "Window") "looks", "looks", "Window.looks", inCls 38 3⟩,
  ⟨fun K => He.ma K (He.ga K "Window") "word_at", "word_at", "Window.word_at", inCls 38 4⟩,
  ⟨fun K => He.ma K (He.ga K "Window") "add_all", "add_all", "Window.add_all", inCls 38 5⟩,
  ⟨fun K => He.ma K (He.ga K "Window") "undo", "undo", "Window.undo", inCls 38 6⟩,
  ⟨fun K => He.ma K (He.ga K "Window") "__len__", "__len__", "Window.__len__", inCls 38 7⟩,
  ⟨fun K => He.ma K (He.ga K "Window") "__eq__", "__eq__", "Window.__eq__", inCls 38 8⟩,
  ⟨fun K => He.ma K (He.ga K "PlacedWindow") "__call__", "__call__", "PlacedWindow.__call__", inCls 39 2⟩,
  ⟨fun K => He.ma K (He.ga K "PlacedWindow") "add_all", "add_all", "PlacedWindow.add_all", inCls 39 3⟩,
  ⟨fun K => He.ma K (He.ga K "PlacedWindow") "__eq__", "__eq__", "PlacedWindow.__eq__", inCls 39 4⟩,
  ⟨fun K => He.ma K (He.ga K "PostError") "__init__", "__init__", "PostError.__init__", inCls 6 0⟩]

abbrev dSup : DD := ⟨fun K => He.ma K (He.ga K "PlacedWindow") "__init__", "__init__", "PlacedWindow.__init__", sPIni⟩
/-! ### facts as Bools -/
def gN1 : List Str := ["common_divisor", "divisor_of", "plus", "power", "remainders_by", "numbered", "all_remainders", "least_bar", "lone_remainders", "check_possible", "check_asked", "bar_of", "status", "check_look", "places_with", "_law_pool", "_law_take", "_law_gcd", "_law_kinds", "_law_bar", "_law_status", "_law_near", "_law_due", "_law_told", "_law_done", "_law_is_state", "_law_looks", "_law_unlike", "_law_is_held", "_law_is_equal", "law"]
def gN2 : List Str := ["InvalidSize", "InvalidPlace", "DoublePlace", "InvalidMatrix", "InvalidStep", "Wrong", "InvalidNumber", "InvalidWord", "Conflict", "Barred", "Taken", "NothingToUndo", "Unreadable", "PostError", "Picture", "Window", "PlacedWindow", "SMALL_PRIMES"]
def gNames : List Str := gN1 ++ gN2
def fNames : List Str := ["abs", "tuple", "range", "len", "int", "list", "set", "zip", "isinstance", "sorted", "all", "min", "super"]
def gB (K : PySem.W.Frag) : Bool := (gNames.all fun x => He.eqO (PySem.W.nsIn K mainGlobals x) (some (some (.ref (He.ga K x))))) && fNames.all fun x => He.eqO (PySem.W.nsIn K mainGlobals x) (some none)
def fdB (K : PySem.W.Frag) (C : Addr) (m : Str) (v : Option Value) : Bool := He.eqO (PySem.W.findIn K (.ref C) m) (some v)
def dO (a b : Option Bool) : Bool := decide (a = b)
def oexB (K : PySem.W.Frag) (C : Addr) : Bool := match K.lookup C with
  | some ⟨.type t, _, .cls cd, sl⟩ => decide (t = "type") && (!cd.hasDel && (cd.hasDict && ((match cd.mro with
    | .ref C' :: bm => decide (C' = C) && PySem.HandSPX.refsVE bm
    | _ => false) && (match sl.toList with
    | [_, _, _, _, some (.builtin n), _] => decide (n = "ValueError.__new__")
    | _ => false))))
  | _ => false
theorem oexB_ok {K : PySem.W.Frag} {C : Addr} (h : oexB K C = true) : ∃ nm q N bs bm sn sub ab col dd k0 k1 k2 k3 k5, K.lookup C = some (excClassObj nm q C N bs bm true sn sub ab col dd k0 k1 k2 k3 k5 "ValueError.__new__") ∧ PySem.HandSPX.refsVE bm = true := by
  unfold oexB at h
  cases e : K.lookup C with
  | none =>
    rw [e] at h
    cases h
  | some o =>
    obtain ⟨oc, od, dt, sl⟩ := o
    rw [e] at h
    cases oc with
    | type t =>
      cases dt with
      | cls cd =>
        obtain ⟨nm, bs, mro, ns, qn, hd, sn, sb, ab, col, del⟩ := cd
        obtain ⟨h1, h⟩ := He.ba h
        obtain ⟨h2, h⟩ := He.ba h
        obtain ⟨h3, h⟩ := He.ba h
        obtain ⟨h4, h5⟩ := He.ba h
        have e1 : t = "type" := of_decide_eq_true h1
        have e2 : del = false := by
          have h2 : (!del) = true := h2
          cases del
          · rfl
          · cases h2
        have e3 : hd = true := h3
        subst e1 e2 e3
        dsimp only at h4 h5
        cases mro with
        | nil => cases h4
        | cons c bm =>
          cases c with
          | ref C' =>
            obtain ⟨h6, h7⟩ := He.ba h4
            have e4 : C' = C := of_decide_eq_true h6
            subst e4
            have hs : ∃ k0 k1 k2 k3 k5, sl.toList = [k0, k1, k2, k3, some (.builtin "ValueError.__new__"), k5] := by
              split at h5
              · rename_i k0 k1 k2 k3 n k5 hsl
                have e5 : n = "ValueError.__new__" := of_decide_eq_true h5
                subst e5
                exact ⟨_, _, _, _, _, hsl⟩
              · cases h5
            obtain ⟨k0, k1, k2, k3, k5, hsl⟩ := hs
            refine ⟨nm, qn, ns, bs, bm, sn, sb, ab, col, od, k0, k1, k2, k3, k5, ?_, h7⟩
            have e6 : sl = #[k0, k1, k2, k3, some (.builtin "ValueError.__new__"), k5] := by
              rw [← Array.toArray_toList (xs := sl), hsl]
            rw [e6]
          | _ => cases h4
      | _ => cases h
    | _ => cases dt <;> cases h
def exOneB (K : PySem.W.Frag) (C P : Addr) : Bool := oexB K C && (fdB K C "__setattr__" (some (.builtin "object.__setattr__")) && (dO (PySem.W.subIn K (.ref C) (.type "BaseException")) (some true) && (decide (PySem.W.typeIn K (.ref C) = some (.type "type")) && (PySem.W.keepIn K (.ref C) &&
  (fdB K C "value" none && (fdB K C "__getattribute__" (some (.builtin "BaseException.__getattribute__")) && (fdB K C "__getattr__" none && (PySem.W.hasDictIn K C && (fdB K C "__class__" (some (.builtin "object.__class__")) && (dO (PySem.W.mroIn K C (.type "object")) (some true) &&
  (dO (PySem.W.exmOne K (.ref C) (.ref P)) (some true) && fdB K C "__init__" (some (.ref (He.ma K P "__init__"))))))))))))))
def clsDesB (K : PySem.W.Frag) : Bool := He.eqO (PySem.W.specialIn K (.builtin "object.__class__") "__get__") (some (some (.builtin "getset_descriptor.__get__"))) && dO (PySem.W.takesIn K (.builtin "object.__class__")) (some true)
def exsB (K : PySem.W.Frag) : Bool := clsDesB K && ((exNm.all fun x => exOneB K (He.ga K x) (He.ga K "PostError")) && ((exNm.all fun x => exNm.all fun y => dO (PySem.W.kitOne K (.ref (He.ga K x)) (.ref (He.ga K y))) (some (decide (x = y)))) && decide (PySem.W.typeIn K (.ref (He.ma K (He.ga K "PostError") "__init__")) = some (.type "function"))))
def clB (K : PySem.W.Frag) (C : Addr) (fs : List Str) : Bool := PySem.W.plainGet K C Str.empty && (PySem.W.hasDictIn K C && (PySem.W.plainOver K C && (fdB K C "__setattr__" (some (.builtin "object.__setattr__")) && fs.all fun f => fdB K C f none)))
def tyB (K : PySem.W.Frag) (C : Addr) : Bool := fdB K C "__class__" (some (.builtin "object.__class__")) && dO (PySem.W.mroIn K C (.type "object")) (some true)
def mkB (K : PySem.W.Frag) (C : Addr) : Bool := PySem.W.makesIn K C && (fdB K C "__init__" (some (.ref (He.ma K C "__init__"))) && (PySem.W.isFn K (.ref (He.ma K C "__init__")) && PySem.W.keepIn K (.ref C)))
def meB (K : PySem.W.Frag) (C : Addr) (m : Str) (f : Addr) : Bool := fdB K C m (some (.ref f)) && (PySem.W.isFn K (.ref f) && PySem.W.fnIn K f)
def prB (K : PySem.W.Frag) (C : Addr) (m : Str) (p g : Addr) : Bool := fdB K C m (some (.ref p)) && (He.eqO (PySem.W.specialIn K (.ref p) "__get__") (some (some (.builtin "property.__get__"))) && (dO (PySem.W.takesIn K (.ref p)) (some true) && (match PySem.W.recIn K p "property" with
  | some (.ref h :: _) => decide (h = g)
  | _ => false)))
def eqB (K : PySem.W.Frag) (C g : Addr) : Bool := fdB K C "__eq__" (some (.ref g)) && (PySem.W.isFn K (.ref g) && (fdB K C "__ne__" (some (.builtin "object.__ne__")) && dO (PySem.W.subIn K (.ref C) (.type "object")) (some true)))
def tyNames : List String := ["NoneType", "int", "list", "tuple"]
def eqkB (K : PySem.W.Frag) (C CI : Addr) : Bool := (tyNames.all fun T => PySem.W.notFirst K C (.type T) && (dO (PySem.W.subIn K (.ref C) (.type T)) (some false) && dO (PySem.W.kitOne K (.type T) (.ref C)) (some false))) &&
  (PySem.W.notFirst K C (.ref CI) && (PySem.W.notFirst K CI (.ref C) && (dO (PySem.W.kitOne K (.ref CI) (.ref C)) (some false) && dO (PySem.W.kitOne K (.ref C) (.ref CI)) (some false))))
def picB (K : PySem.W.Frag) (CI : Addr) : Bool := clB K CI cF && (tyB K CI && (mkB K CI && (prB K CI "size" (He.ma K CI "size") (pget K CI "size") && (prB K CI "seen" (He.ma K CI "seen") (pget K CI "seen") && (prB K CI "hidden" (He.ma K CI "hidden") (pget K CI "hidden") &&
  (meB K CI "__contains__" (He.ma K CI "__contains__") && (meB K CI "__len__" (He.ma K CI "__len__") && eqB K CI (He.ma K CI "__eq__"))))))))
def winB (K : PySem.W.Frag) (C B : Addr) : Bool := clB K C wF && (tyB K C && (mkB K C && (prB K C "picture" (He.ma K B "picture") (pget K B "picture") && (prB K C "looks" (He.ma K B "looks") (pget K B "looks") &&
  (meB K C "undo" (He.ma K B "undo") && (meB K C "word_at" (He.ma K B "word_at") && (meB K C "__len__" (He.ma K B "__len__") && (meB K C "add_all" (He.ma K C "add_all") && (meB K C "__call__" (He.ma K C "__call__") && eqB K C (He.ma K C "__eq__"))))))))))
def twoB (K : PySem.W.Frag) (CW CP : Addr) : Bool := dO (PySem.W.kitOne K (.ref CW) (.ref CW)) (some true) && (dO (PySem.W.kitOne K (.ref CW) (.ref CP)) (some false) && (dO (PySem.W.kitOne K (.ref CP) (.ref CW)) (some true) && (dO (PySem.W.kitOne K (.ref CP) (.ref CP)) (some true) &&
  (!decide (CP = CW) && (dO (PySem.W.subIn K (.ref CP) (.ref CW)) (some true) && PySem.W.notFirst K CP (.ref CW))))))
def pFile : Str := PySem.Challenge.pw_seenposts_k94_whole_windows_by_turns.main.file
def supFB (K : PySem.W.Frag) (CP : Addr) : Bool := match K.lookup (He.ma K CP "__init__") with
  | some ⟨_, _, .func fd, _⟩ => (match fd.defaults with
    | .none => true
    | _ => false) && ((match fd.closure with
    | [(x, cc)] => decide (x = "__class__") && (match K.lookup cc with
      | some ⟨_, _, .cell (some (.ref C)), _⟩ => decide (C = CP)
      | _ => false)
    | _ => false) && (match fd.code with
    | .ref cda => PySem.W.codeIn K (.ref cda) "PlacedWindow.__init__" && (match K.lookup cda with
      | some ⟨_, _, .fields vs, _⟩ => (match (vs[2]? : Option Value) with
        | some (.str file _) => pFile == file
        | _ => false)
      | _ => false)
    | _ => false))
  | _ => false
def supB (K : PySem.W.Frag) (CP CW : Addr) : Bool := supFB K CP && (PySem.W.isClsIn K CP && (dO (PySem.W.mroIn K CP (.ref CP)) (some true) && (He.eqO (PySem.W.ks_superIn K CP CP "__init__") (some (some (.ref (He.ma K CW "__init__")))) && (decide (PySem.W.typeIn K (.ref (He.ma K CW "__init__")) = some (.type "function")) &&
  (PySem.W.fnIn K (He.ma K CW "__init__") && He.eqO (PySem.W.nsIn K cStatics "thirdparty.any") (some none))))))
def exB (K : PySem.W.Frag) : List Bool := [gB K, exsB K, picB K (He.ga K "Picture"), winB K (He.ga K "Window") (He.ga K "Window"), winB K (He.ga K "PlacedWindow") (He.ga K "Window"), twoB K (He.ga K "Window") (He.ga K "PlacedWindow"), eqkB K (He.ga K "Window") (He.ga K "Picture"), eqkB K (He.ga K "PlacedWindow") (He.ga K "Picture"), supB K (He.ga K "PlacedWindow") (He.ga K "Window"), He.tupB K "SMALL_PRIMES" (ps8.map He.Dv.int), dds.all fun d => fnB K (d.at_ K) d.qual]
abbrev Al : Type := List Bool × List FnV
def obsK (K : PySem.W.Frag) : Al := (exB K, (dds ++ [dSup]).map fun d => fnV K (d.at_ K))
def valK : Al := (List.replicate 11 true, (dds ++ [dSup]).map DD.val)
def Says (K : PySem.W.Frag) : Prop := obsK K = valK
def obsG (g : Addr → Option Obj) : Al := obsK (He.frG g (asK g))
def hookK : PySem.W.Hook where
  α := Al
  obs := fun s => obsG s.heap.get?
  val := fun _ => valK
  says := fun _ h => ∃ K : PySem.W.Frag, K.In h ∧ Says K
  of := fun _ _ e => ⟨_, He.frG_in, e⟩
  keeps := fun _ _ _ ⟨K, hK, c⟩ k => ⟨K, PySem.W.Frag.In.keeps hK k, c⟩
theorem obsG_eq {g : Addr → Option Obj} {s : Shared} (h : ∀ a, g a = s.heap.get? a) : obsG g = hookK.obs s := by
  have e : g = s.heap.get? := funext h
  rw [e] <;> rfl
end K94
namespace K94
open PySem L2

/-! ### what the facts say -/
theorem eqO_of {a b : Option (Option Value)} (h : He.eqO a b = true) : a = b := He.eqO_ok h
theorem fdB_ok {K : PySem.W.Frag} {C : Addr} {m : Str} {v : Option Value} (h : fdB K C m v = true) : PySem.W.findIn K (.ref C) m = some v := He.eqO_ok h
theorem dO_ok {a b : Option Bool} (h : dO a b = true) : a = b := of_decide_eq_true h
section
variable {P : Program} {w : World} {K : PySem.W.Frag} {mg : Str → Option Value} {base : Heap} {C f p g : Addr} {m : Str}
theorem clB_ok {fs : List Str} (h : clB K C fs = true) : CFacts K C fs := by
  obtain ⟨h1, h⟩ := He.ba h
  obtain ⟨h2, h⟩ := He.ba h
  obtain ⟨h3, h⟩ := He.ba h
  obtain ⟨h4, h5⟩ := He.ba h
  exact ⟨⟨h1, h2, h3, fdB_ok h4⟩, fun f hf => fdB_ok (List.all_eq_true.mp h5 f hf)⟩
theorem tyB_ok (hc : clsDesB K = true) (c : Cls K C) (h : tyB K C = true) : TyC K C := by
  obtain ⟨c1, c2⟩ := He.ba hc
  obtain ⟨h1, h2⟩ := He.ba h
  exact ⟨c, fdB_ok h1, eqO_of c1, dO_ok c2, dO_ok h2⟩
theorem mkB_ok (h : mkB K C = true) : Mk K C (He.ma K C "__init__") := by
  obtain ⟨h1, h⟩ := He.ba h
  obtain ⟨h2, h⟩ := He.ba h
  obtain ⟨h3, h4⟩ := He.ba h
  exact ⟨h1, fdB_ok h2, h3, h4⟩
theorem keep_fn (h : PySem.W.fnIn K f = true) : PySem.W.keepIn K (.ref f) = true := by
  unfold PySem.W.fnIn at h
  show (match K.lookup f with
      | some ⟨_, _, .func _, _⟩ => true
      | some ⟨_, _, .cls _, _⟩ => PySem.W.specialIn K (.ref f) "__call__" == some (some (.builtin "type.__call__"))
      | _ => false) = true
  split at h
  · rename_i e
    rw [e]
  · cases h
theorem meB_ok (h : meB K C m f = true) : Meth K C m f := by
  obtain ⟨h1, h⟩ := He.ba h
  obtain ⟨h2, h3⟩ := He.ba h
  exact ⟨fdB_ok h1, h2, keep_fn h3⟩
theorem caB_ok (h : meB K C "__call__" f = true) : StX.CallO K C f := by
  obtain ⟨h1, h⟩ := He.ba h
  obtain ⟨h2, h3⟩ := He.ba h
  exact ⟨fdB_ok h1, h2, h3⟩
theorem prB_ok (h : prB K C m p g = true) : PropOf K C m p g := by
  obtain ⟨h1, h⟩ := He.ba h
  obtain ⟨h2, h⟩ := He.ba h
  obtain ⟨h3, h4⟩ := He.ba h
  refine ⟨fdB_ok h1, eqO_of h2, dO_ok h3, ?_⟩
  cases e : PySem.W.recIn K p "property" with
  | none =>
    rw [e] at h4
    cases h4
  | some l =>
    rw [e] at h4
    cases l with
    | nil => cases h4
    | cons v r =>
      cases v with
      | ref q =>
        have : q = g := of_decide_eq_true h4
        subst this
        exact ⟨r, rfl⟩
      | _ => cases h4
theorem eqB_ok (h : eqB K C g = true) : EqC K C g := by
  obtain ⟨h1, h⟩ := He.ba h
  obtain ⟨h2, h⟩ := He.ba h
  obtain ⟨h3, h4⟩ := He.ba h
  exact ⟨fdB_ok h1, h2, fdB_ok h3, dO_ok h4⟩
theorem Says.b (c : Says K) (i : Nat) {b : Bool} (h : (exB K)[i]? = some b) (hi : i < 11) : b = true := by
  have e : exB K = List.replicate 11 true := congrArg (fun z : Al => z.1) c
  rw [e, List.getElem?_replicate, if_pos hi] at h
  exact (Option.some.inj h).symm
theorem Says.fv (c : Says K) (i : Nat) {d : DD} (h : (dds ++ [dSup])[i]? = some d) : fnV K (d.at_ K) = d.val := by
  have e : (dds ++ [dSup]).map (fun d => fnV K (d.at_ K)) = (dds ++ [dSup]).map DD.val := congrArg (fun z : Al => z.2) c
  have e2 : ((dds ++ [dSup]).map fun d => fnV K (d.at_ K))[i]? = ((dds ++ [dSup]).map DD.val)[i]? := by rw [e]
  rw [List.getElem?_map, List.getElem?_map, h] at e2
  exact Option.some.inj e2
theorem Says.fn (c : Says K) (i : Nat) {d : DD} (h : dds[i]? = some d) : ∃ fd, Fun K d.name d.qual d.st (d.at_ K) fd := by
  have h1 : (dds ++ [dSup])[i]? = some d := by
    rw [List.getElem?_append_left (List.getElem?_eq_some_iff.mp h).1]
    exact h
  have h2 : (dds.all fun d => fnB K (d.at_ K) d.qual) = true := c.b 10 rfl (by decide)
  exact DD.fn (c.fv i h1) (List.all_eq_true.mp h2 d (List.mem_of_getElem? h))
section
variable (X : K.In base) (G : base.Ns mainGlobals mg) (c : Says K)
include X G c
theorem gm (x : Str) (h : gNames.contains x = true := by decide +kernel) : mg x = some (.ref (He.ga K x)) := by
  have hg : gB K = true := c.b 0 rfl (by decide)
  obtain ⟨h1, _⟩ := He.ba hg
  exact PySem.W.mg_of X G (He.eqO_ok (List.all_eq_true.mp h1 x (List.contains_iff_mem.mp h)))
theorem fm (x : Str) (h : fNames.contains x = true := by decide +kernel) : mg x = none := by
  have hg : gB K = true := c.b 0 rfl (by decide)
  obtain ⟨_, h2⟩ := He.ba hg
  exact PySem.W.mg_none_of X G (He.eqO_ok (List.all_eq_true.mp h2 x (List.contains_iff_mem.mp h)))
theorem exs_of : Exs K mg (He.ga K) := by
  have h : exsB K = true := c.b 1 rfl (by decide)
  obtain ⟨hd, h⟩ := He.ba h
  obtain ⟨h1, h⟩ := He.ba h
  obtain ⟨h2, h3⟩ := He.ba h
  obtain ⟨d1, d2⟩ := He.ba hd
  have hsub : ∀ x ∈ exNm, gNames.contains x = true := by decide +kernel
  obtain ⟨fdE, FE⟩ : ∃ fd, Fun K "__init__" "PostError.__init__" sPE (He.ma K (He.ga K "PostError") "__init__") fd := c.fn 50 (d := ⟨fun K => He.ma K (He.ga K "PostError") "__init__", "__init__", "PostError.__init__", inCls 6 0⟩) rfl
  have one : ∀ x ∈ exNm, exOneB K (He.ga K x) (He.ga K "PostError") = true := fun x hx => List.all_eq_true.mp h1 x hx
  refine ⟨fun x hx => gm X G c x (hsub x hx), gm X G c "PostError", fun x hx => ?_, fun x hx => ?_, fun x hx => ?_, fun x hx => ?_, fun x hx => ?_, fun x hx y hy => dO_ok (List.all_eq_true.mp (List.all_eq_true.mp h2 x hx) y hy), _, fdE, fun x hx => ?_, of_decide_eq_true h3, FE⟩
  all_goals
    have h := one x hx
    obtain ⟨e1, h⟩ := He.ba h
    obtain ⟨e2, h⟩ := He.ba h
    obtain ⟨e3, h⟩ := He.ba h
    obtain ⟨e4, h⟩ := He.ba h
    obtain ⟨e5, h⟩ := He.ba h
    obtain ⟨e6, h⟩ := He.ba h
    obtain ⟨e7, h⟩ := He.ba h
    obtain ⟨e8, h⟩ := He.ba h
    obtain ⟨e9, h⟩ := He.ba h
    obtain ⟨e10, h⟩ := He.ba h
    obtain ⟨e11, h⟩ := He.ba h
    obtain ⟨e12, e13⟩ := He.ba h
  · exact ⟨oexB_ok e1, fdB_ok e2, dO_ok e3, of_decide_eq_true e4, e5⟩
  · exact fdB_ok e6
  · exact ⟨fdB_ok e7, fdB_ok e8, dO_ok e3, e9⟩
  · exact ⟨fdB_ok e7, fdB_ok e8, dO_ok e3, e9, fdB_ok e10, eqO_of d1, dO_ok d2, dO_ok e11⟩
  · exact dO_ok e12
  · exact fdB_ok e13

theorem F_common_divisor : ∃ fd, Fun K "common_divisor" "common_divisor" (top 2) (He.ga K "common_divisor") fd ∧ Binds K fd ["one", "other"] [] := by
  obtain ⟨fd, F⟩ := c.fn 0 (d := ⟨fun K => He.ga K "common_divisor", "common_divisor", "common_divisor", top 2⟩) rfl
  exact ⟨fd, F, Fun.binds F fun _ _ _ _ _ _ us hl => match us, hl with | [_, _], _ => rfl⟩
theorem F_divisor_of : ∃ fd, Fun K "divisor_of" "divisor_of" (top 3) (He.ga K "divisor_of") fd ∧ Binds K fd ["values"] [] := by
  obtain ⟨fd, F⟩ := c.fn 1 (d := ⟨fun K => He.ga K "divisor_of", "divisor_of", "divisor_of", top 3⟩) rfl
  exact ⟨fd, F, Fun.binds F fun _ _ _ _ _ _ us hl => match us, hl with | [_], _ => rfl⟩
theorem F_plus : ∃ fd, Fun K "plus" "plus" (top 4) (He.ga K "plus") fd ∧ Binds K fd ["one", "other"] [] := by
  obtain ⟨fd, F⟩ := c.fn 2 (d := ⟨fun K => He.ga K "plus", "plus", "plus", top 4⟩) rfl
  exact ⟨fd, F, Fun.binds F fun _ _ _ _ _ _ us hl => match us, hl with | [_, _], _ => rfl⟩
theorem F_power : ∃ fd, Fun K "power" "power" (top 22) (He.ga K "power") fd ∧ Binds K fd ["prime", "size"] [] := by
  obtain ⟨fd, F⟩ := c.fn 3 (d := ⟨fun K => He.ga K "power", "power", "power", top 22⟩) rfl
  exact ⟨fd, F, Fun.binds F fun _ _ _ _ _ _ us hl => match us, hl with | [_, _], _ => rfl⟩
theorem F_remainders_by : ∃ fd, Fun K "remainders_by" "remainders_by" (top 23) (He.ga K "remainders_by") fd ∧ Binds K fd ["place", "prime"] [] := by
  obtain ⟨fd, F⟩ := c.fn 4 (d := ⟨fun K => He.ga K "remainders_by", "remainders_by", "remainders_by", top 23⟩) rfl
  exact ⟨fd, F, Fun.binds F fun _ _ _ _ _ _ us hl => match us, hl with | [_, _], _ => rfl⟩
theorem F_numbered : ∃ fd, Fun K "numbered" "numbered" (top 24) (He.ga K "numbered") fd ∧ Binds K fd ["size", "prime", "k"] [] := by
  obtain ⟨fd, F⟩ := c.fn 5 (d := ⟨fun K => He.ga K "numbered", "numbered", "numbered", top 24⟩) rfl
  exact ⟨fd, F, Fun.binds F fun _ _ _ _ _ _ us hl => match us, hl with | [_, _, _], _ => rfl⟩
theorem F_all_remainders : ∃ fd, Fun K "all_remainders" "all_remainders" (top 25) (He.ga K "all_remainders") fd ∧ Binds K fd ["size", "prime"] [] := by
  obtain ⟨fd, F⟩ := c.fn 6 (d := ⟨fun K => He.ga K "all_remainders", "all_remainders", "all_remainders", top 25⟩) rfl
  exact ⟨fd, F, Fun.binds F fun _ _ _ _ _ _ us hl => match us, hl with | [_, _], _ => rfl⟩
theorem F_least_bar : ∃ fd, Fun K "least_bar" "least_bar" (top 26) (He.ga K "least_bar") fd ∧ Binds K fd ["size", "places"] [] := by
  obtain ⟨fd, F⟩ := c.fn 7 (d := ⟨fun K => He.ga K "least_bar", "least_bar", "least_bar", top 26⟩) rfl
  exact ⟨fd, F, Fun.binds F fun _ _ _ _ _ _ us hl => match us, hl with | [_, _], _ => rfl⟩
theorem F_lone_remainders : ∃ fd, Fun K "lone_remainders" "lone_remainders" (top 27) (He.ga K "lone_remainders") fd ∧ Binds K fd ["size", "places"] [] := by
  obtain ⟨fd, F⟩ := c.fn 8 (d := ⟨fun K => He.ga K "lone_remainders", "lone_remainders", "lone_remainders", top 27⟩) rfl
  exact ⟨fd, F, Fun.binds F fun _ _ _ _ _ _ us hl => match us, hl with | [_, _], _ => rfl⟩
theorem F_check_possible : ∃ fd, Fun K "check_possible" "check_possible" (top 31) (He.ga K "check_possible") fd ∧ Binds K fd ["picture"] [] := by
  obtain ⟨fd, F⟩ := c.fn 9 (d := ⟨fun K => He.ga K "check_possible", "check_possible", "check_possible", top 31⟩) rfl
  exact ⟨fd, F, Fun.binds F fun _ _ _ _ _ _ us hl => match us, hl with | [_], _ => rfl⟩
theorem F_check_asked : ∃ fd, Fun K "check_asked" "check_asked" (top 32) (He.ga K "check_asked") fd ∧ Binds K fd ["picture", "place"] [] := by
  obtain ⟨fd, F⟩ := c.fn 10 (d := ⟨fun K => He.ga K "check_asked", "check_asked", "check_asked", top 32⟩) rfl
  exact ⟨fd, F, Fun.binds F fun _ _ _ _ _ _ us hl => match us, hl with | [_, _], _ => rfl⟩
theorem F_bar_of : ∃ fd, Fun K "bar_of" "bar_of" (top 33) (He.ga K "bar_of") fd ∧ Binds K fd ["lone", "place"] [] := by
  obtain ⟨fd, F⟩ := c.fn 11 (d := ⟨fun K => He.ga K "bar_of", "bar_of", "bar_of", top 33⟩) rfl
  exact ⟨fd, F, Fun.binds F fun _ _ _ _ _ _ us hl => match us, hl with | [_, _], _ => rfl⟩
theorem F_status : ∃ fd, Fun K "status" "status" (top 34) (He.ga K "status") fd ∧ Binds K fd ["picture", "place"] [] := by
  obtain ⟨fd, F⟩ := c.fn 12 (d := ⟨fun K => He.ga K "status", "status", "status", top 34⟩) rfl
  exact ⟨fd, F, Fun.binds F fun _ _ _ _ _ _ us hl => match us, hl with | [_, _], _ => rfl⟩
theorem F_check_look : ∃ fd, Fun K "check_look" "check_look" (top 36) (He.ga K "check_look") fd ∧ Binds K fd ["size", "looks", "place", "word"] [] := by
  obtain ⟨fd, F⟩ := c.fn 13 (d := ⟨fun K => He.ga K "check_look", "check_look", "check_look", top 36⟩) rfl
  exact ⟨fd, F, Fun.binds F fun _ _ _ _ _ _ us hl => match us, hl with | [_, _, _, _], _ => rfl⟩
theorem F_places_with : ∃ fd, Fun K "places_with" "places_with" (top 37) (He.ga K "places_with") fd ∧ Binds K fd ["looks", "word"] [] := by
  obtain ⟨fd, F⟩ := c.fn 14 (d := ⟨fun K => He.ga K "places_with", "places_with", "places_with", top 37⟩) rfl
  exact ⟨fd, F, Fun.binds F fun _ _ _ _ _ _ us hl => match us, hl with | [_, _], _ => rfl⟩
theorem F_law_pool : ∃ fd, Fun K "_law_pool" "_law_pool" (top 41) (He.ga K "_law_pool") fd ∧ Binds K fd ["_law_script", "_law_k"] [] := by
  obtain ⟨fd, F⟩ := c.fn 15 (d := ⟨fun K => He.ga K "_law_pool", "_law_pool", "_law_pool", top 41⟩) rfl
  exact ⟨fd, F, Fun.binds F fun _ _ _ _ _ _ us hl => match us, hl with | [_, _], _ => rfl⟩
theorem F_law_take : ∃ fd, Fun K "_law_take" "_law_take" (top 42) (He.ga K "_law_take") fd ∧ Binds K fd ["_law_pool_here", "_law_parts"] [] := by
  obtain ⟨fd, F⟩ := c.fn 16 (d := ⟨fun K => He.ga K "_law_take", "_law_take", "_law_take", top 42⟩) rfl
  exact ⟨fd, F, Fun.binds F fun _ _ _ _ _ _ us hl => match us, hl with | [_, _], _ => rfl⟩
theorem F_law_gcd : ∃ fd, Fun K "_law_gcd" "_law_gcd" (top 43) (He.ga K "_law_gcd") fd ∧ Binds K fd ["_law_values"] [] := by
  obtain ⟨fd, F⟩ := c.fn 17 (d := ⟨fun K => He.ga K "_law_gcd", "_law_gcd", "_law_gcd", top 43⟩) rfl
  exact ⟨fd, F, Fun.binds F fun _ _ _ _ _ _ us hl => match us, hl with | [_], _ => rfl⟩
theorem F_law_kinds : ∃ fd, Fun K "_law_kinds" "_law_kinds" (top 44) (He.ga K "_law_kinds") fd ∧ Binds K fd ["_law_caught"] [] := by
  obtain ⟨fd, F⟩ := c.fn 18 (d := ⟨fun K => He.ga K "_law_kinds", "_law_kinds", "_law_kinds", top 44⟩) rfl
  exact ⟨fd, F, Fun.binds F fun _ _ _ _ _ _ us hl => match us, hl with | [_], _ => rfl⟩
theorem F_law_bar : ∃ fd, Fun K "_law_bar" "_law_bar" (top 45) (He.ga K "_law_bar") fd ∧ Binds K fd ["_law_places", "_law_size"] [] := by
  obtain ⟨fd, F⟩ := c.fn 19 (d := ⟨fun K => He.ga K "_law_bar", "_law_bar", "_law_bar", top 45⟩) rfl
  exact ⟨fd, F, Fun.binds F fun _ _ _ _ _ _ us hl => match us, hl with | [_, _], _ => rfl⟩
theorem F_law_status : ∃ fd, Fun K "_law_status" "_law_status" (top 46) (He.ga K "_law_status") fd ∧ Binds K fd ["_law_looks_here", "_law_place", "_law_size"] [] := by
  obtain ⟨fd, F⟩ := c.fn 20 (d := ⟨fun K => He.ga K "_law_status", "_law_status", "_law_status", top 46⟩) rfl
  exact ⟨fd, F, Fun.binds F fun _ _ _ _ _ _ us hl => match us, hl with | [_, _, _], _ => rfl⟩
theorem F_law_near : ∃ fd, Fun K "_law_near" "_law_near" (top 47) (He.ga K "_law_near") fd ∧ Binds K fd ["_law_pool_here", "_law_many", "_law_most"] [] := by
  obtain ⟨fd, F⟩ := c.fn 21 (d := ⟨fun K => He.ga K "_law_near", "_law_near", "_law_near", top 47⟩) rfl
  exact ⟨fd, F, Fun.binds F fun _ _ _ _ _ _ us hl => match us, hl with | [_, _, _], _ => rfl⟩
theorem F_law_due : ∃ fd, Fun K "_law_due" "_law_due" (top 48) (He.ga K "_law_due") fd ∧ Binds K fd ["_law_looks_here", "_law_shift", "_law_place", "_law_word", "_law_size"] [] := by
  obtain ⟨fd, F⟩ := c.fn 22 (d := ⟨fun K => He.ga K "_law_due", "_law_due", "_law_due", top 48⟩) rfl
  exact ⟨fd, F, Fun.binds F fun _ _ _ _ _ _ us hl => match us, hl with | [_, _, _, _, _], _ => rfl⟩
theorem F_law_told : ∃ fd, Fun K "_law_told" "_law_told" (top 49) (He.ga K "_law_told") fd ∧ Binds K fd ["_law_window", "_law_way", "_law_looks_here"] [] := by
  obtain ⟨fd, F⟩ := c.fn 23 (d := ⟨fun K => He.ga K "_law_told", "_law_told", "_law_told", top 49⟩) rfl
  exact ⟨fd, F, Fun.binds F fun _ _ _ _ _ _ us hl => match us, hl with | [_, _, _], _ => rfl⟩
theorem F_law_done : ∃ fd, Fun K "_law_done" "_law_done" (top 50) (He.ga K "_law_done") fd ∧ Binds K fd ["_law_window", "_law_looks_here", "_law_shift", "_law_way", "_law_some", "_law_size"] [] := by
  obtain ⟨fd, F⟩ := c.fn 24 (d := ⟨fun K => He.ga K "_law_done", "_law_done", "_law_done", top 50⟩) rfl
  exact ⟨fd, F, Fun.binds F fun _ _ _ _ _ _ us hl => match us, hl with | [_, _, _, _, _, _], _ => rfl⟩
theorem F_law_is_state : ∃ fd, Fun K "_law_is_state" "_law_is_state" (top 51) (He.ga K "_law_is_state") fd ∧ Binds K fd ["_law_pool_here", "_law_window", "_law_looks_here", "_law_size"] [] := by
  obtain ⟨fd, F⟩ := c.fn 25 (d := ⟨fun K => He.ga K "_law_is_state", "_law_is_state", "_law_is_state", top 51⟩) rfl
  exact ⟨fd, F, Fun.binds F fun _ _ _ _ _ _ us hl => match us, hl with | [_, _, _, _], _ => rfl⟩
theorem F_law_looks : ∃ fd, Fun K "_law_looks" "_law_looks" (top 52) (He.ga K "_law_looks") fd ∧ Binds K fd ["_law_pool_here", "_law_size"] [] := by
  obtain ⟨fd, F⟩ := c.fn 26 (d := ⟨fun K => He.ga K "_law_looks", "_law_looks", "_law_looks", top 52⟩) rfl
  exact ⟨fd, F, Fun.binds F fun _ _ _ _ _ _ us hl => match us, hl with | [_, _], _ => rfl⟩
theorem F_law_unlike : ∃ fd, Fun K "_law_unlike" "_law_unlike" (top 53) (He.ga K "_law_unlike") fd ∧ Binds K fd ["_law_pool_here", "_law_size", "_law_shift"] [] := by
  obtain ⟨fd, F⟩ := c.fn 27 (d := ⟨fun K => He.ga K "_law_unlike", "_law_unlike", "_law_unlike", top 53⟩) rfl
  exact ⟨fd, F, Fun.binds F fun _ _ _ _ _ _ us hl => match us, hl with | [_, _, _], _ => rfl⟩
theorem F_law_is_held : ∃ fd, Fun K "_law_is_held" "_law_is_held" (top 54) (He.ga K "_law_is_held") fd ∧ Binds K fd ["_law_held"] [] := by
  obtain ⟨fd, F⟩ := c.fn 28 (d := ⟨fun K => He.ga K "_law_is_held", "_law_is_held", "_law_is_held", top 54⟩) rfl
  exact ⟨fd, F, Fun.binds F fun _ _ _ _ _ _ us hl => match us, hl with | [_], _ => rfl⟩
theorem F_law_is_equal : ∃ fd, Fun K "_law_is_equal" "_law_is_equal" (top 55) (He.ga K "_law_is_equal") fd ∧ Binds K fd ["_law_pool_here", "_law_windows", "_law_looks_here", "_law_size", "_law_shift"] [] := by
  obtain ⟨fd, F⟩ := c.fn 29 (d := ⟨fun K => He.ga K "_law_is_equal", "_law_is_equal", "_law_is_equal", top 55⟩) rfl
  exact ⟨fd, F, Fun.binds F fun _ _ _ _ _ _ us hl => match us, hl with | [_, _, _, _, _], _ => rfl⟩
theorem F_law : ∃ fd, Fun K "law" "law" (top 56) (He.ga K "law") fd ∧ Binds K fd ["_law_script"] [] := by
  obtain ⟨fd, F⟩ := c.fn 30 (d := ⟨fun K => He.ga K "law", "law", "law", top 56⟩) rfl
  exact ⟨fd, F, Fun.binds F fun _ _ _ _ _ _ us hl => match us, hl with | [_], _ => rfl⟩
theorem F_Picture_init : ∃ fd, Fun K "__init__" "Picture.__init__" (inCls 29 0) (He.ma K (He.ga K "Picture") "__init__") fd ∧ Binds K fd ["self", "size", "seen", "hidden"] [] := by
  obtain ⟨fd, F⟩ := c.fn 31 (d := ⟨fun K => He.ma K (He.ga K "Picture") "__init__", "__init__", "Picture.__init__", inCls 29 0⟩) rfl
  exact ⟨fd, F, Fun.binds F fun _ _ _ _ _ _ us hl => match us, hl with | [_, _, _, _], _ => rfl⟩
theorem F_Picture_size : ∃ fd, Fun K "size" "Picture.size" (inCls 29 1) (pget K (He.ga K "Picture") "size") fd ∧ Binds K fd ["self"] [] := by
  obtain ⟨fd, F⟩ := c.fn 32 (d := ⟨fun K => pget K (He.ga K "Picture") "size", "size", "Picture.size", inCls 29 1⟩) rfl
  exact ⟨fd, F, Fun.binds F fun _ _ _ _ _ _ us hl => match us, hl with | [_], _ => rfl⟩
theorem F_Picture_seen : ∃ fd, Fun K "seen" "Picture.seen" (inCls 29 2) (pget K (He.ga K "Picture") "seen") fd ∧ Binds K fd ["self"] [] := by
  obtain ⟨fd, F⟩ := c.fn 33 (d := ⟨fun K => pget K (He.ga K "Picture") "seen", "seen", "Picture.seen", inCls 29 2⟩) rfl
  exact ⟨fd, F, Fun.binds F fun _ _ _ _ _ _ us hl => match us, hl with | [_], _ => rfl⟩
theorem F_Picture_hidden : ∃ fd, Fun K "hidden" "Picture.hidden" (inCls 29 3) (pget K (He.ga K "Picture") "hidden") fd ∧ Binds K fd ["self"] [] := by
  obtain ⟨fd, F⟩ := c.fn 34 (d := ⟨fun K => pget K (He.ga K "Picture") "hidden", "hidden", "Picture.hidden", inCls 29 3⟩) rfl
  exact ⟨fd, F, Fun.binds F fun _ _ _ _ _ _ us hl => match us, hl with | [_], _ => rfl⟩
theorem F_Picture_contains : ∃ fd, Fun K "__contains__" "Picture.__contains__" (inCls 29 9) (He.ma K (He.ga K "Picture") "__contains__") fd ∧ Binds K fd ["self", "place"] [] := by
  obtain ⟨fd, F⟩ := c.fn 35 (d := ⟨fun K => He.ma K (He.ga K "Picture") "__contains__", "__contains__", "Picture.__contains__", inCls 29 9⟩) rfl
  exact ⟨fd, F, Fun.binds F fun _ _ _ _ _ _ us hl => match us, hl with | [_, _], _ => rfl⟩
theorem F_Picture_len : ∃ fd, Fun K "__len__" "Picture.__len__" (inCls 29 10) (He.ma K (He.ga K "Picture") "__len__") fd ∧ Binds K fd ["self"] [] := by
  obtain ⟨fd, F⟩ := c.fn 36 (d := ⟨fun K => He.ma K (He.ga K "Picture") "__len__", "__len__", "Picture.__len__", inCls 29 10⟩) rfl
  exact ⟨fd, F, Fun.binds F fun _ _ _ _ _ _ us hl => match us, hl with | [_], _ => rfl⟩
theorem F_Picture_eq : ∃ fd, Fun K "__eq__" "Picture.__eq__" (inCls 29 11) (He.ma K (He.ga K "Picture") "__eq__") fd ∧ Binds K fd ["self", "other"] [] := by
  obtain ⟨fd, F⟩ := c.fn 37 (d := ⟨fun K => He.ma K (He.ga K "Picture") "__eq__", "__eq__", "Picture.__eq__", inCls 29 11⟩) rfl
  exact ⟨fd, F, Fun.binds F fun _ _ _ _ _ _ us hl => match us, hl with | [_, _], _ => rfl⟩
theorem F_Window_init : ∃ fd, Fun K "__init__" "Window.__init__" (inCls 38 0) (He.ma K (He.ga K "Window") "__init__") fd ∧ Binds K fd ["self", "size"] [] := by
  obtain ⟨fd, F⟩ := c.fn 38 (d := ⟨fun K => He.ma K (He.ga K "Window") "__init__", "__init__", "Window.__init__", inCls 38 0⟩) rfl
  exact ⟨fd, F, Fun.binds F fun _ _ _ _ _ _ us hl => match us, hl with | [_, _], _ => rfl⟩
theorem F_Window_call : ∃ fd, Fun K "__call__" "Window.__call__" (inCls 38 1) (He.ma K (He.ga K "Window") "__call__") fd ∧ Binds K fd ["self", "place", "word"] [] := by
  obtain ⟨fd, F⟩ := c.fn 39 (d := ⟨fun K => He.ma K (He.ga K "Window") "__call__", "__call__", "Window.__call__", inCls 38 1⟩) rfl
  exact ⟨fd, F, Fun.binds F fun _ _ _ _ _ _ us hl => match us, hl with | [_, _, _], _ => rfl⟩
theorem F_Window_picture : ∃ fd, Fun K "picture" "Window.picture" (inCls 38 2) (pget K (He.ga K "Window") "picture") fd ∧ Binds K fd ["self"] [] := by
  obtain ⟨fd, F⟩ := c.fn 40 (d := ⟨fun K => pget K (He.ga K "Window") "picture", "picture", "Window.picture", inCls 38 2⟩) rfl
  exact ⟨fd, F, Fun.binds F fun _ _ _ _ _ _ us hl => match us, hl with | [_], _ => rfl⟩
theorem F_Window_looks : ∃ fd, Fun K "looks" "Window.looks" (inCls 38 3) (pget K (He.ga K "Window") "looks") fd ∧ Binds K fd ["self"] [] := by
  obtain ⟨fd, F⟩ := c.fn 41 (d := ⟨fun K => pget K (He.ga K "Window") "looks", "looks", "Window.looks", inCls 38 3⟩) rfl
  exact ⟨fd, F, Fun.binds F fun _ _ _ _ _ _ us hl => match us, hl with | [_], _ => rfl⟩
theorem F_Window_word_at : ∃ fd, Fun K "word_at" "Window.word_at" (inCls 38 4) (He.ma K (He.ga K "Window") "word_at") fd ∧ Binds K fd ["self", "place"] [] := by
  obtain ⟨fd, F⟩ := c.fn 42 (d := ⟨fun K => He.ma K (He.ga K "Window") "word_at", "word_at", "Window.word_at", inCls 38 4⟩) rfl
  exact ⟨fd, F, Fun.binds F fun _ _ _ _ _ _ us hl => match us, hl with | [_, _], _ => rfl⟩
theorem F_Window_add_all : ∃ fd, Fun K "add_all" "Window.add_all" (inCls 38 5) (He.ma K (He.ga K "Window") "add_all") fd ∧ Binds K fd ["self", "looks"] [] := by
  obtain ⟨fd, F⟩ := c.fn 43 (d := ⟨fun K => He.ma K (He.ga K "Window") "add_all", "add_all", "Window.add_all", inCls 38 5⟩) rfl
  exact ⟨fd, F, Fun.binds F fun _ _ _ _ _ _ us hl => match us, hl with | [_, _], _ => rfl⟩
theorem F_Window_undo : ∃ fd, Fun K "undo" "Window.undo" (inCls 38 6) (He.ma K (He.ga K "Window") "undo") fd ∧ Binds K fd ["self"] [] := by
  obtain ⟨fd, F⟩ := c.fn 44 (d := ⟨fun K => He.ma K (He.ga K "Window") "undo", "undo", "Window.undo", inCls 38 6⟩) rfl
  exact ⟨fd, F, Fun.binds F fun _ _ _ _ _ _ us hl => match us, hl with | [_], _ => rfl⟩
theorem F_Window_len : ∃ fd, Fun K "__len__" "Window.__len__" (inCls 38 7) (He.ma K (He.ga K "Window") "__len__") fd ∧ Binds K fd ["self"] [] := by
  obtain ⟨fd, F⟩ := c.fn 45 (d := ⟨fun K => He.ma K (He.ga K "Window") "__len__", "__len__", "Window.__len__", inCls 38 7⟩) rfl
  exact ⟨fd, F, Fun.binds F fun _ _ _ _ _ _ us hl => match us, hl with | [_], _ => rfl⟩
theorem F_Window_eq : ∃ fd, Fun K "__eq__" "Window.__eq__" (inCls 38 8) (He.ma K (He.ga K "Window") "__eq__") fd ∧ Binds K fd ["self", "other"] [] := by
  obtain ⟨fd, F⟩ := c.fn 46 (d := ⟨fun K => He.ma K (He.ga K "Window") "__eq__", "__eq__", "Window.__eq__", inCls 38 8⟩) rfl
  exact ⟨fd, F, Fun.binds F fun _ _ _ _ _ _ us hl => match us, hl with | [_, _], _ => rfl⟩
theorem F_PlacedWindow_call : ∃ fd, Fun K "__call__" "PlacedWindow.__call__" (inCls 39 2) (He.ma K (He.ga K "PlacedWindow") "__call__") fd ∧ Binds K fd ["self", "place", "word"] [] := by
  obtain ⟨fd, F⟩ := c.fn 47 (d := ⟨fun K => He.ma K (He.ga K "PlacedWindow") "__call__", "__call__", "PlacedWindow.__call__", inCls 39 2⟩) rfl
  exact ⟨fd, F, Fun.binds F fun _ _ _ _ _ _ us hl => match us, hl with | [_, _, _], _ => rfl⟩
theorem F_PlacedWindow_add_all : ∃ fd, Fun K "add_all" "PlacedWindow.add_all" (inCls 39 3) (He.ma K (He.ga K "PlacedWindow") "add_all") fd ∧ Binds K fd ["self", "looks"] [] := by
  obtain ⟨fd, F⟩ := c.fn 48 (d := ⟨fun K => He.ma K (He.ga K "PlacedWindow") "add_all", "add_all", "PlacedWindow.add_all", inCls 39 3⟩) rfl
  exact ⟨fd, F, Fun.binds F fun _ _ _ _ _ _ us hl => match us, hl with | [_, _], _ => rfl⟩
theorem F_PlacedWindow_eq : ∃ fd, Fun K "__eq__" "PlacedWindow.__eq__" (inCls 39 4) (He.ma K (He.ga K "PlacedWindow") "__eq__") fd ∧ Binds K fd ["self", "other"] [] := by
  obtain ⟨fd, F⟩ := c.fn 49 (d := ⟨fun K => He.ma K (He.ga K "PlacedWindow") "__eq__", "__eq__", "PlacedWindow.__eq__", inCls 39 4⟩) rfl
  exact ⟨fd, F, Fun.binds F fun _ _ _ _ _ _ us hl => match us, hl with | [_, _], _ => rfl⟩
/-- what callers know of a def by its name -/
theorem gf_of {CX : CXT} {k : Nat} {x : Str} {st : Stmt} {ps : List Str} {sp : Sp} (hx : gNames.contains x = true) (F : ∃ fd, Fun K x x st (He.ga K x) fd ∧ Binds K fd ps []) (ok : ∀ fd, Fun K x x st (He.ga K x) fd → FnOk P w K mg base CX k (He.ga K x) fd ps sp) : GF P w K mg base CX k x ps sp := by
  obtain ⟨fd, F, b⟩ := F
  exact ⟨_, fd, ok fd F, gm X G c x hx, F.kp, b⟩

theorem G_common_divisor : GF P w K mg base CX0 1 "common_divisor" ["one", "other"] spCd := gf_of X G c (by decide +kernel) (F_common_divisor X G c) fun fd F => ok_cd F (fm X G c "abs")
theorem G_divisor_of : GF P w K mg base CX0 3 "divisor_of" ["values"] (spDiv K) := gf_of X G c (by decide +kernel) (F_divisor_of X G c) fun fd F => ok_div F (G_common_divisor X G c)
theorem G_plus : GF P w K mg base CX0 3 "plus" ["one", "other"] (spPlus K) := gf_of X G c (by decide +kernel) (F_plus X G c) fun fd F => ok_plus F (fm X G c "tuple") (fm X G c "range") (fm X G c "len")
theorem G_power : GF P w K mg base CX0 1 "power" ["prime", "size"] spPower := gf_of X G c (by decide +kernel) (F_power X G c) fun fd F => ok_power F
theorem G_remainders_by : GF P w K mg base CX0 3 "remainders_by" ["place", "prime"] (spRem K) := gf_of X G c (by decide +kernel) (F_remainders_by X G c) fun fd F => ok_rem F (fm X G c "tuple") (fm X G c "int")
theorem G_numbered : GF P w K mg base CX0 3 "numbered" ["size", "prime", "k"] spNumb := gf_of X G c (by decide +kernel) (F_numbered X G c) fun fd F => ok_numb F (fm X G c "int")
theorem G_all_remainders : GF P w K mg base CX0 5 "all_remainders" ["size", "prime"] spAllR := gf_of X G c (by decide +kernel) (F_all_remainders X G c) fun fd F => ok_allR F (fm X G c "range") (G_power X G c) (G_numbered X G c)
theorem primes_of : Primes K mg := ⟨_, gm X G c "SMALL_PRIMES", fun H => He.tupB_ok (c.b 9 rfl (by decide)) H⟩
theorem G_least_bar : GF P w K mg base CX0 5 "least_bar" ["size", "places"] spLbar := gf_of X G c (by decide +kernel) (F_least_bar X G c) fun fd F => ok_lbar F (fm X G c "len") (primes_of X G c) (G_power X G c) (G_remainders_by X G c)
theorem G_lone_remainders : GF P w K mg base CX0 7 "lone_remainders" ["size", "places"] spLone := gf_of X G c (by decide +kernel) (F_lone_remainders X G c) fun fd F => ok_lone F (fm X G c "len") (primes_of X G c) (G_power X G c) (G_remainders_by X G c) (G_all_remainders X G c)
theorem G_law_pool : GF P w K mg base CX0 3 "_law_pool" ["_law_script", "_law_k"] (spPool K) := gf_of X G c (by decide +kernel) (F_law_pool X G c) fun fd F => ok_pool F (fm X G c "len") (fm X G c "int")
theorem G_law_take : GF P w K mg base CX0 3 "_law_take" ["_law_pool_here", "_law_parts"] spTake := gf_of X G c (by decide +kernel) (F_law_take X G c) fun fd F => ok_take F (fm X G c "int")
theorem G_law_near : GF P w K mg base CX0 5 "_law_near" ["_law_pool_here", "_law_many", "_law_most"] spNear := gf_of X G c (by decide +kernel) (F_law_near X G c) fun fd F => ok_near F (fm X G c "tuple") (fm X G c "range") (G_law_take X G c)
theorem G_law_gcd : GF P w K mg base CX0 3 "_law_gcd" ["_law_values"] (spLgcd K) := gf_of X G c (by decide +kernel) (F_law_gcd X G c) fun fd F => ok_lgcd F (fm X G c "abs") (fm X G c "int")
theorem G_bar_of : GF P w K mg base CX0 7 "bar_of" ["lone", "place"] spBarOf := gf_of X G c (by decide +kernel) (F_bar_of X G c) fun fd F => ok_barOf F (G_remainders_by X G c)
theorem G_law_bar : GF P w K mg base CX0 5 "_law_bar" ["_law_places", "_law_size"] spLawBar := gf_of X G c (by decide +kernel) (F_law_bar X G c) fun fd F => ok_lawbar F (fm X G c "len") (fm X G c "set") (fm X G c "tuple") (fm X G c "int")
theorem G_check_look : GF P w K mg base (L2.CX P w) 3 "check_look" ["size", "looks", "place", "word"] (spChk (He.ga K)) := gf_of X G c (by decide +kernel) (F_check_look X G c) fun fd F => ok_chk F (fm X G c "len") (exs_of X G c)
theorem G_places_with : GF P w K mg base CX0 3 "places_with" ["looks", "word"] spWith := gf_of X G c (by decide +kernel) (F_places_with X G c) fun fd F => ok_with F
theorem G_law_status : GF P w K mg base CX0 7 "_law_status" ["_law_looks_here", "_law_place", "_law_size"] spLStat := gf_of X G c (by decide +kernel) (F_law_status X G c) fun fd F => ok_lstat F (G_law_bar X G c)
theorem G_law_due : GF P w K mg base CX0 7 "_law_due" ["_law_looks_here", "_law_shift", "_law_place", "_law_word", "_law_size"] spDue := gf_of X G c (by decide +kernel) (F_law_due X G c) fun fd F => ok_due F (fm X G c "len") (fm X G c "zip") (G_law_bar X G c) (G_law_gcd X G c)
theorem G_law_kinds : GF P w K mg base CX0 3 "_law_kinds" ["_law_caught"] (spKinds (He.ga K)) := gf_of X G c (by decide +kernel) (F_law_kinds X G c) fun fd F => ok_kinds F (exs_of X G c) (fm X G c "isinstance") (fm X G c "len")
theorem G_law_looks : GF P w K mg base CX0 7 "_law_looks" ["_law_pool_here", "_law_size"] spLLooks := gf_of X G c (by decide +kernel) (F_law_looks X G c) fun fd F => ok_llooks F (fm X G c "range") (G_law_take X G c) (G_law_near X G c)

omit X G in
theorem pic_facts : CFacts K (He.ga K "Picture") cF ∧ TyC K (He.ga K "Picture") ∧ Mk K (He.ga K "Picture") (He.ma K (He.ga K "Picture") "__init__") ∧ PropOf K (He.ga K "Picture") "size" (He.ma K (He.ga K "Picture") "size") (pget K (He.ga K "Picture") "size") ∧ PropOf K (He.ga K "Picture") "seen" (He.ma K (He.ga K "Picture") "seen") (pget K (He.ga K "Picture") "seen") ∧
    PropOf K (He.ga K "Picture") "hidden" (He.ma K (He.ga K "Picture") "hidden") (pget K (He.ga K "Picture") "hidden") ∧ Meth K (He.ga K "Picture") "__contains__" (He.ma K (He.ga K "Picture") "__contains__") ∧ Meth K (He.ga K "Picture") "__len__" (He.ma K (He.ga K "Picture") "__len__") ∧ EqC K (He.ga K "Picture") (He.ma K (He.ga K "Picture") "__eq__") := by
  have h : picB K (He.ga K "Picture") = true := c.b 2 rfl (by decide)
  have hx : exsB K = true := c.b 1 rfl (by decide)
  obtain ⟨hd, _⟩ := He.ba hx
  obtain ⟨h1, h⟩ := He.ba h
  obtain ⟨h2, h⟩ := He.ba h
  obtain ⟨h3, h⟩ := He.ba h
  obtain ⟨h4, h⟩ := He.ba h
  obtain ⟨h5, h⟩ := He.ba h
  obtain ⟨h6, h⟩ := He.ba h
  obtain ⟨h7, h⟩ := He.ba h
  obtain ⟨h8, h9⟩ := He.ba h
  have q := clB_ok h1
  exact ⟨q, tyB_ok hd q.cls h2, mkB_ok h3, prB_ok h4, prB_ok h5, prB_ok h6, meB_ok h7, meB_ok h8, eqB_ok h9⟩
theorem picP : PicP P w K mg base (He.ga K "Picture") := by
  obtain ⟨cf, ty, mk, p1, p2, p3, m1, m2, eq⟩ := pic_facts c
  obtain ⟨d1, F1, b1⟩ := F_Picture_size X G c
  obtain ⟨d2, F2, b2⟩ := F_Picture_seen X G c
  obtain ⟨d3, F3, b3⟩ := F_Picture_hidden X G c
  obtain ⟨d4, F4, b4⟩ := F_Picture_contains X G c
  obtain ⟨d5, F5, b5⟩ := F_Picture_len X G c
  obtain ⟨d6, F6, b6⟩ := F_Picture_eq X G c
  obtain ⟨d7, F7, b7⟩ := F_Picture_init X G c
  exact ⟨⟨_, _, d1, cf.cls, p1, ok_csize F1 cf, b1⟩, ⟨_, _, d2, cf.cls, p2, ok_cseen F2 cf (fm X G c "list"), b2⟩, ⟨_, _, d3, cf.cls, p3, ok_chid F3 cf (fm X G c "list"), b3⟩, ⟨_, d4, m1.at_, m1.fn, ok_ccon F4 cf, b4⟩, ⟨_, d5, m2.at_, m2.fn, ok_clen F5 cf (fm X G c "len"), b5⟩,
    ⟨_, d6, eq, ok_ceq F6 (gm X G c "Picture") (fm X G c "isinstance"), b6⟩, ⟨_, d7, mk, ok_cini F7 cf (fm X G c "len") (fm X G c "sorted"), b7⟩, gm X G c "Picture", ty⟩

theorem G_check_possible : GF P w K mg base CX0 7 "check_possible" ["picture"] (spPoss (He.ga K "Picture")) := gf_of X G c (by decide +kernel) (F_check_possible X G c) fun fd F => ok_poss F (picP X G c) (G_least_bar X G c)
theorem G_check_asked : GF P w K mg base CX0 9 "check_asked" ["picture", "place"] (spAsk (He.ga K "Picture")) := gf_of X G c (by decide +kernel) (F_check_asked X G c) fun fd F => ok_ask F (fm X G c "len") (picP X G c) (G_check_possible X G c)
theorem G_status : GF P w K mg base CX0 11 "status" ["picture", "place"] (spStat (He.ga K "Picture")) := gf_of X G c (by decide +kernel) (F_status X G c) fun fd F => ok_stat F (picP X G c) (G_check_asked X G c) (G_lone_remainders X G c) (G_bar_of X G c)

omit X G in
theorem win_facts {x : Str} (h : winB K (He.ga K x) (He.ga K "Window") = true) : CFacts K (He.ga K x) wF ∧ TyC K (He.ga K x) ∧ Mk K (He.ga K x) (He.ma K (He.ga K x) "__init__") ∧ PropOf K (He.ga K x) "picture" (He.ma K (He.ga K "Window") "picture") (pget K (He.ga K "Window") "picture") ∧ PropOf K (He.ga K x) "looks" (He.ma K (He.ga K "Window") "looks") (pget K (He.ga K "Window") "looks") ∧
    Meth K (He.ga K x) "undo" (He.ma K (He.ga K "Window") "undo") ∧ Meth K (He.ga K x) "word_at" (He.ma K (He.ga K "Window") "word_at") ∧ Meth K (He.ga K x) "__len__" (He.ma K (He.ga K "Window") "__len__") ∧ Meth K (He.ga K x) "add_all" (He.ma K (He.ga K x) "add_all") ∧ StX.CallO K (He.ga K x) (He.ma K (He.ga K x) "__call__") ∧ EqC K (He.ga K x) (He.ma K (He.ga K x) "__eq__") := by
  have hx : exsB K = true := c.b 1 rfl (by decide)
  obtain ⟨hd, _⟩ := He.ba hx
  obtain ⟨h1, h⟩ := He.ba h
  obtain ⟨h2, h⟩ := He.ba h
  obtain ⟨h3, h⟩ := He.ba h
  obtain ⟨h4, h⟩ := He.ba h
  obtain ⟨h5, h⟩ := He.ba h
  obtain ⟨h6, h⟩ := He.ba h
  obtain ⟨h7, h⟩ := He.ba h
  obtain ⟨h8, h⟩ := He.ba h
  obtain ⟨h9, h⟩ := He.ba h
  obtain ⟨h10, h11⟩ := He.ba h
  have q := clB_ok h1
  exact ⟨q, tyB_ok hd q.cls h2, mkB_ok h3, prB_ok h4, prB_ok h5, meB_ok h6, meB_ok h7, meB_ok h8, meB_ok h9, caB_ok h10, eqB_ok h11⟩
/-- the parts that both classes share -/
theorem win_same {x : Str} {sh : Option Pl} (h : winB K (He.ga K x) (He.ga K "Window") = true) : MF P w K mg base (L2.CX P w) 3 (He.ga K x) "undo" ["self"] (spUndo (He.ga K) (He.ga K x) sh) ∧ PF P w K mg base CX0 1 (He.ga K x) "looks" ["self"] (spLooks (He.ga K x) sh) ∧ PF P w K mg base CX0 6 (He.ga K x) "picture" ["self"] (spPicture (He.ga K "Picture") (He.ga K x) sh) ∧
    MF P w K mg base CX0 13 (He.ga K x) "word_at" ["self", "place"] (spWAt (He.ga K x) sh) ∧ SF P w K mg base CX0 1 (He.ga K x) "__len__" ["self"] (spLen (He.ga K x) sh) := by
  obtain ⟨cf, ty, mk, p1, p2, m1, m2, m3, m4, ca, eq⟩ := win_facts c h
  obtain ⟨d1, F1, b1⟩ := F_Window_undo X G c
  obtain ⟨d2, F2, b2⟩ := F_Window_looks X G c
  obtain ⟨d3, F3, b3⟩ := F_Window_picture X G c
  obtain ⟨d4, F4, b4⟩ := F_Window_word_at X G c
  obtain ⟨d5, F5, b5⟩ := F_Window_len X G c
  have pp : PF P w K mg base CX0 6 (He.ga K x) "picture" ["self"] (spPicture (He.ga K "Picture") (He.ga K x) sh) := ⟨_, _, d3, cf.cls, p1, ok_wpic F3 cf (picP X G c) (G_places_with X G c) sh, b3⟩
  exact ⟨⟨_, d1, cf.cls, m1, ok_wundo F1 (exs_of X G c) cf (fm X G c "len") sh, b1⟩, ⟨_, _, d2, cf.cls, p2, ok_wlooks F2 cf (fm X G c "list") sh, b2⟩, pp, ⟨_, d4, cf.cls, m2, ok_wat F4 sh cf.cls pp (G_status X G c), b4⟩, ⟨_, d5, m3.at_, m3.fn, ok_wlen F5 cf (fm X G c "len") sh, b5⟩⟩
theorem winPW : WinP P w K mg base (He.ga K) (He.ga K "Picture") (He.ga K "Window") none := by
  obtain ⟨cf, ty, mk, p1, p2, m1, m2, m3, m4, ca, eq⟩ := win_facts c (x := "Window") (c.b 3 rfl (by decide))
  obtain ⟨s1, s2, s3, s4, s5⟩ := win_same (P := P) (w := w) (sh := none) X G c (x := "Window") (c.b 3 rfl (by decide))
  obtain ⟨d1, F1, b1⟩ := F_Window_call X G c
  obtain ⟨d2, F2, b2⟩ := F_Window_add_all X G c
  have oc : OF P w K mg base (L2.CX P w) 7 (He.ga K "Window") ["self", "place", "word"] (spCallW (He.ga K) (He.ga K "Window") none) := ⟨_, d1, ca, ok_wcall F1 (exs_of X G c) cf (G_check_look X G c) (G_least_bar X G c) (G_places_with X G c), b1⟩
  exact ⟨s1, ⟨_, d2, cf.cls, m4, ok_wadd F2 (exs_of X G c) cf (fm X G c "list") none oc, b2⟩, oc, s2, s3, s4, s5⟩
theorem ofP (sv : Pl) : OF P w K mg base (L2.CX P w) 7 (He.ga K "PlacedWindow") ["self", "place", "word"] (spCallW (He.ga K) (He.ga K "PlacedWindow") (some sv)) := by
  obtain ⟨cf, ty, mk, p1, p2, m1, m2, m3, m4, ca, eq⟩ := win_facts c (x := "PlacedWindow") (c.b 4 rfl (by decide))
  obtain ⟨d1, F1, b1⟩ := F_PlacedWindow_call X G c
  exact ⟨_, d1, ca, ok_pcall F1 (exs_of X G c) cf (G_check_look X G c) (G_divisor_of X G c) (G_plus X G c) sv, b1⟩
theorem ofPA : OF P w K mg base (L2.CX P w) 7 (He.ga K "PlacedWindow") ["self", "place", "word"] (fun vs H Q E => ∃ s, spCallW (He.ga K) (He.ga K "PlacedWindow") (some s) vs H Q E) := by
  obtain ⟨cf, ty, mk, p1, p2, m1, m2, m3, m4, ca, eq⟩ := win_facts c (x := "PlacedWindow") (c.b 4 rfl (by decide))
  obtain ⟨d1, F1, b1⟩ := F_PlacedWindow_call X G c
  exact ⟨_, d1, ca, fnOk_any fun sv => ok_pcall F1 (exs_of X G c) cf (G_check_look X G c) (G_divisor_of X G c) (G_plus X G c) sv, b1⟩
theorem winPP (sv : Pl) : WinP P w K mg base (He.ga K) (He.ga K "Picture") (He.ga K "PlacedWindow") (some sv) := by
  obtain ⟨cf, ty, mk, p1, p2, m1, m2, m3, m4, ca, eq⟩ := win_facts c (x := "PlacedWindow") (c.b 4 rfl (by decide))
  obtain ⟨s1, s2, s3, s4, s5⟩ := win_same (P := P) (w := w) (sh := some sv) X G c (x := "PlacedWindow") (c.b 4 rfl (by decide))
  obtain ⟨d2, F2, b2⟩ := F_PlacedWindow_add_all X G c
  exact ⟨s1, ⟨_, d2, cf.cls, m4, ok_padd F2 (exs_of X G c) cf (fm X G c "list") (some sv) (ofP X G c sv), b2⟩, ofP X G c sv, s2, s3, s4, s5⟩
theorem picPA : PF P w K mg base CX0 6 (He.ga K "PlacedWindow") "picture" ["self"] (spPicA (He.ga K "Picture") (He.ga K "PlacedWindow")) := by
  obtain ⟨cf, ty, mk, p1, p2, m1, m2, m3, m4, ca, eq⟩ := win_facts c (x := "PlacedWindow") (c.b 4 rfl (by decide))
  obtain ⟨d3, F3, b3⟩ := F_Window_picture X G c
  exact ⟨_, _, d3, cf.cls, p1, fnOk_any fun sv => ok_wpic F3 cf (picP X G c) (G_places_with X G c) (some sv), b3⟩
theorem looksPA : PF P w K mg base CX0 1 (He.ga K "PlacedWindow") "looks" ["self"] (spLooksA (He.ga K "PlacedWindow")) := by
  obtain ⟨cf, ty, mk, p1, p2, m1, m2, m3, m4, ca, eq⟩ := win_facts c (x := "PlacedWindow") (c.b 4 rfl (by decide))
  obtain ⟨d2, F2, b2⟩ := F_Window_looks X G c
  exact ⟨_, _, d2, cf.cls, p2, fnOk_any fun sv => ok_wlooks F2 cf (fm X G c "list") (some sv), b2⟩
theorem twoW : TwoW K mg (He.ga K "Window") (He.ga K "PlacedWindow") := by
  obtain ⟨cf, ty, _⟩ := win_facts c (x := "Window") (c.b 3 rfl (by decide))
  obtain ⟨cf', ty', _⟩ := win_facts c (x := "PlacedWindow") (c.b 4 rfl (by decide))
  have h : twoB K (He.ga K "Window") (He.ga K "PlacedWindow") = true := c.b 5 rfl (by decide)
  obtain ⟨h1, h⟩ := He.ba h
  obtain ⟨h2, h⟩ := He.ba h
  obtain ⟨h3, h⟩ := He.ba h
  obtain ⟨h4, h⟩ := He.ba h
  exact ⟨gm X G c "Window", gm X G c "PlacedWindow", ty, ty', cf, cf', dO_ok h1, dO_ok h2, dO_ok h3, dO_ok h4⟩
theorem eqK : EqK P w K mg base (He.ga K "Window") (He.ga K "PlacedWindow") (He.ga K "Picture") := by
  obtain ⟨cf, ty, mk, p1, p2, m1, m2, m3, m4, ca, eq⟩ := win_facts c (x := "Window") (c.b 3 rfl (by decide))
  obtain ⟨cf', ty', mk', p1', p2', m1', m2', m3', m4', ca', eq'⟩ := win_facts c (x := "PlacedWindow") (c.b 4 rfl (by decide))
  have h : twoB K (He.ga K "Window") (He.ga K "PlacedWindow") = true := c.b 5 rfl (by decide)
  obtain ⟨_, h⟩ := He.ba h
  obtain ⟨_, h⟩ := He.ba h
  obtain ⟨_, h⟩ := He.ba h
  obtain ⟨_, h⟩ := He.ba h
  obtain ⟨h5, h⟩ := He.ba h
  obtain ⟨h6, h7⟩ := He.ba h
  have hW : eqkB K (He.ga K "Window") (He.ga K "Picture") = true := c.b 6 rfl (by decide)
  have hP : eqkB K (He.ga K "PlacedWindow") (He.ga K "Picture") = true := c.b 7 rfl (by decide)
  have both : ∀ C ∈ [He.ga K "Window", He.ga K "PlacedWindow"], eqkB K C (He.ga K "Picture") = true := fun C hC => by
    rcases List.mem_cons.mp hC with rfl | hC
    · exact hW
    · rw [List.mem_singleton.mp hC]
      exact hP
  obtain ⟨d1, F1, b1⟩ := F_Window_eq X G c
  obtain ⟨d2, F2, b2⟩ := F_PlacedWindow_eq X G c
  refine ⟨⟨_, d1, eq, ok_weq F1 (twoW X G c) (fm X G c "isinstance"), b1⟩, ⟨_, d2, eq', ok_peq F2 (twoW X G c) (fm X G c "isinstance"), b2⟩, (picP X G c).eq, fun e => ?_, dO_ok h6, h7, fun C hC T hT => ?_, fun C hC => ?_⟩
  · rw [decide_eq_true e] at h5
    cases h5
  · obtain ⟨h8, _⟩ := He.ba (both C hC)
    have h9 := List.all_eq_true.mp h8 T hT
    obtain ⟨q1, h9⟩ := He.ba h9
    obtain ⟨q2, q3⟩ := He.ba h9
    exact ⟨q1, dO_ok q2, dO_ok q3⟩
  · obtain ⟨_, h8⟩ := He.ba (both C hC)
    obtain ⟨q1, h8⟩ := He.ba h8
    obtain ⟨q2, h8⟩ := He.ba h8
    obtain ⟨q3, q4⟩ := He.ba h8
    exact ⟨q1, q2, dO_ok q3, dO_ok q4⟩
theorem mkW : MkF P w K mg base 1 "Window" (He.ga K "Window") ["self", "size"] (spWIni K) := by
  obtain ⟨cf, ty, mk, _⟩ := win_facts c (x := "Window") (c.b 3 rfl (by decide))
  obtain ⟨d1, F1, b1⟩ := F_Window_init X G c
  exact ⟨⟨_, d1, mk, ok_wini F1, b1⟩, gm X G c "Window"⟩

end
end
end K94
namespace K94
open PySem L2
abbrev pwK : Program := PySem.Challenge.pw_seenposts_k94_whole_windows_by_turns
theorem supFB_ok {K : PySem.W.Frag} {CP : Addr} (h : supFB K CP = true) : ∃ (oc : Value) (od : Option Addr) (osl : Array (Option Value)) (fd : FuncData) (cda cc : Addr) (ccl cl : Value) (cdd cld : Option Addr) (ccs csl : Array (Option Value)) (vs : Array Value) (file : Str) (tf : Tok),
    K.lookup (He.ma K CP "__init__") = some ⟨oc, od, .func fd, osl⟩ ∧ fd.defaults = .none ∧ fd.closure = [(("__class__" : Str), cc)] ∧ fd.code = .ref cda ∧ PySem.W.codeIn K (.ref cda) "PlacedWindow.__init__" = true ∧ K.lookup cda = some ⟨ccl, cdd, .fields vs, ccs⟩ ∧ vs[2]? = some (.str file tf) ∧ (pFile == file) = true ∧ K.lookup cc = some ⟨cl, cld, .cell (some (.ref CP)), csl⟩ := by
  unfold supFB at h
  cases q : K.lookup (He.ma K CP "__init__") with
  | none =>
    rw [q] at h
    cases h
  | some ob =>
    obtain ⟨oc, od, dt, osl⟩ := ob
    rw [q] at h
    cases dt with
    | func fd =>
      have h1 : ((match fd.defaults with
        | .none => true
        | _ => false) && ((match fd.closure with
        | [(x, cc)] => decide (x = "__class__") && (match K.lookup cc with
          | some ⟨_, _, .cell (some (.ref C)), _⟩ => decide (C = CP)
          | _ => false)
        | _ => false) && (match fd.code with
        | .ref cda => PySem.W.codeIn K (.ref cda) "PlacedWindow.__init__" && (match K.lookup cda with
          | some ⟨_, _, .fields vs, _⟩ => (match (vs[2]? : Option Value) with
            | some (.str file _) => pFile == file
            | _ => false)
          | _ => false)
        | _ => false))) = true := h
      clear h
      obtain ⟨k0, h1⟩ := He.ba h1
      obtain ⟨k1, k2⟩ := He.ba h1
      have e8 : fd.defaults = .none := by
        cases e : fd.defaults with
        | none => rfl
        | _ =>
          rw [e] at k0
          cases k0
      cases e7 : fd.closure with
      | nil =>
        rw [e7] at k1
        cases k1
      | cons p r =>
        rw [e7] at k1
        cases r with
        | cons _ _ => cases k1
        | nil =>
          obtain ⟨x, cc⟩ := p
          obtain ⟨k3, k4⟩ := He.ba k1
          have ex : x = "__class__" := of_decide_eq_true k3
          subst ex
          cases e13 : fd.code with
          | ref cda =>
            rw [e13] at k2
            obtain ⟨k5, k6⟩ := He.ba k2
            cases q2 : K.lookup cc with
            | none =>
              rw [q2] at k4
              cases k4
            | some oB =>
              obtain ⟨cl, cld, dt2, csl⟩ := oB
              rw [q2] at k4
              cases dt2 with
              | cell v =>
                cases v with
                | none => cases k4
                | some v =>
                  cases v with
                  | ref C =>
                    have eC : C = CP := of_decide_eq_true k4
                    subst eC
                    cases q3 : K.lookup cda with
                    | none =>
                      rw [q3] at k6
                      cases k6
                    | some oC =>
                      obtain ⟨ccl, cdd, dt3, ccs⟩ := oC
                      rw [q3] at k6
                      cases dt3 with
                      | fields vs =>
                        have k7 : (match (vs[2]? : Option Value) with
                            | some (.str file _) => pFile == file
                            | _ => false) = true := k6
                        cases q4 : (vs[2]? : Option Value) with
                        | none =>
                          rw [q4] at k7
                          cases k7
                        | some fv =>
                          rw [q4] at k7
                          cases fv with
                          | str file tf => exact ⟨oc, od, osl, fd, cda, cc, ccl, cl, cdd, cld, ccs, csl, vs, file, tf, rfl, e8, e7, e13, k5, q3, q4, k7, q2⟩
                          | _ => cases k7
                      | _ => cases k6
                  | _ => cases k4
              | _ => cases k4
          | _ =>
            rw [e13] at k2
            cases k2
    | _ => cases h
section
variable {w : World} {K : PySem.W.Frag} {mg : Str → Option Value} {base : Heap}
section
variable (X : K.In base) (G : base.Ns mainGlobals mg) (c : Says K)
include c
theorem sup_of : ∃ fd, Sup pwK K (He.ga K "PlacedWindow") (He.ma K (He.ga K "PlacedWindow") "__init__") fd (He.ma K (He.ga K "Window") "__init__") ∧ Binds K fd ["self", "shift"] [] := by
  have h : supB K (He.ga K "PlacedWindow") (He.ga K "Window") = true := c.b 8 rfl (by decide)
  obtain ⟨h1, h⟩ := He.ba h
  obtain ⟨h2, h⟩ := He.ba h
  obtain ⟨h3, h⟩ := He.ba h
  obtain ⟨h4, h⟩ := He.ba h
  obtain ⟨h5, h⟩ := He.ba h
  obtain ⟨h6, h7⟩ := He.ba h
  have e : fnV K (He.ma K (He.ga K "PlacedWindow") "__init__") = (some (("__init__" : Str), ("PlacedWindow.__init__" : Str), defArgs sPIni, FuncBody.stmts (defBody sPIni), defScope sPIni, mainGlobals, builtinsNs) : FnV) := c.fv 51 (d := dSup) rfl
  obtain ⟨cd, hcd⟩ := Option.isSome_iff_exists.mp (show (PySem.W.clsIn K (He.ga K "PlacedWindow")).isSome = true from h2)
  have htop : (pwK.main.scope.names.lookup ("super" : Str)).isSome = false := by decide +kernel
  obtain ⟨oc, od, osl, fd, cda, cc, ccl, cl, cdd, cld, ccs, csl, vs, file, tf, q, e8, e7, e13, k5, q3, q4, k7, q2⟩ := supFB_ok h1
  unfold fnV at e
  rw [q] at e
  obtain ⟨n1, n2, n3, n4, n5, n6, n7, n8, n9, n10, n11, n12, n13, n14, n15⟩ := fd
  have e2 : (some (n1, n2, n3, n4, n5, n6, n15) : FnV) = (some (("__init__" : Str), ("PlacedWindow.__init__" : Str), defArgs sPIni, FuncBody.stmts (defBody sPIni), defScope sPIni, mainGlobals, builtinsNs) : FnV) := e
  simp only [Option.some.injEq, Prod.mk.injEq] at e2
  obtain ⟨r1, r2, r3, r4, r5, r6, r7⟩ := e2
  dsimp only at e8 e7 e13
  subst r1 r2 r3 r4 r5 r6 r7 e8 e7 e13
  exact ⟨_, ⟨⟨oc, od, osl, .none, n9, n10, n11, n14, n12, cda, cc, ccl, cl, cdd, cld, ccs, csl, vs, file, tf, cd, rfl, q, k5, q3, q4, k7, q2, hcd⟩, dO_ok h3, He.eqO_ok h4, of_decide_eq_true h5, h6, He.eqO_ok h7, htop⟩, .all fun us hl => match us, hl with | [_, _], _ => rfl⟩
include X G
theorem mkP : MkF pwK w K mg base 5 "PlacedWindow" (He.ga K "PlacedWindow") ["self", "shift"] (spPIni K (He.ga K "PlacedWindow")) := by
  obtain ⟨cf, ty, mk, _⟩ := win_facts c (x := "PlacedWindow") (c.b 4 rfl (by decide))
  obtain ⟨fd, S, b⟩ := sup_of c
  obtain ⟨d1, F1, b1⟩ := F_Window_init X G c
  exact ⟨⟨_, fd, mk, ok_pini S (fm X G c "super") (fm X G c "len") (ok_wini F1) b1, b⟩, gm X G c "PlacedWindow"⟩
theorem winA (sh : Option Pl) : WinP pwK w K mg base (He.ga K) (He.ga K "Picture") (clOf (He.ga K "Window") (He.ga K "PlacedWindow") sh) sh := by
  cases sh with
  | none => exact winPW X G c
  | some sv => exact winPP X G c sv
theorem G_told (sh : Option Pl) : GF pwK w K mg base CX0 11 "_law_told" ["_law_window", "_law_way", "_law_looks_here"] (spTold (He.ga K) (clOf (He.ga K "Window") (He.ga K "PlacedWindow") sh) sh) :=
  gf_of X G c (by decide +kernel) (F_law_told X G c) fun fd F => ok_told F (exs_of X G c) (fm X G c "isinstance") (winA X G c sh) (G_law_kinds X G c)
theorem G_done : GF pwK w K mg base CX0 13 "_law_done" ["_law_window", "_law_looks_here", "_law_shift", "_law_way", "_law_some", "_law_size"] (spDoneA (He.ga K "Window") (He.ga K "PlacedWindow")) :=
  gf_of X G c (by decide +kernel) (F_law_done X G c) fun fd F => fnOk_any fun sh => ok_done F (fm X G c "list") (G_told X G c sh) (G_law_due X G c)
theorem G_isst : GF pwK w K mg base CX0 16 "_law_is_state" ["_law_pool_here", "_law_window", "_law_looks_here", "_law_size"] (spIsStA (He.ga K "Window") (He.ga K "PlacedWindow")) :=
  gf_of X G c (by decide +kernel) (F_law_is_state X G c) fun fd F => fnOk_any fun sh => ok_isst F (fm X G c "int") (fm X G c "range") (fm X G c "len") (fm X G c "sorted") (winA X G c sh) (picP X G c) (G_law_take X G c) (G_law_near X G c) (G_law_status X G c)
theorem G_held : GF pwK w K mg base CX0 5 "_law_is_held" ["_law_held"] (spHeld (He.ga K "Picture")) :=
  gf_of X G c (by decide +kernel) (F_law_is_held X G c) fun fd F => ok_held F (fm X G c "len") (fm X G c "sorted") (fm X G c "all") (picP X G c)
theorem G_unl : GF pwK w K mg base CX0 9 "_law_unlike" ["_law_pool_here", "_law_size", "_law_shift"] (spUnl (He.ga K "Window") (He.ga K "PlacedWindow")) :=
  gf_of X G c (by decide +kernel) (F_law_unlike X G c) fun fd F => ok_unl F (fm X G c "int") (fm X G c "range") (fm X G c "zip") (twoW X G c) (winPW X G c) (fun s => winPP X G c s) (mkW X G c) (mkP X G c) (G_law_take X G c) (G_law_near X G c) (G_law_gcd X G c) (ofPA X G c)
theorem G_equ : GF pwK w K mg base CX0 11 "_law_is_equal" ["_law_pool_here", "_law_windows", "_law_looks_here", "_law_size", "_law_shift"] (spEqu (He.ga K "Window") (He.ga K "PlacedWindow")) :=
  gf_of X G c (by decide +kernel) (F_law_is_equal X G c) fun fd F => ok_equ F (fm X G c "list") (fm X G c "range") (twoW X G c) (pic_facts c).2.1 (eqK X G c) (winPW X G c) (fun s => winPP X G c s) (mkW X G c) (mkP X G c) (G_unl X G c)
theorem law_ok {fd : FuncData} (F : Fun K "law" "law" (top 56) (He.ga K "law") fd) : FnOk pwK w K mg base CX0 18 (He.ga K "law") fd ["_law_script"] (spLaw K) :=
  ok_law F (fm X G c "len") (fm X G c "range") (fm X G c "min") (fm X G c "list") (twoW X G c) (G_law_pool X G c) (G_law_take X G c) (G_law_near X G c) (mkW X G c) (mkP X G c) (G_law_looks X G c) (G_done X G c) (G_isst X G c)
    (winPW X G c).pic (picPA X G c) (winPW X G c).looks (looksPA X G c) (G_held X G c) (G_equ X G c)
end
theorem facts {h : Heap} {f : Addr} (X : K.In h) (G : h.Ns mainGlobals mg) (hfa : mg ("law" : Str) = some (.ref f)) (c : Says K) :
    ∃ fd : FuncData, (∀ (s : Shared) (v : Value), BindsTo s fd ⟨[v], []⟩ [("_law_script", v)]) ∧ ∀ base : Heap, K.In base → base.Ns mainGlobals mg → FnOk pwK w K mg base CX0 18 f fd ["_law_script"] (spLaw K) := by
  obtain ⟨fd, F, b⟩ := F_law X G c
  have e := hfa.symm.trans (gm X G c "law")
  cases e
  refine ⟨fd, fun s v => ?_, fun base Xb Gb => law_ok Xb Gb c F⟩
  obtain ⟨oc, od, kV, doc, pm, an, cdv, ct, osl, rfl, lk, hcd⟩ := F.ex
  exact .of_eq (by rfl)
end
end K94
set_option maxHeartbeats 0
namespace K94
open PySem PySem.W PySem.Calls PyProof.Rows
abbrev R : OpenRow := OpenLaw.row PySem.Challenge.rw_seenposts_k94_whole_windows_by_turns
abbrev qv : Program := view R.prog [56]
def namesA : List PySem.Str := ["_wall", "common_divisor", "divisor_of", "plus", "PostError", "InvalidSize", "InvalidPlace", "DoublePlace", "InvalidMatrix", "InvalidStep", "InvalidNumber", "InvalidWord", "Conflict", "Barred", "Taken", "Wrong", "NothingToUndo", "Unreadable", "SMALL_PRIMES", "power", "remainders_by", "numbered", "all_remainders", "least_bar", "lone_remainders"]
def namesB : List PySem.Str := ["Picture", "check_possible", "check_asked", "bar_of", "status", "check_look", "places_with", "Window", "PlacedWindow", "_law_pool", "_law_take", "_law_gcd", "_law_kinds", "_law_bar", "_law_status", "_law_near", "_law_due", "_law_told", "_law_done", "_law_is_state", "_law_looks", "_law_unlike", "_law_is_held", "_law_is_equal"]
def names : List PySem.Str := namesA ++ namesB
def ob (s : PySem.W.SharedT) : Al := obsG (HandSHeadRun.getT s)
theorem ob_eq (s : PySem.W.SharedT) : ob s = hookK.obs s.abs := obsG_eq (HandSHeadRun.getT_eq s)
theorem run (w : World) : HandSHeadRun.RunEq R qv hookK ob 12000 names w := by
  intro os
  kernel_rfl
end K94
open PySem PySem.W PySem.Calls PyProof.Rows
theorem PySem.Challenge.cw_seenposts_k94_whole_windows_by_turns_holds : PySem.Challenge.rw_seenposts_k94_whole_windows_by_turns.Holds := by
  w_on; o_law
  refine HandSHeadRun.head_any (r := OpenLaw.row PySem.Challenge.rw_seenposts_k94_whole_windows_by_turns) (q := K94.qv) (H := K94.hookK) (ob := K94.ob) (M := 12000) (loose := K94.names) (d := HandSHeadRun.topDef (OpenLaw.row PySem.Challenge.rw_seenposts_k94_whole_windows_by_turns).prog 56) (kwd := []) K94.ob_eq
    (by kernel_rfl) (fun s => by kernel_rfl) K94.run (by kernel_rfl) (by kernel_rfl) (by kernel_rfl) (by rfl) (by first | assumption | decide +kernel) (by decide +kernel) ⟨rfl, rfl, rfl, rfl, rfl, by decide +kernel⟩ ?hw ?hc
  case hw => w_witness2
  case hc =>
    refine L2.walk_ofE (l := PySem.Challenge.rw_seenposts_k94_whole_windows_by_turns) (n := 63) (k := 18) (x := "_law_script") (CX := L2.CX0) rfl (by decide) (by kernel_rfl) ⟨rfl, by decide, by decide⟩ ?F (fun _ _ _ _ z => z)
    intro w mg fa h Y G hmg0
    obtain ⟨K, KX, c⟩ := Y
    have hmg : mg ("law" : PySem.Str) = some (.ref fa) := by
      have e : (HandSHeadRun.topDef (OpenLaw.row PySem.Challenge.rw_seenposts_k94_whole_windows_by_turns).prog 56).name = ("law" : PySem.Str) := by kernel_rfl
      rw [← e]
      exact hmg0
    obtain ⟨fd, hb, hF⟩ := K94.facts (w := w) KX G hmg c
    exact ⟨K, fd, K94.spLaw K, KX, hb, fun H a ns hl _ hS => ⟨a, ns, rfl, hS, fun _ => rfl⟩, hF⟩
