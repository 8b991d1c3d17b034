/-
  DERIVED. Several texts in one: Args, DecA, DecB, DecC, DecD, DecE, DecF, DecG, OpdA, OpdB, OpdC, Num, DlA, Region, Base, LgK.
-/
import Derived.Test.YtpicmhbjiaegpaaGreatDoorRows
import Derived.WalkKit
import Derived.ProofKit
import Derived.OpenShut
import Derived.Lib.ItoaNum
import Derived.Lib.AtoiAll
import Derived.OrdersHeld
import Derived.StillTail
import Derived.WalkSpells
import Derived.WalkLawsBesides
import Derived.BigQuiet
import Derived.Lib.Hide
import Derived.OwnWalk
import Derived.OneCell
import Derived.Laws.CopyOwn
import Derived.Laws.AppendOwnNone
import Derived.Deep.QuietTactic
import Derived.Deep.RegionWith
import Derived.Deep.DeepFit
import Derived.Deep.DeepMust
import Derived.Deep.RegionHeld3
import Derived.Deep.AppendLies
namespace Go.Proofs.YtpicmhbjiaegpaaGreatDoor
open Go.ChangeShapes Go.WideShapes Go.ChangeAt Go.RowKit
variable {P : Program}

theorem ownKnob_none : ownKnob Tryz.prog.godebug = none := by kernel_rfl
theorem laidOut_all : laidOutB Tryz.prog = true := by kernel_rfl

/-- all arguments read behind the call as they did -/
theorem trodAll_below {H : Type} {enc : TypeId × Value → H} {W W' : World} (hb : Below W.heap.size W W') :
    ∀ (ts : List TypeId) (vs : List Value) (ds : List (DataW H)) (ps : List MemPlace), (∀ t ∈ ts, Tryz.prog.readableRec t = true ∧ t < Tryz.prog.types.size) → DataW.TrodAll enc Tryz.prog W 0 (fun _ => true) true ts vs ds ps →
      DataW.TrodAll enc Tryz.prog W' 0 (fun b => decide (b < W.heap.size)) true ts vs ds ps
  | [], vs, ds, ps, _, h => by
    obtain ⟨rfl, rfl, rfl⟩ := trodAll_nil h
    exact trodAll_mk0
  | t :: ts, vs, ds, ps, hr, h => by
    obtain ⟨v, vs', d, ds', p, q, rfl, rfl, rfl, h0, h1⟩ := trodAll_cons h
    refine trodAll_cons_mk (Below.trod laidOut_all (hr t (by simp)).1 (hr t (by simp)).2 h0 hb ?_) (trodAll_below hb ts vs' ds' q (fun u hu => hr u (by simp [hu])) h1)
    obtain ⟨m, hm⟩ := h0
    exact DataW.trod_lt m _ _ _ hm

theorem list2 {α : Type} {l : List α} (h : l.length = 2) : ∃ a b, l = [a, b] := by
  match l, h with
  | [a, b], _ => exact ⟨a, b, rfl⟩
theorem list3 {α : Type} {l : List α} (h : l.length = 3) : ∃ a b c, l = [a, b, c] := by
  match l, h with
  | [a, b, c], _ => exact ⟨a, b, c, rfl⟩
theorem all_of {ts : List TypeId} (h : ts.all (fun t => P.readableRec t && decide (t < P.types.size)) = true) : ∀ t ∈ ts, P.readableRec t = true ∧ t < P.types.size := by
  intro t ht
  have := List.all_eq_true.1 h t ht
  simpa using this

theorem wf_of_cell {t : TypeId} {k : IntKind} {W : World} {base : Nat} {v : Value} (ht : P.underlying t = some (.int k)) (h : Cell.okWide P W .any base t v) :
    ∃ n, v = .int k n ∧ k.has n := by
  unfold Cell.okWide at h
  rw [ht] at h
  unfold Cell.ok at h
  rw [ht] at h
  cases v <;> simp_all

/-- an array of integers -/
theorem okWide_arr {t e : TypeId} {k : IntKind} {n : Nat} {W : World} {base : Nat} {v : Value} (ht : P.underlying t = some (.array n e)) (hc : P.cellsOf t = n)
    (hct : P.cellTypes P.depth t = some (List.replicate n e)) (he : P.underlying e = some (.int k)) (h : Value.okWide P W .any base t v) :
    ∃ zs : List Int, v = .agg (zs.map (Value.int k)).toArray ∧ zs.length = n ∧ ∀ z ∈ zs, k.has z := by
  unfold Value.okWide at h
  rw [ht] at h
  obtain ⟨cs, rfl, hs, ts, hts, -, hcs⟩ := h
  rw [hct] at hts
  obtain rfl : List.replicate n e = ts := by simpa using hts
  have key : ∀ l : List Value, (∀ x ∈ l, ∃ z, x = .int k z ∧ k.has z) → ∃ zs : List Int, l = zs.map (Value.int k) ∧ zs.length = l.length ∧ ∀ z ∈ zs, k.has z := by
    intro l
    induction l with
    | nil => exact fun _ => ⟨[], rfl, rfl, fun z hz => by simp at hz⟩
    | cons x l ih =>
      intro hl
      obtain ⟨z, rfl, hz⟩ := hl x (by simp)
      obtain ⟨zs, rfl, h2, h3⟩ := ih (fun y hy => hl y (by simp [hy]))
      exact ⟨z :: zs, rfl, by simp, fun y hy => by
        simp at hy
        rcases hy with rfl | hy
        · exact hz
        · exact h3 y hy⟩
  obtain ⟨zs, h1, h2, h3⟩ := key cs.toList (fun x hx => by
    obtain ⟨i, hi, rfl⟩ := List.getElem_of_mem hx
    have hi' : i < cs.size := by simpa using hi
    obtain ⟨u, hu, hc2⟩ := hcs i cs.toList[i] (by simp)
    have hn : n ≠ 0 := by
      rw [hs, hc] at hi'
      exact Nat.ne_of_gt (Nat.lt_of_le_of_lt (Nat.zero_le _) hi')
    have hm : i % n < n := Nat.mod_lt _ (Nat.pos_of_ne_zero hn)
    rw [List.length_replicate, List.getElem?_replicate, if_pos hm] at hu
    simp at hu
    subst hu
    exact wf_of_cell he hc2)
  refine ⟨zs, ?_, by rw [h2]; simp [hs, hc], h3⟩
  rw [← h1]

end Go.Proofs.YtpicmhbjiaegpaaGreatDoor

namespace Go.Proofs.YtpicmhbjiaegpaaGreatDoor
open Go.Lib

/-- the places behind the point: as many as are needed -/
def placesT : Nat → Nat → List UInt8
  | 0, _ => []
  | d + 1, r => if r = 0 then [] else UInt8.ofNat (48 + r / 10 ^ d) :: placesT d (r % 10 ^ d)

/-- the text of u / 10^d -/
def wholeT (u d : Nat) : List UInt8 := decDigits (u / 10 ^ d) ++ (if u % 10 ^ d = 0 then [] else 46 :: placesT d (u % 10 ^ d))
def numT (n : Int) (d : Nat) : List UInt8 := (if n < 0 then [45] else []) ++ wholeT n.natAbs d

/-- all places, zeros too -/
def allT : Nat → Nat → List UInt8
  | 0, _ => []
  | d + 1, r => UInt8.ofNat (48 + r / 10 ^ d % 10) :: allT d (r % 10 ^ d)

def isZero (b : UInt8) : Bool := b == 48
/-- strings.TrimRight(s, "0") -/
def trimR (l : List UInt8) : List UInt8 := (l.reverse.dropWhile isZero).reverse

theorem trimR_append_zero (l : List UInt8) : trimR (l ++ [48]) = trimR l := by
  unfold trimR
  rw [List.reverse_append]
  rfl
theorem trimR_append_ne (l : List UInt8) {b : UInt8} (h : b ≠ 48) : trimR (l ++ [b]) = l ++ [b] := by
  unfold trimR
  rw [List.reverse_append]
  have : isZero b = false := by unfold isZero; simpa using h
  simp [this]
theorem trimR_zeros (k : Nat) : trimR (List.replicate k 48) = [] := by
  unfold trimR
  rw [List.reverse_replicate]
  have : (List.replicate k (48 : UInt8)).dropWhile isZero = [] := by
    induction k with
    | zero => rfl
    | succ k ih => rw [List.replicate_succ]; exact ih
  rw [this]; rfl
theorem trimR_cons {b : UInt8} {l : List UInt8} (h : b ≠ 48) : trimR (b :: l) = b :: trimR l := by
  have hb : isZero b = false := by unfold isZero; simpa using h
  unfold trimR
  rw [List.reverse_cons, List.dropWhile_append]
  cases hd : (l.reverse.dropWhile isZero) with
  | nil => simp [List.dropWhile, hb]
  | cons x xs => simp
theorem trimR_cons_ne {b : UInt8} {l : List UInt8} (h : trimR l ≠ []) : trimR (b :: l) = b :: trimR l := by
  unfold trimR at h ⊢
  rw [List.reverse_cons, List.dropWhile_append]
  cases hd : (l.reverse.dropWhile isZero) with
  | nil => rw [hd] at h; exact absurd rfl h
  | cons x xs => simp

theorem allT_length : ∀ d r, (allT d r).length = d
  | 0, _ => rfl
  | d + 1, r => by rw [allT, List.length_cons, allT_length d]
theorem allT_zero : ∀ d, allT d 0 = List.replicate d 48
  | 0 => rfl
  | d + 1 => by rw [allT, Nat.zero_div, Nat.zero_mod, Nat.zero_mod, allT_zero d]; rfl

theorem ofNat_ne48 {k : Nat} (h1 : 0 < k) (h2 : k < 10) : UInt8.ofNat (48 + k) ≠ 48 := by
  intro h
  have := congrArg UInt8.toNat h
  rw [UInt8.toNat_ofNat'] at this
  have e : (48 : UInt8).toNat = 48 := rfl
  rw [e] at this
  omega

theorem trim_allT : ∀ (d r : Nat), r < 10 ^ d → trimR (allT d r) = placesT d r
  | 0, _, _ => rfl
  | d + 1, r, h => by
    have hp : 0 < 10 ^ d := Nat.pow_pos (by omega)
    have hq : r / 10 ^ d < 10 := by
      rw [Nat.div_lt_iff_lt_mul hp]; rw [Nat.pow_succ] at h; omega
    rw [allT, placesT, Nat.mod_eq_of_lt hq]
    by_cases hr : r = 0
    · rw [if_pos hr, hr, Nat.zero_div, Nat.zero_mod, allT_zero]
      exact trimR_zeros (d + 1)
    · rw [if_neg hr]
      have ih := trim_allT d (r % 10 ^ d) (Nat.mod_lt _ hp)
      by_cases hz : r / 10 ^ d = 0
      · have hm : r % 10 ^ d = r := Nat.mod_eq_of_lt (by
          rcases Nat.lt_or_ge r (10 ^ d) with h' | h'
          · exact h'
          · have := Nat.div_pos h' hp; omega)
        have hne : trimR (allT d (r % 10 ^ d)) ≠ [] := by
          rw [ih, hm]
          cases d with
          | zero =>
            have hh := Nat.mod_lt r hp
            rw [hm, Nat.pow_zero] at hh
            omega
          | succ d => rw [placesT, if_neg hr]; exact List.cons_ne_nil _ _
        rw [trimR_cons_ne hne, ih]
      · rw [trimR_cons (ofNat_ne48 (Nat.pos_of_ne_zero hz) hq), ih]

/-- the digits of u, the last d of them apart -/
theorem decDigits_split : ∀ (d u : Nat), 10 ^ d ≤ u → decDigits u = decDigits (u / 10 ^ d) ++ allT d (u % 10 ^ d)
  | 0, u, _ => by simp [allT]
  | d + 1, u, h => by
    have hp : 0 < 10 ^ d := Nat.pow_pos (by omega)
    have h1 : 10 ^ d ≤ u := Nat.le_trans (Nat.pow_le_pow_right (by omega) (by omega)) h
    have hbig : ¬ u / 10 ^ d < 10 := by
      intro hlt
      rw [Nat.div_lt_iff_lt_mul hp] at hlt
      rw [Nat.pow_succ] at h; omega
    rw [decDigits_split d u h1, decDigits, dif_neg hbig, allT, Nat.pow_succ, Nat.div_div_eq_div_mul, List.append_assoc]
    congr 1
    have e1 : u % (10 ^ d * 10) / 10 ^ d % 10 = u / 10 ^ d % 10 := by
      rw [Nat.mod_mul_right_div_self, Nat.mod_mod]
    have e2 : u % (10 ^ d * 10) % 10 ^ d = u % 10 ^ d := Nat.mod_mod_of_dvd _ (Nat.dvd_mul_right _ _)
    rw [e1, e2]; rfl

theorem nDigits_ge : ∀ {d u : Nat}, 10 ^ d ≤ u → d + 1 ≤ nDigits u
  | 0, u, _ => nDigits_pos u
  | d + 1, u, h => by
    have hb : ¬ u < 10 := by
      have hp : 0 < 10 ^ d := Nat.pow_pos (by omega)
      rw [Nat.pow_succ] at h; omega
    rw [nDigits_big hb]
    have := nDigits_ge (d := d) (u := u / 10) (by rw [Nat.pow_succ] at h; omega)
    omega
theorem nDigits_le_of_lt : ∀ {d u : Nat}, u < 10 ^ d → 1 ≤ d → nDigits u ≤ d
  | 0, _, _, h => absurd h (by omega)
  | d + 1, u, h, _ => by
    by_cases hb : u < 10
    · rw [nDigits_small hb]; omega
    · rw [nDigits_big hb]
      have h2 : u / 10 < 10 ^ d := by rw [Nat.pow_succ] at h; omega
      have hd : 1 ≤ d := by
        cases d with
        | zero => rw [Nat.pow_zero] at h2; omega
        | succ d => omega
      have := nDigits_le_of_lt h2 hd
      omega
theorem allT_pad : ∀ (d u : Nat), u < 10 ^ d → 1 ≤ d → allT d u = List.replicate (d - nDigits u) 48 ++ decDigits u
  | 0, _, _, h => absurd h (by omega)
  | d + 1, u, h, _ => by
    have hp : 0 < 10 ^ d := Nat.pow_pos (by omega)
    have hq : u / 10 ^ d < 10 := by
      rw [Nat.div_lt_iff_lt_mul hp]; rw [Nat.pow_succ] at h; omega
    by_cases hu : 10 ^ d ≤ u
    · have hn : nDigits u = d + 1 := nDigits_unique d u hu h
      rw [hn, Nat.sub_self, List.replicate_zero, List.nil_append, decDigits_split d u hu, allT, Nat.mod_eq_of_lt hq]
      rw [decDigits, dif_pos hq]; rfl
    · have hu' : u < 10 ^ d := by omega
      rw [allT, Nat.div_eq_of_lt hu', Nat.mod_eq_of_lt hu']
      cases d with
      | zero =>
        have : u = 0 := by rw [Nat.pow_zero] at hu'; omega
        subst this
        rw [nDigits_small (by omega), decDigits, dif_pos (by omega)]; rfl
      | succ d =>
        rw [allT_pad (d + 1) u hu' (by omega)]
        have hle : nDigits u ≤ d + 1 := by
          rcases Nat.lt_or_ge (d + 1) (nDigits u) with hlt | hge
          · have h1 := nDigits_le_of_lt hu' (by omega); omega
          · exact hge
        rw [show d + 1 + 1 - nDigits u = (d + 1 - nDigits u) + 1 by omega, List.replicate_succ]; rfl

/-- the digits with zeros ahead, so that there are more than d -/
theorem padded (d u : Nat) : List.replicate (d + 1 - (decDigits u).length) 48 ++ decDigits u = decDigits (u / 10 ^ d) ++ allT d (u % 10 ^ d) := by
  rw [decDigits_length]
  have hp : 0 < 10 ^ d := Nat.pow_pos (by omega)
  by_cases hu : 10 ^ d ≤ u
  · have hn : d + 1 ≤ nDigits u := nDigits_ge hu
    rw [show d + 1 - nDigits u = 0 by omega, List.replicate_zero, List.nil_append, decDigits_split d u hu]
  · have hu' : u < 10 ^ d := by omega
    have h2 : u < 10 ^ (d + 1) := Nat.lt_of_lt_of_le hu' (Nat.pow_le_pow_right (by omega) (by omega))
    rw [← allT_pad (d + 1) u h2 (by omega), Nat.div_eq_of_lt hu', Nat.mod_eq_of_lt hu', allT, Nat.div_eq_of_lt hu', Nat.mod_eq_of_lt hu', decDigits, dif_pos (by omega)]; rfl

/-! ### dec.written -/
/-- what dec.written lays behind the sign: s the digits -/
def writtenU (s : List UInt8) (d : Nat) : List UInt8 :=
  let z := List.replicate (d + 1 - s.length) 48 ++ s
  let p := trimR (z.drop (z.length - d))
  z.take (z.length - d) ++ (if p = [] then [] else 46 :: p)
theorem placesT_nil : ∀ {d r : Nat}, r < 10 ^ d → (placesT d r = [] ↔ r = 0)
  | 0, r, h => by rw [Nat.pow_zero] at h; exact ⟨fun _ => by omega, fun _ => rfl⟩
  | d + 1, r, _ => by
    rw [placesT]
    by_cases h : r = 0
    · rw [if_pos h]; exact ⟨fun _ => h, fun _ => rfl⟩
    · rw [if_neg h]; exact ⟨fun e => (List.cons_ne_nil _ _ e).elim, fun e => (h e).elim⟩
theorem writtenU_eq (d u : Nat) : writtenU (decDigits u) d = wholeT u d := by
  have hp : 0 < 10 ^ d := Nat.pow_pos (by omega)
  have hm := Nat.mod_lt u hp
  unfold writtenU wholeT
  simp only []
  rw [padded, List.length_append, allT_length, Nat.add_sub_cancel]
  rw [List.drop_left' rfl, List.take_left' rfl, trim_allT d _ hm]
  congr 1
  by_cases h : u % 10 ^ d = 0
  · rw [if_pos h, if_pos ((placesT_nil hm).2 h)]
  · rw [if_neg h, if_neg (fun e => h ((placesT_nil hm).1 e))]

/-! ### the reference's places: a digit at a time, the power falling -/
theorem decDigits_digit {k : Nat} (h : k < 10) : decDigits k = [UInt8.ofNat (48 + k)] := by rw [decDigits, dif_pos h]
theorem placesT_step {d r : Nat} (hr : r ≠ 0) (h : r < 10 ^ (d + 1)) : placesT (d + 1) r = decDigits (r / 10 ^ d) ++ placesT d (r % 10 ^ d) := by
  have hp : 0 < 10 ^ d := Nat.pow_pos (by omega)
  rw [placesT, if_neg hr, decDigits_digit (by rw [Nat.div_lt_iff_lt_mul hp]; rw [Nat.pow_succ] at h; omega)]; rfl
end Go.Proofs.YtpicmhbjiaegpaaGreatDoor

namespace Go.Proofs.YtpicmhbjiaegpaaGreatDoor
open Go.Lib

def isD (b : UInt8) : Bool := decide (48 ≤ b.toNat ∧ b.toNat ≤ 57)
/-- the number of a row of digits -/
def valD (a : Nat) (l : List UInt8) : Nat := l.foldl (fun a b => 10 * a + (b.toNat - 48)) a
theorem valD_nil (a : Nat) : valD a [] = a := rfl
theorem valD_cons (a : Nat) (b : UInt8) (l : List UInt8) : valD a (b :: l) = valD (10 * a + (b.toNat - 48)) l := by
  unfold valD; rw [List.foldl_cons]
attribute [irreducible] valD
theorem valD_append : ∀ (l m : List UInt8) (a : Nat), valD a (l ++ m) = valD (valD a l) m
  | [], m, a => by rw [valD_nil, List.nil_append]
  | b :: l, m, a => by rw [List.cons_append, valD_cons, valD_append l m, valD_cons]
theorem toNat_digit {k : Nat} (h : k < 10) : (UInt8.ofNat (48 + k)).toNat = 48 + k := by
  rw [UInt8.toNat_ofNat']; omega
theorem isD_digit {k : Nat} (h : k < 10) : isD (UInt8.ofNat (48 + k)) = true := by
  unfold isD; rw [toNat_digit h]; simp; omega
theorem digit_of {b : UInt8} (h : isD b = true) : ∃ k, k < 10 ∧ b = UInt8.ofNat (48 + k) := by
  unfold isD at h
  have h := of_decide_eq_true h
  refine ⟨b.toNat - 48, by omega, ?_⟩
  rw [show 48 + (b.toNat - 48) = b.toNat by omega]
  exact (UInt8.ofNat_toNat).symm
theorem valD_decDigits (u : Nat) : valD 0 (decDigits u) = u := by
  induction u using Nat.strongRecOn with
  | _ u ih =>
    by_cases h : u < 10
    · rw [decDigits_digit h, valD_cons, valD_nil, toNat_digit h]; omega
    · rw [decDigits, dif_neg h, valD_append, ih (u / 10) (by omega), valD_cons, valD_nil, toNat_digit (by omega)]; omega
theorem all_decDigits (u : Nat) : ∀ b ∈ decDigits u, isD b = true := by
  induction u using Nat.strongRecOn with
  | _ u ih =>
    by_cases h : u < 10
    · rw [decDigits_digit h]; intro b hb; rw [List.mem_singleton.1 hb]; exact isD_digit h
    · rw [decDigits, dif_neg h]
      intro b hb
      rcases List.mem_append.1 hb with hb | hb
      · exact ih (u / 10) (by omega) b hb
      · rw [List.mem_singleton.1 hb]; exact isD_digit (by omega)
theorem decDigits_pos {u : Nat} (h : 0 < u) : ∃ k l, 0 < k ∧ k < 10 ∧ decDigits u = UInt8.ofNat (48 + k) :: l := by
  induction u using Nat.strongRecOn with
  | _ u ih =>
    by_cases hs : u < 10
    · exact ⟨u, [], h, hs, decDigits_digit hs⟩
    · obtain ⟨k, l, h1, h2, e⟩ := ih (u / 10) (by omega) (by omega)
      refine ⟨k, l ++ [UInt8.ofNat (48 + u % 10)], h1, h2, ?_⟩
      rw [decDigits, dif_neg hs, e]; rfl
/-- a row of digits without a zero ahead is the text of its number -/
theorem decDigits_valD_aux : ∀ (l : List UInt8) (a : Nat), 0 < a → (∀ b ∈ l, isD b = true) → decDigits (valD a l) = decDigits a ++ l
  | [], a, _, _ => by rw [valD_nil, List.append_nil]
  | b :: l, a, ha, h => by
    obtain ⟨k, hk, rfl⟩ := digit_of (h b (List.mem_cons_self))
    rw [valD_cons, toNat_digit hk, decDigits_valD_aux l _ (by omega) (fun c hc => h c (List.mem_cons_of_mem _ hc))]
    have : decDigits (10 * a + (48 + k - 48)) = decDigits a ++ [UInt8.ofNat (48 + k)] := by
      rw [decDigits, dif_neg (by omega)]
      rw [show (10 * a + (48 + k - 48)) / 10 = a by omega, show (10 * a + (48 + k - 48)) % 10 = k by omega]
    rw [this, List.append_assoc]; rfl
theorem decDigits_valD {l : List UInt8} (h : ∀ b ∈ l, isD b = true) (hne : l ≠ []) (h0 : l.length = 1 ∨ l.head? ≠ some 48) : decDigits (valD 0 l) = l := by
  cases l with
  | nil => exact absurd rfl hne
  | cons b l =>
    obtain ⟨k, hk, rfl⟩ := digit_of (h b (List.mem_cons_self))
    rw [valD_cons, toNat_digit hk]
    by_cases hz : k = 0
    · subst hz
      rcases h0 with h0 | h0
      · have : l = [] := by cases l with
          | nil => rfl
          | cons _ _ => simp at h0
        subst this
        rw [valD_nil, decDigits_digit (by omega)]
      · exact absurd rfl h0
    · rw [decDigits_valD_aux l _ (by omega) (fun c hc => h c (List.mem_cons_of_mem _ hc)), decDigits_digit (by omega)]
      rw [show 10 * 0 + (48 + k - 48) = k by omega]; rfl

/-- places as a number -/
theorem valD_lt : ∀ (l : List UInt8) (a : Nat), (∀ b ∈ l, isD b = true) → valD a l < (a + 1) * 10 ^ l.length
  | [], a, _ => by rw [valD_nil, List.length_nil, Nat.pow_zero]; omega
  | b :: l, a, h => by
    obtain ⟨k, hk, rfl⟩ := digit_of (h b (List.mem_cons_self))
    have ih := valD_lt l (10 * a + (48 + k - 48)) (fun c hc => h c (List.mem_cons_of_mem _ hc))
    rw [valD_cons, toNat_digit hk, List.length_cons, Nat.pow_succ]
    refine Nat.lt_of_lt_of_le ih ?_
    have : (10 * a + (48 + k - 48) + 1) ≤ (a + 1) * 10 := by omega
    calc _ ≤ ((a + 1) * 10) * 10 ^ l.length := Nat.mul_le_mul_right _ this
      _ = (a + 1) * (10 ^ l.length * 10) := by rw [Nat.mul_assoc, Nat.mul_comm 10]
theorem valD_shift : ∀ (l : List UInt8) (a : Nat), valD a l = a * 10 ^ l.length + valD 0 l
  | [], a => by rw [valD_nil, valD_nil, List.length_nil, Nat.pow_zero]; omega
  | b :: l, a => by
    rw [valD_cons, valD_cons, valD_shift l (10 * a + (b.toNat - 48)), valD_shift l (10 * 0 + (b.toNat - 48)), List.length_cons, Nat.pow_succ]
    rw [Nat.mul_zero, Nat.zero_add, Nat.add_mul, Nat.mul_comm 10 a, Nat.mul_assoc, Nat.mul_comm 10 (10 ^ l.length)]
    omega
end Go.Proofs.YtpicmhbjiaegpaaGreatDoor

namespace Go.Proofs.YtpicmhbjiaegpaaGreatDoor
open Go.Lib

theorem placesT_digits : ∀ (d r : Nat), r < 10 ^ d → ∀ b ∈ placesT d r, isD b = true
  | 0, _, _, b, hb => by simp [placesT] at hb
  | d + 1, r, h, b, hb => by
    have hp : 0 < 10 ^ d := Nat.pow_pos (by omega)
    rw [placesT] at hb
    by_cases hr : r = 0
    · rw [if_pos hr] at hb; cases hb
    · rw [if_neg hr] at hb
      rcases List.mem_cons.1 hb with rfl | hb
      · exact isD_digit (by rw [Nat.div_lt_iff_lt_mul hp]; rw [Nat.pow_succ] at h; omega)
      · exact placesT_digits d _ (Nat.mod_lt _ hp) b hb
theorem placesT_len : ∀ (d r : Nat), (placesT d r).length ≤ d
  | 0, _ => Nat.le_refl _
  | d + 1, r => by
    rw [placesT]
    split
    · exact Nat.zero_le _
    · rw [List.length_cons]; exact Nat.succ_le_succ (placesT_len d _)
/-- a row of d digits whose last is no zero is the places of its number -/
theorem placesT_valD : ∀ (l : List UInt8), (∀ b ∈ l, isD b = true) → l.getLast? ≠ some 48 → placesT l.length (valD 0 l) = l
  | [], _, _ => by rw [List.length_nil, placesT]
  | b :: l, h, hl => by
    obtain ⟨k, hk, rfl⟩ := digit_of (h b (List.mem_cons_self))
    have hd : ∀ c ∈ l, isD c = true := fun c hc => h c (List.mem_cons_of_mem _ hc)
    have hlt : valD 0 l < 10 ^ l.length := by have := valD_lt l 0 hd; omega
    have hp : 0 < 10 ^ l.length := Nat.pow_pos (by omega)
    have e : valD 0 (UInt8.ofNat (48 + k) :: l) = k * 10 ^ l.length + valD 0 l := by
      rw [valD_cons, toNat_digit hk, valD_shift]
      rw [show 10 * 0 + (48 + k - 48) = k by omega]
    have hne : valD 0 (UInt8.ofNat (48 + k) :: l) ≠ 0 := by
      rw [e]
      intro h0
      have hv0 : valD 0 l = 0 := by omega
      have hk0 : k = 0 := by
        rcases Nat.eq_zero_or_pos k with hz | hz
        · exact hz
        · have := Nat.mul_pos hz hp; omega
      subst hk0
      cases l with
      | nil => exact hl rfl
      | cons c m =>
        have hl' : (c :: m).getLast? ≠ some 48 := by rw [List.getLast?_cons_cons] at hl; exact hl
        have := placesT_valD (c :: m) hd hl'
        rw [hv0, List.length_cons, placesT, if_pos rfl] at this
        cases this
    rw [List.length_cons, placesT, if_neg hne, e]
    have h1 : (k * 10 ^ l.length + valD 0 l) / 10 ^ l.length = k := by
      rw [Nat.mul_comm, Nat.mul_add_div hp, Nat.div_eq_of_lt hlt, Nat.add_zero]
    have h2 : (k * 10 ^ l.length + valD 0 l) % 10 ^ l.length = valD 0 l := by
      rw [Nat.mul_comm, Nat.mul_add_mod, Nat.mod_eq_of_lt hlt]
    rw [h1, h2]
    congr 1
    cases l with
    | nil => rw [List.length_nil, placesT]
    | cons c m => exact placesT_valD (c :: m) hd (by rw [List.getLast?_cons_cons] at hl; exact hl)
theorem valD_placesT : ∀ (d r : Nat), r < 10 ^ d → valD 0 (placesT d r) * 10 ^ (d - (placesT d r).length) = r
  | 0, r, h => by rw [Nat.pow_zero] at h; rw [placesT, valD_nil]; omega
  | d + 1, r, h => by
    have hp : 0 < 10 ^ d := Nat.pow_pos (by omega)
    rw [placesT]
    by_cases hr : r = 0
    · rw [if_pos hr, valD_nil, hr, Nat.zero_mul]
    · rw [if_neg hr]
      have hq : r / 10 ^ d < 10 := by rw [Nat.div_lt_iff_lt_mul hp]; rw [Nat.pow_succ] at h; omega
      have ih := valD_placesT d (r % 10 ^ d) (Nat.mod_lt _ hp)
      have hl := placesT_len d (r % 10 ^ d)
      rw [valD_cons, toNat_digit hq, valD_shift, List.length_cons, Nat.add_mul, Nat.mul_assoc, ← Nat.pow_add]
      rw [show d + 1 - ((placesT d (r % 10 ^ d)).length + 1) = d - (placesT d (r % 10 ^ d)).length by omega, ih]
      rw [show (placesT d (r % 10 ^ d)).length + (d - (placesT d (r % 10 ^ d)).length) = d by omega]
      rw [Nat.mul_zero, Nat.zero_add, Nat.add_sub_cancel_left]
      have := Nat.div_add_mod r (10 ^ d)
      rw [Nat.mul_comm] at this; exact this
end Go.Proofs.YtpicmhbjiaegpaaGreatDoor

namespace Go.Proofs.YtpicmhbjiaegpaaGreatDoor
open Go.Lib

/-- the places of a text without its sign -/
def formT (t : List UInt8) : Option Nat :=
  let w := t.takeWhile isD
  if w = [] ∨ (1 < w.length ∧ w.head? = some 48) then none
  else match t.dropWhile isD with
    | [] => some 0
    | b :: f => if b = 46 ∧ f ≠ [] ∧ f.all isD = true ∧ f.getLast? ≠ some 48 then some f.length else none
/-- a text without its sign, and whether it had one -/
def unsign (s : List UInt8) : Bool × List UInt8 := match s with
  | 45 :: t => (true, t)
  | s => (false, s)
def decForm (s : List UInt8) : Option Nat := if s = [45, 48] then none else formT (unsign s).2
/-- the number of all digits -/
def numV (s : List UInt8) : Int := if (unsign s).1 then -((valD 0 (s.filter isD) : Nat) : Int) else ((valD 0 (s.filter isD) : Nat) : Int)
/-- how many digits stand behind the first point -/
def placesR : Bool → List UInt8 → Nat
  | _, [] => 0
  | h, b :: l => (if isD b && h then 1 else 0) + placesR (h || b == 46) l

theorem placesR_true : ∀ (l : List UInt8), l.all isD = true → placesR true l = l.length
  | [], _ => rfl
  | b :: l, h => by
    rw [List.all_cons, Bool.and_eq_true] at h
    rw [placesR, h.1, Bool.true_or, placesR_true l h.2, List.length_cons]
    simp; omega
theorem not46 {b : UInt8} (h : isD b = true) : (b == 46) = false := by
  obtain ⟨k, hk, rfl⟩ := digit_of h
  rw [beq_eq_false_iff_ne]
  intro e
  have := congrArg UInt8.toNat e
  rw [toNat_digit hk] at this
  have e' : (46 : UInt8).toNat = 46 := rfl
  rw [e'] at this; omega
theorem not45 {b : UInt8} (h : isD b = true) : b ≠ 45 := by
  obtain ⟨k, hk, rfl⟩ := digit_of h
  intro e
  have := congrArg UInt8.toNat e
  rw [toNat_digit hk] at this
  have e' : (45 : UInt8).toNat = 45 := rfl
  rw [e'] at this; omega
theorem placesR_false : ∀ (w r : List UInt8), w.all isD = true → placesR false (w ++ r) = placesR false r
  | [], _, _ => rfl
  | b :: l, r, h => by
    rw [List.all_cons, Bool.and_eq_true] at h
    rw [List.cons_append, placesR, h.1, not46 h.1, Bool.false_or, placesR_false l r h.2]
    simp
theorem filter_all {l : List UInt8} (h : l.all isD = true) : l.filter isD = l := List.filter_eq_self.2 (List.all_eq_true.1 h)

/-- what a text without sign is that has a form -/
theorem formT_some {t : List UInt8} {p : Nat} (h : formT t = some p) : ∃ w f, w.all isD = true ∧ w ≠ [] ∧ (w.length = 1 ∨ w.head? ≠ some 48) ∧ f.all isD = true ∧ f.getLast? ≠ some 48 ∧ f.length = p ∧ t = w ++ (if f = [] then [] else 46 :: f) := by
  unfold formT at h
  simp only [] at h
  split at h
  · cases h
  · rename_i hw
    have hw1 : t.takeWhile isD ≠ [] := fun e => hw (.inl e)
    have hw2 : (t.takeWhile isD).length = 1 ∨ (t.takeWhile isD).head? ≠ some 48 := by
      by_cases h1 : 1 < (t.takeWhile isD).length
      · exact .inr fun e => hw (.inr ⟨h1, e⟩)
      · have : 0 < (t.takeWhile isD).length := List.length_pos_iff.2 hw1
        exact .inl (by omega)
    have hall : (t.takeWhile isD).all isD = true := List.all_takeWhile
    have ht : t.takeWhile isD ++ t.dropWhile isD = t := List.takeWhile_append_dropWhile
    split at h
    · rename_i e
      cases h
      refine ⟨t.takeWhile isD, [], hall, hw1, hw2, rfl, by simp, rfl, ?_⟩
      rw [e] at ht
      rw [if_pos rfl]; exact ht.symm
    · rename_i b f e
      split at h
      · rename_i hf
        cases h
        refine ⟨t.takeWhile isD, f, hall, hw1, hw2, hf.2.2.1, hf.2.2.2, rfl, ?_⟩
        rw [if_neg hf.2.1, ← hf.1, ← e]; exact ht.symm
      · cases h
end Go.Proofs.YtpicmhbjiaegpaaGreatDoor

namespace Go.Proofs.YtpicmhbjiaegpaaGreatDoor
open Go.Lib

theorem getLast_placesT : ∀ (d r : Nat), r < 10 ^ d → (placesT d r).getLast? ≠ some 48
  | 0, _, _ => by simp [placesT]
  | d + 1, r, h => by
    have hp : 0 < 10 ^ d := Nat.pow_pos (by omega)
    have hq : r / 10 ^ d < 10 := by rw [Nat.div_lt_iff_lt_mul hp]; rw [Nat.pow_succ] at h; omega
    have ih := getLast_placesT d (r % 10 ^ d) (Nat.mod_lt _ hp)
    rw [placesT]
    by_cases hr : r = 0
    · rw [if_pos hr]; simp
    · rw [if_neg hr]
      cases e : placesT d (r % 10 ^ d) with
      | nil =>
        have hm := (placesT_nil (Nat.mod_lt r hp)).1 e
        have hk : r / 10 ^ d ≠ 0 := by
          intro hz
          have := Nat.div_add_mod r (10 ^ d)
          rw [hz, hm, Nat.mul_zero] at this; exact hr this.symm
        rw [List.getLast?_singleton]
        intro e2
        exact ofNat_ne48 (Nat.pos_of_ne_zero hk) hq (Option.some.inj e2)
      | cons c m =>
        rw [List.getLast?_cons_cons]; rw [e] at ih; exact ih
theorem takeWhile_all {w r : List UInt8} (h : w.all isD = true) (hr : ∀ b m, r = b :: m → isD b = false) : (w ++ r).takeWhile isD = w ∧ (w ++ r).dropWhile isD = r := by
  induction w with
  | nil =>
    cases r with
    | nil => exact ⟨rfl, rfl⟩
    | cons b m => rw [List.nil_append, List.takeWhile_cons, List.dropWhile_cons, hr b m rfl]; exact ⟨rfl, rfl⟩
  | cons c w ih =>
    rw [List.all_cons, Bool.and_eq_true] at h
    have ih := ih h.2
    rw [List.cons_append, List.takeWhile_cons, List.dropWhile_cons, h.1, if_pos rfl, if_pos rfl, ih.1, ih.2]
    exact ⟨rfl, rfl⟩
theorem formT_of {w f : List UInt8} (hw : w.all isD = true) (hne : w ≠ []) (h0 : w.length = 1 ∨ w.head? ≠ some 48) (hf : f.all isD = true) (hl : f.getLast? ≠ some 48) : formT (w ++ (if f = [] then [] else 46 :: f)) = some f.length := by
  have ht := takeWhile_all (w := w) (r := if f = [] then [] else 46 :: f) hw (by
    intro b m e
    by_cases hf0 : f = []
    · rw [if_pos hf0] at e; cases e
    · rw [if_neg hf0] at e; cases e; rfl)
  unfold formT
  simp only []
  rw [ht.1, ht.2, if_neg (by
    intro h
    rcases h with h | ⟨h1, h2⟩
    · exact hne h
    · rcases h0 with h0 | h0
      · omega
      · exact h0 h2)]
  by_cases hf0 : f = []
  · subst hf0; rfl
  · rw [if_neg hf0]
    simp only []
    rw [if_pos ⟨trivial, hf0, hf, hl⟩]
theorem head_decDigits (u : Nat) : (decDigits u).length = 1 ∨ (decDigits u).head? ≠ some 48 := by
  rcases Nat.eq_zero_or_pos u with h | h
  · subst h; left; rw [decDigits_digit (by omega)]; rfl
  · right
    obtain ⟨k, l, h1, h2, e⟩ := decDigits_pos h
    rw [e]
    intro e2
    exact ofNat_ne48 h1 h2 (Option.some.inj e2)
theorem ne_decDigits (u : Nat) : decDigits u ≠ [] := by
  intro e
  have := congrArg List.length e
  rw [decDigits_length, List.length_nil] at this
  have := nDigits_pos u; omega
theorem wholeT_eq (u d : Nat) : wholeT u d = decDigits (u / 10 ^ d) ++ (if placesT d (u % 10 ^ d) = [] then [] else 46 :: placesT d (u % 10 ^ d)) := by
  have hm := Nat.mod_lt u (Nat.pow_pos (by omega) : 0 < 10 ^ d)
  unfold wholeT
  congr 1
  by_cases h : u % 10 ^ d = 0
  · rw [if_pos h, if_pos ((placesT_nil hm).2 h)]
  · rw [if_neg h, if_neg (fun e => h ((placesT_nil hm).1 e))]
theorem all_of_mem {l : List UInt8} (h : ∀ b ∈ l, isD b = true) : l.all isD = true := List.all_eq_true.2 h
theorem form_wholeT (u d : Nat) : formT (wholeT u d) = some (placesT d (u % 10 ^ d)).length := by
  have hm := Nat.mod_lt u (Nat.pow_pos (by omega) : 0 < 10 ^ d)
  rw [wholeT_eq]
  exact formT_of (all_of_mem (all_decDigits _)) (ne_decDigits _) (head_decDigits _) (all_of_mem (placesT_digits d _ hm)) (getLast_placesT d _ hm)
theorem wholeT_head (u d : Nat) : ∃ b l, wholeT u d = b :: l ∧ isD b = true := by
  unfold wholeT
  cases e : decDigits (u / 10 ^ d) with
  | nil => exact absurd e (ne_decDigits _)
  | cons b l => exact ⟨b, _, rfl, all_decDigits (u / 10 ^ d) b (by rw [e]; exact List.mem_cons_self)⟩
theorem unsign_numT (n : Int) (d : Nat) : unsign (numT n d) = (decide (n < 0), wholeT n.natAbs d) := by
  unfold numT
  by_cases h : n < 0
  · rw [if_pos h, decide_eq_true h]; rfl
  · rw [if_neg h, decide_eq_false h, List.nil_append]
    obtain ⟨b, l, e, hb⟩ := wholeT_head n.natAbs d
    rw [e]
    unfold unsign
    split
    · rename_i t e2
      cases e2
      exact absurd rfl (not45 hb)
    · rfl
/-- what is written has a form -/
theorem text_form (n : Int) (d : Nat) : decForm (numT n d) = some (placesT d (n.natAbs % 10 ^ d)).length := by
  unfold decForm
  rw [if_neg, unsign_numT]
  · exact form_wholeT _ _
  · intro e
    have hu := unsign_numT n d
    rw [e] at hu
    have h1 : true = decide (n < 0) := congrArg Prod.fst hu
    have h2 : [48] = wholeT n.natAbs d := congrArg Prod.snd hu
    have hn : n < 0 := of_decide_eq_true h1.symm
    have hp : 0 < 10 ^ d := Nat.pow_pos (by omega)
    have hm := Nat.mod_lt n.natAbs hp
    rw [wholeT_eq] at h2
    have hv : n.natAbs / 10 ^ d = 0 ∧ placesT d (n.natAbs % 10 ^ d) = [] := by
      cases e3 : decDigits (n.natAbs / 10 ^ d) with
      | nil => exact absurd e3 (ne_decDigits _)
      | cons b l =>
        rw [e3, List.cons_append] at h2
        injection h2 with h3 h4
        have h5 := List.append_eq_nil_iff.1 h4.symm
        constructor
        · have := valD_decDigits (n.natAbs / 10 ^ d)
          rw [e3, ← h3, h5.1, valD_cons, valD_nil] at this
          exact this.symm
        · by_cases hf : placesT d (n.natAbs % 10 ^ d) = []
          · exact hf
          · rw [if_neg hf] at h5; cases h5.2
    have h0 := (placesT_nil hm).1 hv.2
    have := Nat.div_add_mod n.natAbs (10 ^ d)
    rw [hv.1, h0, Nat.mul_zero] at this
    omega
end Go.Proofs.YtpicmhbjiaegpaaGreatDoor

namespace Go.Proofs.YtpicmhbjiaegpaaGreatDoor
open Go.Lib

/-- the parts of a text that has a form -/
structure Parts (s : List UInt8) (p : Nat) where
  neg : Bool
  w : List UInt8
  f : List UInt8
  hw : w.all isD = true
  wne : w ≠ []
  w0 : w.length = 1 ∨ w.head? ≠ some 48
  hf : f.all isD = true
  fl : f.getLast? ≠ some 48
  fp : f.length = p
  eq : s = (if neg then [45] else []) ++ (w ++ (if f = [] then [] else 46 :: f))
  un : (unsign s).1 = neg
theorem form_parts {s : List UInt8} {p : Nat} (h : decForm s = some p) : Nonempty (Parts s p) := by
  unfold decForm at h
  split at h
  · cases h
  · obtain ⟨w, f, h1, h2, h3, h4, h5, h6, h7⟩ := formT_some h
    refine ⟨⟨(unsign s).1, w, f, h1, h2, h3, h4, h5, h6, ?_, rfl⟩⟩
    rw [← h7]
    unfold unsign
    split <;> rfl
theorem filter_parts {s : List UInt8} {p : Nat} (q : Parts s p) : s.filter isD = q.w ++ q.f := by
  have e46 : isD 46 = false := rfl
  have e45 : isD 45 = false := rfl
  refine (congrArg (List.filter isD) q.eq).trans ?_
  rw [List.filter_append, List.filter_append, filter_all q.hw]
  have h1 : (if q.neg = true then [45] else ([] : List UInt8)).filter isD = [] := by
    split
    · rw [List.filter_cons, e45]; rfl
    · rfl
  have h2 : (if q.f = [] then ([] : List UInt8) else 46 :: q.f).filter isD = q.f := by
    split
    · rename_i e; rw [e]; rfl
    · rw [List.filter_cons, e46, filter_all q.hf]; rfl
  rw [h1, h2, List.nil_append]
theorem places_parts {s : List UInt8} {p : Nat} (q : Parts s p) : placesR false s = p := by
  have h1 : placesR false (q.w ++ (if q.f = [] then [] else 46 :: q.f)) = p := by
    rw [placesR_false _ _ q.hw]
    split
    · rename_i e
      have := q.fp
      rw [e] at this
      exact this
    · rw [placesR]
      have e46 : isD 46 = false := rfl
      have e2 : (false || (46 : UInt8) == 46) = true := rfl
      rw [e46, e2, placesR_true _ q.hf, q.fp]
      simp
  refine (congrArg (placesR false) q.eq).trans ?_
  cases q.neg with
  | false => exact h1
  | true =>
    have e45 : isD 45 = false := rfl
    have e2 : (false || (45 : UInt8) == 46) = false := rfl
    show placesR false (45 :: _) = p
    rw [placesR, e45, e2]
    simpa using h1
/-- a text that has a form is the text of its number -/
theorem form_text {s : List UInt8} {p : Nat} (h : decForm s = some p) : numT (numV s) p = s := by
  obtain ⟨q⟩ := form_parts h
  have hp : 0 < 10 ^ p := Nat.pow_pos (by omega)
  have hlt : valD 0 q.f < 10 ^ p := by
    have := valD_lt q.f 0 (List.all_eq_true.1 q.hf)
    rw [q.fp] at this; omega
  have hv : valD 0 (s.filter isD) = 10 ^ p * valD 0 q.w + valD 0 q.f := by
    rw [filter_parts q, valD_append, valD_shift, q.fp, Nat.mul_comm]
  have hW : wholeT (valD 0 (s.filter isD)) p = q.w ++ (if q.f = [] then [] else 46 :: q.f) := by
    rw [wholeT_eq, hv, Nat.mul_add_div hp, Nat.div_eq_of_lt hlt, Nat.add_zero, Nat.mul_add_mod, Nat.mod_eq_of_lt hlt]
    have e1 := decDigits_valD (List.all_eq_true.1 q.hw) q.wne q.w0
    have e2 := placesT_valD q.f (List.all_eq_true.1 q.hf) q.fl
    rw [q.fp] at e2
    rw [e1, e2]
  have hn : (numV s).natAbs = valD 0 (s.filter isD) := by
    unfold numV; split <;> simp
  unfold numT
  rw [hn, hW]
  refine Eq.trans ?_ q.eq.symm
  congr 1
  unfold numV
  rw [q.un]
  cases hneg : q.neg with
  | false =>
    simp only [Bool.false_eq_true, if_false]
    rw [if_neg (by omega)]
  | true =>
    simp only [if_true]
    have hnz : valD 0 (s.filter isD) ≠ 0 := by
      intro hz
      rw [hz] at hv hW
      have hw0 : valD 0 q.w = 0 := by
        rcases Nat.eq_zero_or_pos (valD 0 q.w) with h | h
        · exact h
        · have := Nat.mul_pos hp h; omega
      have hf0 : valD 0 q.f = 0 := by omega
      have e1 := decDigits_valD (List.all_eq_true.1 q.hw) q.wne q.w0
      have e2 := placesT_valD q.f (List.all_eq_true.1 q.hf) q.fl
      rw [hw0, decDigits_digit (by omega)] at e1
      rw [hf0] at e2
      have e3 : placesT q.f.length 0 = [] := by
        cases q.f.length with
        | zero => rfl
        | succ k => rw [placesT, if_pos rfl]
      rw [e3] at e2
      have e4 := q.eq
      rw [hneg, ← e1, ← e2] at e4
      have hs : s = [45, 48] := by rw [e4]; rfl
      unfold decForm at h
      rw [if_pos hs] at h
      cases h
    rw [if_pos (by omega)]
theorem form_places {s : List UInt8} {p : Nat} (h : decForm s = some p) : placesR false s = p := by
  obtain ⟨q⟩ := form_parts h
  exact places_parts q
/-- the reference's test is the form -/
theorem ref_form (s : List UInt8) : numT (numV s) (placesR false s) = s ↔ decForm s = some (placesR false s) := by
  constructor
  · intro h
    have h1 := text_form (numV s) (placesR false s)
    rw [h] at h1
    rw [h1, ← form_places h1]
  · intro h; exact form_text h
end Go.Proofs.YtpicmhbjiaegpaaGreatDoor

namespace Go.Proofs.YtpicmhbjiaegpaaGreatDoor
open Go.Lib

theorem valD_mono : ∀ (l : List UInt8) (a : Nat), a ≤ valD a l
  | [], a => by rw [valD_nil]; exact Nat.le_refl _
  | b :: l, a => by rw [valD_cons]; exact Nat.le_trans (by omega) (valD_mono l _)
theorem parseUint10_digits : ∀ (l : List UInt8) (a : Nat), a < 18446744073709551616 → (∀ b ∈ l, isD b = true) → parseUint10 a l = if valD a l < 18446744073709551616 then .ok (valD a l) else .range
  | [], a, h, _ => by rw [valD_nil, if_pos h, parseUint10]
  | b :: l, a, h, hd => by
    obtain ⟨k, hk, rfl⟩ := digit_of (hd b (List.mem_cons_self))
    have hv := valD_mono l (10 * a + (48 + k - 48))
    rw [parseUint10, toNat_digit hk, if_pos (by omega), valD_cons, toNat_digit hk]
    by_cases h1 : 1844674407370955162 ≤ a
    · rw [if_pos h1, if_neg (by omega)]
    · rw [if_neg h1]
      by_cases h2 : 18446744073709551616 ≤ a * 10 + (48 + k - 48)
      · rw [if_pos h2, if_neg (by omega)]
      · rw [if_neg h2, show a * 10 + (48 + k - 48) = 10 * a + (48 + k - 48) by omega]
        exact parseUint10_digits l _ (by omega) (fun c hc => hd c (List.mem_cons_of_mem _ hc))
theorem atoiAll_digits {l : List UInt8} (hne : l ≠ []) (hd : ∀ b ∈ l, isD b = true) (neg : Bool) : atoiAll ((if neg then [45] else []) ++ l) = if (if neg then -((valD 0 l : Nat) : Int) else ((valD 0 l : Nat) : Int)) < -9223372036854775808 ∨ 9223372036854775807 < (if neg then -((valD 0 l : Nat) : Int) else ((valD 0 l : Nat) : Int)) then .range else .ok (if neg then -((valD 0 l : Nat) : Int) else ((valD 0 l : Nat) : Int)) := by
  have hp : parseMag l = if valD 0 l < 18446744073709551616 then .ok (valD 0 l) else .range := by
    unfold parseMag
    rw [if_neg hne]; exact parseUint10_digits l 0 (by omega) hd
  cases neg with
  | true =>
    have e : ((if true = true then [45] else []) ++ l : List UInt8) = 45 :: l := rfl
    rw [e]
    unfold atoiAll
    have h45 : (45 : UInt8).toNat = 45 := rfl
    simp only [h45, or_true, if_true]
    rw [hp]
    by_cases hv : valD 0 l < 18446744073709551616
    · rw [if_pos hv]
      simp only []
      by_cases h2 : 9223372036854775808 < valD 0 l
      · rw [if_neg (by simp), if_pos ⟨trivial, h2⟩, if_pos (by omega)]
      · rw [if_neg (by simp), if_neg (fun h => h2 h.2), if_neg (by omega)]
    · rw [if_neg hv]
      simp only []
      rw [if_pos (by omega)]
  | false =>
    have e : ((if false = true then [45] else []) ++ l : List UInt8) = l := rfl
    rw [e]
    cases l with
    | nil => exact absurd rfl hne
    | cons c r =>
      obtain ⟨k, hk, rfl⟩ := digit_of (hd c (List.mem_cons_self))
      unfold atoiAll
      simp only [toNat_digit hk]
      rw [if_neg (by omega), hp]
      generalize valD 0 (UInt8.ofNat (48 + k) :: r) = v
      by_cases hv : v < 18446744073709551616
      · rw [if_pos hv]
        have hc : ¬ (48 + k = 45) := by omega
        simp only [hc, Bool.false_eq_true, if_false, not_false_eq_true, true_and, false_and]
        by_cases h2 : 9223372036854775808 ≤ v
        · rw [if_pos h2, if_pos (by omega)]
        · rw [if_neg h2, if_neg (by omega)]
      · rw [if_neg hv]
        simp only [Bool.false_eq_true, if_false]
        rw [if_pos (by omega)]
theorem valD_zeros : ∀ (k a : Nat), valD a (List.replicate k 48) = a * 10 ^ k
  | 0, a => by rw [List.replicate_zero, valD_nil]; omega
  | k + 1, a => by
    have h48 : (48 : UInt8).toNat = 48 := rfl
    rw [List.replicate_succ, valD_cons, valD_zeros k, h48, Nat.pow_succ]
    rw [Nat.sub_self, Nat.add_zero, Nat.mul_comm 10 a, Nat.mul_assoc, Nat.mul_comm 10]
/-- what dec.Parse hands to Atoi, and what comes of it -/
theorem atoi_parts {s : List UInt8} {p : Nat} (q : Parts s p) (k : Nat) : atoiAll ((if q.neg then [45] else []) ++ (q.w ++ q.f ++ List.replicate k 48)) = if numV s * 10 ^ k < -9223372036854775808 ∨ 9223372036854775807 < numV s * 10 ^ k then .range else .ok (numV s * 10 ^ k) := by
  have hd : ∀ b ∈ q.w ++ q.f ++ List.replicate k 48, isD b = true := by
    intro b hb
    rcases List.mem_append.1 hb with hb | hb
    · rcases List.mem_append.1 hb with hb | hb
      · exact List.all_eq_true.1 q.hw b hb
      · exact List.all_eq_true.1 q.hf b hb
    · rw [List.eq_of_mem_replicate hb]; rfl
  have hne : q.w ++ q.f ++ List.replicate k 48 ≠ [] := by
    intro e
    exact q.wne (List.append_eq_nil_iff.1 (List.append_eq_nil_iff.1 e).1).1
  have hv : (if q.neg then -((valD 0 (q.w ++ q.f ++ List.replicate k 48) : Nat) : Int) else ((valD 0 (q.w ++ q.f ++ List.replicate k 48) : Nat) : Int)) = numV s * 10 ^ k := by
    unfold numV
    rw [q.un, valD_append, valD_zeros, filter_parts q]
    cases q.neg with
    | true =>
      simp only [if_true]
      rw [Int.natCast_mul, Int.natCast_pow, Int.neg_mul]; rfl
    | false =>
      simp only [Bool.false_eq_true, if_false]
      rw [Int.natCast_mul, Int.natCast_pow]; rfl
  rw [atoiAll_digits hne hd, hv]
end Go.Proofs.YtpicmhbjiaegpaaGreatDoor

namespace Go.Proofs.YtpicmhbjiaegpaaGreatDoor
open Go.Lib

structure Opd where
  nm : List UInt8
  ag : List Int
  rel : Int
  tg : Int
  wt : Int
  deriving DecidableEq

/-- the names, and the kinds of their arguments: 1 wave, 2 field, 3 surface, 4 parameter, 5 grid, 6 frequency, 7 height, 8 pupil -/
def kindTab : List (List UInt8 × List Nat) := [
  ([69, 70, 70, 76], [1]),
  ([66, 65, 67, 75], [1]),
  ([70, 78, 85, 77], [1]),
  ([68, 69, 70, 79], [1]),
  ([72, 73, 77, 71], [1, 2]),
  ([83, 80, 72, 65], [1, 2]),
  ([67, 79, 77, 65], [1, 2]),
  ([65, 83, 84, 73], [1, 2]),
  ([80, 69, 84, 90], [1, 2]),
  ([68, 73, 83, 84], [1, 2]),
  ([68, 83, 84, 82], [1, 2]),
  ([76, 65, 71, 82], [2]),
  ([65, 88, 67, 76], [1, 1, 2]),
  ([76, 65, 67, 76], [1, 1, 2]),
  ([84, 82, 65, 67], []),
  ([80, 65, 82, 77], [3, 4]),
  ([69, 68, 71, 69], [3, 7]),
  ([82, 69, 65, 88], [3, 2, 1, 8, 8]),
  ([82, 69, 65, 89], [3, 2, 1, 8, 8]),
  ([83, 80, 79, 84], [2, 1, 5]),
  ([69, 88, 84, 69], [2, 1, 5]),
  ([79, 80, 68, 70], [2, 1, 8, 8]),
  ([77, 84, 70, 88], [2, 1, 5, 6]),
  ([77, 84, 70, 89], [2, 1, 5, 6])]
def kindsOf (nm : List UInt8) : Option (List Nat) := (kindTab.find? fun e => e.1 == nm).map (·.2)
/-- least, greatest, and whether it is a decimal number -/
def rangeOf : Nat → Int × Int × Bool
  | 1 => (0, 4, false)
  | 2 => (0, 4, false)
  | 3 => (0, 15, false)
  | 4 => (1, 17, false)
  | 5 => (1, 15, false)
  | 6 => (0, 2000, false)
  | 7 => (0, 1000000000, true)
  | 8 => (-2000000, 2000000, true)
  | _ => (0, 0, false)
def inR (n lo hi : Int) : Bool := decide (lo ≤ n) && decide (n ≤ hi)
/-- the arguments against the kinds: what stands behind them is 0 -/
def argsOk : List Nat → List Int → Bool
  | k :: ks, a :: ag => inR a (rangeOf k).1 (rangeOf k).2.1 && argsOk ks ag
  | [], a :: ag => inR a 0 0 && argsOk [] ag
  | _, [] => true
def opdOk (x : Opd) : Bool := match kindsOf x.nm with
  | none => false
  | some ks => argsOk ks x.ag && inR x.rel 1 3 && inR x.tg (-1000000000000) 1000000000000 && (if x.rel = 1 then inR x.wt 1 1000 else decide (x.wt = 0))
def opdsOk (l : List Opd) : Bool := decide (l.length ≤ 12) && l.all opdOk

/-- the text of an operand -/
def digitsOf (k : Nat) : Nat := if (rangeOf k).2.2 then 6 else 0
def argTs : List Nat → List Int → List (List UInt8)
  | k :: ks, a :: ag => numT a (digitsOf k) :: argTs ks ag
  | _, _ => []
def relT (r : Int) : List UInt8 := if r = 1 then [61] else if r = 2 then [60] else [62]
def wordsT (x : Opd) : List (List UInt8) := x.nm :: (argTs ((kindsOf x.nm).getD []) x.ag ++ relT x.rel :: numT x.tg 6 :: (if x.rel = 1 then [numT x.wt 0] else []))
def joinT : List (List UInt8) → List UInt8
  | [] => []
  | [w] => w
  | w :: v :: ws => w ++ 32 :: joinT (v :: ws)
def lineT (x : Opd) : List UInt8 := joinT (wordsT x)
def opdsT (l : List Opd) : List UInt8 := (l.map fun x => lineT x ++ [10]).flatten
end Go.Proofs.YtpicmhbjiaegpaaGreatDoor

namespace Go.Proofs.YtpicmhbjiaegpaaGreatDoor
open Go.Lib

/-- the number of a word, with so many places, within limits -/
def numOf (s : List UInt8) (lo hi : Int) (d : Nat) : Option Int :=
  match decForm s with
  | none => none
  | some p => if p ≤ d ∧ -9223372036854775808 ≤ numV s * 10 ^ (d - p) ∧ numV s * 10 ^ (d - p) ≤ 9223372036854775807 ∧ lo ≤ numV s * 10 ^ (d - p) ∧ numV s * 10 ^ (d - p) ≤ hi then some (numV s * 10 ^ (d - p)) else none
def relOf (w : List UInt8) : Option Int := if w = [61] then some 1 else if w = [60] then some 2 else if w = [62] then some 3 else none
/-- the arguments at the head of some words, and the words behind them -/
def argsOf : List Nat → List (List UInt8) → Option (List Int × List (List UInt8))
  | [], ws => some ([], ws)
  | _ :: _, [] => none
  | k :: ks, w :: ws => match numOf w (rangeOf k).1 (rangeOf k).2.1 (digitsOf k) with
    | none => none
    | some n => (argsOf ks ws).map fun r => (n :: r.1, r.2)
/-- what stands behind the arguments: relation, target, weight -/
def tailOf (ws : List (List UInt8)) : Option (Int × Int × Int) := match ws with
  | r :: t :: ws => match relOf r, numOf t (-1000000000000) 1000000000000 6, ws with
    | some 1, some n, [w] => (numOf w 1 1000 0).map fun m => (1, n, m)
    | some 1, some _, _ => none
    | some k, some n, [] => some (k, n, 0)
    | _, _, _ => none
  | _ => none
def pad5 (l : List Int) : List Int := l ++ List.replicate (5 - l.length) 0
def readOf (ws : List (List UInt8)) : Option Opd := match ws with
  | [] => none
  | nm :: ws => match kindsOf nm with
    | none => none
    | some ks => match argsOf ks ws with
      | none => none
      | some (ag, ws) => (tailOf ws).map fun t => ⟨nm, pad5 ag, t.1, t.2.1, t.2.2⟩

def isSp (b : UInt8) : Bool := b == 32 || b == 9
/-- the words of a line; w the word that is begun -/
def wordsOf : List UInt8 → List UInt8 → List (List UInt8)
  | w, [] => if w = [] then [] else [w]
  | w, b :: l => if isSp b then (if w = [] then wordsOf [] l else w :: wordsOf [] l) else wordsOf (w ++ [b]) l
/-- the lines of a text; w the line that is begun -/
def linesOf : List UInt8 → List UInt8 → List (List UInt8)
  | w, [] => [w]
  | w, b :: l => if b == 10 then w :: linesOf [] l else linesOf (w ++ [b]) l
/-- how reading ends: the operands, or a line and the error's number (3 too long, 5 no operand) -/
inductive ReadE where
  | ok (l : List Opd)
  | no (line : Nat) (e : Int)
  deriving DecidableEq
def skipL (ws : List (List UInt8)) : Bool := match ws with
  | [] => true
  | w :: _ => w.head? == some 35
def readLines : Nat → List Opd → List (List UInt8) → ReadE
  | _, acc, [] => .ok acc
  | i, acc, s :: ss =>
    if skipL (wordsOf [] s) then readLines (i + 1) acc ss
    else match readOf (wordsOf [] s) with
      | none => .no i 5
      | some x => if acc.length = 12 then .no i 3 else readLines (i + 1) (acc ++ [x]) ss
def readT (t : List UInt8) : ReadE := if 4000 < t.length then .no 0 3 else readLines 0 [] (linesOf [] t)
end Go.Proofs.YtpicmhbjiaegpaaGreatDoor

namespace Go.Proofs.YtpicmhbjiaegpaaGreatDoor
open Go.Lib

theorem isD45 : isD 45 = false := by decide
theorem isD46 : isD 46 = false := by decide
theorem val_text (n : Int) (d : Nat) : numV (numT n d) * 10 ^ (d - (placesT d (n.natAbs % 10 ^ d)).length) = n := by
  have hm := Nat.mod_lt n.natAbs (Nat.pow_pos (by omega) : 0 < 10 ^ d)
  have hA : (decDigits (n.natAbs / 10 ^ d)).filter isD = decDigits (n.natAbs / 10 ^ d) := filter_all (all_of_mem (all_decDigits _))
  have hB : (placesT d (n.natAbs % 10 ^ d)).filter isD = placesT d (n.natAbs % 10 ^ d) := filter_all (all_of_mem (placesT_digits d _ hm))
  have hf : (wholeT n.natAbs d).filter isD = decDigits (n.natAbs / 10 ^ d) ++ placesT d (n.natAbs % 10 ^ d) := by
    rw [wholeT_eq, List.filter_append, hA]
    split
    · rename_i h; rw [h]; rfl
    · rw [List.filter_cons, isD46, if_neg (by simp), hB]
  have hf2 : (numT n d).filter isD = decDigits (n.natAbs / 10 ^ d) ++ placesT d (n.natAbs % 10 ^ d) := by
    unfold numT
    rw [List.filter_append, hf]
    split
    · rw [List.filter_cons, isD45]; rfl
    · rfl
  have hv : valD 0 ((numT n d).filter isD) * 10 ^ (d - (placesT d (n.natAbs % 10 ^ d)).length) = n.natAbs := by
    rw [hf2, valD_append, valD_decDigits, valD_shift, Nat.add_mul, valD_placesT d _ hm, Nat.mul_assoc, ← Nat.pow_add]
    rw [Nat.add_sub_cancel' (placesT_len d _), Nat.mul_comm, Nat.div_add_mod]
  have hi : ((valD 0 ((numT n d).filter isD) : Nat) : Int) * 10 ^ (d - (placesT d (n.natAbs % 10 ^ d)).length) = (n.natAbs : Int) := by
    exact_mod_cast hv
  unfold numV
  rw [unsign_numT]
  by_cases h : n < 0
  · rw [decide_eq_true h, if_pos rfl, Int.neg_mul, hi]; omega
  · rw [decide_eq_false h, if_neg (by simp), hi]; omega
theorem num_text {n lo hi : Int} {d : Nat} (h : inR n lo hi = true) (h1 : -9223372036854775808 ≤ n) (h2 : n ≤ 9223372036854775807) : numOf (numT n d) lo hi d = some n := by
  unfold inR at h
  rw [Bool.and_eq_true] at h
  have hb := And.intro (of_decide_eq_true h.1) (of_decide_eq_true h.2)
  unfold numOf
  rw [text_form]
  simp only
  rw [val_text, if_pos ⟨placesT_len d _, h1, h2, hb.1, hb.2⟩]

/-! ### what a word of a line holds -/
def plainB (b : UInt8) : Bool := isD b || b == 45 || b == 46
theorem num_plain (n : Int) (d : Nat) : numT n d ≠ [] ∧ ∀ b ∈ numT n d, plainB b = true := by
  have hm := Nat.mod_lt n.natAbs (Nat.pow_pos (by omega) : 0 < 10 ^ d)
  constructor
  · intro e
    have := unsign_numT n d
    rw [e] at this
    have h2 : [] = wholeT n.natAbs d := congrArg Prod.snd this
    obtain ⟨b, l, e2, _⟩ := wholeT_head n.natAbs d
    rw [e2] at h2; cases h2
  · intro b hb
    unfold numT at hb
    rw [wholeT_eq, List.mem_append, List.mem_append] at hb
    unfold plainB
    rcases hb with hb | hb | hb
    · split at hb
      · rw [List.mem_singleton] at hb; subst hb; decide
      · cases hb
    · rw [all_decDigits _ b hb]; rfl
    · split at hb
      · cases hb
      · rcases List.mem_cons.1 hb with rfl | hb
        · decide
        · rw [placesT_digits d _ hm b hb]; rfl
theorem plain_sp {b : UInt8} (h : plainB b = true) : isSp b = false ∧ b ≠ 10 ∧ b ≠ 35 := by
  unfold plainB isD at h
  simp only [Bool.or_eq_true, decide_eq_true_eq, beq_iff_eq] at h
  refine ⟨?_, ?_, ?_⟩
  · unfold isSp
    rw [Bool.or_eq_false_iff, beq_eq_false_iff_ne, beq_eq_false_iff_ne]
    constructor
    · rintro rfl; revert h; decide
    · rintro rfl; revert h; decide
  · rintro rfl; revert h; decide
  · rintro rfl; revert h; decide
/-- a word as it stands in a line -/
def wordOk (w : List UInt8) : Prop := w ≠ [] ∧ ∀ b ∈ w, isSp b = false ∧ b ≠ 10 ∧ b ≠ 35
theorem wordOk_num (n : Int) (d : Nat) : wordOk (numT n d) := ⟨(num_plain n d).1, fun b hb => plain_sp ((num_plain n d).2 b hb)⟩
instance (w : List UInt8) : Decidable (wordOk w) := inferInstanceAs (Decidable (w ≠ [] ∧ ∀ b ∈ w, isSp b = false ∧ b ≠ 10 ∧ b ≠ 35))
theorem kind_words : ∀ e ∈ kindTab, wordOk e.1 := by decide
theorem wordOk_name {nm : List UInt8} {ks : List Nat} (h : kindsOf nm = some ks) : wordOk nm := by
  unfold kindsOf at h
  cases hf : kindTab.find? (fun e => e.1 == nm) with
  | none => rw [hf] at h; cases h
  | some e =>
    have hn : e.1 = nm := by simpa using List.find?_some hf
    exact hn ▸ kind_words e (List.mem_of_find?_eq_some hf)
theorem wordOk_rel (r : Int) : wordOk (relT r) := by
  unfold relT
  split
  · decide
  · split <;> decide
theorem wordOk_args : ∀ (ks : List Nat) (ag : List Int), ∀ w ∈ argTs ks ag, wordOk w
  | [], _, w, h => by simp [argTs] at h
  | _ :: _, [], w, h => by simp [argTs] at h
  | k :: ks, a :: ag, w, h => by
    rw [argTs] at h
    rcases List.mem_cons.1 h with rfl | h
    · exact wordOk_num _ _
    · exact wordOk_args ks ag w h
theorem wordOk_all {x : Opd} (h : opdOk x = true) : ∀ w ∈ wordsT x, wordOk w := by
  unfold opdOk at h
  cases hk : kindsOf x.nm with
  | none => rw [hk] at h; cases h
  | some ks =>
    intro w hw
    unfold wordsT at hw
    simp only [List.mem_cons, List.mem_append] at hw
    rcases hw with rfl | hw | rfl | rfl | hw
    · exact wordOk_name hk
    · exact wordOk_args _ _ w hw
    · exact wordOk_rel _
    · exact wordOk_num _ _
    · split at hw
      · rw [List.mem_singleton] at hw; subst hw; exact wordOk_num _ _
      · cases hw

theorem words_run : ∀ (v u l : List UInt8), (∀ b ∈ v, isSp b = false) → wordsOf u (v ++ l) = wordsOf (u ++ v) l
  | [], u, l, _ => by simp
  | b :: v, u, l, h => by
    rw [List.cons_append, wordsOf, h b List.mem_cons_self, if_neg (by simp), words_run v _ l (fun c hc => h c (List.mem_cons_of_mem _ hc))]; simp
theorem words_blank (u l : List UInt8) (b : UInt8) (h : isSp b = true) : wordsOf u (b :: l) = (if u = [] then [] else [u]) ++ wordsOf [] l := by
  rw [wordsOf, h, if_pos rfl]
  split <;> simp
/-- words with blanks between -/
theorem words_join (ws : List (List UInt8)) (h : ∀ w ∈ ws, wordOk w) : wordsOf [] (joinT ws) = ws := by
  induction ws with
  | nil => rfl
  | cons w ws ih =>
    have hw := h w List.mem_cons_self
    match ws, ih, h with
    | [], _, _ =>
      have := words_run w [] [] (fun b hb => (hw.2 b hb).1)
      rw [List.append_nil, List.nil_append] at this
      rw [joinT, this, wordsOf, if_neg hw.1]
    | v :: vs, ih, h =>
      rw [joinT, words_run w [] _ (fun b hb => (hw.2 b hb).1), List.nil_append, words_blank _ _ 32 (by decide), if_neg hw.1, ih (fun y hy => h y (List.mem_cons_of_mem _ hy))]; rfl

/-! ### an operand -/
theorem range64 {n : Int} {k : Nat} (h : inR n (rangeOf k).1 (rangeOf k).2.1 = true) : -9223372036854775808 ≤ n ∧ n ≤ 9223372036854775807 := by
  unfold inR at h
  rw [Bool.and_eq_true] at h
  have hb := And.intro (of_decide_eq_true h.1) (of_decide_eq_true h.2)
  match k, hb with
  | 0, hb => exact ⟨Int.le_trans (by decide) hb.1, Int.le_trans hb.2 (by decide)⟩
  | 1, hb => exact ⟨Int.le_trans (by decide) hb.1, Int.le_trans hb.2 (by decide)⟩
  | 2, hb => exact ⟨Int.le_trans (by decide) hb.1, Int.le_trans hb.2 (by decide)⟩
  | 3, hb => exact ⟨Int.le_trans (by decide) hb.1, Int.le_trans hb.2 (by decide)⟩
  | 4, hb => exact ⟨Int.le_trans (by decide) hb.1, Int.le_trans hb.2 (by decide)⟩
  | 5, hb => exact ⟨Int.le_trans (by decide) hb.1, Int.le_trans hb.2 (by decide)⟩
  | 6, hb => exact ⟨Int.le_trans (by decide) hb.1, Int.le_trans hb.2 (by decide)⟩
  | 7, hb => exact ⟨Int.le_trans (by decide) hb.1, Int.le_trans hb.2 (by decide)⟩
  | 8, hb => exact ⟨Int.le_trans (by decide) hb.1, Int.le_trans hb.2 (by decide)⟩
  | k + 9, hb =>
    have h1 : (0 : Int) ≤ n := hb.1
    have h2 : n ≤ (0 : Int) := hb.2
    omega
theorem zeros_nil : ∀ (ag : List Int), argsOk [] ag = true → ag = List.replicate ag.length 0
  | [], _ => rfl
  | a :: ag, h => by
    rw [argsOk, Bool.and_eq_true] at h
    have h1 := h.1
    unfold inR at h1
    rw [Bool.and_eq_true] at h1
    have := of_decide_eq_true h1.1
    have := of_decide_eq_true h1.2
    have ha : a = 0 := by omega
    rw [List.length_cons, List.replicate_succ, ha, ← zeros_nil ag h.2]
theorem args_text : ∀ (ks : List Nat) (ag : List Int) (ws : List (List UInt8)), argsOk ks ag = true → ks.length ≤ ag.length → argsOf ks (argTs ks ag ++ ws) = some (ag.take ks.length, ws) ∧ ag.drop ks.length = List.replicate (ag.length - ks.length) 0
  | [], ag, ws, h, _ => by
    refine ⟨by simp [argsOf, argTs], ?_⟩
    have := zeros_nil ag h
    simpa using this
  | k :: ks, [], ws, _, h => by simp at h
  | k :: ks, a :: ag, ws, h, hl => by
    rw [argsOk, Bool.and_eq_true] at h
    have hb := range64 h.1
    obtain ⟨h1, h2⟩ := args_text ks ag ws h.2 (by simpa using hl)
    refine ⟨?_, by simpa using h2⟩
    rw [argTs, List.cons_append, argsOf, num_text h.1 hb.1 hb.2]
    simp only
    rw [h1]; simp
theorem rel_text {r : Int} (h : inR r 1 3 = true) : relOf (relT r) = some r := by
  unfold inR at h
  rw [Bool.and_eq_true] at h
  have h1 := of_decide_eq_true h.1
  have h2 := of_decide_eq_true h.2
  have hr : r = 1 ∨ r = 2 ∨ r = 3 := by omega
  rcases hr with rfl | rfl | rfl <;> rfl
theorem tail_text {x : Opd} (h1 : inR x.rel 1 3 = true) (h2 : inR x.tg (-1000000000000) 1000000000000 = true) (h3 : (if x.rel = 1 then inR x.wt 1 1000 else decide (x.wt = 0)) = true) :
    tailOf (relT x.rel :: numT x.tg 6 :: (if x.rel = 1 then [numT x.wt 0] else [])) = some (x.rel, x.tg, x.wt) := by
  have ht : numOf (numT x.tg 6) (-1000000000000) 1000000000000 6 = some x.tg := by
    have hb := h2
    unfold inR at hb
    rw [Bool.and_eq_true] at hb
    have := of_decide_eq_true hb.1
    have := of_decide_eq_true hb.2
    exact num_text h2 (by omega) (by omega)
  have hr := h1
  unfold inR at hr
  rw [Bool.and_eq_true] at hr
  have q1 := of_decide_eq_true hr.1
  have q2 := of_decide_eq_true hr.2
  unfold tailOf
  simp only
  rw [rel_text h1, ht]
  by_cases hr : x.rel = 1
  · rw [if_pos hr] at h3 ⊢
    have hb := h3
    unfold inR at hb
    rw [Bool.and_eq_true] at hb
    have := of_decide_eq_true hb.1
    have := of_decide_eq_true hb.2
    rw [hr]
    simp only
    rw [num_text h3 (by omega) (by omega)]; rfl
  · rw [if_neg hr] at h3 ⊢
    have hw := of_decide_eq_true h3
    have hr2 : x.rel = 2 ∨ x.rel = 3 := by omega
    rcases hr2 with e | e
    · rw [e, hw]; rfl
    · rw [e, hw]; rfl
theorem read_text {x : Opd} (h : opdOk x = true) (hl : x.ag.length = 5) : readOf (wordsT x) = some x := by
  unfold opdOk at h
  cases hk : kindsOf x.nm with
  | none => rw [hk] at h; cases h
  | some ks =>
    rw [hk] at h
    simp only [Bool.and_eq_true] at h
    obtain ⟨⟨⟨h1, h2⟩, h3⟩, h4⟩ := h
    have hkl : ks.length ≤ 5 := by
      unfold kindsOf at hk
      cases hf : kindTab.find? (fun e => e.1 == x.nm) with
      | none => rw [hf] at hk; cases hk
      | some e =>
        rw [hf] at hk
        have hm := List.mem_of_find?_eq_some hf
        have he : e.2 = ks := Option.some.inj hk
        have hall : ∀ e ∈ kindTab, e.2.length ≤ 5 := by decide
        exact he ▸ hall e hm
    obtain ⟨q1, q2⟩ := args_text ks x.ag (relT x.rel :: numT x.tg 6 :: (if x.rel = 1 then [numT x.wt 0] else [])) h1 (by omega)
    unfold readOf wordsT
    rw [hk]
    simp only [Option.getD_some]
    rw [hk]
    simp only
    rw [q1]
    simp only
    rw [tail_text h2 h3 h4]
    simp only [Option.map_some, Option.some.injEq]
    have hp : pad5 (x.ag.take ks.length) = x.ag := by
      unfold pad5
      rw [List.length_take, hl, Nat.min_eq_left hkl]
      rw [hl] at q2
      rw [← q2, List.take_append_drop]
    rw [hp]
end Go.Proofs.YtpicmhbjiaegpaaGreatDoor

namespace Go.Proofs.YtpicmhbjiaegpaaGreatDoor

/-- the base, behind a name -/
def BB : Int := 1000000000

theorem BB_eq : BB = 1000000000 := rfl
theorem BB_pos : (0 : Int) < BB := by rw [BB_eq]; omega

/-- the value of a list of digits -/
def val : List Int → Int
  | [] => 0
  | d :: l => d + 1000000000 * val l

/-- each one is a digit -/
def Dig (l : List Int) : Prop := ∀ j, j < l.length → 0 ≤ l.getD j 0 ∧ l.getD j 0 < 1000000000

theorem Dig.nil : Dig [] := fun j h => by simp at h
theorem Dig.head {d : Int} {l : List Int} (h : Dig (d :: l)) : 0 ≤ d ∧ d < 1000000000 := by simpa using h 0 (by simp)
theorem Dig.tail {d : Int} {l : List Int} (h : Dig (d :: l)) : Dig l := fun j hj => by simpa using h (j + 1) (by simpa using hj)
theorem Dig.cons {d : Int} {l : List Int} (hd : 0 ≤ d ∧ d < 1000000000) (h : Dig l) : Dig (d :: l) := fun j hj => by
  cases j with
  | zero => simpa using hd
  | succ j => simpa using h j (by simpa using hj)
theorem Dig.all {l : List Int} (h : Dig l) (j : Nat) : 0 ≤ l.getD j 0 ∧ l.getD j 0 < 1000000000 := by
  by_cases hj : j < l.length
  · exact h j hj
  · rw [List.getD_eq_getElem?_getD, List.getElem?_eq_none (by omega)]; simp
theorem Dig.append {l m : List Int} (hl : Dig l) (hm : Dig m) : Dig (l ++ m) := fun j _ => by
  by_cases hj : j < l.length
  · rw [List.getD_eq_getElem?_getD, List.getElem?_append_left hj, ← List.getD_eq_getElem?_getD]; exact hl j hj
  · rw [List.getD_eq_getElem?_getD, List.getElem?_append_right (by omega), ← List.getD_eq_getElem?_getD]; exact hm.all _
theorem Dig.take {l : List Int} (h : Dig l) (k : Nat) : Dig (l.take k) := fun j hj => by
  have hj2 : j < k := by have := List.length_take_le k l; omega
  have e : (l.take k).getD j 0 = l.getD j 0 := by simp [List.getD_eq_getElem?_getD, hj2]
  rw [e]; exact h.all j
theorem Dig.drop {l : List Int} (h : Dig l) (k : Nat) : Dig (l.drop k) := fun j _ => by
  have e : (l.drop k).getD j 0 = l.getD (k + j) 0 := by simp [List.getD_eq_getElem?_getD, List.getElem?_drop]
  rw [e]; exact h.all _

theorem val_nonneg {l : List Int} (h : Dig l) : 0 ≤ val l := by
  induction l with
  | nil => simp [val]
  | cons d l ih => have := h.head; have := ih h.tail; simp only [val]; omega

theorem val_append (l m : List Int) : val (l ++ m) = val l + 1000000000 ^ l.length * val m := by
  induction l with
  | nil => simp [val]
  | cons d l ih => simp only [List.cons_append, val, ih, List.length_cons, Int.pow_succ, Int.mul_add]; rw [Int.mul_comm (1000000000 ^ l.length) 1000000000, Int.mul_assoc]; omega

theorem val_lt {l : List Int} (h : Dig l) : val l < 1000000000 ^ l.length := by
  induction l with
  | nil => simp [val]
  | cons d l ih => have := h.head; have := ih h.tail; simp only [val, List.length_cons, Int.pow_succ]; omega

theorem val_replicate (n : Nat) : val (List.replicate n 0) = 0 := by
  induction n with
  | zero => rfl
  | succ n ih => simp only [List.replicate_succ, val, ih]; omega

theorem val_set {l : List Int} {i : Nat} (h : i < l.length) (v : Int) : val (l.set i v) = val l + (v - l.getD i 0) * 1000000000 ^ i := by
  induction l generalizing i with
  | nil => simp at h
  | cons d l ih =>
    cases i with
    | zero => simp only [List.set_cons_zero, val, List.getD_cons_zero, Int.pow_zero]; omega
    | succ i =>
      simp only [List.set_cons_succ, val, List.getD_cons_succ, ih (by simpa using h), Int.pow_succ]
      rw [← Int.mul_assoc, Int.mul_add, Int.mul_comm (_ * _) 1000000000]; omega

theorem val_take_succ {l : List Int} {k : Nat} (h : k < l.length) : val (l.take (k + 1)) = val (l.take k) + l.getD k 0 * 1000000000 ^ k := by
  have e : l.take (k + 1) = l.take k ++ [l.getD k 0] := by
    rw [List.take_add_one, List.getElem?_eq_getElem h]; simp [List.getD_eq_getElem?_getD, List.getElem?_eq_getElem h]
  rw [e, val_append, List.length_take, Nat.min_eq_left (by omega)]
  simp only [val, Int.mul_zero, Int.add_zero]; rw [Int.mul_comm]

theorem val_drop {l : List Int} {k : Nat} (h : k < l.length) : val (l.drop k) = l.getD k 0 + 1000000000 * val (l.drop (k + 1)) := by
  rw [List.drop_eq_getElem_cons h]; simp [val, List.getD_eq_getElem?_getD, List.getElem?_eq_getElem h]

/-- the digits of a number -/
def digs (n : Nat) : List Int := if n = 0 then [] else ((n % 1000000000 : Nat) : Int) :: digs (n / 1000000000)
termination_by n
decreasing_by omega

theorem digs_zero : digs 0 = [] := by rw [digs]; simp
theorem digs_pos {n : Nat} (h : 0 < n) : digs n = ((n % 1000000000 : Nat) : Int) :: digs (n / 1000000000) := by rw [digs, if_neg (by omega)]

theorem dig_digs (n : Nat) : Dig (digs n) := by
  induction n using Nat.strongRecOn with
  | _ n ih =>
    by_cases h : n = 0
    · subst h; rw [digs_zero]; exact Dig.nil
    · rw [digs_pos (by omega)]; exact Dig.cons (by omega) (ih _ (by omega))

theorem val_digs (n : Nat) : val (digs n) = n := by
  induction n using Nat.strongRecOn with
  | _ n ih =>
    by_cases h : n = 0
    · subst h; rw [digs_zero]; rfl
    · rw [digs_pos (by omega)]; simp only [val, ih _ (show n / 1000000000 < n by omega)]; omega

/-- no highest zero -/
def Top (l : List Int) : Prop := 0 < l.length → l.getD (l.length - 1) 0 ≠ 0

theorem top_digs (n : Nat) : Top (digs n) := by
  induction n using Nat.strongRecOn with
  | _ n ih =>
    by_cases h : n = 0
    · subst h; rw [digs_zero]; intro h; simp at h
    · rw [digs_pos (by omega)]
      intro _
      by_cases h2 : n / 1000000000 = 0
      · rw [h2, digs_zero]; simp; omega
      · have := ih _ (show n / 1000000000 < n by omega)
        rw [digs_pos (n := n / 1000000000) (by omega)] at this ⊢
        simpa using this (by simp)

theorem Top.tail {d : Int} {l : List Int} (h : Top (d :: l)) : Top l := by
  intro hl
  have := h (by simp)
  cases l with
  | nil => simp at hl
  | cons e l => simpa using this

theorem digs_val {l : List Int} (h : Dig l) (ht : Top l) : digs (val l).toNat = l := by
  induction l with
  | nil => simp only [val]; exact digs_zero
  | cons d l ih =>
    have h1 := h.head
    have h2 := val_nonneg h.tail
    have h3 := ih h.tail ht.tail
    have hp : 0 < (val (d :: l)).toNat := by
      simp only [val]
      by_cases h0 : d = 0
      · have : l ≠ [] := by rintro rfl; exact ht (by simp) (by simpa using h0)
        by_cases hv : val l = 0
        · rw [hv] at h3; rw [Int.toNat_zero, digs_zero] at h3; exact absurd h3.symm this
        · omega
      · omega
    rw [digs_pos hp]
    have e1 : (((val (d :: l)).toNat % 1000000000 : Nat) : Int) = d := by simp only [val]; omega
    have e2 : (val (d :: l)).toNat / 1000000000 = (val l).toNat := by simp only [val]; omega
    rw [e1, e2, h3]

/-- the list without its highest zeros -/
def trimL (l : List Int) : List Int := digs (val l).toNat

theorem getD_take {l : List Int} {k j : Nat} (h : j < k) : (l.take k).getD j 0 = l.getD j 0 := by
  simp [List.getD_eq_getElem?_getD, h]

theorem val_take_zero {l : List Int} {k : Nat} (h : k < l.length) (hz : l.getD k 0 = 0) : val (l.take (k + 1)) = val (l.take k) := by
  rw [val_take_succ h, hz]; omega

theorem top_take {l : List Int} {k : Nat} (h : k ≤ l.length) (hz : k = 0 ∨ l.getD (k - 1) 0 ≠ 0) : Top (l.take k) := by
  intro hp
  have hl : (l.take k).length = k := by rw [List.length_take, Nat.min_eq_left h]
  rw [hl] at hp ⊢
  rw [getD_take (by omega)]
  exact hz.resolve_left (by omega)

theorem digs_of_take {l : List Int} {k : Nat} {n : Nat} (hd : Dig l) (h : k ≤ l.length) (hz : k = 0 ∨ l.getD (k - 1) 0 ≠ 0) (hv : val (l.take k) = n) : l.take k = digs n := by
  rw [← digs_val (hd.take k) (top_take h hz), hv]; rfl

theorem length_digs_le {n k : Nat} (h : n < 1000000000 ^ k) : (digs n).length ≤ k := by
  induction k generalizing n with
  | zero => have : n = 0 := by simpa using h
            subst this; rw [digs_zero]; simp
  | succ k ih =>
    by_cases h0 : n = 0
    · subst h0; rw [digs_zero]; simp
    · rw [digs_pos (by omega), List.length_cons]
      have : n / 1000000000 < 1000000000 ^ k := by rw [Nat.pow_succ] at h; exact Nat.div_lt_of_lt_mul (by rw [Nat.mul_comm]; exact h)
      have := ih this
      omega

theorem digs_lt (n : Nat) : n < 1000000000 ^ (digs n).length := by
  have h := val_lt (dig_digs n)
  rw [val_digs] at h
  have e : ((1000000000 ^ (digs n).length : Nat) : Int) = (1000000000 : Int) ^ (digs n).length := by rw [Int.natCast_pow]; rfl
  rw [← e] at h
  exact Int.ofNat_lt.1 h

theorem digs_ge {n : Nat} (h : 0 < (digs n).length) : 1000000000 ^ ((digs n).length - 1) ≤ n := by
  apply Decidable.byContradiction
  intro hc
  have := length_digs_le (n := n) (k := (digs n).length - 1) (by omega)
  omega

theorem length_digs_mono {n m : Nat} (h : n ≤ m) : (digs n).length ≤ (digs m).length :=
  length_digs_le (Nat.lt_of_le_of_lt h (digs_lt m))

theorem digs_len_zero {n : Nat} : (digs n).length = 0 ↔ n = 0 := by
  constructor
  · intro h; have := digs_lt n; rw [h] at this; omega
  · rintro rfl; rw [digs_zero]; rfl

/-- the order of two lists of one length, from the highest digit below k -/
def cmpTo (x y : List Int) : Nat → Int
  | 0 => 0
  | k + 1 => if x.getD k 0 = y.getD k 0 then cmpTo x y k else x.getD k 0 - y.getD k 0

theorem cmpTo_sign {x y : List Int} (hx : Dig x) (hy : Dig y) : ∀ k, k ≤ x.length → k ≤ y.length →
    ((0 < cmpTo x y k ↔ val (y.take k) < val (x.take k)) ∧ (cmpTo x y k < 0 ↔ val (x.take k) < val (y.take k)) ∧ -1000000000 < cmpTo x y k ∧ cmpTo x y k < 1000000000)
  | 0, _, _ => by simp [cmpTo]
  | k + 1, h1, h2 => by
    have ih := cmpTo_sign hx hy k (by omega) (by omega)
    rw [val_take_succ (by omega), val_take_succ (by omega)]
    have a1 := hx.all k; have a2 := hy.all k
    have b1 := val_lt (hx.take k); have b2 := val_lt (hy.take k)
    have c1 := val_nonneg (hx.take k); have c2 := val_nonneg (hy.take k)
    rw [List.length_take, Nat.min_eq_left (by omega)] at b1 b2
    simp only [cmpTo]
    generalize (1000000000 : Int) ^ k = p at *
    generalize val (x.take k) = u at *
    generalize val (y.take k) = v at *
    generalize x.getD k 0 = a at *
    generalize y.getD k 0 = b at *
    by_cases h : a = b
    · subst h; rw [if_pos rfl]; refine ⟨by rw [ih.1]; omega, by rw [ih.2.1]; omega, ih.2.2.1, ih.2.2.2⟩
    · rw [if_neg h]
      have hp : 0 < p := by omega
      rcases Int.lt_or_gt_of_ne h with hlt | hgt
      · have : (a + 1) * p ≤ b * p := Int.mul_le_mul_of_nonneg_right (by omega) (by omega)
        rw [Int.add_mul, Int.one_mul] at this
        exact ⟨by omega, by omega, by omega, by omega⟩
      · have : (b + 1) * p ≤ a * p := Int.mul_le_mul_of_nonneg_right (by omega) (by omega)
        rw [Int.add_mul, Int.one_mul] at this
        exact ⟨by omega, by omega, by omega, by omega⟩

/-- the order of two sizes, as Go's Cmp has it -/
def cmpS (x y : List Int) : Int := if x.length = y.length then cmpTo x y x.length else (x.length : Int) - y.length

theorem cmpS_sign {m n : Nat} : (0 < cmpS (digs m) (digs n) ↔ n < m) ∧ (cmpS (digs m) (digs n) < 0 ↔ m < n) := by
  unfold cmpS
  by_cases h : (digs m).length = (digs n).length
  · rw [if_pos h]
    have := cmpTo_sign (dig_digs m) (dig_digs n) (digs m).length (Nat.le_refl _) (by omega)
    rw [List.take_length, h, List.take_length, val_digs, val_digs] at this
    rw [h]
    exact ⟨by rw [this.1]; omega, by rw [this.2.1]; omega⟩
  · rw [if_neg h]
    constructor
    · constructor
      · intro h2
        apply Decidable.byContradiction; intro h3
        have := length_digs_mono (show m ≤ n by omega); omega
      · intro h2
        have := length_digs_mono (show n ≤ m by omega); omega
    · constructor
      · intro h2
        apply Decidable.byContradiction; intro h3
        have := length_digs_mono (show n ≤ m by omega); omega
      · intro h2
        have := length_digs_mono (show m ≤ n by omega); omega

end Go.Proofs.YtpicmhbjiaegpaaGreatDoor

namespace Go.Proofs.YtpicmhbjiaegpaaGreatDoor
open Go.Lib

/-- m digits of u, the lowest first -/
def dl : Nat → Nat → List UInt8
  | 0, _ => []
  | m + 1, u => UInt8.ofNat (48 + u % 10) :: dl m (u / 10)

theorem dl_length : ∀ m u, (dl m u).length = m
  | 0, _ => rfl
  | m + 1, u => by rw [dl, List.length_cons, dl_length m]
theorem dl_snoc : ∀ (m u : Nat), dl (m + 1) u = dl m u ++ [UInt8.ofNat (48 + u / 10 ^ m % 10)]
  | 0, u => by simp [dl]
  | m + 1, u => by
    rw [dl, dl_snoc m (u / 10), dl, List.cons_append, Nat.div_div_eq_div_mul]
    rw [show 10 * 10 ^ m = 10 ^ (m + 1) by rw [Nat.pow_succ, Nat.mul_comm]]
theorem dl_zero : ∀ m, dl m 0 = List.replicate m 48
  | 0 => rfl
  | m + 1 => by rw [dl, Nat.zero_mod, Nat.zero_div, dl_zero m]; rfl
/-- the lowest digits are the text, turned round, and zeros -/
theorem dl_text : ∀ (u m : Nat), nDigits u ≤ m → dl m u = (decDigits u).reverse ++ List.replicate (m - nDigits u) 48 := by
  intro u
  induction u using Nat.strongRecOn with
  | _ u ih =>
    intro m hm
    have hp := nDigits_pos u
    obtain ⟨k, rfl⟩ : ∃ k, m = k + 1 := ⟨m - 1, by omega⟩
    by_cases hs : u < 10
    · rw [nDigits_small hs, decDigits_digit hs, dl, Nat.mod_eq_of_lt hs, Nat.div_eq_of_lt hs, dl_zero]; rfl
    · rw [nDigits_big hs] at hm ⊢
      have h2 := ih (u / 10) (by omega) k (by omega)
      rw [decDigits, dif_neg hs, dl, h2, List.reverse_append]
      rw [show k + 1 - (nDigits (u / 10) + 1) = k - nDigits (u / 10) by omega]
      rfl
theorem dl_take : ∀ (m k u : Nat), k ≤ m → (dl m u).take k = dl k u
  | _, 0, _, _ => by simp [dl]
  | 0, k + 1, _, h => by omega
  | m + 1, k + 1, u, h => by rw [dl, dl, List.take_succ_cons, dl_take m k (u / 10) (by omega)]
theorem dl_last (m u : Nat) : (dl (m + 1) u).getD m 0 = UInt8.ofNat (48 + u / 10 ^ m % 10) := by
  rw [dl_snoc, List.getD_eq_getElem?_getD, List.getElem?_append_right (by rw [dl_length]; omega), dl_length, Nat.sub_self]; rfl
theorem dl_get {m q : Nat} (u : Nat) (h : q < m) : ((dl m u).getD q 0).toNat = 48 + u / 10 ^ q % 10 := by
  have e : (dl m u).getD q 0 = (dl (q + 1) u).getD q 0 := by
    rw [← dl_take m (q + 1) u (by omega), List.getD_eq_getElem?_getD, List.getD_eq_getElem?_getD, List.getElem?_take, if_pos (by omega)]
  rw [e, dl_last, toNat_digit (Nat.mod_lt _ (by omega))]
/-- one digit to the base 10^9 -/
theorem digs_getD : ∀ (i u : Nat), (digs u).getD i 0 = ((u / 1000000000 ^ i % 1000000000 : Nat) : Int)
  | i, u => by
    by_cases hu : u = 0
    · subst hu; rw [digs_zero]; simp
    · have hp : 0 < u := Nat.pos_of_ne_zero hu
      rw [digs_pos hp]
      match i with
      | 0 => simp
      | i + 1 =>
        rw [List.getD_cons_succ, digs_getD i (u / 1000000000), Nat.div_div_eq_div_mul, Nat.pow_succ, Nat.mul_comm]
theorem pow9 (i : Nat) : (1000000000 : Nat) ^ i = 10 ^ (9 * i) := by
  rw [Nat.pow_mul]
/-- the k-th digit of the i-th one -/
theorem digit_of_digs (u i k : Nat) (hk : k < 9) : (u / 1000000000 ^ i % 1000000000) / 10 ^ k % 10 = u / 10 ^ (9 * i + k) % 10 := by
  have e : (1000000000 : Nat) = 10 ^ k * 10 ^ (9 - k) := by
    rw [← Nat.pow_add, show k + (9 - k) = 9 by omega]
  have e2 : (10 : Nat) ^ (9 - k) = 10 * 10 ^ (8 - k) := by
    rw [show 9 - k = (8 - k) + 1 by omega, Nat.pow_succ, Nat.mul_comm]
  rw [pow9, Nat.pow_add, ← Nat.div_div_eq_div_mul]
  generalize u / 10 ^ (9 * i) = v
  rw [e, Nat.mod_mul_right_div_self, e2, Nat.mod_mul_right_mod]
theorem nDigits_digs (u : Nat) : nDigits u ≤ 9 * (digs u).length ∨ u = 0 := by
  rcases Nat.eq_zero_or_pos u with h | h
  · exact Or.inr h
  · left
    have := digs_lt u
    rw [pow9] at this
    exact nDigits_le_of_lt this (by
      rcases Nat.eq_zero_or_pos (digs u).length with e | e
      · have := digs_len_zero.1 e; omega
      · omega)
/-- the last of the digits turned round is no zero -/
theorem last_text {u : Nat} (h : 0 < u) : ∃ k, 0 < k ∧ k < 10 ∧ (decDigits u).reverse.getLast? = some (UInt8.ofNat (48 + k)) := by
  obtain ⟨k, l, h1, h2, e⟩ := decDigits_pos h
  exact ⟨k, h1, h2, by rw [e, List.reverse_cons]; simp⟩
theorem digit_above {u m : Nat} (h : nDigits u ≤ m) : u / 10 ^ m % 10 = 0 := by
  have : u < 10 ^ m := by
    rcases Nat.lt_or_ge u (10 ^ m) with h' | h'
    · exact h'
    · have := nDigits_ge h'; omega
  rw [Nat.div_eq_of_lt this]
theorem digit_top {u m : Nat} (h : nDigits u = m + 1) (h0 : 0 < u) : u / 10 ^ m % 10 ≠ 0 ∧ u / 10 ^ m % 10 < 10 := by
  refine ⟨?_, Nat.mod_lt _ (by omega)⟩
  have hd : u / 10 ^ m < 10 := by
    rw [Nat.div_lt_iff_lt_mul (Nat.pow_pos (by omega))]
    rcases Nat.lt_or_ge u (10 ^ (m + 1)) with h' | h'
    · rw [Nat.pow_succ] at h'; omega
    · have := nDigits_ge h'; omega
  rw [Nat.mod_eq_of_lt hd]
  have : 10 ^ m ≤ u := by
    rcases Nat.lt_or_ge u (10 ^ m) with h' | h'
    · rcases Nat.eq_zero_or_pos m with h0 | h0
      · subst h0; rw [Nat.pow_zero] at h'; omega
      · have := nDigits_le_of_lt h' h0; omega
    · exact h'
  have := Nat.div_pos this (Nat.pow_pos (n := m) (by omega : 0 < 10))
  omega
theorem dl_whole (u : Nat) : dl (nDigits u) u = (decDigits u).reverse := by
  rw [dl_text u _ (Nat.le_refl _), Nat.sub_self]; simp
/-- the decimal text of an integer -/
def intT (z : Int) : List UInt8 := (if z < 0 then [45] else []) ++ decDigits z.natAbs
theorem numT_zero (z : Int) : numT z 0 = intT z := by
  unfold numT intT wholeT
  rw [Nat.pow_zero, Nat.div_one, Nat.mod_one]; simp
end Go.Proofs.YtpicmhbjiaegpaaGreatDoor

namespace Go.Proofs.YtpicmhbjiaegpaaGreatDoor
open Go.RowKit

section
variable {P : Program} {ops : Array Oper} {Q : Exit → Act → World → Prop} {md : Region.Mode}

/-- Whatever order is picked from here on; behind each operation before number n what was there is as it was. -/
def wpR (P : Program) (md : Region.Mode) (ops : Array Oper) (Q : Exit → Act → World → Prop) (n : Nat) : Nat → Array Bool → Act → World → Prop
  | 0, listed, a, w => Region.ready md ops listed = [] ∧ Q .normal a w
  | fuel + 1, listed, a, w =>
    (Region.ready md ops listed = [] → Q .normal a w) ∧
    ∀ i ∈ Region.ready md ops listed, wpOp P ops Q i (fun a' w' => (i < n → Below w.heap.size w w') ∧ wpR P md ops Q n fuel (listed.setIfInBounds i true) a' w') a w

theorem wpAny_of_R {n : Nat} : ∀ (fuel : Nat) (listed : Array Bool) (a : Act) (w : World), wpR P md ops Q n fuel listed a w → wpAny P md ops Q fuel listed a w
  | 0, _, _, _, h => h
  | fuel + 1, _, _, _, h => ⟨h.1, fun i hi => wpOp_mono (fun a' w' h' => wpAny_of_R fuel _ a' w' h'.2) (h.2 i hi)⟩

theorem YieldsIf.stay {o : Oper} {v : Value} {a : Act} {w w' : World} (h : YieldsIf P ops (fun x => Below w.heap.size w x) o v a) (hb : Below w.heap.size w w') :
    YieldsIf P ops (fun x => Below w'.heap.size w' x) o v a :=
  h.imp (fun ⟨h1, h2⟩ => ⟨h1, fun x hx => h2 x (hb.trans (hx.mono hb.size))⟩) id

theorem wpR_first {n i : Nat} {oi : Oper} {v : Value} (hi : ops[i]? = some oi) (hsel : ∀ (j : Nat) (o : Oper) cs b, ops[j]? = some o → o.op ≠ .select cs b)
    (hs : Region.sinkB md ops n = true) (hc : Region.chainB md ops n = true) (hn : n < ops.size) (hin : i < n)
    (hQ : ∀ c a w, Q (.panic c) (a.put oi.dst v) w → Q (.panic c) a w) :
    ∀ (fuel : Nat) (listed : Array Bool) (a : Act) (w : World), HeadInv md ops n listed →
      (∀ j oj, ops[j]? = some oj → j ≠ i → listed.getD j true = false → (∀ e ∈ oj.after, Region.binds md e = true → e.on ≠ i) → oi.apart ops oj = true) →
      i ∈ Region.ready md ops listed → YieldsIf P ops (fun x => Below w.heap.size w x) oi v a →
      wpR P md ops Q n fuel (listed.setIfInBounds i true) (a.put oi.dst v) w → wpR P md ops Q n (fuel + 1) listed a w := by
  intro fuel
  induction fuel with
  | zero =>
    intro listed a w _ _ hr hy H
    refine ⟨fun h => (by rw [h] at hr; cases hr), fun j hj => ?_⟩
    by_cases hji : j = i
    · subst hji; exact hy.wpOp hi (Below.refl _ _) ⟨fun _ => Below.refl _ _, H⟩
    · have := ready_mono hj hji
      rw [H.1] at this
      cases this
  | succ fuel ih =>
    intro listed a w inv hfree hr hy H
    have hun := (mem_ready.1 hr).1
    refine ⟨fun h => (by rw [h] at hr; cases hr), fun j hj => ?_⟩
    have hjn : j < n := by
      rcases Nat.lt_or_ge j n with h | h
      · exact h
      · exact absurd hj (tail_waits hs hc hn inv _ i rfl hin hun j h)
    by_cases hji : j = i
    · subst hji; exact hy.wpOp hi (Below.refl _ _) ⟨fun _ => Below.refl _ _, H⟩
    · have h1 := H.2 j (ready_mono hj hji)
      obtain ⟨hjun, oj, hoj, hall⟩ := mem_ready.1 hj
      have hnot : ∀ e ∈ oj.after, Region.binds md e = true → e.on ≠ i := fun e he hb heq => by
        have h1 := hall e he hb
        rw [heq, getD_both hun] at h1
        cases h1
      have h2 := wpOp_putIf hoj (hfree j oj hoj hji hjun hnot) (fun cs b => hsel i oi cs b hi) (fun cs b => hsel j oj cs b hoj) hQ hy h1
      have hfree' : ∀ k ok, ops[k]? = some ok → k ≠ i → (listed.setIfInBounds j true).getD k true = false →
          (∀ e ∈ ok.after, Region.binds md e = true → e.on ≠ i) → oi.apart ops ok = true := fun k ok hk hki hun hno => by
        refine hfree k ok hk hki ?_ hno
        by_cases hjk : j = k
        · subst hjk; exact hjun
        · rw [getD_set_ne true hjk] at hun; exact hun
      refine wpOp_mono (fun a' w' h3 => ⟨h3.2.1, ih (listed.setIfInBounds j true) a' w' (inv.set hj hjn) hfree' (ready_mono hr (Ne.symm hji)) (YieldsIf.stay h3.1 (h3.2.1 hjn)) ?_⟩) h2
      rw [Array.setIfInBounds_comm _ _ hji]
      exact h3.2.2

/-- the chosen order: of each of the first ones, whether it is taken (it merely yields) or comes up alone -/
def ordB (md : Region.Mode) (ops : Array Oper) (n : Nat) : List (Nat × Bool) → Array Bool → Bool
  | [], listed => Region.seqB md ops (ops.size - n) n listed
  | (i, t) :: rest, listed => (if t then (Region.ready md ops listed).contains i && Region.free md ops listed i else decide (Region.ready md ops listed = [i])) && decide (i < n) && ordB md ops n rest (listed.setIfInBounds i true)

/-- the walk in the chosen order -/
def wpOrd (P : Program) (ops : Array Oper) (Q : Exit → Act → World → Prop) (n : Nat) : List (Nat × Bool) → Act → World → Prop
  | [], a, w => wpList P ops Q (ops.toList.drop n) a w
  | (i, true) :: rest, a, w => ∃ o v, ops[i]? = some o ∧ YieldsIf P ops (fun x => Below w.heap.size w x) o v a ∧ (∀ c a w, Q (.panic c) (a.put o.dst v) w → Q (.panic c) a w) ∧ wpOrd P ops Q n rest (a.put o.dst v) w
  | (i, false) :: rest, a, w => wpOp P ops Q i (fun a' w' => Below w.heap.size w w' ∧ wpOrd P ops Q n rest a' w') a w

theorem wpR_of_seq {n : Nat} {Q' : Exit → Act → World → Prop} : ∀ (l : List Oper) (k : Nat) (listed : Array Bool) (a : Act) (w : World), n ≤ k → (∀ j, l[j]? = ops[k + j]?) →
    Region.seqB md ops l.length k listed = true → wpList P ops Q' l a w → wpR P md ops Q' n l.length listed a w
  | [], _, _, _, _, _, _, hB, h => ⟨by simpa [Region.seqB] using hB, h⟩
  | o :: l, k, listed, a, w, hk, hl, hB, h => by
    have h0 : ops[k]? = some o := by simpa using (hl 0).symm
    simp only [List.length_cons, Region.seqB, Bool.and_eq_true, decide_eq_true_eq] at hB
    refine ⟨fun h1 => (by rw [hB.1] at h1; cases h1), fun i hi => ?_⟩
    rw [hB.1] at hi
    have hik : i = k := by simpa using hi
    subst hik
    have hw : wpOp P ops Q' i (wpList P ops Q' l) a w := by unfold wpOp; simp only [h0]; exact h
    exact wpOp_mono (fun a' w' h' => ⟨fun hlt => absurd hlt (by omega), wpR_of_seq l (i + 1) _ a' w' (by omega) (fun j => by have := hl (j + 1); simpa [Nat.add_assoc, Nat.add_comm 1 j] using this) hB.2 h'⟩) hw

theorem wpR_of_ord {n : Nat} (hsel : Region.noSelect ops = true) (hs : Region.sinkB md ops n = true) (hc : Region.chainB md ops n = true) (hn : n < ops.size) :
    ∀ (ord : List (Nat × Bool)) (listed : Array Bool) (a : Act) (w : World), HeadInv md ops n listed → ordB md ops n ord listed = true → wpOrd P ops Q n ord a w →
      wpR P md ops Q n (ord.length + (ops.size - n)) listed a w
  | [], listed, a, w, _, hB, h => by
    have := wpR_of_seq (md := md) (n := n) (Q' := Q) (ops.toList.drop n) n listed a w (Nat.le_refl _) (fun j => by simp [List.getElem?_drop]) (by simpa [ordB] using hB) h
    simpa using this
  | (i, true) :: rest, listed, a, w, inv, hB, h => by
    obtain ⟨o, v, ho, hy, hQ, h⟩ := h
    simp only [ordB, if_true, Bool.and_eq_true, decide_eq_true_eq] at hB
    obtain ⟨⟨⟨h1, h2⟩, h3⟩, h4⟩ := hB
    have hr : i ∈ Region.ready md ops listed := by simpa using h1
    have := wpR_first ho (Region.noSelect_spec hsel) hs hc hn h3 hQ _ listed a w inv (Region.free_spec ho h2) hr hy (wpR_of_ord hsel hs hc hn rest _ _ w (inv.set hr h3) h4 h)
    rw [List.length_cons, show rest.length + 1 + (ops.size - n) = rest.length + (ops.size - n) + 1 by omega]
    exact this
  | (i, false) :: rest, listed, a, w, inv, hB, h => by
    simp only [ordB, Bool.false_eq_true, if_false, Bool.and_eq_true, decide_eq_true_eq] at hB
    obtain ⟨⟨h1, h3⟩, h4⟩ := hB
    have hr : i ∈ Region.ready md ops listed := by rw [h1]; simp
    rw [List.length_cons, show rest.length + 1 + (ops.size - n) = rest.length + (ops.size - n) + 1 by omega]
    refine ⟨fun h0 => (by rw [h0] at h1; cases h1), fun j hj => ?_⟩
    rw [h1] at hj
    obtain rfl : j = i := by simpa using hj
    exact wpOp_mono (fun a' w' h' => ⟨fun _ => h'.1, wpR_of_ord hsel hs hc hn rest _ a' w' (inv.set hr h3) h4 h'.2⟩) h

/-- the order serves: a closed fact -/
def eagerB (md : Region.Mode) (ops : Array Oper) (n : Nat) (ord : List (Nat × Bool)) : Bool :=
  Region.noSelect ops && decide (n < ops.size) && decide (ord.length = n) && Region.sinkB md ops n && Region.chainB md ops n && ordB md ops n ord (Array.replicate ops.size false)

/-- THE BEGINNING -/
theorem wp_region_eager {id : Nat} {a : Act} {w : World} (n : Nat) (ord : List (Nat × Bool)) (hm : P.follows .mixedOrders = true) (hB : eagerB .any ops n ord = true)
    (h : wpOrd P ops Q n ord a w.drew) : (Code.region id ops true).wp P Q a w := by
  simp only [eagerB, Bool.and_eq_true, decide_eq_true_eq] at hB
  obtain ⟨⟨⟨⟨⟨hsel, hn⟩, hl⟩, hs⟩, hc⟩, ho⟩ := hB
  have inv0 : HeadInv .any ops n (Array.replicate ops.size false) :=
    ⟨by simp, fun j oj _ hl => (by rw [getD_replicate_false] at hl; cases hl), fun t _ ht => getD_in (by simpa using ht) (getD_replicate_false _ _)⟩
  have := wpR_of_ord (P := P) (Q := Q) hsel hs hc hn ord _ a w.drew inv0 ho h
  rw [hl, show n + (ops.size - n) = ops.size by omega] at this
  exact wp_region_any hm (wpAny_of_R _ _ _ _ this)

/-- an operation that merely yields -/
theorem wpOrd_yield {n i : Nat} {rest : List (Nat × Bool)} {o : Oper} {v : Value} {a : Act} {w : World} (hi : ops.toList[i]? = some o) (hQ : ∀ c a w, Q (.panic c) (a.put o.dst v) w → Q (.panic c) a w)
    (hw : Region.wanted o (yielded ops a.tmps) = true) (hy : ∀ x, Below w.heap.size w x → (execOp a.eval o).run P x = .ok (.value v) x)
    (h : wpOrd P ops Q n rest (a.put o.dst v) w) : wpOrd P ops Q n ((i, true) :: rest) a w :=
  ⟨o, v, by rw [← Array.getElem?_toList]; exact hi, Or.inl ⟨hw, hy⟩, hQ, h⟩

/-- an operation whose guard is false -/
theorem wpOrd_skip {n i : Nat} {rest : List (Nat × Bool)} {o : Oper} {a : Act} {w : World} (hi : ops.toList[i]? = some o) (hQ : ∀ c a w, Q (.panic c) (a.put o.dst undef) w → Q (.panic c) a w)
    (hw : Region.wanted o (yielded ops a.tmps) = false)
    (h : wpOrd P ops Q n rest (a.put o.dst undef) w) : wpOrd P ops Q n ((i, true) :: rest) a w :=
  ⟨o, undef, by rw [← Array.getElem?_toList]; exact hi, Or.inr ⟨hw, rfl⟩, hQ, h⟩

/-- an operation that comes up alone: a call, a new variable -/
theorem wpOrd_step {n i : Nat} {rest : List (Nat × Bool)} {o : Oper} {a : Act} {w : World} (hi : ops.toList[i]? = some o) (hg : o.guard = none)
    (h : ∀ K : Act → World → Prop, (∀ a' w', Below w.heap.size w w' → wpOrd P ops Q n rest a' w' → K a' w') → o.wp P a w K Q) : wpOrd P ops Q n ((i, false) :: rest) a w := by
  have hw : Region.wanted o (yielded ops a.tmps) = true := by simp [Region.wanted, hg]
  rw [Array.getElem?_toList] at hi
  show wpOp P ops Q i _ a w
  unfold wpOp
  simp only [hi, hw, if_true]
  exact .inl (h _ fun a' w' h1 h2 => ⟨h1, h2⟩)

theorem wpOrd_nil {n : Nat} {a : Act} {w : World} {l : List Oper} (hl : ops.toList.drop n = l) (h : wpList P ops Q l a w) : wpOrd P ops Q n [] a w := by
  subst hl; exact h

end
end Go.Proofs.YtpicmhbjiaegpaaGreatDoor

namespace Go.Proofs.YtpicmhbjiaegpaaGreatDoor
open Go.RowKit

/-- the slot (a, n, c) reads as the ints zs; its block is below N -/
def SL (N : Nat) (w : World) (a : Option Addr) (n c : Nat) (zs : List Int) : Prop :=
  n = zs.length ∧ n ≤ c ∧ (0 < n → ∃ b off, a = some ⟨b, off, none⟩ ∧ b < N ∧ ∀ j, j < n → w.cell? ⟨b, off + j, none⟩ = some (.int .i64 (zs.getD j 0)))

theorem SL.len {N w a n c zs} (h : SL N w a n c zs) : n = zs.length := h.1
theorem SL.at {N w a n c zs} (h : SL N w a n c zs) (hn : 0 < n) : ∃ b off, a = some ⟨b, off, none⟩ ∧ b < N ∧ ∀ j, j < n → w.cell? ⟨b, off + j, none⟩ = some (.int .i64 (zs.getD j 0)) := h.2.2 hn
theorem SL.cap {N w a n c zs} (h : SL N w a n c zs) : n ≤ c := h.2.1
theorem SL.below {N M w w' a n c zs} (h : SL N w a n c zs) (hb : Below M w w') (hN : N ≤ M) : SL N w' a n c zs :=
  ⟨h.1, h.2.1, fun hn => let ⟨b, off, e, hlt, hc⟩ := h.2.2 hn; ⟨b, off, e, hlt, fun j hj => (hb.cell (p := ⟨b, off + j, none⟩) (Nat.lt_of_lt_of_le hlt hN)).trans (hc j hj)⟩⟩
theorem SL.mono {N M w a n c zs} (h : SL N w a n c zs) (hN : N ≤ M) : SL M w a n c zs :=
  ⟨h.1, h.2.1, fun hn => let ⟨b, off, e, hlt, hc⟩ := h.2.2 hn; ⟨b, off, e, Nat.lt_of_lt_of_le hlt hN, hc⟩⟩
/-- carried to the world behind a call -/
theorem SL.on {N w w' a n c zs} (h : SL N w a n c zs) (hb : Below N w w') : SL w'.heap.size w' a n c zs ∨ N > w'.heap.size := by
  by_cases hN : N ≤ w'.heap.size
  · exact Or.inl ((h.below hb (Nat.le_refl _)).mono hN)
  · exact Or.inr (by omega)
theorem SL.go {w w' a n c zs} (h : SL w.heap.size w a n c zs) (hb : Below w.heap.size w w') : SL w'.heap.size w' a n c zs :=
  (h.below hb (Nat.le_refl _)).mono hb.size
theorem SL.nil (N : Nat) (w : World) (a : Option Addr) (c : Nat) : SL N w a 0 c [] := ⟨rfl, Nat.zero_le _, fun h => absurd h (by omega)⟩
theorem SL.pre {N w a n c zs} (h : SL N w a n c zs) {k : Nat} (hk : k ≤ n) : SL N w a k c (zs.take k) :=
  ⟨by rw [List.length_take, ← h.1, Nat.min_eq_left hk], Nat.le_trans hk h.2.1, fun hn => let ⟨b, off, e, hlt, hc⟩ := h.2.2 (by omega); ⟨b, off, e, hlt, fun j hj => by rw [getD_take hj]; exact hc j (by omega)⟩⟩

/-- a block whose first cells are these values, free to be written -/
def Cells (w : World) (g : Nat) (cs : List Value) (t : TypeId) : Prop := ∃ rest : List Value, w.heap[g]? = some (.cells (cs ++ rest).toArray t (0, 0))

theorem Cells.lt {w g cs t} (h : Cells w g cs t) : g < w.heap.size := let ⟨_, h⟩ := h; lt_of_block h
theorem Cells.cell {w g cs t} (h : Cells w g cs t) {j : Nat} (hj : j < cs.length) : w.cell? ⟨g, j, none⟩ = some cs[j] := by
  obtain ⟨r, h⟩ := h; simp [World.cell?, h, List.getElem?_append_left hj, List.getElem?_eq_getElem hj]
theorem Cells.free {w g cs t} (h : Cells w g cs t) (j : Nat) : w.frozen? ⟨g, j, none⟩ = false := by
  obtain ⟨r, h⟩ := h; simp [World.frozen?, h]
theorem Cells.below {w w' g cs t B} (h : Cells w g cs t) (hb : Below B w w') (hg : g < B) : Cells w' g cs t := let ⟨r, h⟩ := h; ⟨r, (hb.block g hg).trans h⟩
theorem Cells.set {w g cs t} (h : Cells w g cs t) (j : Nat) (hj : j < cs.length) (v : Value) : Cells (w.setCell ⟨g, j, none⟩ v) g (cs.set j v) t := by
  have hlt := h.lt
  obtain ⟨r, h⟩ := h
  have h' : w.heap[g] = .cells (cs ++ r).toArray t (0, 0) := by simpa [Array.getElem?_eq_getElem hlt] using h
  refine ⟨r, ?_⟩
  show (w.heap.modify g _)[g]? = _
  rw [Array.getElem?_eq_getElem (by simpa using hlt), Array.getElem_modify_self, h']
  simp [hj]
theorem Cells.other {w g cs t} (h : Cells w g cs t) (p : Addr) (hp : p.block ≠ g) (v : Value) : Cells (w.setCell p v) g cs t :=
  let ⟨r, h⟩ := h; ⟨r, by rw [Below.heap_setCell _ _ _ _ (fun e => hp e.symm)]; exact h⟩
theorem Cells.drew {w g cs t} (h : Cells w g cs t) (k : Nat) : Cells (w.drewN k) g cs t := h
theorem Cells.pre {w g cs t} {ds : List Value} (h : Cells w g (cs ++ ds) t) : Cells w g cs t := let ⟨r, h⟩ := h; ⟨ds ++ r, by rw [← List.append_assoc]; exact h⟩

/-- a block whose first cells are these ints, free to be written -/
def Blk (w : World) (g : Nat) (zs : List Int) : Prop := Cells w g (zs.map (Value.int .i64)) 3

theorem Blk.lt {w g zs} (h : Blk w g zs) : g < w.heap.size := Cells.lt h
theorem Blk.cell {w g zs} (h : Blk w g zs) {j : Nat} (hj : j < zs.length) : w.cell? ⟨g, j, none⟩ = some (.int .i64 (zs.getD j 0)) := by
  have := Cells.cell h (j := j) (by simpa using hj)
  simpa [List.getD_eq_getElem?_getD, List.getElem?_eq_getElem hj] using this
theorem Blk.free {w g zs} (h : Blk w g zs) (j : Nat) : w.frozen? ⟨g, j, none⟩ = false := Cells.free h j
theorem Blk.below {w w' g zs B} (h : Blk w g zs) (hb : Below B w w') (hg : g < B) : Blk w' g zs := Cells.below h hb hg
theorem Blk.set {w g zs} (h : Blk w g zs) (j : Nat) (hj : j < zs.length) (v : Int) : Blk (w.setCell ⟨g, j, none⟩ (.int .i64 v)) g (zs.set j v) := by
  have := Cells.set h j (by simpa using hj) (.int .i64 v)
  unfold Blk; rw [List.map_set]; exact this
theorem Blk.sl {w g zs} (h : Blk w g zs) {c : Nat} (hc : zs.length ≤ c) : SL w.heap.size w (some ⟨g, 0, none⟩) zs.length c zs :=
  ⟨rfl, hc, fun _ => ⟨g, 0, rfl, h.lt, fun j hj => by rw [Nat.zero_add]; exact h.cell hj⟩⟩
theorem Blk.drew {w g zs} (h : Blk w g zs) (k : Nat) : Blk (w.drewN k) g zs := h

theorem below_drewN {B : Nat} {a w : World} (h : Below B a w) (n : Nat) : Below B a (w.drewN n) := h.trans ⟨rfl, rfl, rfl, Nat.le_refl _, fun _ _ => rfl⟩

theorem below_undrew {B : Nat} {w w' : World} {k : Nat} (h : Below B (w.drewN k) w') : Below B w w' := ⟨h.os, h.tape, h.output, h.size, h.block⟩

/-- behind a call: all old cells read as before -/
theorem bcells {w w' : World} (hb : Below w.heap.size w w') : (∀ b o, b < w.heap.size → w'.cell? ⟨b, o, none⟩ = w.cell? ⟨b, o, none⟩) ∧ (∀ b o, b < w.heap.size → w'.frozen? ⟨b, o, none⟩ = w.frozen? ⟨b, o, none⟩) :=
  ⟨fun b o h => hb.cell (p := ⟨b, o, none⟩) h, fun b o h => hb.frozen (p := ⟨b, o, none⟩) h⟩

/-- the slot lies in no block below B -/
def Fresh (B : Nat) (a : Option Addr) (n : Nat) : Prop := ∀ b off, a = some ⟨b, off, none⟩ → 0 < n → B ≤ b

theorem Fresh.ofNone (B : Nat) (n : Nat) : Fresh B none n := fun b off e => by cases e
theorem Fresh.zero (B : Nat) (a : Option Addr) : Fresh B a 0 := fun b off _ h => absurd h (by omega)
theorem Fresh.mk {B g off : Nat} (h : B ≤ g) (n : Nat) : Fresh B (some ⟨g, off, none⟩) n := fun b o e _ => by cases e; exact h
theorem Fresh.mono {B B' : Nat} {a : Option Addr} {n : Nat} (h : Fresh B a n) (hB : B' ≤ B) : Fresh B' a n := fun b off e h0 => Nat.le_trans hB (h b off e h0)

/-- a slice that lies elsewhere stays as it is where a cell is written -/
theorem SL.setCell {N : Nat} {w : World} {a : Option Addr} {n c : Nat} {zs : List Int} (h : SL N w a n c zs) (p : Addr) (u : Value) (hne : ∀ b off, a = some ⟨b, off, Option.none⟩ → 0 < n → b ≠ p.block) : SL N (w.setCell p u) a n c zs := by
  refine ⟨h.1, h.2.1, fun h0 => ?_⟩
  obtain ⟨b, off, e, hlt, hc⟩ := h.2.2 h0
  have hb := hne b off e h0
  exact ⟨b, off, e, hlt, fun j hj => by rw [World.cell?_setCell_other _ _ _ _ (fun e => hb (congrArg Addr.block e).symm)]; exact hc j hj⟩

/-- a call that gives back a slice of ints, and changes nothing that was there -/
def RetS (w : World) (zs : List Int) (e : Ending) (w' : World) : Prop :=
  ∃ a n c, e = .returned (.slice a n c) ∧ SL w'.heap.size w' a n c zs ∧ Below w.heap.size w w' ∧ Fresh w.heap.size a n

/-- a call that only reads (and draws) and gives back v -/
def RetQ (w : World) (v : Value) (e : Ending) (w' : World) : Prop := e = .returned v ∧ ∃ k, w' = w.drewN k

/-- a call that gives back v, and changes nothing that was there -/
def RetB (w : World) (v : Value) (e : Ending) (w' : World) : Prop := e = .returned v ∧ Below w.heap.size w w'

theorem Tryz.infoInt : (Tryz.prog.info? 3).map (fun i => (i.zero, i.size, i.bytes)) = some (some (.int .i64 0), 1, 8) := by kernel_rfl

theorem info_of {t : TypeId} {z : Value} {s b : Nat} (h : (Tryz.prog.info? t).map (fun i => (i.zero, i.size, i.bytes)) = some (some z, s, b)) :
    ∃ i, Tryz.prog.info? t = some i ∧ i.zero = some z ∧ i.size = s ∧ i.bytes = b := by
  cases hi : Tryz.prog.info? t with
  | none => rw [hi] at h; cases h
  | some i => rw [hi] at h; simp at h; exact ⟨i, rfl, h.1, h.2.1, h.2.2⟩

theorem madeInts (n : Nat) : madeCells (Value.int .i64 0).cells n = ((List.replicate n (0 : Int)).map (Value.int .i64)).toArray := by
  apply Array.ext
  · simp [madeCells]
  · intro i h1 h2
    simp [madeCells, Value.cells, Nat.mod_one]

theorem wpList_make_ints {w : World} {ops : Array Oper} {rest : List Oper} {o : Oper} {a : Act} {Q : Exit → Act → World → Prop}
    (hg : o.guard = none) (l c : Operand) (t : TypeId) (hop : o.op = Op.makeSlice t l c) (ht : Tryz.prog.underlying t = some (.slice 3))
    (L : Int) (n : Nat) (hl : a.eval l = .int .i64 L) (hc : a.eval c = .int .i64 L) (hL : L = (n : Int)) (hn : n ≤ 10000000000000)
    (hK : ∀ w', Blk w' w.heap.size (List.replicate n 0) → Below w.heap.size w w' → wpList Tryz.prog ops Q rest (a.put o.dst (.slice (some ⟨w.heap.size, 0, none⟩) n n)) w') :
    wpList Tryz.prog ops Q (o :: rest) a w := by
  refine wpList_plain hg fun K hK' => ?_
  obtain ⟨i, hi, hz, hs, hb⟩ := info_of Tryz.infoInt
  subst hL
  have hr := run_make (P := Tryz.prog) w t 3 i _ ht hi hz .i64 .i64 (n : Int) (n : Int) (by omega) (by omega) (by rw [hb]; omega) (by omega)
  rw [hs, Int.toNat_natCast, Nat.mul_one, madeInts] at hr
  unfold Oper.wp
  simp [execOp, hop, hl, hc, hr, Result.andThen]
  refine hK' _ _ (hK _ ?_ ((Below.refl _ _).alloc (Nat.le_refl _) _))
  refine ⟨[], ?_⟩
  rw [heap_alloc_new]
  simp

/-- the first ones of a list, put over those of another -/
def over (cs zs : List Int) : List Int := cs ++ zs.drop cs.length

theorem wpList_copy_ints {w : World} {ops : Array Oper} {rest : List Oper} {o : Oper} {a : Act} {Q : Exit → Act → World → Prop} (hgd : o.guard = none) (d s : Operand) (dT sT : TypeId)
    (ho : o.op = .call { callee := .builtin .copy, args := #[d, s], argTypes := #[dT, sT] }) (hu : Tryz.prog.underlying dT = some (.slice 3))
    (g : Nat) (dLen dCap : Nat) (sp : Option Addr) (sLen sCap : Nat) (hd : a.eval d = .slice (some ⟨g, 0, none⟩) dLen dCap) (hs : a.eval s = .slice sp sLen sCap)
    (N : Nat) (xs zs : List Int) (hx : SL N w sp sLen sCap xs) (hz : Blk w g zs) (hlz : dLen = zs.length) (hle : xs.length ≤ zs.length) (B : Nat) (w0 : World) (hb : Below B w0 w) (hBg : B ≤ g)
    (h : ∀ w', Blk w' g (over xs zs) → Below B w0 w' → wpList Tryz.prog ops Q rest (a.put o.dst (goInt xs.length)) w') :
    wpList Tryz.prog ops Q (o :: rest) a w := by
  have hsz : (Tryz.prog.info? 3).map (·.size) = some 1 := by obtain ⟨i, hi, _, hs, _⟩ := info_of Tryz.infoInt; rw [hi]; simp [hs]
  have hlen : (xs.map (Value.int .i64)).length = Nat.min sLen dLen := by
    rw [List.length_map, hlz]; show _ = min _ _; have := hx.len; omega
  obtain ⟨r, hz⟩ := hz
  refine wpList_copy_splice hgd d s dT sT ho 3 hu hsz _ _ dLen dCap sLen sCap hd hs g 0 (zs.map (Value.int .i64) ++ r) 3 hz (xs.map (Value.int .i64)) hlen ?_ (by simp; omega) (by simp [Value.oneCell']) B w0 hb hBg ?_
  · intro hp
    refine ⟨rfl, ?_⟩
    obtain ⟨b, off, rfl, _, hc⟩ := hx.2.2 (by have := hx.len; simp at hp; omega)
    refine ⟨_, rfl, fun j v hj => ?_⟩
    have hjl : j < xs.length := by
      apply Decidable.byContradiction; intro hcon
      rw [List.getElem?_eq_none (by simp; omega)] at hj; cases hj
    rw [List.getElem?_map, List.getElem?_eq_getElem hjl] at hj
    simp at hj; subst hj
    have := hc j (by have := hx.len; omega)
    rw [List.getD_eq_getElem?_getD, List.getElem?_eq_getElem hjl] at this
    unfold Addr.add
    by_cases h0 : j = 0
    · subst h0; simpa using this
    · simpa [h0] using this
  · intro w' hw' hb'
    have e : (xs.map (Value.int .i64)).length = xs.length := by simp
    rw [e]
    refine h w' ?_ hb'
    have := hw'.out
    refine ⟨r, ?_⟩
    rw [this]
    have e2 : xs.length - zs.length = 0 := by omega
    simp [splice, over, List.map_drop, List.drop_append, e2]

/-- what the call owns as a row, read as a block -/
theorem owns_cells {w : World} {base : Nat} {t : TypeId} {size : Nat} {v : Value} {n : Nat} {xs : List Value} (h : w.ownsRow base t size v n xs) :
    xs.length = n * size ∧ ((v = .slice none 0 0 ∧ n = 0) ∨ ∃ g cap, v = .slice (some ⟨g, 0, none⟩) n cap ∧ base ≤ g ∧ n ≤ cap ∧ Cells w g xs t) := by
  refine ⟨h.1, h.2.imp id ?_⟩
  rintro ⟨g, cap, cur, rfl, hb, hh, hc, _, _, ht⟩
  refine ⟨g, cap, rfl, hb, hc, cur.toList.drop (n * size), ?_⟩
  rw [hh, ← ht, List.take_append_drop]

theorem Below.of_grown {w w' : World} {row : Option Nat} (hg : w.grownBy w' row) (hr : ∀ k, row = some k → w.heap.size ≤ k) : Below w.heap.size w w' :=
  (Below.refl _ _).grown hg (Nat.le_refl _) hr

/-- append, the first one the call's own (or nil), the second one any slice that reads as these cells -/
theorem wpList_append_cells {w : World} {ops : Array Oper} {rest : List Oper} {o : Oper} {a : Act} {Q : Exit → Act → World → Prop} (hgd : o.guard = none) (s x : Operand) (t : TypeId)
    (ho : o.op = .call { callee := .builtin .append, args := #[s, x], argTypes := #[t, t] })
    (base : Nat) (e : TypeId) (z : Value) (size bytes : Nat) (ht : Tryz.prog.underlying t = some (.slice e)) (hi : (Tryz.prog.info? e).map (fun i => (i.zero, i.size, i.bytes)) = some (some z, size, bytes))
    (hzs : z.cells.size = size) (hsz : 0 < size)
    (v : Value) (n : Nat) (xs : List Value) (hs : a.eval s = v) (hown : w.ownsRow base e size v n xs)
    (sp : Option Addr) (m c : Nat) (news : List Value) (hx : a.eval x = .slice sp m c) (hl : news.length = m * size)
    (hnews : 0 < m → ∃ b off, sp = some ⟨b, off, none⟩ ∧ ∀ j u, news[j]? = some u → w.cell? ⟨b, off + j, none⟩ = some u) (h1 : ∀ u ∈ news, u.oneCell' = true)
    (hmn : sp = none → m = 0 ∧ c = 0) (hb : (n + m) * bytes ≤ 140737488355328) (hb2 : n + m ≤ 140737488355328) (hbase : base ≤ w.heap.size)
    (h : ∀ v' w', w'.ownsRow base e size v' (n + m) (xs ++ news) → w.grownBy w' v.ownBlock → wpList Tryz.prog ops Q rest (a.put o.dst v') w') :
    wpList Tryz.prog ops Q (o :: rest) a w := by
  obtain ⟨i, hi1, hi2, hi3, hi4⟩ := info_of hi
  cases sp with
  | none =>
    obtain ⟨rfl, rfl⟩ := hmn rfl
    obtain rfl : news = [] := List.eq_nil_of_length_eq_zero (by simpa using hl)
    refine wpList_append_own_none hgd s x t ho base e i size ht hi1 v n xs hs hown hx ?_
    exact h v w (by simpa using hown) ⟨rfl, rfl, rfl, Nat.le_refl _, fun _ _ _ => rfl⟩
  | some ad =>
    refine wpList_append_own w hgd s x t ho base e i z size bytes ht hi1 hi2 hi3 hi4 hzs hsz v n xs hs hown ad m c news hx hl ?_ h1 (by unfold maxLen; omega) hb hbase (fun v' w' h2 h3 _ => h v' w' h2 h3)
    intro j u hj
    by_cases hm : 0 < m
    · obtain ⟨b, off, he, hc⟩ := hnews hm
      obtain rfl := Option.some.inj he
      have := hc j u hj
      unfold Addr.add
      by_cases h0 : j = 0
      · subst h0; simpa using this
      · simpa [h0] using this
    · have : news.length = 0 := by rw [hl, show m = 0 by omega]; simp
      rw [List.eq_nil_of_length_eq_zero this] at hj; simp at hj

/-- append of ints -/
theorem wpList_append_ints {w : World} {ops : Array Oper} {rest : List Oper} {o : Oper} {a : Act} {Q : Exit → Act → World → Prop} (hgd : o.guard = none) (s x : Operand) (t : TypeId)
    (ho : o.op = .call { callee := .builtin .append, args := #[s, x], argTypes := #[t, t] }) (ht : Tryz.prog.underlying t = some (.slice 3))
    (base : Nat) (v : Value) (n : Nat) (zs : List Int) (hs : a.eval s = v) (hown : w.ownsRow base 3 1 v n (zs.map (Value.int .i64)))
    (N : Nat) (sp : Option Addr) (m c : Nat) (xs : List Int) (hx : a.eval x = .slice sp m c) (hsl : SL N w sp m c xs) (hmn : sp = none → c = 0)
    (hb : n + m ≤ 10000000000000) (hbase : base ≤ w.heap.size)
    (h : ∀ v' w', w'.ownsRow base 3 1 v' (n + m) ((zs ++ xs).map (Value.int .i64)) → w.grownBy w' v.ownBlock → wpList Tryz.prog ops Q rest (a.put o.dst v') w') :
    wpList Tryz.prog ops Q (o :: rest) a w := by
  refine wpList_append_cells hgd s x t ho base 3 (.int .i64 0) 1 8 ht Tryz.infoInt (by simp [Value.cells]) (by omega) v n _ hs hown sp m c (xs.map (Value.int .i64)) hx (by simp [hsl.len]) ?_ (by simp [Value.oneCell']) ?_ (by omega) (by omega) hbase ?_
  · intro hm
    obtain ⟨b, off, e, _, hc⟩ := hsl.2.2 hm
    refine ⟨b, off, e, fun j u hj => ?_⟩
    have hjl : j < xs.length := by
      apply Decidable.byContradiction; intro hcon
      rw [List.getElem?_eq_none (by simp; omega)] at hj; cases hj
    have := hc j (by have := hsl.len; omega)
    rw [List.getElem?_map, List.getElem?_eq_getElem hjl] at hj
    simp at hj; subst hj
    rw [this, List.getD_eq_getElem?_getD, List.getElem?_eq_getElem hjl]; rfl
  · intro e
    refine ⟨?_, hmn e⟩
    apply Decidable.byContradiction; intro hcon
    obtain ⟨b, off, e2, _⟩ := hsl.2.2 (by omega)
    rw [e] at e2; cases e2
  · intro v' w' h2 h3
    rw [← List.map_append] at h2
    exact h v' w' h2 h3

/-- the block that was laid ahead of a call, behind it -/
theorem kept_new {w w1 : World} {cs : Array Value} {t : TypeId} (hb : Below (w.alloc (.cells cs t)).heap.size (w.alloc (.cells cs t)) w1) :
    (∀ i, w1.cell? ⟨w.heap.size, i, none⟩ = cs[i]?) ∧ (∀ i, w1.frozen? ⟨w.heap.size, i, none⟩ = false) ∧ w.heap.size < w1.heap.size := by
  have hs : (w.alloc (.cells cs t)).heap.size = w.heap.size + 1 := by simp
  refine ⟨fun i => ?_, fun i => ?_, by have := hb.size; omega⟩
  · rw [hb.cell (p := ⟨w.heap.size, i, none⟩) (by simp)]
    exact World.cell?_alloc_at _ _ _ _ rfl
  · rw [hb.frozen (p := ⟨w.heap.size, i, none⟩) (by simp)]
    exact World.frozen?_alloc_at _ _ _ _ rfl
theorem below_alloc {w w1 : World} {o : Obj} (hb : Below (w.alloc o).heap.size (w.alloc o) w1) : Below w.heap.size w w1 :=
  ((Below.refl _ _).alloc (Nat.le_refl _) _).trans (hb.mono (by simp))
theorem SL.alloc {w : World} {a n c zs} (h : SL w.heap.size w a n c zs) (o : Obj) : SL (w.alloc o).heap.size (w.alloc o) a n c zs :=
  h.go ((Below.refl _ _).alloc (Nat.le_refl _) _)

theorem SL.one (w : World) (x : Int) (t : TypeId) : SL (w.alloc (.cells #[.int .i64 x] t)).heap.size (w.alloc (.cells #[.int .i64 x] t)) (some ⟨w.heap.size, 0, none⟩) 1 1 [x] :=
  ⟨rfl, Nat.le_refl _, fun _ => ⟨w.heap.size, 0, rfl, by simp, fun j hj => by
    obtain rfl : j = 0 := by omega
    exact World.cell?_alloc_at _ _ _ _ rfl⟩⟩
/-- a row of the call's own is a slice -/
theorem owns_slice {w : World} {base : Nat} {t : TypeId} {size : Nat} {v : Value} {n : Nat} {xs : List Value} (h : w.ownsRow base t size v n xs) : ∃ a c, v = .slice a n c := by
  rcases h.2 with ⟨rfl, rfl⟩ | ⟨g, cap, cur, rfl, _⟩
  · exact ⟨_, _, rfl⟩
  · exact ⟨_, _, rfl⟩
theorem owns_sl {w : World} {base : Nat} {t : TypeId} {a : Option Addr} {n c : Nat} {zs : List Int} (h : w.ownsRow base t 1 (.slice a n c) n (zs.map (Value.int .i64))) : SL w.heap.size w a n c zs := by
  have hl := h.1
  simp at hl
  rcases (owns_cells h).2 with ⟨e, rfl⟩ | ⟨g, cap, e, _, hc, hcs⟩
  · cases List.eq_nil_of_length_eq_zero hl
    exact SL.nil _ _ _ _
  · injection e with e1 e2 e3
    subst e1 e3
    refine ⟨hl.symm, hc, fun _ => ⟨g, 0, rfl, hcs.lt, fun j hj => ?_⟩⟩
    rw [Nat.zero_add, hcs.cell (by simp; omega)]
    simp [List.getD_eq_getElem?_getD, List.getElem?_eq_getElem (show j < zs.length by omega)]

/-- a block that is older than the row stays as it is while the row grows -/
theorem grown_old {w w' : World} {o : Obj} {base : Nat} {t : TypeId} {size : Nat} {v : Value} {n : Nat} {xs : List Value} (hown : w.ownsRow base t size v n xs) (hg : (w.alloc o).grownBy w' v.ownBlock)
    {b : Nat} (hb : b < base) (hbase : base ≤ w.heap.size) : w'.heap[b]? = w.heap[b]? := by
  rw [hg.block b (by simp; omega) (fun e => by have := (hown.lt b e.symm).1; omega), Below.heap_alloc _ _ _ (by omega)]
theorem grown_below {w0 w w' : World} {o : Obj} {base B : Nat} {t : TypeId} {size : Nat} {v : Value} {n : Nat} {xs : List Value} (hb : Below B w0 w) (hown : w.ownsRow base t size v n xs) (hg : (w.alloc o).grownBy w' v.ownBlock)
    (hB : B ≤ base) (hbase : base ≤ w.heap.size) : Below B w0 w' :=
  (hb.alloc (by omega) o).grown hg (by simp; omega) (fun k hk => by have := (hown.lt k hk).1; omega)

theorem obj_setCell {w : World} {b : Nat} {cs : Array Value} {t : TypeId} (h : w.heap[b]? = some (.cells cs t (0, 0))) (i : Nat) (u : Value) :
    (w.setCell ⟨b, i, none⟩ u).heap[b]? = some (.cells (cs.setIfInBounds i u) t (0, 0)) := by
  have hlt := lt_of_block h
  have h' : w.heap[b] = .cells cs t (0, 0) := by simpa [Array.getElem?_eq_getElem hlt] using h
  show (w.heap.modify b _)[b]? = _
  rw [Array.getElem?_eq_getElem (by simpa using hlt), Array.getElem_modify_self, h']
  rfl
theorem obj_other {w : World} {b : Nat} {o : Obj} (h : w.heap[b]? = some o) (p : Addr) (hp : p.block ≠ b) (u : Value) : (w.setCell p u).heap[b]? = some o :=
  (Below.heap_setCell _ _ _ _ (fun e => hp e.symm)).trans h

/-- a call that gives back a slice of ints in memory of its own -/
def RetOwn (w : World) (zs : List Int) (e : Ending) (w' : World) : Prop :=
  ∃ v, e = .returned v ∧ ((v = .slice none 0 0 ∧ zs = []) ∨ ∃ g c, v = .slice (some ⟨g, 0, none⟩) zs.length c ∧ zs.length ≤ c ∧ w.heap.size ≤ g ∧ Blk w' g zs) ∧ Below w.heap.size w w'

end Go.Proofs.YtpicmhbjiaegpaaGreatDoor

namespace Go.Proofs.YtpicmhbjiaegpaaGreatDoor
open Go.RowKit

/-! from SizeA -/

/-- Trim, at digits: the digits of the value. -/
def RetTrim (w : World) (a : Option Addr) (c : Nat) (zs : List Int) (e : Ending) (w' : World) : Prop :=
  ∃ k, e = .returned (.slice a k c) ∧ k ≤ zs.length ∧ zs.take k = digs (val zs).toNat ∧ w = w'

/-! from SizeB -/

theorem getD_set (l : List Int) (i j : Nat) (v : Int) : (l.set i v).getD j 0 = if i = j ∧ i < l.length then v else l.getD j 0 := by
  simp only [List.getD_eq_getElem?_getD, List.getElem?_set]
  by_cases h : i = j
  · subst h
    by_cases h2 : i < l.length
    · simp [h2]
    · simp [h2]
  · simp [h]

/-- Plus, the first loop: the second one's first k digits are added. -/
def P1 (xs ys : List Int) (n k : Nat) (out : List Int) : Prop :=
  out.length = n + 1 ∧ (∀ j, 0 ≤ out.getD j 0 ∧ out.getD j 0 ≤ 1999999998) ∧ (∀ j, k ≤ j → out.getD j 0 < 1000000000) ∧ out.getD n 0 = 0 ∧ val out = val xs + val (ys.take k)

theorem P1.start {xs ys : List Int} {n : Nat} (hx : Dig xs) (hl : n = xs.length) : P1 xs ys n 0 (over xs (List.replicate (n + 1) 0)) := by
  have e : over xs (List.replicate (n + 1) 0) = xs ++ [0] := by unfold over; rw [List.drop_replicate, ← hl]; simp
  have hd : Dig (xs ++ [0]) := hx.append (Dig.cons (by omega) Dig.nil)
  rw [e]
  refine ⟨by simp [hl], fun j => ⟨(hd.all j).1, by have := (hd.all j).2; omega⟩, fun j _ => (hd.all j).2, ?_, ?_⟩
  · simp [hl]
  · rw [val_append]; simp [val]

theorem P1.step {xs ys out : List Int} {n k : Nat} (h : P1 xs ys n k out) (hy : Dig ys) (hk : k < ys.length) (hkn : k < n) : P1 xs ys n (k + 1) (out.set k (out.getD k 0 + ys.getD k 0)) := by
  obtain ⟨h1, h2, h3, h4, h5⟩ := h
  have a := hy.all k
  have b := h3 k (Nat.le_refl _)
  have b2 := (h2 k).1
  refine ⟨by simpa using h1, fun j => ?_, fun j hj => ?_, ?_, ?_⟩
  · rw [getD_set]; split
    · omega
    · exact h2 j
  · rw [getD_set, if_neg (by omega)]; exact h3 j (by omega)
  · rw [getD_set, if_neg (by omega)]; exact h4
  · rw [val_set (by omega), h5, val_take_succ hk, show out.getD k 0 + ys.getD k 0 - out.getD k 0 = ys.getD k 0 by omega]; omega

/-- Plus, the second loop: the first k carries are taken. -/
def P2 (v : Int) (n k : Nat) (out : List Int) : Prop :=
  out.length = n + 1 ∧ (∀ j, 0 ≤ out.getD j 0 ∧ out.getD j 0 ≤ 1999999999) ∧ (∀ j, j < k → out.getD j 0 < 1000000000) ∧ (∀ j, k < j → out.getD j 0 ≤ 1999999998) ∧
    (k < n → out.getD n 0 = 0) ∧ (k = n → out.getD n 0 ≤ 1) ∧ val out = v

theorem P2.start {xs ys out : List Int} {n m : Nat} (h : P1 xs ys n m out) (hm : m = ys.length) : P2 (val xs + val ys) n 0 out := by
  obtain ⟨h1, h2, h3, h4, h5⟩ := h
  refine ⟨h1, fun j => ⟨(h2 j).1, by have := (h2 j).2; omega⟩, fun j hj => absurd hj (by omega), fun j _ => (h2 j).2, fun _ => h4, fun hn => by omega, ?_⟩
  rw [h5, hm, List.take_length]

theorem P2.less {v : Int} {n k : Nat} {out : List Int} (h : P2 v n k out) (hk : k < n) (hs : out.getD k 0 < 1000000000) : P2 v n (k + 1) out := by
  obtain ⟨h1, h2, h3, h4, h5, h6, h7⟩ := h
  refine ⟨h1, h2, fun j hj => ?_, fun j hj => h4 j (by omega), fun _ => h5 hk, fun _ => by have := h5 hk; omega, h7⟩
  by_cases e : j = k
  · subst e; exact hs
  · exact h3 j (by omega)

theorem P2.more {v : Int} {n k : Nat} {out : List Int} (h : P2 v n k out) (hk : k < n) (hs : 1000000000 ≤ out.getD k 0) :
    P2 v n (k + 1) ((out.set k (out.getD k 0 - 1000000000)).set (k + 1) (out.getD (k + 1) 0 + 1)) := by
  obtain ⟨h1, h2, h3, h4, h5, h6, h7⟩ := h
  have a := h2 k; have b := h2 (k + 1); have c := h4 (k + 1) (by omega)
  refine ⟨by simpa using h1, fun j => ?_, fun j hj => ?_, fun j hj => ?_, fun hn => ?_, fun hn => ?_, ?_⟩
  · rw [getD_set, getD_set]; split
    · omega
    · split
      · omega
      · exact h2 j
  · rw [getD_set, getD_set]; split
    · omega
    · split
      · omega
      · exact h3 j (by omega)
  · rw [getD_set, getD_set, if_neg (by omega), if_neg (by omega)]; exact h4 j (by omega)
  · rw [getD_set, getD_set, if_neg (by omega), if_neg (by omega)]; exact h5 hk
  · rw [getD_set, if_pos ⟨hn, by simp; omega⟩, hn, h5 hk]; omega
  · rw [val_set (by simp; omega), val_set (by omega), getD_set, if_neg (by omega), h7, Int.pow_succ]
    generalize (1000000000 : Int) ^ k = p
    generalize out.getD k 0 = x
    rw [show x - 1000000000 - x = -1000000000 by omega, show out.getD (k + 1) 0 + 1 - out.getD (k + 1) 0 = 1 by omega]
    omega

theorem P2.dig {v : Int} {n : Nat} {out : List Int} (h : P2 v n n out) : Dig out ∧ val out = v := by
  obtain ⟨h1, h2, h3, h4, h5, h6, h7⟩ := h
  refine ⟨fun j hj => ⟨(h2 j).1, ?_⟩, h7⟩
  by_cases e : j = n
  · subst e; have := h6 rfl; omega
  · exact h3 j (by omega)

/-! from SizeC -/

/-- Minus, the second loop: the first k borrows are taken. -/
def M2 (v : Int) (n k : Nat) (out : List Int) : Prop :=
  out.length = n ∧ (∀ j, -1000000000 ≤ out.getD j 0 ∧ out.getD j 0 < 1000000000) ∧ (∀ j, j < k → 0 ≤ out.getD j 0) ∧ (∀ j, k < j → -999999999 ≤ out.getD j 0) ∧ val out = v

/-- Minus, the first loop -/
def M1 (xs ys : List Int) (n k : Nat) (out : List Int) : Prop :=
  out.length = n ∧ (∀ j, -999999999 ≤ out.getD j 0 ∧ out.getD j 0 < 1000000000) ∧ (∀ j, k ≤ j → 0 ≤ out.getD j 0) ∧ val out = val xs - val (ys.take k)

theorem M1.start {xs ys : List Int} (hx : Dig xs) : M1 xs ys xs.length 0 xs :=
  ⟨rfl, fun j => ⟨by have := (hx.all j).1; omega, (hx.all j).2⟩, fun j _ => (hx.all j).1, by simp [val]⟩

theorem M1.step {xs ys out : List Int} {n k : Nat} (h : M1 xs ys n k out) (hy : Dig ys) (hk : k < ys.length) (hkn : k < n) : M1 xs ys n (k + 1) (out.set k (out.getD k 0 - ys.getD k 0)) := by
  obtain ⟨h1, h2, h3, h4⟩ := h
  have a := hy.all k
  have b := h3 k (Nat.le_refl _)
  have b2 := (h2 k).2
  refine ⟨by simpa using h1, fun j => ?_, fun j hj => ?_, ?_⟩
  · rw [getD_set]; split
    · omega
    · exact h2 j
  · rw [getD_set, if_neg (by omega)]; exact h3 j (by omega)
  · rw [val_set (by omega), h4, val_take_succ hk, show out.getD k 0 - ys.getD k 0 - out.getD k 0 = -ys.getD k 0 by omega, Int.neg_mul]; omega

theorem M2.start {xs ys out : List Int} {n m : Nat} (h : M1 xs ys n m out) (hm : m = ys.length) : M2 (val xs - val ys) n 0 out := by
  obtain ⟨h1, h2, h3, h4⟩ := h
  exact ⟨h1, fun j => ⟨by have := (h2 j).1; omega, (h2 j).2⟩, fun j hj => absurd hj (by omega), fun j _ => (h2 j).1, by rw [h4, hm, List.take_length]⟩

theorem M2.less {v : Int} {n k : Nat} {out : List Int} (h : M2 v n k out) (hs : 0 ≤ out.getD k 0) : M2 v n (k + 1) out := by
  obtain ⟨h1, h2, h3, h4, h5⟩ := h
  refine ⟨h1, h2, fun j hj => ?_, fun j hj => h4 j (by omega), h5⟩
  by_cases e : j = k
  · subst e; exact hs
  · exact h3 j (by omega)

/-- where all digits below are 0 or more, and the highest is negative, the value is negative -/
theorem val_neg_of {l : List Int} {k : Nat} (h : ∀ j, j < l.length → l.getD j 0 < 1000000000) (hk : k < l.length) (hl : k + 1 = l.length) (hn : l.getD k 0 < 0) : val l < 0 := by
  have e : l = l.take (k + 1) := by rw [List.take_of_length_le (by omega)]
  rw [e, val_take_succ hk]
  have hlt : val (l.take k) < 1000000000 ^ k := by
    have : ∀ (m : List Int), (∀ j, j < m.length → m.getD j 0 < 1000000000) → val m < 1000000000 ^ m.length := by
      intro m
      induction m with
      | nil => intro _; simp [val]
      | cons d m ih =>
        intro hh
        have h0 := hh 0 (by simp)
        have := ih (fun j hj => by simpa using hh (j + 1) (by simpa using hj))
        simp only [List.getD_cons_zero] at h0
        simp only [val, List.length_cons, Int.pow_succ]; omega
    have h2 := this (l.take k) (fun j hj => by rw [getD_take (by rw [List.length_take] at hj; omega)]; exact h j (by rw [List.length_take] at hj; omega))
    rw [List.length_take, Nat.min_eq_left (by omega)] at h2; exact h2
  have hp : (0 : Int) < 1000000000 ^ k := Int.pow_pos (by omega)
  have : l.getD k 0 * 1000000000 ^ k ≤ -1 * 1000000000 ^ k := Int.mul_le_mul_of_nonneg_right (by omega) (by omega)
  omega

/-- the highest digit of a value that is not negative is never borrowed from -/
theorem M2.last {v : Int} {n k : Nat} {out : List Int} (h : M2 v n k out) (hv : 0 ≤ v) (hk : k < n) (hs : out.getD k 0 < 0) : k + 1 < n := by
  obtain ⟨h1, h2, h3, h4, h5⟩ := h
  apply Decidable.byContradiction; intro hc
  have := val_neg_of (l := out) (k := k) (fun j _ => (h2 j).2) (by omega) (by omega) hs
  omega

theorem M2.more {v : Int} {n k : Nat} {out : List Int} (h : M2 v n k out) (hk : k + 1 < n) (hs : out.getD k 0 < 0) :
    M2 v n (k + 1) ((out.set k (out.getD k 0 + 1000000000)).set (k + 1) (out.getD (k + 1) 0 - 1)) := by
  obtain ⟨h1, h2, h3, h4, h5⟩ := h
  have a := h2 k; have b := h2 (k + 1); have c := h4 (k + 1) (by omega)
  refine ⟨by simpa using h1, fun j => ?_, fun j hj => ?_, fun j hj => ?_, ?_⟩
  · rw [getD_set, getD_set]; split
    · omega
    · split
      · omega
      · exact h2 j
  · rw [getD_set, getD_set]; split
    · omega
    · split
      · omega
      · exact h3 j (by omega)
  · rw [getD_set, getD_set, if_neg (by omega), if_neg (by omega)]; exact h4 j (by omega)
  · rw [val_set (by simp; omega), val_set (by omega), getD_set, if_neg (by omega), h5, Int.pow_succ]
    generalize (1000000000 : Int) ^ k = p
    generalize out.getD k 0 = x
    rw [show x + 1000000000 - x = 1000000000 by omega, show out.getD (k + 1) 0 - 1 - out.getD (k + 1) 0 = -1 by omega]
    omega

theorem M2.dig {v : Int} {n : Nat} {out : List Int} (h : M2 v n n out) : Dig out ∧ val out = v := by
  obtain ⟨h1, h2, h3, h4, h5⟩ := h
  exact ⟨fun j hj => ⟨h3 j (by omega), (h2 j).2⟩, h5⟩

/-! from SizeD -/

/-- Times, behind the first i digits -/
def T1 (xs ys : List Int) (i : Nat) (out : List Int) : Prop :=
  out.length = xs.length + ys.length ∧ (∀ j, 0 ≤ out.getD j 0 ∧ out.getD j 0 < 1000000000) ∧ (∀ j, i + ys.length ≤ j → out.getD j 0 = 0) ∧ val out = val (xs.take i) * val ys

/-- Times, in round i behind the first k digits -/
def T2 (xs ys : List Int) (i k : Nat) (carry : Int) (out : List Int) : Prop :=
  out.length = xs.length + ys.length ∧ (∀ j, 0 ≤ out.getD j 0 ∧ out.getD j 0 < 1000000000) ∧ (∀ j, i + ys.length ≤ j → out.getD j 0 = 0) ∧ 0 ≤ carry ∧ carry < 1000000000 ∧
    val out + carry * 1000000000 ^ (i + k) = val (xs.take i) * val ys + xs.getD i 0 * val (ys.take k) * 1000000000 ^ i

theorem T1.start (xs ys : List Int) : T1 xs ys 0 (List.replicate (xs.length + ys.length) 0) := by
  have e : ∀ j, (List.replicate (xs.length + ys.length) (0 : Int)).getD j 0 = 0 := fun j => by
    simp only [List.getD_eq_getElem?_getD, List.getElem?_replicate]; split <;> rfl
  refine ⟨by simp, fun j => by rw [e]; omega, fun j _ => e j, ?_⟩
  rw [val_replicate]; simp [val]

theorem T2.start {xs ys out : List Int} {i : Nat} (h : T1 xs ys i out) : T2 xs ys i 0 0 out := by
  obtain ⟨h1, h2, h3, h4⟩ := h
  exact ⟨h1, h2, h3, by omega, by omega, by rw [h4]; simp [val]⟩

theorem mul_bounds {x y : Int} (hx : 0 ≤ x ∧ x < 1000000000) (hy : 0 ≤ y ∧ y < 1000000000) : 0 ≤ x * y ∧ x * y ≤ 999999998000000001 := by
  refine ⟨Int.mul_nonneg hx.1 hy.1, ?_⟩
  have a : x * y ≤ 999999999 * y := Int.mul_le_mul_of_nonneg_right (by omega) hy.1
  omega

theorem T2.step {xs ys out : List Int} {i k : Nat} {carry : Int} (h : T2 xs ys i k carry out) (hx : Dig xs) (hy : Dig ys) (hi : i < xs.length) (hk : k < ys.length) :
    T2 xs ys i (k + 1) ((out.getD (i + k) 0 + xs.getD i 0 * ys.getD k 0 + carry) / 1000000000) (out.set (i + k) ((out.getD (i + k) 0 + xs.getD i 0 * ys.getD k 0 + carry) % 1000000000)) := by
  obtain ⟨h1, h2, h3, h4, h5, h6⟩ := h
  have a := h2 (i + k)
  have b := mul_bounds (hx.all i) (hy.all k)
  generalize hn : out.getD (i + k) 0 + xs.getD i 0 * ys.getD k 0 + carry = n
  have hb : 0 ≤ n ∧ n ≤ 999999999999999999 := by omega
  refine ⟨by simpa using h1, fun j => ?_, fun j hj => ?_, by omega, by omega, ?_⟩
  · rw [getD_set]; split
    · omega
    · exact h2 j
  · rw [getD_set, if_neg (by omega)]; exact h3 j hj
  · rw [val_set (by omega), val_take_succ hk, show i + (k + 1) = (i + k) + 1 by omega, Int.pow_succ]
    have e : (n / 1000000000) * (1000000000 ^ (i + k) * 1000000000) = (1000000000 * (n / 1000000000)) * 1000000000 ^ (i + k) := by
      rw [Int.mul_comm (1000000000 ^ (i + k)) 1000000000, ← Int.mul_assoc, Int.mul_comm (n / 1000000000)]
    have e2 : (n % 1000000000 - out.getD (i + k) 0) * 1000000000 ^ (i + k) + (1000000000 * (n / 1000000000)) * 1000000000 ^ (i + k) = (n - out.getD (i + k) 0) * 1000000000 ^ (i + k) := by
      rw [← Int.add_mul]; congr 1; omega
    have e3 : (n - out.getD (i + k) 0) * 1000000000 ^ (i + k) = carry * 1000000000 ^ (i + k) + xs.getD i 0 * ys.getD k 0 * 1000000000 ^ (i + k) := by
      rw [← Int.add_mul]; congr 1; omega
    have e4 : xs.getD i 0 * (val (ys.take k) + ys.getD k 0 * 1000000000 ^ k) * 1000000000 ^ i = xs.getD i 0 * val (ys.take k) * 1000000000 ^ i + xs.getD i 0 * ys.getD k 0 * 1000000000 ^ (i + k) := by
      rw [Int.mul_add, Int.add_mul, Int.pow_add, ← Int.mul_assoc (xs.getD i 0) (ys.getD k 0), Int.mul_assoc (_ * _) (1000000000 ^ k), Int.mul_comm (1000000000 ^ k) (1000000000 ^ i)]
    rw [e4]
    omega

theorem T2.done {xs ys out : List Int} {i : Nat} {carry : Int} (h : T2 xs ys i ys.length carry out) (hi : i < xs.length) : T1 xs ys (i + 1) (out.set (i + ys.length) carry) := by
  obtain ⟨h1, h2, h3, h4, h5, h6⟩ := h
  refine ⟨by simpa using h1, fun j => ?_, fun j hj => ?_, ?_⟩
  · rw [getD_set]; split
    · omega
    · exact h2 j
  · rw [getD_set, if_neg (by omega)]; exact h3 j (by omega)
  · rw [val_set (by omega), h3 _ (Nat.le_refl _), val_take_succ hi, Int.sub_zero, h6, List.take_length, Int.add_mul, Int.mul_assoc (xs.getD i 0), Int.mul_assoc (xs.getD i 0), Int.mul_comm (val ys) (1000000000 ^ i)]

/-! from LongA -/

/-- a valid long integer, as its sign and its slice, with the value z -/
def LG (N : Nat) (w : World) (s : Bool) (a : Option Addr) (n c : Nat) (z : Int) : Prop :=
  s = decide (z < 0) ∧ SL N w a n c (digs z.natAbs) ∧ n ≤ 600

theorem LG.below {N M w w' s a n c z} (h : LG N w s a n c z) (hb : Below M w w') (hN : N ≤ M) : LG N w' s a n c z := ⟨h.1, h.2.1.below hb hN, h.2.2⟩
theorem LG.mono {N M w s a n c z} (h : LG N w s a n c z) (hN : N ≤ M) : LG M w s a n c z := ⟨h.1, h.2.1.mono hN, h.2.2⟩
theorem LG.go {w w' s a n c z} (h : LG w.heap.size w s a n c z) (hb : Below w.heap.size w w') : LG w'.heap.size w' s a n c z := ⟨h.1, h.2.1.go hb, h.2.2⟩
theorem LG.zero (N : Nat) (w : World) (a : Option Addr) (c : Nat) : LG N w false a 0 c 0 := ⟨rfl, by simpa [digs_zero] using SL.nil N w a c, by omega⟩

/-- a call that gives back a long integer and OK -/
def RetL (w : World) (z : Int) (e : Ending) (w' : World) : Prop :=
  ∃ s a n c, e = .returned (.tuple #[.agg #[.bool s, .slice a n c], .int .i64 0]) ∧ LG w'.heap.size w' s a n c z ∧ Below w.heap.size w w' ∧ Fresh w.heap.size a n

theorem told_post {w w1 : World} {o : Obj} (hb1 : Below (w.alloc o).heap.size (w.alloc o) w1) (u v : Value) (s : Bool) (a : Option Addr) (n c N : Nat) (hn : n ≤ 600)
    (hs : s = true → 0 < N) (h : SL w1.heap.size w1 a n c (digs N)) (hf : Fresh (w.heap.size + 1) a n) (z : Int) (hz : z = if s then -(N : Int) else N) :
    RetL w z (.returned (.tuple #[.agg #[.bool s, .slice a n c], .int .i64 0])) ((w1.setCell ⟨w.heap.size, 0, none⟩ u).setCell ⟨w.heap.size, 1, none⟩ v) := by
  have hne : ∀ b off, a = some ⟨b, off, none⟩ → 0 < n → b ≠ w.heap.size := fun b off e h0 => by have := hf b off e h0; omega
  refine ⟨s, a, n, c, rfl, ⟨?_, ?_, hn⟩, ((below_alloc hb1).setCell (Nat.le_refl _) _).setCell (Nat.le_refl _) _, hf.mono (by omega)⟩
  · subst hz; cases s
    · simp
    · have := hs rfl; simp; omega
  · have e : z.natAbs = N := by subst hz; cases s <;> simp
    rw [e]
    have := (h.setCell ⟨w.heap.size, 0, none⟩ u hne).setCell ⟨w.heap.size, 1, none⟩ v hne
    simpa using this

theorem LG.setCell {N w s a n c z} (h : LG N w s a n c z) (p : Addr) (u : Value) (hne : ∀ b off, a = some ⟨b, off, none⟩ → 0 < n → b ≠ p.block) : LG N (w.setCell p u) s a n c z :=
  ⟨h.1, h.2.1.setCell p u hne, h.2.2⟩

/-- a long integer and OK, the first one by way of a block of the call's own -/
theorem retL_mk {w w3 : World} {s : Bool} {a : Option Addr} {n c B : Nat} {z : Int} (hlg : LG w3.heap.size w3 s a n c z) (hb : Below w.heap.size w w3) (hf : Fresh B a n) (blk : Nat) (hblk : blk < B) (hw : w.heap.size ≤ blk) (u v : Value) :
    RetL w z (.returned (.tuple #[.agg #[.bool s, .slice a n c], .int .i64 0])) ((w3.setCell ⟨blk, 0, none⟩ u).setCell ⟨blk, 1, none⟩ v) := by
  have hne : ∀ b off, a = some ⟨b, off, none⟩ → 0 < n → b ≠ blk := fun b off e h0 => by have := hf b off e h0; omega
  refine ⟨s, a, n, c, rfl, ?_, (hb.setCell hw _).setCell hw _, hf.mono (by omega)⟩
  have := (hlg.setCell ⟨blk, 0, none⟩ u hne).setCell ⟨blk, 1, none⟩ v hne
  simpa using this

/-! from LongB -/

/-- a call that gives back a long integer -/
def RetL1 (w : World) (z : Int) (e : Ending) (w' : World) : Prop :=
  ∃ s a n c, e = .returned (.agg #[.bool s, .slice a n c]) ∧ LG w'.heap.size w' s a n c z ∧ Below w.heap.size w w' ∧ Fresh w.heap.size a n

theorem tmod_of_neg {k : Int} (h : k < 0) : k.tmod 1000000000 = -((-k) % 1000000000) := by
  rw [show k.tmod 1000000000 = -((-k).tmod 1000000000) by rw [Int.neg_tmod]; omega, Int.tmod_eq_emod_of_nonneg (by omega)]
theorem tdiv_of_neg {k : Int} (h : k < 0) : k.tdiv 1000000000 = -((-k) / 1000000000) := by
  rw [show k.tdiv 1000000000 = -((-k).tdiv 1000000000) by rw [Int.neg_tdiv]; omega, Int.tdiv_eq_ediv_of_nonneg (by omega)]

/-- what holds ahead of each round of Of -/
def OfRel (n : Int) (w : World) (q : Value) (wr : World) : Prop :=
  ∃ (k : Int) (va : Option Addr) (vc : Nat) (zs : List Int), q = .int .i64 k ∧ -9223372036854775808 ≤ k ∧ k ≤ 9223372036854775807 ∧ digs n.natAbs = zs ++ digs k.natAbs ∧
    wr.ownsRow (w.heap.size + 2) 3 1 (.slice va zs.length vc) zs.length (zs.map (Value.int .i64)) ∧
    wr.heap[w.heap.size]? = some (.cells #[.bool false, .slice none 0 0] 148 (0, 0)) ∧
    wr.heap[w.heap.size + 1]? = some (.cells #[.bool (decide (n < 0)), .slice va zs.length vc] 148 (0, 0)) ∧ Below w.heap.size w wr ∧ w.heap.size + 2 ≤ wr.heap.size

theorem heap_two (w : World) (o p : Obj) : ((w.alloc o).alloc p).heap[w.heap.size]? = some o ∧ ((w.alloc o).alloc p).heap[w.heap.size + 1]? = some p := by
  constructor
  · rw [Below.heap_alloc _ _ _ (by simp)]; exact heap_alloc_new _ _
  · have := heap_alloc_new (w.alloc o) p
    simpa using this

theorem length_digs_int (n : Int) (h1 : -9223372036854775808 ≤ n) (h2 : n ≤ 9223372036854775807) : (digs n.natAbs).length ≤ 3 :=
  length_digs_le (by simp; omega)

/-! from LongC -/

theorem below3 (w : World) (o p q : Obj) : Below w.heap.size w (((w.alloc o).alloc p).alloc q) := (((Below.refl _ _).alloc (Nat.le_refl _) _).alloc (by simp) _).alloc (by simp; omega) _
theorem below4 (w : World) (o p q r : Obj) : Below w.heap.size w ((((w.alloc o).alloc p).alloc q).alloc r) := (below3 w o p q).alloc (by simp; omega) _
theorem cells3 (w : World) (o p q : Array Value) (t u v : TypeId) :
    (∀ i, (((w.alloc (.cells o t)).alloc (.cells p u)).alloc (.cells q v)).cell? ⟨w.heap.size, i, none⟩ = o[i]?) ∧
    (∀ i, (((w.alloc (.cells o t)).alloc (.cells p u)).alloc (.cells q v)).cell? ⟨w.heap.size + 1, i, none⟩ = p[i]?) ∧
    (∀ i, (((w.alloc (.cells o t)).alloc (.cells p u)).alloc (.cells q v)).cell? ⟨w.heap.size + 1 + 1, i, none⟩ = q[i]?) := by
  refine ⟨fun i => ?_, fun i => ?_, fun i => ?_⟩
  · rw [World.cell?_alloc_past _ _ _ (by simp; omega), World.cell?_alloc_past _ _ _ (by simp), World.cell?_alloc_at _ _ _ _ rfl]
  · rw [World.cell?_alloc_past _ _ _ (by simp), World.cell?_alloc_at _ _ _ _ (by simp)]
  · rw [World.cell?_alloc_at _ _ _ _ (by simp)]

/-- a call that gives back a number of the sign of the order, and changes nothing that was there -/
def RetSign (w : World) (x y : Int) (e : Ending) (w' : World) : Prop :=
  ∃ r, e = .returned (.int .i64 r) ∧ (0 < r ↔ y < x) ∧ (r < 0 ↔ x < y) ∧ Below w.heap.size w w'

theorem below_two {w : World} (o p : Obj) : Below w.heap.size w ((w.alloc o).alloc p) := ((Below.refl _ _).alloc (Nat.le_refl _) _).alloc (by simp) _

/-- the order of two numbers as -1, 0, 1 -/
def cmpZ (x y : Int) : Int := if x < y then -1 else if y < x then 1 else 0

/-- a call that gives back the order and OK -/
def RetCmp (w : World) (x y : Int) (e : Ending) (w' : World) : Prop := e = .returned (.tuple #[.int .i64 (cmpZ x y), .int .i64 0]) ∧ Below w.heap.size w w'

/-! from LongD -/

/-- what stands in the three blocks that Add and its kin lay, and in the list of its two arguments -/
theorem cells4 (w : World) (o p q r : Array Value) (t u v x : TypeId) :
    (∀ i, ((((w.alloc (.cells o t)).alloc (.cells p u)).alloc (.cells q v)).alloc (.cells r x)).cell? ⟨w.heap.size, i, none⟩ = o[i]?) ∧
    (∀ i, ((((w.alloc (.cells o t)).alloc (.cells p u)).alloc (.cells q v)).alloc (.cells r x)).cell? ⟨w.heap.size + 1, i, none⟩ = p[i]?) ∧
    (∀ i, ((((w.alloc (.cells o t)).alloc (.cells p u)).alloc (.cells q v)).alloc (.cells r x)).cell? ⟨w.heap.size + 1 + 1, i, none⟩ = q[i]?) ∧
    (∀ i, ((((w.alloc (.cells o t)).alloc (.cells p u)).alloc (.cells q v)).alloc (.cells r x)).cell? ⟨w.heap.size + 1 + 1 + 1, i, none⟩ = r[i]?) ∧
    (∀ i, ((((w.alloc (.cells o t)).alloc (.cells p u)).alloc (.cells q v)).alloc (.cells r x)).frozen? ⟨w.heap.size + 1 + 1, i, none⟩ = false) := by
  obtain ⟨h1, h2, h3⟩ := cells3 w o p q t u v
  refine ⟨fun i => ?_, fun i => ?_, fun i => ?_, fun i => ?_, fun i => ?_⟩
  · rw [World.cell?_alloc_past _ _ _ (by simp; omega)]; exact h1 i
  · rw [World.cell?_alloc_past _ _ _ (by simp)]; exact h2 i
  · rw [World.cell?_alloc_past _ _ _ (by simp)]; exact h3 i
  · rw [World.cell?_alloc_at _ _ _ _ (by simp)]
  · rw [World.frozen?_alloc_past _ _ _ (by simp), World.frozen?_alloc_at _ _ _ _ (by simp)]

/-! from LongE -/

/-- what stands in the four blocks that a function of two long integers lays, behind a call -/
structure Kept4 (w : World) (s1 s2 : Bool) (a1 a2 : Option Addr) (n1 n2 c1 c2 : Nat) (w1 : World) : Prop where
  j0 : w1.cell? ⟨w.heap.size, 0, none⟩ = some (.bool s1)
  j1 : w1.cell? ⟨w.heap.size, 1, none⟩ = some (.slice a1 n1 c1)
  j2 : w1.cell? ⟨w.heap.size + 1, 0, none⟩ = some (.bool s2)
  j3 : w1.cell? ⟨w.heap.size + 1, 1, none⟩ = some (.slice a2 n2 c2)
  j4 : w1.cell? ⟨w.heap.size + 1 + 1, 0, none⟩ = some (.bool false)
  j5 : w1.cell? ⟨w.heap.size + 1 + 1, 1, none⟩ = some (.slice none 0 0)
  j6 : w1.frozen? ⟨w.heap.size + 1 + 1, 0, none⟩ = false
  j7 : w1.frozen? ⟨w.heap.size + 1 + 1, 1, none⟩ = false
  below : Below w.heap.size w w1
  size : w.heap.size + 4 ≤ w1.heap.size

theorem kept4_of {w : World} {s1 s2 : Bool} {a1 a2 : Option Addr} {n1 n2 c1 c2 : Nat} {t : TypeId} {r : Array Value} {w1 : World}
    (hb1 : Below ((((w.alloc (.cells #[.bool s1, .slice a1 n1 c1] t)).alloc (.cells #[.bool s2, .slice a2 n2 c2] t)).alloc (.cells #[.bool false, .slice none 0 0] t)).alloc (.cells r t)).heap.size ((((w.alloc (.cells #[.bool s1, .slice a1 n1 c1] t)).alloc (.cells #[.bool s2, .slice a2 n2 c2] t)).alloc (.cells #[.bool false, .slice none 0 0] t)).alloc (.cells r t)) w1) :
    Kept4 w s1 s2 a1 a2 n1 n2 c1 c2 w1 := by
  have hc := cells4 w #[.bool s1, .slice a1 n1 c1] #[.bool s2, .slice a2 n2 c2] #[.bool false, .slice none 0 0] r t t t t
  refine ⟨(hb1.cell (p := ⟨w.heap.size, 0, none⟩) (by simp; omega)).trans ((hc.1 0).trans rfl), (hb1.cell (p := ⟨w.heap.size, 1, none⟩) (by simp; omega)).trans ((hc.1 1).trans rfl),
    (hb1.cell (p := ⟨w.heap.size + 1, 0, none⟩) (by simp)).trans ((hc.2.1 0).trans rfl), (hb1.cell (p := ⟨w.heap.size + 1, 1, none⟩) (by simp)).trans ((hc.2.1 1).trans rfl),
    (hb1.cell (p := ⟨w.heap.size + 1 + 1, 0, none⟩) (by simp)).trans ((hc.2.2.1 0).trans rfl), (hb1.cell (p := ⟨w.heap.size + 1 + 1, 1, none⟩) (by simp)).trans ((hc.2.2.1 1).trans rfl),
    (hb1.frozen (p := ⟨w.heap.size + 1 + 1, 0, none⟩) (by simp)).trans (hc.2.2.2.2 0), (hb1.frozen (p := ⟨w.heap.size + 1 + 1, 1, none⟩) (by simp)).trans (hc.2.2.2.2 1),
    (below4 w _ _ _ _).trans (hb1.mono (by simp; omega)), by have := hb1.size; simpa using this⟩

theorem heap3_size (w : World) (o p q : Obj) : (((w.alloc o).alloc p).alloc q).heap.size = w.heap.size + 3 := by simp

/-! from YieldA -/

theorem heap3_kept {w w1 : World} {o p : Obj} {q : Array Value} {t : TypeId} (hb : Below (((w.alloc o).alloc p).alloc (.cells q t)).heap.size (((w.alloc o).alloc p).alloc (.cells q t)) w1) :
    (∀ i, w1.cell? ⟨w.heap.size + 1 + 1, i, none⟩ = q[i]?) ∧ (∀ i, w1.frozen? ⟨w.heap.size + 1 + 1, i, none⟩ = false) ∧ Below w.heap.size w w1 ∧ w.heap.size + 3 ≤ w1.heap.size := by
  refine ⟨fun i => ?_, fun i => ?_, (below3 w o p _).trans (hb.mono (by simp; omega)), by have := hb.size; simpa using this⟩
  · rw [hb.cell (p := ⟨w.heap.size + 1 + 1, i, none⟩) (by simp)]; exact World.cell?_alloc_at _ _ _ _ (by simp)
  · rw [hb.frozen (p := ⟨w.heap.size + 1 + 1, i, none⟩) (by simp)]; exact World.frozen?_alloc_at _ _ _ _ (by simp)

/-- a long integer, by way of a block of the call's own -/
theorem retL1_mk {w w3 : World} {s : Bool} {a : Option Addr} {n c B : Nat} {z : Int} (hlg : LG w3.heap.size w3 s a n c z) (hb : Below w.heap.size w w3) (hf : Fresh B a n) (blk : Nat) (hblk : blk < B) (hw : w.heap.size ≤ blk) (u v : Value) :
    RetL1 w z (.returned (.agg #[.bool s, .slice a n c])) ((w3.setCell ⟨blk, 0, none⟩ u).setCell ⟨blk, 1, none⟩ v) := by
  have hne : ∀ b off, a = some ⟨b, off, none⟩ → 0 < n → b ≠ blk := fun b off e h0 => by have := hf b off e h0; omega
  refine ⟨s, a, n, c, rfl, ?_, (hb.setCell hw _).setCell hw _, hf.mono (by omega)⟩
  have := (hlg.setCell ⟨blk, 0, none⟩ u hne).setCell ⟨blk, 1, none⟩ v hne
  simpa using this

/-! from RowL -/

/-- where a long integer lies: its sign and its slice -/
structure LP where
  s : Bool
  a : Option Addr
  n : Nat
  c : Nat

def LP.cells (p : LP) : List Value := [.bool p.s, .slice p.a p.n p.c]
def flat (ps : List LP) : List Value := ps.flatMap LP.cells
def LP.none : LP := ⟨false, Option.none, 0, 0⟩
def LP.at (N : Nat) (w : World) (p : LP) (z : Int) : Prop := LG N w p.s p.a p.n p.c z
/-- it lies in no block below B -/
def LP.above (p : LP) (B : Nat) : Prop := ∀ b off, p.a = some ⟨b, off, Option.none⟩ → 0 < p.n → B ≤ b
/-- it does not lie in block g -/
def LP.off (p : LP) (g : Nat) : Prop := ∀ b off, p.a = some ⟨b, off, Option.none⟩ → 0 < p.n → b ≠ g

theorem length_flat (ps : List LP) : (flat ps).length = ps.length * 2 := by
  induction ps with
  | nil => rfl
  | cons p ps ih => simp only [flat, List.flatMap_cons, List.length_append, List.length_cons] at ih ⊢; rw [ih]; simp [LP.cells]; omega
theorem flat_append (ps qs : List LP) : flat (ps ++ qs) = flat ps ++ flat qs := List.flatMap_append
theorem flat_get (ps : List LP) (j : Nat) (h : j < ps.length) : (flat ps)[j * 2]? = some (.bool (ps.getD j LP.none).s) ∧ (flat ps)[j * 2 + 1]? = some (.slice (ps.getD j LP.none).a (ps.getD j LP.none).n (ps.getD j LP.none).c) := by
  induction ps generalizing j with
  | nil => simp at h
  | cons p ps ih =>
    cases j with
    | zero => simp [flat, LP.cells]
    | succ j =>
      have := ih j (by simpa using h)
      simp only [flat, List.flatMap_cons, LP.cells] at this ⊢
      rw [show (j + 1) * 2 = (j * 2) + 2 by omega, show (j * 2) + 2 + 1 = (j * 2 + 1) + 2 by omega]
      simpa using this
theorem flat_set (ps : List LP) (j : Nat) (h : j < ps.length) (p : LP) : flat (ps.set j p) = ((flat ps).set (j * 2) (.bool p.s)).set (j * 2 + 1) (.slice p.a p.n p.c) := by
  induction ps generalizing j with
  | nil => simp at h
  | cons q ps ih =>
    cases j with
    | zero => simp [flat, LP.cells]
    | succ j =>
      have := ih j (by simpa using h)
      simp only [flat, List.set_cons_succ, List.flatMap_cons, LP.cells] at this ⊢
      rw [this, show (j + 1) * 2 = (j * 2) + 2 by omega, show (j * 2) + 2 + 1 = (j * 2 + 1) + 2 by omega]
      simp

theorem LG.grown {N : Nat} {w w' : World} {row : Option Nat} {s : Bool} {a : Option Addr} {n c : Nat} {z : Int} (h : LG N w s a n c z) (hg : w.grownBy w' row) (hne : ∀ b off, a = some ⟨b, off, none⟩ → 0 < n → some b ≠ row) : LG N w' s a n c z := by
  refine ⟨h.1, ⟨h.2.1.1, h.2.1.2.1, fun h0 => ?_⟩, h.2.2⟩
  obtain ⟨b, off, e, hlt, hc⟩ := h.2.1.2.2 h0
  exact ⟨b, off, e, hlt, fun j hj => hg.cell (hc j hj) (hne b off e h0)⟩

/-- a row of long integers of the call's own, in block g; all of it below N -/
def RowL (N base : Nat) (w : World) (g cap : Nat) (zs : List Int) : Prop :=
  ∃ ps : List LP, base ≤ g ∧ g < N ∧ w.ownsRow base 148 2 (.slice (some ⟨g, 0, none⟩) zs.length cap) zs.length (flat ps) ∧ ps.length = zs.length ∧
    ∀ j, j < zs.length → LP.at N w (ps.getD j LP.none) (zs.getD j 0) ∧ (ps.getD j LP.none).off g ∧ (ps.getD j LP.none).above base

theorem RowL.base_le {N base w g cap zs} (h : RowL N base w g cap zs) : base ≤ g := let ⟨_, h, _⟩ := h; h
theorem RowL.lt {N base w g cap zs} (h : RowL N base w g cap zs) : g < N := let ⟨_, _, h, _⟩ := h; h

theorem ownsRow_base {w : World} {base base' : Nat} {e : TypeId} {size : Nat} {v : Value} {n : Nat} {xs : List Value} (h : w.ownsRow base e size v n xs) (hb : base' ≤ base) : w.ownsRow base' e size v n xs :=
  ⟨h.1, h.2.imp id fun ⟨g, cap, cur, e, q, r⟩ => ⟨g, cap, cur, e, Nat.le_trans hb q, r⟩⟩

theorem RowL.rebase {N base base' w g cap zs} (h : RowL N base w g cap zs) (hb : base' ≤ base) : RowL N base' w g cap zs := by
  obtain ⟨ps, h1, h2, h3, h4, h5⟩ := h
  exact ⟨ps, Nat.le_trans hb h1, h2, ownsRow_base h3 hb, h4, fun j hj => ⟨(h5 j hj).1, (h5 j hj).2.1, fun b off e h0 => Nat.le_trans hb ((h5 j hj).2.2 b off e h0)⟩⟩

theorem RowL.mono {N N' base w g cap zs} (h : RowL N base w g cap zs) (hN : N ≤ N') : RowL N' base w g cap zs := by
  obtain ⟨ps, h1, h2, h3, h4, h5⟩ := h
  exact ⟨ps, h1, by omega, h3, h4, fun j hj => ⟨LG.mono (h5 j hj).1 hN, (h5 j hj).2⟩⟩

theorem RowL.keep {N base w w' g cap zs} (h : RowL N base w g cap zs) (hb : Below N w w') : RowL N base w' g cap zs := by
  obtain ⟨ps, h1, h2, h3, h4, h5⟩ := h
  refine ⟨ps, h1, h2, ?_, h4, fun j hj => ⟨LG.below (h5 j hj).1 hb (Nat.le_refl _), (h5 j hj).2⟩⟩
  obtain ⟨l, r⟩ := h3
  refine ⟨l, r.imp id ?_⟩
  rintro ⟨g', cap', cur, e, q1, q2, q3⟩
  have : g' = g := by injection e with e1 e2 e3; injection e1 with e1; injection e1 with e1; exact e1.symm
  exact ⟨g', cap', cur, e, q1, (hb.block g' (by omega)).trans q2, q3⟩

theorem RowL.go {base w w' g cap zs} (h : RowL w.heap.size base w g cap zs) (hb : Below w.heap.size w w') : RowL w'.heap.size base w' g cap zs := (h.keep hb).mono hb.size

/-- one of its long integers -/
theorem RowL.get {N base w g cap zs} (h : RowL N base w g cap zs) {j : Nat} (hj : j < zs.length) :
    ∃ s a n c, w.cell? ⟨g, j * 2, none⟩ = some (.bool s) ∧ w.cell? ⟨g, j * 2 + 1, none⟩ = some (.slice a n c) ∧ LG N w s a n c (zs.getD j 0) ∧ Fresh base a n := by
  obtain ⟨ps, h1, h2, h3, h4, h5⟩ := h
  obtain ⟨f1, f2⟩ := flat_get ps j (by omega)
  rcases (owns_cells h3).2 with ⟨e, _⟩ | ⟨g', cap', e, q1, q2, q3⟩
  · cases e
  · obtain rfl : g' = g := by injection e with e1 e2 e3; injection e1 with e1; injection e1 with e1; exact e1.symm
    have hl := length_flat ps
    have a1 := q3.cell (j := j * 2) (by omega)
    have a2 := q3.cell (j := j * 2 + 1) (by omega)
    rw [List.getElem?_eq_getElem (by omega)] at f1 f2
    injection f1 with f1; injection f2 with f2
    exact ⟨_, _, _, _, a1.trans (by rw [f1]), a2.trans (by rw [f2]), (h5 j hj).1, (h5 j hj).2.2⟩

theorem RowL.free {N base w g cap zs} (h : RowL N base w g cap zs) (j : Nat) : w.frozen? ⟨g, j, none⟩ = false := by
  obtain ⟨ps, h1, h2, h3, h4, h5⟩ := h
  rcases (owns_cells h3).2 with ⟨e, _⟩ | ⟨g', cap', e, q1, q2, q3⟩
  · cases e
  · obtain rfl : g' = g := by injection e with e1 e2 e3; injection e1 with e1; injection e1 with e1; exact e1.symm
    exact q3.free j

/-- one of its long integers is written -/
theorem RowL.set {base w g cap zs} (h : RowL w.heap.size base w g cap zs) {j : Nat} (hj : j < zs.length) {s : Bool} {a : Option Addr} {n c : Nat} {z : Int} (hz : LG w.heap.size w s a n c z)
    (hoff : ∀ b off, a = some ⟨b, off, none⟩ → 0 < n → b ≠ g) (hab : Fresh base a n) : RowL ((w.setCell ⟨g, j * 2, none⟩ (.bool s)).setCell ⟨g, j * 2 + 1, none⟩ (.slice a n c)).heap.size base ((w.setCell ⟨g, j * 2, none⟩ (.bool s)).setCell ⟨g, j * 2 + 1, none⟩ (.slice a n c)) g cap (zs.set j z) := by
  obtain ⟨ps, h1, h2, h3, h4, h5⟩ := h
  have hkeep : ∀ {p : LP} {y : Int}, p.at w.heap.size w y → p.off g → p.at ((w.setCell ⟨g, j * 2, none⟩ (.bool s)).setCell ⟨g, j * 2 + 1, none⟩ (.slice a n c)).heap.size ((w.setCell ⟨g, j * 2, none⟩ (.bool s)).setCell ⟨g, j * 2 + 1, none⟩ (.slice a n c)) y := by
    intro p y h1 h2
    have := (LG.setCell h1 ⟨g, j * 2, none⟩ (.bool s) h2).setCell ⟨g, j * 2 + 1, none⟩ (.slice a n c) h2
    unfold LP.at
    simpa using this
  refine ⟨ps.set j ⟨s, a, n, c⟩, h1, by simpa using h2, ?_, by simpa using h4, fun i hi => ?_⟩
  · rcases h3.2 with ⟨e, _⟩ | ⟨g', cap', cur, e, q1, q2, q3, q4, q5, q6⟩
    · cases e
    · obtain rfl : g' = g := by injection e with e1 e2 e3; injection e1 with e1; injection e1 with e1; exact e1.symm
      obtain rfl : cap' = cap := by injection e with e1 e2 e3; exact e3.symm
      have hl := length_flat ps
      have b1 : j * 2 + 1 < zs.length * 2 := by omega
      refine ⟨by rw [length_flat]; simp [h4], Or.inr ⟨g', cap', (cur.setIfInBounds (j * 2) (.bool s)).setIfInBounds (j * 2 + 1) (.slice a n c), by simp, q1, ?_, by simpa using q3, q4, by simpa using q5, ?_⟩⟩
      · exact obj_setCell (obj_setCell q2 (j * 2) (.bool s)) (j * 2 + 1) (.slice a n c)
      · rw [flat_set ps j (by omega), ← q6]
        simp only [Array.toList_setIfInBounds, List.length_set]
        rw [List.take_set, List.take_set]
  · rw [List.length_set] at hi
    simp only [List.getD_eq_getElem?_getD, List.getElem?_set]
    by_cases e : j = i
    · subst e
      rw [if_pos rfl, if_pos (by omega), if_pos rfl, if_pos (by omega)]
      exact ⟨hkeep (p := ⟨s, a, n, c⟩) hz hoff, hoff, hab⟩
    · rw [if_neg e, if_neg e, ← List.getD_eq_getElem?_getD, ← List.getD_eq_getElem?_getD]
      exact ⟨hkeep (h5 i hi).1 (h5 i hi).2.1, (h5 i hi).2⟩

/-- a row of one -/
theorem RowL.one {w : World} {s : Bool} {a : Option Addr} {n c : Nat} {z : Int} (hz : LG w.heap.size w s a n c z) {base : Nat} (hb : base ≤ w.heap.size) (hab : Fresh base a n) :
    RowL (w.alloc (.cells #[.bool s, .slice a n c] 148)).heap.size base (w.alloc (.cells #[.bool s, .slice a n c] 148)) w.heap.size 1 [z] := by
  refine ⟨[⟨s, a, n, c⟩], hb, by simp, ?_, rfl, fun j hj => ?_⟩
  · refine ⟨rfl, Or.inr ⟨w.heap.size, 1, _, rfl, hb, heap_alloc_new _ _, Nat.le_refl _, by unfold maxLen; omega, rfl, rfl⟩⟩
  · obtain rfl : j = 0 := by simpa using hj
    refine ⟨?_, ?_, hab⟩
    · exact LG.go hz ((Below.refl _ _).alloc (Nat.le_refl _) _)
    · intro b off e h0
      obtain ⟨b', off', e', hlt, _⟩ := hz.2.1.2.2 h0
      have : b = b' := by rw [e'] at e; injection e with e; injection e with e; exact e.symm
      omega

/-- behind an append of others -/
theorem RowL.append {base : Nat} {w w' : World} {g cap : Nat} {zs ys : List Int} (h : RowL w.heap.size base w g cap zs) (qs : List LP) (hq : qs.length = ys.length) (hqs : ∀ j, j < ys.length → (qs.getD j LP.none).at w.heap.size w (ys.getD j 0) ∧ (qs.getD j LP.none).off g ∧ (qs.getD j LP.none).above base)
    {g' cap' : Nat} {ps : List LP} (hps : ps.length = zs.length ∧ ∀ j, j < zs.length → LP.at w.heap.size w (ps.getD j LP.none) (zs.getD j 0) ∧ (ps.getD j LP.none).off g ∧ (ps.getD j LP.none).above base)
    (hown : w'.ownsRow base 148 2 (.slice (some ⟨g', 0, none⟩) (zs.length + ys.length) cap') (zs.length + ys.length) (flat ps ++ flat qs)) (hgrow : w.grownBy w' (some g)) (hat : g = g' ∨ g' = w.heap.size) (hlt : g' < w'.heap.size) :
    RowL w'.heap.size base w' g' cap' (zs ++ ys) := by
  have hkeep : ∀ {p : LP} {y : Int}, p.at w.heap.size w y → p.off g → p.at w'.heap.size w' y ∧ p.off g' := by
    intro p y h1 h2
    refine ⟨(LG.grown h1 hgrow (fun b off e h0 => by have := h2 b off e h0; simpa using this)).mono hgrow.size, fun b off e h0 => ?_⟩
    rcases hat with rfl | rfl
    · exact h2 b off e h0
    · obtain ⟨b', off', e', hlt, _⟩ := h1.2.1.2.2 h0
      have : b = b' := by rw [e'] at e; injection e with e; injection e with e; exact e.symm
      omega
  refine ⟨ps ++ qs, ?_, hlt, by rw [flat_append, List.length_append]; exact hown, by rw [List.length_append, List.length_append, hps.1, hq], fun j hj => ?_⟩
  · rcases hat with rfl | rfl
    · exact h.base_le
    · exact Nat.le_trans h.base_le (Nat.le_of_lt h.lt)
  · rw [List.length_append] at hj
    by_cases hj2 : j < zs.length
    · have := hps.2 j hj2
      simp only [List.getD_eq_getElem?_getD] at this ⊢
      rw [List.getElem?_append_left (by omega), List.getElem?_append_left (by omega)]
      exact ⟨(hkeep this.1 this.2.1).1, (hkeep this.1 this.2.1).2, this.2.2⟩
    · have := hqs (j - zs.length) (by omega)
      simp only [List.getD_eq_getElem?_getD] at this ⊢
      rw [List.getElem?_append_right (by omega), List.getElem?_append_right (by omega), hps.1]
      exact ⟨(hkeep this.1 this.2.1).1, (hkeep this.1 this.2.1).2, this.2.2⟩

theorem Tryz.infoLong : (Tryz.prog.info? 148).map (fun i => (i.zero, i.size, i.bytes)) = some (some (.agg #[.bool false, .slice none 0 0]), 2, 32) := by kernel_rfl

theorem oneCell_flat (ps : List LP) : ∀ u ∈ flat ps, u.oneCell' = true := by
  intro u hu
  obtain ⟨p, _, hp⟩ := List.mem_flatMap.1 hu
  simp only [LP.cells, List.mem_cons, List.not_mem_nil, or_false] at hp
  rcases hp with rfl | rfl <;> rfl
theorem LG.lt_of {N : Nat} {w : World} {s : Bool} {a : Option Addr} {n c : Nat} {z : Int} (h : LG N w s a n c z) {b off : Nat} (e : a = some ⟨b, off, none⟩) (h0 : 0 < n) : b < N := by
  obtain ⟨b', off', e', hlt, _⟩ := h.2.1.2.2 h0
  subst e
  simp at e'
  omega

/-! from Only -/

structure OnlyB (b : Nat) (w w' : World) : Prop where
  os : w'.os = w.os
  tape : w'.tape = w.tape
  output : w'.output = w.output
  size : w'.heap.size = w.heap.size
  block : ∀ k, k ≠ b → w'.heap[k]? = w.heap[k]?

theorem OnlyB.refl (b : Nat) (w : World) : OnlyB b w w := ⟨rfl, rfl, rfl, rfl, fun _ _ => rfl⟩
theorem OnlyB.set {b : Nat} {w w' : World} (h : OnlyB b w w') (i : Nat) (u : Value) : OnlyB b w (w'.setCell ⟨b, i, none⟩ u) :=
  ⟨h.os, h.tape, h.output, by simp [h.size], fun k hk => (Below.heap_setCell _ _ _ _ hk).trans (h.block k hk)⟩
theorem OnlyB.below {b B : Nat} {w w' : World} (h : OnlyB b w w') (hB : B ≤ b) : Below B w w' := ⟨h.os, h.tape, h.output, by rw [h.size]; exact Nat.le_refl _, fun k hk => h.block k (by omega)⟩
theorem OnlyB.cell {b : Nat} {w w' : World} (h : OnlyB b w w') {p : Addr} (hp : p.block ≠ b) : w'.cell? p = w.cell? p := World.cell?_of_block (w := w) (h.block p.block hp)
theorem OnlyB.frozen {b : Nat} {w w' : World} (h : OnlyB b w w') {p : Addr} (hp : p.block ≠ b) : w'.frozen? p = w.frozen? p := World.frozen?_of_block (w := w) (h.block p.block hp)

theorem SL.only {N : Nat} {w w' : World} {a : Option Addr} {n c b : Nat} {zs : List Int} (h : SL N w a n c zs) (ho : OnlyB b w w') (hne : ∀ b' off, a = some ⟨b', off, none⟩ → 0 < n → b' ≠ b) : SL N w' a n c zs := by
  refine ⟨h.1, h.2.1, fun h0 => ?_⟩
  obtain ⟨b', off, e, hlt, hc⟩ := h.2.2 h0
  exact ⟨b', off, e, hlt, fun j hj => (ho.cell (p := ⟨b', off + j, none⟩) (hne b' off e h0)).trans (hc j hj)⟩
theorem LG.only {N : Nat} {w w' : World} {s : Bool} {a : Option Addr} {n c b : Nat} {z : Int} (h : LG N w s a n c z) (ho : OnlyB b w w') (hne : ∀ b' off, a = some ⟨b', off, none⟩ → 0 < n → b' ≠ b) : LG N w' s a n c z :=
  ⟨h.1, h.2.1.only ho hne, h.2.2⟩

theorem RowL.only {N base : Nat} {w w' : World} {g cap b : Nat} {zs : List Int} (h : RowL N base w g cap zs) (ho : OnlyB b w w') (hb : b < base ∨ N ≤ b) : RowL N base w' g cap zs := by
  obtain ⟨ps, h1, h2, h3, h4, h5⟩ := h
  refine ⟨ps, h1, h2, ?_, h4, fun j hj => ⟨LG.only (h5 j hj).1 ho (fun b' off e h0 => ?_), (h5 j hj).2⟩⟩
  · obtain ⟨l, r⟩ := h3
    refine ⟨l, r.imp id ?_⟩
    rintro ⟨g', cap', cur, e, q1, q2, q3⟩
    have : g' = g := by injection e with e1 e2 e3; injection e1 with e1; injection e1 with e1; exact e1.symm
    exact ⟨g', cap', cur, e, q1, (ho.block g' (by omega)).trans q2, q3⟩
  · have a1 := (h5 j hj).2.2 b' off e h0
    have a2 := LG.lt_of (h5 j hj).1 e h0
    omega

/-- from here on the world is any one of which these facts hold -/
theorem gen_only {b : Nat} {w W : World} {cs : Array Value} {T : TypeId} (G : World → Prop) (hobj : W.heap[b]? = some (.cells cs T (0, 0))) (ho : OnlyB b w W)
    (h : ∀ w', w'.heap[b]? = some (.cells cs T (0, 0)) → OnlyB b w w' → G w') : G W := h W hobj ho

/-- what stands in a block that is known whole -/
theorem obj_cell {w : World} {b : Nat} {cs : Array Value} {T : TypeId} (h : w.heap[b]? = some (.cells cs T (0, 0))) (i : Nat) : w.cell? ⟨b, i, none⟩ = cs[i]? := by simp [World.cell?, h]
theorem obj_free {w : World} {b : Nat} {cs : Array Value} {T : TypeId} (h : w.heap[b]? = some (.cells cs T (0, 0))) (i : Nat) : w.frozen? ⟨b, i, none⟩ = false := by simp [World.frozen?, h]


end Go.Proofs.YtpicmhbjiaegpaaGreatDoor
