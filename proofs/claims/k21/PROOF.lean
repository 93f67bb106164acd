import PyProof.Rows.All
import Wide.All
import OpenK.AllK
import Wide.FinOn
import KE.KUnpackStar
import HandS.ForMost
import HandS.Exc
import HandS.Defaults
import HandS.DictComp
import HandS.Walk
import HandS.Zip
import KE.GoesMore
import PyProof.EnumMake
import HandS.Conv
import HandS.Deep
import HandS.IsInst
import HandS.Strs
import HandS.StrMore
import HandS.Style
import HandS.TupLe
import HandS.TupAny
import HandS.WideBits
import HandS.Wide
import HandS.MakeKwOnly
import HandS.HeadHook1
import HandS.HeadHook2
import HandS.HeadHook3
import HandS.HeadHook4
import KE.KStateDown
import HandS.Head0
import HandS.Head1
import HandS.Head2
import HandS.HeadEnd
import PySem.Challenge.RW_startlog_k21_whole_one_row_leads_anywher
import HandS.TryOnly
import HandS.ExcOwn
import HandS.WordsExc
set_option Elab.async false
set_option linter.all false
set_option maxRecDepth 100000
set_option maxHeartbeats 0
/-! Plain laws, part A: rows, mixings, boards, the note that is due. Core Lean alone. -/
namespace K21

/-- a row: its board, the place of its word, the letters of its name (0 to 25), its note -/
structure Row where
  b : Nat
  w : Nat
  n : List Nat
  k : Int
  deriving DecidableEq

def okName (l : List Nat) : Prop := 1 ≤ l.length ∧ l.length ≤ 4 ∧ ∀ c ∈ l, c < 26
def noteTop (w : Nat) : Int := if w = 2 ∨ w = 4 then 1 else 9973
structure Row.Ok (r : Row) : Prop where
  b : r.b < 8
  w : r.w < 5
  n : okName r.n
  k0 : 0 ≤ r.k
  k1 : r.k < noteTop r.w
theorem Row.Ok.k2 {r : Row} (h : r.Ok) : r.k < 9973 := by
  have h1 := h.k1
  unfold noteTop at h1
  split at h1 <;> omega

def nameNum (l : List Nat) : Int := l.foldl (fun (a : Int) (c : Nat) => a * 27 + (c : Int) + 1) 0
def rowNum (r : Row) : Int := (nameNum r.n * 5 + (r.w : Int)) * 9973 + r.k

theorem nameFold_bound : ∀ (l : List Nat) (a : Int), (∀ c ∈ l, c < 26) → 0 ≤ a → a ≤ l.foldl (fun (a : Int) (c : Nat) => a * 27 + (c : Int) + 1) a ∧ l.foldl (fun (a : Int) (c : Nat) => a * 27 + (c : Int) + 1) a < (a + 1) * 27 ^ l.length
  | [], a, _, h => by simp; omega
  | c :: r, a, hc, h => by
    have h1 : (c : Int) < 26 := by
      have := hc c (List.mem_cons_self ..)
      omega
    have ih := nameFold_bound r (a * 27 + (c : Int) + 1) (fun d hd => hc d (List.mem_cons_of_mem _ hd)) (by omega)
    rw [List.foldl_cons, List.length_cons]
    refine ⟨by omega, ?_⟩
    refine Int.lt_of_lt_of_le ih.2 ?_
    have e : (27 : Int) ^ (r.length + 1) = 27 * 27 ^ r.length := by rw [Int.pow_succ, Int.mul_comm]
    rw [e, ← Int.mul_assoc]
    refine Int.mul_le_mul_of_nonneg_right (by omega) (Int.le_of_lt (Int.pow_pos (by decide)))
theorem nameNum_bound {l : List Nat} (h : okName l) : 0 ≤ nameNum l ∧ nameNum l < 531441 := by
  have h1 := nameFold_bound l 0 h.2.2 (Int.le_refl _)
  refine ⟨h1.1, Int.lt_of_lt_of_le h1.2 ?_⟩
  have h2 := h.2.1
  have h3 : (27 : Int) ^ l.length ≤ 27 ^ 4 := by
    have h5 : (27 : Nat) ^ l.length ≤ 27 ^ 4 := Nat.pow_le_pow_right (by decide) h2
    exact_mod_cast h5
  have e4 : (27 : Int) ^ 4 = 531441 := by decide
  omega
theorem rowNum_bound {r : Row} (h : r.Ok) : 0 ≤ rowNum r ∧ rowNum r + 1 < 26500305465 := by
  have h1 := nameNum_bound h.n
  have h2 := h.k2
  have h3 := h.k0
  have h4 := h.w
  have h5 := h.k1
  unfold rowNum
  unfold noteTop at h5
  split at h5 <;> omega

/-- a mixing: wide (none), or narrow; its factor -/
structure Mix where
  wd : Option Int
  f : Int
def mixed (m : Mix) (v : Int) (r : Row) : Int := match m.wd with
  | none => v * 26500305465 + rowNum r + 1
  | some w => (v * m.f + rowNum r + 1) % w

/-- one board's number behind a row -/
def stepV (m : Mix) (b : Nat) (v : Int) (r : Row) : Int := if r.b = b then (if r.w = 4 then 2 else mixed m v r) else v
def valOf (m : Mix) (b : Nat) (v : Int) (rs : List Row) : Int := rs.foldl (stepV m b) v
/-- all boards' numbers behind a row -/
def stepB (m : Mix) (bs : List Int) (r : Row) : List Int := bs.set r.b (if r.w = 4 then 2 else mixed m (bs.getD r.b 0) r)
def boardsOf (m : Mix) (bs : List Int) (rs : List Row) : List Int := rs.foldl (stepB m) bs
def replayF (m : Mix) (many : Nat) (rs : List Row) : List Int := boardsOf m (List.replicate many 1) rs

theorem stepB_len (m : Mix) (bs : List Int) (r : Row) : (stepB m bs r).length = bs.length := List.length_set
theorem boardsOf_len (m : Mix) : ∀ (rs : List Row) (bs : List Int), (boardsOf m bs rs).length = bs.length
  | [], _ => rfl
  | r :: rs, bs => by
    show (boardsOf m (stepB m bs r) rs).length = bs.length
    rw [boardsOf_len m rs, stepB_len]
theorem replayF_len (m : Mix) (many : Nat) (rs : List Row) : (replayF m many rs).length = many := by
  unfold replayF
  rw [boardsOf_len, List.length_replicate]
theorem stepB_get (m : Mix) (bs : List Int) (r : Row) (b : Nat) (v : Int) (h : bs[b]? = some v) : (stepB m bs r)[b]? = some (stepV m b v r) := by
  unfold stepB stepV
  have hl : b < bs.length := (List.getElem?_eq_some_iff.mp h).1
  by_cases e : r.b = b
  · subst e
    rw [if_pos rfl, List.getElem?_set_self hl]
    have e2 : bs.getD r.b 0 = v := by
      rw [List.getD_eq_getElem?_getD, h]
      rfl
    rw [e2]
  · rw [if_neg e, List.getElem?_set_ne e]
    exact h
theorem boardsOf_get (m : Mix) (b : Nat) : ∀ (rs : List Row) (bs : List Int) (v : Int), bs[b]? = some v → (boardsOf m bs rs)[b]? = some (valOf m b v rs)
  | [], _, _, h => h
  | r :: rs, bs, v, h => boardsOf_get m b rs (stepB m bs r) (stepV m b v r) (stepB_get m bs r b v h)
theorem replayF_get (m : Mix) (many : Nat) (rs : List Row) (b : Nat) (h : b < many) : (replayF m many rs)[b]? = some (valOf m b 1 rs) :=
  boardsOf_get m b rs _ 1 (by rw [List.getElem?_replicate, if_pos h])
theorem valOf_append (m : Mix) (b : Nat) (v : Int) (xs ys : List Row) : valOf m b v (xs ++ ys) = valOf m b (valOf m b v xs) ys := List.foldl_append
/-- two replays are alike where all boards' numbers are -/
theorem replayF_ext {m m' : Mix} {many : Nat} {rs rs' : List Row} (h : ∀ b, b < many → valOf m b 1 rs = valOf m' b 1 rs') : replayF m many rs = replayF m' many rs' := by
  refine List.ext_getElem? fun b => ?_
  by_cases hb : b < many
  · rw [replayF_get m many rs b hb, replayF_get m' many rs' b hb, h b hb]
  · rw [List.getElem?_eq_none (by rw [replayF_len]; omega), List.getElem?_eq_none (by rw [replayF_len]; omega)]

/-! ### a narrow mixing, unmixed -/
theorem emod_sub_self (a w : Int) : ∃ q, a - a % w = w * q := ⟨a / w, by have := Int.emod_add_mul_ediv a w; omega⟩
/-- a number times f and c, its rest, is g just where the number is g less c times the turned factor -/
theorem unmix {w f t c v g : Int} (hw : 1 < w) (ht : (f * t) % w = 1) (hv : 0 ≤ v ∧ v < w) (hg : 0 ≤ g ∧ g < w) : ((v * f + c) % w = g) ↔ v = (g - c) * t % w := by
  obtain ⟨q, hq⟩ : ∃ q, f * t = 1 + w * q := ⟨f * t / w, by have := Int.emod_add_mul_ediv (f * t) w; omega⟩
  constructor
  · intro h
    obtain ⟨p, hp⟩ : ∃ p, v * f + c = g + w * p := ⟨(v * f + c) / w, by have := Int.emod_add_mul_ediv (v * f + c) w; omega⟩
    have e : (g - c) * t = v + w * (v * q - p * t) := by
      have e1 : g - c = v * f - w * p := by omega
      rw [e1, Int.sub_mul, Int.mul_assoc v f t, hq, Int.mul_add, Int.mul_one, Int.mul_sub, Int.mul_assoc w p t, Int.mul_left_comm v w q]
      omega
    rw [e, Int.add_mul_emod_self_left, Int.emod_eq_of_lt hv.1 hv.2]
  · intro h
    obtain ⟨p, hp⟩ : ∃ p, (g - c) * t = v + w * p := ⟨(g - c) * t / w, by have := Int.emod_add_mul_ediv ((g - c) * t) w; omega⟩
    have e : v * f + c = g + w * ((g - c) * q - p * f) := by
      have e1 : v = (g - c) * t - w * p := by omega
      have e2 : (g - c) * t * f = (g - c) + w * ((g - c) * q) := by
        rw [Int.mul_assoc, Int.mul_comm t f, hq, Int.mul_add, Int.mul_one, Int.mul_left_comm]
      rw [e1, Int.sub_mul, e2, Int.mul_sub, Int.mul_assoc w p f]
      omega
    rw [e, Int.add_mul_emod_self_left, Int.emod_eq_of_lt hg.1 hg.2]

def narrow (w f : Int) : Mix := ⟨some w, f⟩
theorem mixed_narrow (w f v : Int) (r : Row) : mixed (narrow w f) v r = (v * f + (rowNum r + 1)) % w := by
  show (v * f + rowNum r + 1) % w = _
  rw [Int.add_assoc]
/-- going back from a board's number over the rows behind a place, the last row first -/
def backGoal (w f t : Int) (b : Nat) : List Row → Int → Option Int
  | [], g => some g
  | r :: rs, g => match backGoal w f t b rs g with
    | none => none
    | some h => if r.b = b then (if r.w = 4 then none else some ((h - (rowNum r + 1)) * t % w)) else some h
theorem valOf_low {w f : Int} (hw : 2 < w) {b : Nat} : ∀ (rs : List Row) (v : Int), 0 ≤ v ∧ v < w → 0 ≤ valOf (narrow w f) b v rs ∧ valOf (narrow w f) b v rs < w
  | [], _, h => h
  | r :: rs, v, h => by
    refine valOf_low hw rs (stepV (narrow w f) b v r) ?_
    unfold stepV
    split
    · split
      · omega
      · rw [mixed_narrow]
        exact ⟨Int.emod_nonneg _ (by omega), Int.emod_lt_of_pos _ (by omega)⟩
    · exact h
theorem backGoal_low {w f t : Int} (hw : 2 < w) {b : Nat} : ∀ (rs : List Row) (g h : Int), 0 ≤ g ∧ g < w → backGoal w f t b rs g = some h → 0 ≤ h ∧ h < w
  | [], g, h, hg, e => by
    cases e
    exact hg
  | r :: rs, g, h, hg, e => by
    unfold backGoal at e
    cases e1 : backGoal w f t b rs g with
    | none =>
      rw [e1] at e
      cases e
    | some h1 =>
      rw [e1] at e
      have ih := backGoal_low hw rs g h1 hg e1
      simp only at e
      split at e
      · split at e
        · cases e
        · cases e
          exact ⟨Int.emod_nonneg _ (by omega), Int.emod_lt_of_pos _ (by omega)⟩
      · cases e
        exact ih
/-- where no reset stands behind, the number ahead is the one reckoned back -/
theorem backGoal_iff {w f t : Int} (hw : 2 < w) (ht : (f * t) % w = 1) {b : Nat} : ∀ (rs : List Row) (g h v : Int), 0 ≤ g ∧ g < w → 0 ≤ v ∧ v < w → backGoal w f t b rs g = some h →
    (valOf (narrow w f) b v rs = g ↔ v = h)
  | [], g, h, v, hg, hv, e => by
    cases e
    exact Iff.rfl
  | r :: rs, g, h, v, hg, hv, e => by
    have hl : 0 ≤ stepV (narrow w f) b v r ∧ stepV (narrow w f) b v r < w := valOf_low hw [r] v hv
    unfold backGoal at e
    cases e1 : backGoal w f t b rs g with
    | none =>
      rw [e1] at e
      cases e
    | some h1 =>
      rw [e1] at e
      have hl1 := backGoal_low hw rs g h1 hg e1
      have ih := backGoal_iff hw ht rs g h1 (stepV (narrow w f) b v r) hg hl e1
      show valOf (narrow w f) b (stepV (narrow w f) b v r) rs = g ↔ v = h
      rw [ih]
      simp only at e
      unfold stepV
      by_cases eb : r.b = b
      · rw [if_pos eb] at e ⊢
        by_cases e4 : r.w = 4
        · rw [if_pos e4] at e
          cases e
        · rw [if_neg e4] at e ⊢
          rw [mixed_narrow]
          have e' := Option.some.inj e
          rw [← e']
          exact unmix (by omega) ht hv hl1
      · rw [if_neg eb] at e ⊢
        rw [Option.some.inj e]
/-- behind a reset all numbers ahead are alike -/
theorem backGoal_none {w f t : Int} {b : Nat} : ∀ (rs : List Row) (g v v' : Int), backGoal w f t b rs g = none → valOf (narrow w f) b v rs = valOf (narrow w f) b v' rs
  | [], g, v, v', e => by cases e
  | r :: rs, g, v, v', e => by
    unfold backGoal at e
    show valOf (narrow w f) b (stepV (narrow w f) b v r) rs = valOf (narrow w f) b (stepV (narrow w f) b v' r) rs
    cases e1 : backGoal w f t b rs g with
    | none => exact backGoal_none rs g _ _ e1
    | some h1 =>
      rw [e1] at e
      simp only at e
      split at e
      · rename_i eb
        split at e
        · rename_i e4
          unfold stepV
          rw [if_pos eb, if_pos e4, if_pos eb, if_pos e4]
        · cases e
      · cases e

/-- the law's note that is due: reckoned back, less what the row without a note leads to -/
def noteDue (w f t : Int) (xs ys : List Row) (r : Row) (g : Int) : Option Int := match backGoal w f t r.b ys g with
  | none => none
  | some h => some ((h - mixed (narrow w f) (valOf (narrow w f) r.b 1 xs) { r with k := 0 }) % w)
theorem rowNum_k (r : Row) (k : Int) : rowNum { r with k := k } = rowNum { r with k := 0 } + k := by
  unfold rowNum
  simp
theorem mixed_k {w f v : Int} (r : Row) (k : Int) : mixed (narrow w f) v { r with k := k } = (mixed (narrow w f) v { r with k := 0 } + k) % w := by
  rw [mixed_narrow, mixed_narrow, rowNum_k, Int.emod_add_emod]
  congr 1
  omega
theorem stepV_row (m : Mix) (v : Int) (r : Row) (h : r.w ≠ 4) : stepV m r.b v r = mixed m v r := by
  unfold stepV
  rw [if_pos rfl, if_neg h]
/-- the row put at a place leads its board to the goal just with the notes that are the due one but for widths -/
theorem due_iff {w f t : Int} (hw : 2 < w) (ht : (f * t) % w = 1) {xs ys : List Row} {r : Row} {g k0 k : Int} (h4 : r.w ≠ 4) (hg : 0 ≤ g ∧ g < w) (e : noteDue w f t xs ys r g = some k0) :
    (valOf (narrow w f) r.b 1 (xs ++ { r with k := k } :: ys) = g ↔ k % w = k0) := by
  unfold noteDue at e
  cases e1 : backGoal w f t r.b ys g with
  | none =>
    rw [e1] at e
    cases e
  | some h =>
    rw [e1] at e
    have ek : k0 = (h - mixed (narrow w f) (valOf (narrow w f) r.b 1 xs) { r with k := 0 }) % w := (Option.some.inj e).symm
    have hl := backGoal_low hw ys g h hg e1
    rw [valOf_append]
    show valOf (narrow w f) r.b (stepV (narrow w f) r.b (valOf (narrow w f) r.b 1 xs) { r with k := k }) ys = g ↔ _
    rw [stepV_row (narrow w f) _ { r with k := k } h4, mixed_k]
    have hm : 0 ≤ mixed (narrow w f) (valOf (narrow w f) r.b 1 xs) { r with k := 0 } ∧ mixed (narrow w f) (valOf (narrow w f) r.b 1 xs) { r with k := 0 } < w := by
      rw [mixed_narrow]
      exact ⟨Int.emod_nonneg _ (by omega), Int.emod_lt_of_pos _ (by omega)⟩
    generalize mixed (narrow w f) (valOf (narrow w f) r.b 1 xs) { r with k := 0 } = a at hm ek ⊢
    rw [backGoal_iff hw ht ys g h _ hg ⟨Int.emod_nonneg _ (by omega), Int.emod_lt_of_pos _ (by omega)⟩ e1, ek]
    constructor
    · intro q
      rw [← q, Int.emod_sub_emod, show a + k - a = k by omega]
    · intro q
      have q2 : (a + k) % w = (a + (h - a)) % w := by
        rw [← Int.add_emod_emod, q, Int.add_emod_emod]
      rw [q2, show a + (h - a) = h by omega, Int.emod_eq_of_lt hl.1 hl.2]
theorem due_low {w f t : Int} (hw : 2 < w) {xs ys : List Row} {r : Row} {g k0 : Int} (e : noteDue w f t xs ys r g = some k0) : 0 ≤ k0 ∧ k0 < w := by
  unfold noteDue at e
  cases e1 : backGoal w f t r.b ys g with
  | none =>
    rw [e1] at e
    cases e
  | some h =>
    rw [e1] at e
    rw [← Option.some.inj e]
    exact ⟨Int.emod_nonneg _ (by omega), Int.emod_lt_of_pos _ (by omega)⟩
/-- ahead of a reset of its board any row leads to the same boards -/
theorem due_none {w f t : Int} {xs ys : List Row} {r : Row} {g : Int} (e : noteDue w f t xs ys r g = none) : valOf (narrow w f) r.b 1 (xs ++ r :: ys) = valOf (narrow w f) r.b 1 (xs ++ ys) := by
  unfold noteDue at e
  cases e1 : backGoal w f t r.b ys g with
  | some h =>
    rw [e1] at e
    cases e
  | none =>
    rw [valOf_append, valOf_append]
    exact backGoal_none ys g _ _ e1
/-- a row of another board tells nothing -/
theorem valOf_other {m : Mix} {b : Nat} {xs ys : List Row} {r : Row} (h : r.b ≠ b) (v : Int) : valOf m b v (xs ++ r :: ys) = valOf m b v (xs ++ ys) := by
  rw [valOf_append, valOf_append]
  show valOf m b (stepV m b (valOf m b v xs) r) ys = _
  unfold stepV
  rw [if_neg h]
end K21
/-! Plain laws, part A2: wide numbers and their figures. -/
namespace K21
def SPANv : Int := 26500305465
def wideOf (b0 : Int) (rs : List Row) : Int := rs.foldl (fun v r => v * 26500305465 + rowNum r + 1) b0
theorem wideOf_take {b0 : Int} {rs : List Row} {m : Nat} {r : Row} (h : rs[m]? = some r) : wideOf b0 (rs.take (m + 1)) = wideOf b0 (rs.take m) * 26500305465 + rowNum r + 1 := by
  unfold wideOf
  rw [List.take_add_one, h, List.foldl_append]
  rfl
theorem wideOf_pos {b0 : Int} (hb : 1 ≤ b0) : ∀ {rs : List Row}, (∀ r ∈ rs, r.Ok) → b0 ≤ wideOf b0 rs
  | [], _ => Int.le_refl _
  | r :: rs, h => by
    have hr := rowNum_bound (h r (List.mem_cons_self ..))
    have ih := wideOf_pos (b0 := b0 * 26500305465 + rowNum r + 1) (by omega) (rs := rs) fun q hq => h q (List.mem_cons_of_mem _ hq)
    show b0 ≤ wideOf (b0 * 26500305465 + rowNum r + 1) rs
    omega
theorem wideOf_lt : ∀ {rs : List Row} {b0 : Int}, 0 ≤ b0 → (∀ r ∈ rs, r.Ok) → wideOf b0 rs + 1 ≤ (b0 + 1) * 34359738368 ^ rs.length
  | [], b0, _, _ => by
    show b0 + 1 ≤ (b0 + 1) * 1
    omega
  | r :: rs, b0, h0, h => by
    have hr := rowNum_bound (h r (List.mem_cons_self ..))
    have ih := wideOf_lt (rs := rs) (b0 := b0 * 26500305465 + rowNum r + 1) (by omega) fun q hq => h q (List.mem_cons_of_mem _ hq)
    show wideOf (b0 * 26500305465 + rowNum r + 1) rs + 1 ≤ _
    refine Int.le_trans ih ?_
    rw [List.length_cons, Int.pow_succ, Int.mul_comm (34359738368 ^ rs.length), ← Int.mul_assoc]
    exact Int.mul_le_mul_of_nonneg_right (by omega) (Int.le_of_lt (Int.pow_pos (by decide)))
theorem wideOf_bits {rs : List Row} {b0 : Int} (h1 : 1 ≤ b0) (h2 : b0 ≤ 2) (h : ∀ r ∈ rs, r.Ok) (hl : rs.length ≤ 60) : (wideOf b0 rs).natAbs < 2 ^ 2102 := by
  have a := wideOf_pos h1 h
  have b := wideOf_lt (rs := rs) (b0 := b0) (by omega) h
  have c : (b0 + 1) * 34359738368 ^ rs.length ≤ 3 * 34359738368 ^ 60 := by
    have c1 : (34359738368 : Int) ^ rs.length ≤ 34359738368 ^ 60 := by
      have c2 : (34359738368 : Nat) ^ rs.length ≤ 34359738368 ^ 60 := Nat.pow_le_pow_right (by decide) hl
      rw [show (34359738368 : Int) = ((34359738368 : Nat) : Int) from rfl, ← Int.natCast_pow, ← Int.natCast_pow]
      exact Int.ofNat_le.mpr c2
    have c3 : 0 < (34359738368 : Int) ^ rs.length := Int.pow_pos (by decide)
    exact Int.le_trans (Int.mul_le_mul_of_nonneg_right (show b0 + 1 ≤ 3 by omega) (Int.le_of_lt c3)) (Int.mul_le_mul_of_nonneg_left c1 (by decide))
  have d : (3 : Int) * 34359738368 ^ 60 ≤ 2 ^ 2102 := by decide +kernel
  have e : ((2 : Int) ^ 2102) = ((2 ^ 2102 : Nat) : Int) := by decide +kernel
  have f : wideOf b0 rs + 1 ≤ ((2 ^ 2102 : Nat) : Int) := by
    rw [← e]
    exact Int.le_trans b (Int.le_trans c d)
  generalize (2 ^ 2102 : Nat) = B at f
  omega
end K21
/-! Plain laws, part A3: which rows may stand. -/
namespace K21
def isBehind (r : Row) : Bool := decide (r.w = 3 ∨ r.w = 4)
def canStand (many fixed : Int) (ended : Bool) (r : Row) : Bool := decide ((r.b : Int) < many) && ((isBehind r == ended) && (decide (r.w ≠ 4) || decide (fixed ≤ (r.b : Int))))
def isEnd (r : Row) : Bool := decide (r.w = 2)
def faultAt (many fixed : Int) : Bool → List Row → Nat → Option Nat
  | _, [], _ => none
  | e, r :: rs, i => if canStand many fixed e r = true then faultAt many fixed (e || isEnd r) rs (i + 1) else some i
def stands (many fixed : Int) : Bool → List Row → Bool
  | _, [] => true
  | e, r :: rs => canStand many fixed e r && stands many fixed (e || isEnd r) rs
theorem fault_stands (many fixed : Int) : ∀ (rs : List Row) (e : Bool) (i : Nat), (faultAt many fixed e rs i = none) ↔ stands many fixed e rs = true
  | [], _, _ => ⟨fun _ => rfl, fun _ => rfl⟩
  | r :: rs, e, i => by
    unfold faultAt stands
    have ih := fault_stands many fixed rs (e || isEnd r) (i + 1)
    by_cases c : canStand many fixed e r = true
    · rw [if_pos c, c, Bool.true_and]
      exact ih
    · rw [if_neg c]
      constructor
      · intro z
        cases z
      · intro z
        exact absurd (Bool.and_eq_true_iff.mp z).1 c
theorem fault_some {many fixed : Int} {rs : List Row} {e : Bool} {i : Nat} (h : stands many fixed e rs = false) : ∃ j, faultAt many fixed e rs i = some j := by
  cases q : faultAt many fixed e rs i with
  | none =>
    rw [(fault_stands many fixed rs e i).mp q] at h
    cases h
  | some j => exact ⟨j, rfl⟩
/-- an end among the first -/
def endIn (rs : List Row) : Bool := rs.any isEnd
theorem stands_append (many fixed : Int) : ∀ (xs ys : List Row) (e : Bool), stands many fixed e (xs ++ ys) = (stands many fixed e xs && stands many fixed (e || endIn xs) ys)
  | [], ys, e => by
    show stands many fixed e ys = (true && stands many fixed (e || false) ys)
    rw [Bool.true_and, Bool.or_false]
  | r :: xs, ys, e => by
    show (canStand many fixed e r && stands many fixed (e || isEnd r) (xs ++ ys)) = ((canStand many fixed e r && stands many fixed (e || isEnd r) xs) && stands many fixed (e || (isEnd r || endIn xs)) ys)
    rw [stands_append many fixed xs ys, Bool.and_assoc, Bool.or_assoc]
theorem stands_board {many fixed : Int} : ∀ {rs : List Row} {e : Bool}, stands many fixed e rs = true → ∀ r ∈ rs, (r.b : Int) < many
  | [], _, _, r, h => by cases h
  | q :: rs, e, h, r, hr => by
    obtain ⟨h1, h2⟩ := Bool.and_eq_true_iff.mp h
    rcases List.mem_cons.mp hr with rfl | hr
    · exact of_decide_eq_true (Bool.and_eq_true_iff.mp h1).1
    · exact stands_board h2 r hr
/-- a row put in that is no end, and may stand there -/
theorem stands_put {many fixed : Int} {xs ys : List Row} {r : Row} (h : stands many fixed false (xs ++ ys) = true) (hr : canStand many fixed (endIn xs) r = true) (he : isEnd r = false) : stands many fixed false (xs ++ r :: ys) = true := by
  rw [stands_append] at h ⊢
  obtain ⟨h1, h2⟩ := Bool.and_eq_true_iff.mp h
  rw [h1, Bool.true_and]
  rw [Bool.false_or] at h2 ⊢
  show (canStand many fixed (endIn xs) r && stands many fixed (endIn xs || isEnd r) ys) = true
  rw [hr, he, Bool.or_false, h2]
  rfl
end K21
/-! Plain laws, part A4: boards that stay below a narrow mixing's width. -/
namespace K21
def LowB (m : Mix) (bs : List Int) : Prop := ∀ w, m.wd = some w → ∀ x ∈ bs, 0 ≤ x ∧ x < w
theorem LowB.step {m : Mix} {bs : List Int} {r : Row} (hw : ∀ w, m.wd = some w → 3 ≤ w) (h : LowB m bs) : LowB m (stepB m bs r) := by
  intro w e x hx
  have w3 := hw w e
  unfold stepB at hx
  rcases List.mem_or_eq_of_mem_set hx with hx | hx
  · exact h w e x hx
  · subst hx
    split
    · omega
    · unfold mixed
      rw [e]
      exact ⟨Int.emod_nonneg _ (by omega), Int.emod_lt_of_pos _ (by omega)⟩
theorem LowB.start {m : Mix} {n : Nat} (hw : ∀ w, m.wd = some w → 3 ≤ w) : LowB m (List.replicate n 1) := by
  intro w e x hx
  have w3 := hw w e
  rw [List.eq_of_mem_replicate hx]
  omega
theorem boardsOf_take {m : Mix} {bs : List Int} {rs : List Row} {i : Nat} {r : Row} (h : rs[i]? = some r) : boardsOf m bs (rs.take (i + 1)) = stepB m (boardsOf m bs (rs.take i)) r := by
  unfold boardsOf
  rw [List.take_add_one, h, List.foldl_append]
  rfl
theorem LowB.boards {m : Mix} (hw : ∀ w, m.wd = some w → 3 ≤ w) : ∀ (rs : List Row) (bs : List Int), LowB m bs → LowB m (boardsOf m bs rs)
  | [], _, h => h
  | r :: rs, bs, h => LowB.boards hw rs (stepB m bs r) (h.step hw)
end K21
/-! Plain laws, part A5: what of a log is shown by a board. -/
namespace K21
def shownStep (b : Nat) (s : Bool × List Row) (r : Row) : Bool × List Row := if r.b = b then (if r.w = 4 then (true, []) else (s.1, s.2 ++ [r])) else s
def shownF (b : Nat) (rs : List Row) : Bool × List Row := rs.foldl (shownStep b) (false, [])
def lastRF (b : Nat) (rs : List Row) : Nat × Option Nat := rs.foldl (fun s r => (s.1 + 1, if r.b = b ∧ r.w = 4 then some s.1 else s.2)) (0, none)
def lastR (b : Nat) (rs : List Row) : Option Nat := (lastRF b rs).2
def firstOf : Option Nat → Nat
  | none => 0
  | some j => j + 1
theorem take_snoc {rs : List Row} {i : Nat} {r : Row} (h : rs[i]? = some r) : rs.take (i + 1) = rs.take i ++ [r] := by
  rw [List.take_add_one, h]
  rfl
theorem lastRF_snoc (b : Nat) (rs : List Row) (r : Row) : lastRF b (rs ++ [r]) = ((lastRF b rs).1 + 1, if r.b = b ∧ r.w = 4 then some (lastRF b rs).1 else (lastRF b rs).2) := by
  unfold lastRF
  rw [List.foldl_append]
  rfl
theorem lastRF_len (b : Nat) (rs : List Row) : ∀ i, i ≤ rs.length → (lastRF b (rs.take i)).1 = i
  | 0, _ => rfl
  | i + 1, h => by
    have hi : i < rs.length := h
    rw [take_snoc (List.getElem?_eq_getElem hi), lastRF_snoc, lastRF_len b rs i (Nat.le_of_lt hi)]
theorem lastR_take {b : Nat} {rs : List Row} {i : Nat} {r : Row} (h : rs[i]? = some r) : lastR b (rs.take (i + 1)) = if r.b = b ∧ r.w = 4 then some i else lastR b (rs.take i) := by
  have hi : i < rs.length := (List.getElem?_eq_some_iff.mp h).1
  unfold lastR
  rw [take_snoc h, lastRF_snoc, lastRF_len b rs i (Nat.le_of_lt hi)]
theorem shownF_snoc (b : Nat) (rs : List Row) (r : Row) : shownF b (rs ++ [r]) = shownStep b (shownF b rs) r := by
  unfold shownF
  rw [List.foldl_append]
  rfl
/-- the last reset's place and the rows of the board behind it -/
theorem shown_take (b : Nat) (rs : List Row) : ∀ i, i ≤ rs.length → shownF b (rs.take i) = ((lastR b (rs.take i)).isSome, ((rs.take i).drop (firstOf (lastR b (rs.take i)))).filter fun r => decide (r.b = b)) ∧ firstOf (lastR b (rs.take i)) ≤ i
  | 0, _ => ⟨rfl, Nat.zero_le _⟩
  | i + 1, h => by
    have hi : i < rs.length := h
    have e := List.getElem?_eq_getElem hi
    obtain ⟨ih, il⟩ := shown_take b rs i (Nat.le_of_lt hi)
    have lt : (rs.take i).length = i := by
      rw [List.length_take]
      omega
    rw [lastR_take e, take_snoc e, shownF_snoc, ih]
    unfold shownStep
    by_cases hb : rs[i].b = b
    · by_cases h4 : rs[i].w = 4
      · rw [if_pos hb, if_pos h4, if_pos ⟨hb, h4⟩]
        refine ⟨?_, Nat.le_refl _⟩
        have ed : (rs.take i ++ [rs[i]]).drop (i + 1) = [] := List.drop_eq_nil_of_le (by rw [List.length_append, lt]; exact Nat.le_refl _)
        show (true, ([] : List Row)) = (true, ((rs.take i ++ [rs[i]]).drop (i + 1)).filter fun r => decide (r.b = b))
        rw [ed]
        rfl
      · rw [if_pos hb, if_neg h4, if_neg fun z => h4 z.2]
        refine ⟨?_, Nat.le_succ_of_le il⟩
        rw [List.drop_append_of_le_length (by rw [lt]; exact il), List.filter_append]
        simp [hb]
    · rw [if_neg hb, if_neg fun z => hb z.1]
      refine ⟨?_, Nat.le_succ_of_le il⟩
      rw [List.drop_append_of_le_length (by rw [lt]; exact il), List.filter_append]
      simp [hb]
theorem shown_all (b : Nat) (rs : List Row) : shownF b rs = ((lastR b rs).isSome, (rs.drop (firstOf (lastR b rs))).filter fun r => decide (r.b = b)) := by
  have h := (shown_take b rs rs.length (Nat.le_refl _)).1
  rw [List.take_length] at h
  exact h
/-- the wide board's number says it -/
def beginOf (reset : Bool) : Int := if reset = true then 2 else 1
def wide : Mix := ⟨none, 7919⟩
theorem wideOf_snoc (b0 : Int) (rs : List Row) (r : Row) : wideOf b0 (rs ++ [r]) = wideOf b0 rs * 26500305465 + rowNum r + 1 := by
  unfold wideOf
  rw [List.foldl_append]
  rfl
theorem wide_fold (b : Nat) : ∀ (rs : List Row) (v : Int) (s : Bool × List Row), v = wideOf (beginOf s.1) s.2 → valOf wide b v rs = wideOf (beginOf (rs.foldl (shownStep b) s).1) (rs.foldl (shownStep b) s).2
  | [], v, s, h => h
  | r :: rs, v, s, h => by
    show valOf wide b (stepV wide b v r) rs = wideOf (beginOf (rs.foldl (shownStep b) (shownStep b s r)).1) (rs.foldl (shownStep b) (shownStep b s r)).2
    refine wide_fold b rs _ _ ?_
    unfold stepV shownStep
    by_cases hb : r.b = b
    · rw [if_pos hb, if_pos hb]
      by_cases h4 : r.w = 4
      · rw [if_pos h4, if_pos h4]
        rfl
      · rw [if_neg h4, if_neg h4]
        show v * 26500305465 + rowNum r + 1 = wideOf (beginOf s.1) (s.2 ++ [r])
        rw [wideOf_snoc, h]
    · rw [if_neg hb, if_neg hb]
      exact h
theorem wide_val (b : Nat) (rs : List Row) : valOf wide b 1 rs = wideOf (beginOf (shownF b rs).1) (shownF b rs).2 := wide_fold b rs 1 (false, []) rfl
/-- what is shown are rows of the log, none of them a reset -/
theorem shown_mem (b : Nat) : ∀ (rs : List Row) (s : Bool × List Row) (r : Row), r ∈ (rs.foldl (shownStep b) s).2 → (r ∈ rs ∧ r.w ≠ 4) ∨ r ∈ s.2
  | [], s, r, h => .inr h
  | q :: rs, s, r, h => by
    rcases shown_mem b rs (shownStep b s q) r h with ⟨h1, h2⟩ | h1
    · exact .inl ⟨List.mem_cons_of_mem _ h1, h2⟩
    · unfold shownStep at h1
      split at h1
      · split at h1
        · cases h1
        · rename_i h4
          rcases List.mem_append.mp h1 with h1 | h1
          · exact .inr h1
          · rw [List.mem_singleton.mp h1]
            exact .inl ⟨List.mem_cons_self .., h4⟩
      · exact .inr h1
theorem shown_ok {b : Nat} {rs : List Row} {r : Row} (h : r ∈ (shownF b rs).2) : r ∈ rs ∧ r.w ≠ 4 := by
  rcases shown_mem b rs (false, []) r h with h | h
  · exact h
  · cases h
theorem shown_len (b : Nat) : ∀ (rs : List Row) (s : Bool × List Row), (rs.foldl (shownStep b) s).2.length ≤ s.2.length + rs.length
  | [], s => Nat.le_refl _
  | q :: rs, s => by
    refine Nat.le_trans (shown_len b rs (shownStep b s q)) ?_
    have : (shownStep b s q).2.length ≤ s.2.length + 1 := by
      unfold shownStep
      split
      · split
        · exact Nat.zero_le _
        · rw [List.length_append]
          exact Nat.le_refl _
      · exact Nat.le_succ _
    rw [List.length_cons]
    omega
theorem shownF_len (b : Nat) (rs : List Row) : (shownF b rs).2.length ≤ rs.length := by
  have := shown_len b rs (false, [])
  exact Nat.le_trans this (by show 0 + rs.length ≤ rs.length; omega)
/-- a row put in -/
theorem shown_other {b : Nat} {xs ys : List Row} {r : Row} (h : r.b ≠ b) : shownF b (xs ++ r :: ys) = shownF b (xs ++ ys) := by
  unfold shownF
  rw [List.foldl_append, List.foldl_append, List.foldl_cons]
  congr 1
  unfold shownStep
  rw [if_neg h]
theorem shown_flag (b : Nat) : ∀ (rs : List Row) (s s' : Bool × List Row), s.1 = s'.1 → (rs.foldl (shownStep b) s).1 = (rs.foldl (shownStep b) s').1
  | [], _, _, h => h
  | q :: rs, s, s', h => by
    refine shown_flag b rs _ _ ?_
    unfold shownStep
    split
    · split
      · rfl
      · exact h
    · exact h
theorem shown_put {b : Nat} {xs ys : List Row} {r : Row} (h : r.w ≠ 4) : (shownF b (xs ++ r :: ys)).1 = (shownF b (xs ++ ys)).1 := by
  unfold shownF
  rw [List.foldl_append, List.foldl_append, List.foldl_cons]
  refine shown_flag b ys _ _ ?_
  unfold shownStep
  split
  · rfl
  · rfl
end K21
/-! Rules that the layer lacks: a star among a tuple's targets; a call by keywords alone; a method's call by keywords; a dict comprehension given to a name. -/
namespace K21
open PySem PySem.Spec PyProof.Rows L2

/-- a tuple drawn into i names and the rest: a new list -/
theorem star_items {prog : Program} {w : World} {A : Around} {E : Value → Shared → Prop} {s : Shared} {l : Addr} {items : Array Value} {i : Nat} {Q : List Value → Shared → Prop}
    (hl : IsTup s.heap l items) (hh : A.handled = none) (hi : i ≤ items.size) (hz : items.size ≤ sizeLine)
    (h : ∀ (h' : Heap) (tk : Nat), (∀ b o, s.heap.get? b = some o → h'.get? b = some o) →
      Q (items.toList.take i ++ [.ref h'.objs.size]) { s with heap := h'.push { cls := .type "list", data := .seq (items.toList.drop i).toArray }, toks := tk }) :
    wpAny (model prog w) A (unpackItems (.ref l) (i + 1) (some i)) Q E s := by
  have hlt : l ≠ s.heap.objs.size := Nat.ne_of_lt hl.lt
  unfold unpackItems
  refine wpAny_bind ?_
  unfold notIterableAtAll
  refine wpAny_bind (wpAny_specialOf hl.typeIs slot_tuple_iter.lookup (wpAny_pure ?_))
  rw [if_neg Bool.false_ne_true]
  refine wpAny_bind (wpAny_holding (iter_tuple hl (wpAny_bind (wpAny_holding (draw_tuple hlt i 0 _ _ ⟨_, Heap.get?_push_size _ rfl, rfl, rfl⟩ (hl.push _) (by omega) fun h1 it1 sm1 => ?_)))))
  have l1 : IsTup h1 l items := (hl.push _).extBut sm1.extBut hlt
  rw [Nat.zero_add] at it1
  have lt1 : s.heap.objs.size < h1.objs.size := by
    obtain ⟨o, e, _⟩ := it1
    exact Heap.lt_size e
  rw [List.drop_zero]
  have ln : (items.toList.take i).length = i := by
    rw [List.length_take, Array.length_toList]
    omega
  rw [if_neg (show ¬ ((items.toList.take i).length < i) by omega)]
  refine wpAny_bind (wpAny_holding (PySem.W.kun_collect (s := { s with heap := h1 }) (T := "tuple_iterator") (.inr (.inr (.inr rfl))) (Walks.tuple (A := A.in1) hh s.heap.objs.size l hlt items) (fun j u st => st.1.typeIs) (k := i) hi ⟨it1, l1⟩ lt1 l1.lt (fun h2 tk k2 => ?_) hz))
  have nn : i + 1 - 1 - i = 0 := by omega
  show wpAny _ _ (if (items.toList.drop i).length < i + 1 - 1 - i then _ else _) _ _ _
  rw [nn, if_neg (Nat.not_lt_zero _)]
  show wpAny _ _ (newList ((items.toList.drop i).take ((items.toList.drop i).length - 0)) >>= fun d => pure (items.toList.take i ++ [d] ++ (items.toList.drop i).drop ((items.toList.drop i).length - 0))) _ _ _
  rw [Nat.sub_zero, List.take_length, List.drop_length]
  simp only [List.append_nil]
  refine wpAny_bind (wpAny_newList (wpAny_pure (h h2 tk fun b o e => ?_)) ?_)
  · refine k2 b o (Nat.ne_of_lt (Heap.lt_size e)) (sm1.extBut b o (Nat.ne_of_lt (Heap.lt_size e)) (Heap.get?_push_of_some _ e))
  · rw [List.length_drop, Array.length_toList]
    omega

/-- a, b, *rest = t, t a tuple that stands still: rest is a new list -/
def gStar (K : PySem.W.Frag) (n : Nat) (t : TGs) : TG := fun v σ H Q => ∃ a xs, v = .ref a ∧ SqT K H a xs ∧ n ≤ xs.length ∧ ∀ p, H p = none → t (xs.take n ++ [.ref p]) σ (upd H p (.lst (xs.drop n))) Q
theorem pg_star {X : Cx} {pos : Pos} {es es' : List Expr} {k : Nat} {t : TGs} {n : Nat} (hc : X.calm = true) (h : PGs X es' t)
    (he : (assignEach es X.env).map (·.2) = (assignEach es' X.env).map (·.2) := by rfl) (hn : (assignEach es X.env).length = n + 1 := by rfl) (hst : (assignEach es X.env).findIdx? (·.1) = some n := by rfl) :
    PG X (.Tuple es k pos) (gStar X.K n t) := by
  refine ⟨fun pins s σ H v u Q I r hw => ?_⟩
  obtain ⟨a, xs, e1, hq, hl, hw⟩ := hw
  subst e1
  cases r
  obtain ⟨its, rv, ht, hz⟩ := I.tuple hq
  rw [assign_Tuple]
  refine wpAny_bind (wpAny_standAt ?_)
  unfold unpack
  rw [hn, hst]
  have hs : its.toArray.size = xs.length := by
    rw [rv.length]
    simp
  refine wpAny_bind (wpAny_holding (star_items ht (I.ok.hd hc) (by omega) (by omega) fun h' tk keep => ?_))
  have I1 : Inv X pins σ H { s with heap := h', toks := tk } := I.kept keep
  have hf : H h'.objs.size = none := I1.hok.fresh (Nat.le_refl _)
  have I2 := I1.laid (t' := tk) (a := h'.objs.size) (o := .lst (xs.drop n)) (h' := h'.push { cls := .type "list", data := .seq (its.drop n).toArray }) (fun b o e => Heap.get?_push_of_some _ e) (Nat.le_refl _)
    ⟨by rw [List.length_drop]; omega, its.drop n, 0, rv.drop n, Heap.get?_push_size _ rfl⟩
  rw [he]
  have rr : Vals (xs.take n ++ [V.ref h'.objs.size]) (its.take n ++ [Value.ref h'.objs.size]) := (rv.take n).append (.cons rfl .nil)
  exact h.run pins _ σ _ _ _ Q I2 rr (hw _ hf)

/-- f(k = v, ..), all by keywords -/
def tCallN0 (m : Nat) (sp : Sp) (gV : List V → List V → List V) (E : XK) (tk : TA) : TE := fun σ H Q => tk σ H fun zs H2 => zs.length = m ∧ sp (gV [] zs) H2 Q E
section
variable {X : Cx} {CX : CXT} {k n : Nat} {f C : Addr} {fd : FuncData} {ps ks : List Str} {sp : Sp} {E : XK} {x m : Str} {p pos apos : Pos} {o e : Expr} {es : List Expr} {kws : List Keyword} {ta : TE} {t tk : TA} {g : List Value → List Value → List Value} {gV : List V → List V → List V}
theorem pe_callN0 (F : FnOk X.prog X.w X.K X.mg X.base CX k f fd ps sp) (hr : Room k X.A) (hg : Gl X x) (hm : X.mg x = some (.ref f)) (hk : PySem.W.keepIn X.K (.ref f) = true) (hb : KBn X.K fd ps 0 ks g gV) (hx : Passes CX X E)
    (hkw : PK X kws tk) (hall : (backToKw pos (keywordEach kws X.env)).all (·.1.isSome) = true := by rfl) (hks : (backToKw pos (keywordEach kws X.env)).filterMap (·.1) = ks := by rfl)
    (hdb : (x == ("__debug__" : Str)) = false := by decide)
    (hpl : ((backTo pos (starEach [] X.env)).any (·.1) || (backToKw pos (keywordEach kws X.env)).any (·.1.isNone)) = false := by rfl) :
    PE X (.Call (.Name x p) [] kws pos) (tCallN0 ks.length sp gV E tk) := by
  refine ⟨fun pins s σ H Q I h => ?_⟩
  refine wpAny_Call_Name_kw (ld_glob I hg hm ?_ hdb)
  refine PySem.W.callWith_KW0 (h₀ := X.base) I.ok.mod.kin hk hall ?_ hpl
  refine thn (hkw.run pos pins s σ H _ I h) fun ws s2 ⟨zs, H2, I2, rz, l2, q2⟩ => ⟨I2.kIn, ?_⟩
  rw [hks]
  exact run_fnN (us := []) (vs := []) F hr hb hx I2 .nil rz rfl l2 q2
/-- o.m(k = v, ..), all by keywords -/
def tMethN0 (C : Addr) (m : Str) (n : Nat) (sp : Sp) (gV : List V → List V → List V) (E : XK) (ta : TE) (tk : TA) : TE := fun σ H Q => ta σ H fun x H1 => ∃ a dx fs, x = .ref a ∧ H1 a = some (.ins C dx fs) ∧ fs.lookup m = none ∧
  tk σ H1 fun zs H2 => zs.length = n ∧ sp (gV [x] zs) H2 Q E
theorem pe_methN0 {pl : Sem Bool} (ho : PE X o ta) (c : Cls X.K C) (hm : Meth X.K C m f) (F : FnOk X.prog X.w X.K X.mg X.base CX k f fd ps sp) (hr : Room k X.A) (hb : KBn X.K fd ps 1 ks g gV) (hx : Passes CX X E) (hkw : PK X kws tk)
    (hall : (backToKw pos (keywordEach kws X.env)).all (·.1.isSome) = true := by rfl) (hks : (backToKw pos (keywordEach kws X.env)).filterMap (·.1) = ks := by rfl)
    (hpl : ((backTo pos (starEach [] X.env)).any (·.1) || (backToKw pos (keywordEach kws X.env)).any (·.1.isNone)) = false := by rfl)
    (ht : eval (.Call (.Attribute o m apos) [] kws pos) X.env = (do
      let r ← eval o X.env
      standAt apos.atName
      let (q, lead) ← holding [r] (getMethod r m pl)
      callWith pos q lead (backTo pos (starEach [] X.env)) (backToKw pos (keywordEach kws X.env))) := by rfl) :
    PE X (.Call (.Attribute o m apos) [] kws pos) (tMethN0 C m ks.length sp gV E ta tk) := by
  refine ⟨fun pins s σ H Q I h => ?_⟩
  refine PySem.W.methodCall_KW (pl := pl) (thn (ho.run pins s σ H _ I h) fun u s1 ⟨x, H1, I1, rx, a, dx, fs, ex, ea, l, q⟩ => ?_) ht
  subst ex
  obtain rfl : u = Value.ref a := rx
  refine getmeth_ok I1 ea c hm l ?_
  refine PySem.W.callWith_KW0 (first := [.ref a]) (h₀ := X.base) I.ok.mod.kin hm.kp hall ?_ hpl
  refine thn (hkw.run pos pins s1 σ H1 _ I1 q) fun ws s2 ⟨zs, H2, I2, rz, l2, q2⟩ => ⟨I2.kIn, ?_⟩
  rw [hks]
  exact run_fnN (us := [.ref a]) (vs := [.ref a]) F hr hb hx I2 (.cons rfl .nil) rz rfl l2 q2
end

section
variable {X : Cx}
/-- y = {k: v for ..}, y a local: the dict goes to its slot -/
theorem ps_setDc {i : Nat} {y : Str} {py : Pos} {kx vx tg iter : Expr} {ifs : List Expr} {scope : Scope} {own : List (Str × Nat)} {pos spos : Pos} {wi : TI} {g : TG} {tt : TT} {tk tv : TE} (hc : X.calm = true) (hN : X.N.Nodup) (hy : X.N[i]? = some y) (hyl : X.env.scope.names.lookup y = some .local)
    (hsw : swapsWith (.DictComp kx vx [⟨tg, iter, ifs, 0⟩] scope pos) (some (.Name y py)) spos.line X.env = pure true) (hi : PI X tg iter wi) (ok : BlkOk X.N X.env.scope scope own)
    (hg : ∀ (s : Shared) (H : Hp) (C : Addr) (cl : List (Str × Addr)) (fp : List Addr), PG (X.blk s H scope (compEnvC scope cl C X.env) fp) tg g) (ht : ∀ (s : Shared) (H : Hp) (C : Addr) (cl : List (Str × Addr)) (fp : List Addr), PTs (X.blk s H scope (compEnvC scope cl C X.env) fp) ifs tt)
    (hk : ∀ (s : Shared) (H : Hp) (C : Addr) (cl : List (Str × Addr)) (fp : List Addr), PE (X.blk s H scope (compEnvC scope cl C X.env) fp) kx tk)
    (hv : ∀ (s : Shared) (H : Hp) (C : Addr) (cl : List (Str × Addr)) (fp : List Addr), PE (X.blk s H scope (compEnvC scope cl C X.env) fp) vx tv) (hs : ∀ x, foldedSetIterable iter X.env x = pure x := by intro _; rfl) :
    PS X (.Assign [.Name y py] (.DictComp kx vx [⟨tg, iter, ifs, 0⟩] scope pos) spos) (tAsg (tDc wi g tt tk tv (own.map (·.2))) (gName i)) := by
  refine ⟨fun pins s σ H D I h => ?_⟩
  rw [exec_Assign_Name_used _ _ _ _ hsw]
  refine wpAny_bind (wpAny_standAt (wpAny_bind ?_))
  show wpAny _ X.A (do let _ ← comprehension (.DictComp kx vx [⟨tg, iter, ifs, 0⟩] scope pos) scope X.env (firstIterPos [⟨tg, iter, ifs, 0⟩] pos) newDict false (eval iter X.env) (some (assign (.Name y py) X.env))) _ _ s
  have h2 : tDc wi g tt tk tv (own.map (·.2)) σ H (fun x H1 => gName i x σ H1 D.nx) := h
  refine wpAny_bind (thn (dc_core (Qf := fun _ s' => SP X pins D .next s') hc hN I hi ok hg ht hk hv hs h2 fun L C s' m H' I' q hn ⟨f0, f1, f2, f3, f4, f5⟩ => ?_) fun _ s' hq => wpAny_pure (wpAny_pure hq))
  show wpAny _ _ (assign (.Name y py) X.env (.ref L)) _ _ _
  refine wpAny_assign_Name (store_ok2 (v := V.ref L) I' hN hy (.inl hyl) rfl (fun s2 I2 ⟨a, sb, ha⟩ => ?_) (.inr hyl))
  have apart : C ≠ a := fun e => by
    rcases ha with z | z
    · exact f1 (e.trans z)
    · exact f4 y a z e.symm
  exact ⟨m, hn.sameBut sb apart, fun h3 sb3 => ⟨_, H', I2.turned (t' := s2.toks) (fun b o hb e => (sb3.2 b hb).trans e) f0 f1 f3 f4 f5, q⟩⟩
end
end K21
/-! What a for walks, where a list or a tuple may stand: the thing itself, and enumerate of it. -/
namespace K21
open PySem PySem.Spec PyProof.Rows L2
section
variable {X : Cx} {tg : Expr}
/-- a list or a tuple -/
def iAny (K : PySem.W.Frag) (tl : TE) : TI := fun σ H R => tl σ H fun x H1 => ∃ a, x = .ref a ∧ (((∃ xs, SqL K H1 a xs) ∧ R (Itl K a) H1) ∨ ((∃ xs, SqT K H1 a xs) ∧ R (Itt K a) H1))
theorem pi_any {l : Expr} {tl : TE} (hl : PE X l tl) : PI X tg l (iAny X.K tl) := by
  refine ⟨fun pins s σ H R I h => thn (hl.run pins s σ H _ I h) fun v s1 ⟨x, H1, I1, r1, a, e, q1⟩ => ?_⟩
  subst e
  cases r1
  have fp : ∀ b ∈ [s1.heap.objs.size], FpOk X pins H1 b := fun b hb => by
    rw [List.mem_singleton.mp hb]
    exact I1.fpOk (Nat.le_refl _) (I1.hok.fresh (Nat.le_refl _))
  rcases q1 with ⟨⟨xs, hq⟩, q⟩ | ⟨⟨xs, hq⟩, q⟩
  · obtain ⟨its, rv, p, hz⟩ := I1.list hq
    exact wpAny_pyIter_list p.isList ⟨_, [s1.heap.objs.size], _, _, H1, rfl, I1.kept (t' := s1.toks) fun b o e => Heap.get?_push_of_some _ e, turn_list a _, ⟨_, Heap.get?_push_size _ rfl, rfl, rfl⟩, fp, q⟩
  · obtain ⟨its, rv, p, hz⟩ := I1.tuple hq
    exact wpAny_pyIter_tuple (show s1.heap.IsTuple a its.toArray from p) ⟨_, [s1.heap.objs.size], _, _, H1, rfl, I1.kept (t' := s1.toks) fun b o e => Heap.get?_push_of_some _ e, turn_tuple a _, ⟨_, Heap.get?_push_size _ rfl, rfl, rfl⟩, fp, q⟩
end

/-! ### enumerate of a tuple -/
theorem meets_enum_tup (l : Addr) (items : Array Value) :
    Meets (Builtin.«enumerate.__new__» ⟨[.type "enumerate", .ref l], []⟩) (fun _ R s => s.heap.IsTuple l items ∧
      R (.ok (.ret (.ref (s.heap.push { cls := .type "tuple_iterator", data := .fields #[.ref l, .int 0 0] }).objs.size)))
        { s with heap := (s.heap.push { cls := .type "tuple_iterator", data := .fields #[.ref l, .int 0 0] }).push { cls := .type "enumerate", data := .fields #[.none, .bool false, .ref s.heap.objs.size, rawInt 0, .none, .none] } }) :=
  .of_wp fun prog w A R s h => by
    obtain ⟨hp, g, d, tk, os⟩ := s
    obtain ⟨hL, h⟩ := h
    have hsub := sub_enumerate
    wp_walk using wpAny_pyIter_tuple hL
    refine wpAny_stack_any fun st => wpAny_pure ?_
    split
    · rename_i cl _ _ _ _ _
      cases (cl == Value.type "enumerate") <;> (wp_walk using wpAny_pyIter_tuple hL; exact ⟨_, rfl, h⟩)
    · wp_walk using wpAny_pyIter_tuple hL
      exact ⟨_, rfl, h⟩
theorem call_enum_tup {prog : Program} {w : World} {A : Around} {E : Value → Shared → Prop} {s : Shared} {l : Addr} {items : Array Value} {Q : Value → Shared → Prop} (hL : s.heap.IsTuple l items)
    (h : ∀ h', IsEnum h' (s.heap.objs.size + 1) s.heap.objs.size 0 .none → h'.IsTupleIter s.heap.objs.size l 0 → (∀ b o, s.heap.get? b = some o → h'.get? b = some o) → Q (.ref (s.heap.objs.size + 1)) { s with heap := h' }) :
    wpAny (model prog w) A (call (.type "enumerate") [.ref l]) Q E s := by
  refine callType_new F.called_enumerate (by decide) (F.typeCall_enumerate_1 _) (F.newCall_enumerate_1 _) (fun obj => F.args_object_init_2 obj _) F.entry_enumerate_new (meets_enum_tup l items) ⟨hL, ?_⟩
  have hz : (s.heap.push { cls := .type "tuple_iterator", data := .fields #[.ref l, .int 0 0] }).objs.size = s.heap.objs.size + 1 := Heap.size_push ..
  have he : IsEnum ((s.heap.push { cls := .type "tuple_iterator", data := .fields #[.ref l, .int 0 0] }).push
      { cls := .type "enumerate", data := .fields #[.none, .bool false, .ref s.heap.objs.size, rawInt 0, .none, .none] }) (s.heap.objs.size + 1) s.heap.objs.size 0 .none := by
    have q := Heap.get?_push_size (s.heap.push { cls := .type "tuple_iterator", data := .fields #[.ref l, .int 0 0] }) (o := { cls := .type "enumerate", data := .fields #[.none, .bool false, .ref s.heap.objs.size, rawInt 0, .none, .none] }) rfl
    rw [hz] at q
    exact q
  show _ ∧ _
  rw [hz]
  exact ⟨⟨_, he, rfl⟩, h _ he ⟨_, Heap.get?_push_of_some _ (Heap.get?_push_size _ rfl), rfl, rfl⟩ fun b o x => Heap.get?_push_of_some _ (Heap.get?_push_of_some _ x)⟩
/-- the tuple at a, each item in a new pair -/
def IteT (K : PySem.W.Frag) (a : Addr) : It :=
  ⟨fun i H => ∃ (xs : List V) (x : V), SqT K H a xs ∧ xs[i]? = some x, fun i H v H' => ∃ T x, v = .ref T ∧ H T = none ∧ H' = upd H T (.tup [.int (i : Nat), x]) ∧ ∀ xs, SqT K H a xs → xs[i]? = some x, fun i H => ∃ xs : List V, SqT K H a xs ∧ xs.length = i⟩
theorem walk_enumT {K : PySem.W.Frag} {a : Addr} {xs : List V} : Walk (IteT K a) xs.length (fun H => SqT K H a xs) (YPair (fun i => some (.int (i : Nat))) (fun i => xs[i]?)) := by
  refine ⟨fun i _ hi q => ⟨xs, xs[i], q, by simp [hi]⟩, fun _ q => ⟨xs, q, rfl⟩, fun i H v H' _ q y => ?_⟩
  obtain ⟨T, x, h1, h2, h3, h4⟩ := y
  exact ⟨T, _, x, h1, h2, h3, rfl, h4 xs q⟩
theorem turn_enumT {P : Program} {w : World} {K : PySem.W.Frag} {elts : List Expr} {kk : Nat} {tpos : Pos} (a e it : Addr) (hai : a ≠ it) (hae : a ≠ e) :
    Turn P w K (.Tuple elts kk tpos) (IteT K a) [e, it] e (fun i h => (∃ old, IsEnum h e it ((i : Nat) : Int) old) ∧ h.IsTupleIter it a i ∧ e ≠ it) where
  mem := by simp
  obj := fun i h st b hb => by
    obtain ⟨⟨old, he⟩, ⟨o, ho, hc, hd⟩, _⟩ := st
    rcases List.mem_cons.mp hb with z | z
    · rw [z]
      exact ⟨_, he, fun v q => nomatch q⟩
    · rw [List.mem_singleton.mp z]
      exact ⟨o, ho, fun v q => by rw [hd] at q; cases q⟩
  keep := fun i h h' st k => let ⟨⟨old, he⟩, hi, hne⟩ := st; ⟨⟨old, k e (by simp) _ he⟩, hi.at fun o q => k it (by simp) o q, hne⟩
  item := by
    intro X hP hw hK hc i pins s σ H E I hf st hg
    subst hP hw hK
    obtain ⟨⟨old, he⟩, hit, hne⟩ := st
    obtain ⟨xs, x, hq, hx⟩ := hg
    obtain ⟨its, rv, p, hz⟩ := I.tuple hq
    obtain ⟨u, hu, ru⟩ := rv.get hx
    have hil : i < its.toArray.size := by
      have := (List.getElem?_eq_some_iff.mp hu).1
      simpa using this
    have hel : e < s.heap.objs.size := Heap.lt_size he
    have hit2 : it < s.heap.objs.size := by
      obtain ⟨_, q, _⟩ := hit
      exact Heap.lt_size q
    refine wpAny_pyNext_enum_itemD (Draws.tuple (A := X.A.in1) (I.ok.hd hc) it a hai its.toArray) he ⟨hit, p⟩ hil hne (by simp [hne, Ne.symm hae]) fun y h' tk hy ho ⟨hit', _⟩ hT hsz hk => ?_
    have ey : y = u := by
      have q : its.toArray[i]? = some u := by simpa using hu
      exact Option.some.inj (hy.symm.trans q)
    subst ey
    refine ⟨_, rfl, wpAny_letOwnedTupleGo_enum (s := { s with heap := h', toks := tk + 1 }) ho fun h'' he' sb => ?_⟩
    have hT2 : h''.get? s.heap.objs.size = some { cls := .type "tuple", data := .seq #[.int i tk, y] } := (sb.2 _ (Nat.ne_of_gt hel)).trans hT
    have new : ObjOk X.prog X.w (upd H s.heap.objs.size (.tup [.int (i : Nat), x])) h'' s.heap.objs.size (.tup [.int (i : Nat), x]) :=
      ⟨by show 2 ≤ sizeLine; decide, [.int i tk, y], .cons ⟨_, rfl⟩ (.cons ru .nil), ⟨_, hT2, rfl, _, rfl⟩⟩
    have I1 : Inv X pins σ (upd H s.heap.objs.size (.tup [.int (i : Nat), x])) { s with heap := h'', toks := tk + 1 } :=
      I.turnedNew (ch := [e, it]) (fun b ob hb q => (sb.2 b (fun z => hb (by simp [z]))).trans (hk b ob (fun z => hb (by simp [z])) (fun z => hb (by simp [z])) q)) hf (Nat.le_refl _) new
    refine ⟨.ref s.heap.objs.size, _, I1, rfl, ⟨_, x, rfl, I.hok.fresh (Nat.le_refl _), rfl, fun ys hy2 => by rw [I.tuple_inj hy2 hq]; exact hx⟩, ⟨⟨y, ?_⟩, hit'.at fun o q => (sb.2 it (Ne.symm hne)).trans q, hne⟩, fun b hb => ?_⟩
    · have e1 : ((i + 1 : Nat) : Int) = (i : Int) + 1 := by omega
      rw [e1]
      exact he'
    · have hb' : b < s.heap.objs.size := by
        rcases List.mem_cons.mp hb with z | z
        · rw [z]
          exact hel
        · rw [List.mem_singleton.mp z]
          exact hit2
      rw [upd_ne (Nat.ne_of_lt hb')]
      exact (hf b hb).1
  done := by
    intro X hP hw hK hc i pins s σ H E I hf st hg
    subst hP hw hK
    obtain ⟨⟨old, he⟩, hit, hne⟩ := st
    obtain ⟨xs, hq, hx⟩ := hg
    obtain ⟨its, rv, p, hz⟩ := I.tuple hq
    obtain ⟨f0, f1, f2, f3, f4, f5⟩ := hf it (by simp)
    have hn : i = its.toArray.size := by
      rw [← hx, rv.length]
      simp
    subst hn
    exact wpAny_pyNext_enum_endD (Draws.tuple (A := X.A.in1) (I.ok.hd hc) it a hai its.toArray) he ⟨hit, p⟩ fun h' eb => ⟨rfl, I.turned (t' := s.toks) (fun b o hb q => eb b o hb q) f0 f1 f3 f4 f5⟩
  self := fun A i s Q E st h => let ⟨⟨_, he⟩, _⟩ := st; wpAny_pyIter_enum he h
/-- for i, x in enumerate(xs), a list or a tuple -/
def iEnumA (K : PySem.W.Frag) (ta : TA) : TI := fun σ H R => ta σ H fun vs H1 => ∃ a xs, vs = [.ref a] ∧ ((SqL K H1 a xs ∧ R (Ite K a) H1) ∨ (SqT K H1 a xs ∧ R (IteT K a) H1))
theorem pi_enumA {X : Cx} {e : Expr} {ta : TA} {p pos tpos : Pos} {elts : List Expr} {kk : Nat} (hg : Gl X "enumerate") (hm : X.mg "enumerate" = none) (ha : PA X [e] ta) (hs : starEach [e] X.env = [(false, eval e X.env)] := by rfl) :
    PI X (.Tuple elts kk tpos) (.Call (.Name "enumerate" p) [e] [] pos) (iEnumA X.K ta) := by
  refine ⟨fun pins s σ H R I h => ?_⟩
  refine Call_ (ld_blt I hg hm boot_enumerate (PyProof.Rows.callWith_type1 (thn (ha.run pos pins s σ H _ I h) fun us s1 ⟨vs, H1, I1, r1, a, xs, ex, q1⟩ => ?_) hs rfl))
  subst ex
  obtain ⟨ua, rfl, ra⟩ : ∃ ua, us = [ua] ∧ RelV (.ref a) ua := by
    cases r1 with
    | cons r rr =>
      cases rr
      exact ⟨_, rfl, r⟩
  obtain rfl : ua = Value.ref a := ra
  have fp : ∀ b ∈ [s1.heap.objs.size + 1, s1.heap.objs.size], FpOk X pins H1 b := fun b hb => by
    have hle : s1.heap.objs.size ≤ b := by
      rcases List.mem_cons.mp hb with z | z
      · rw [z]
        exact Nat.le_add_right _ _
      · rw [List.mem_singleton.mp z]
        exact Nat.le_refl _
    exact I1.fpOk hle (I1.hok.fresh hle)
  rcases q1 with ⟨hq, q⟩ | ⟨hq, q⟩
  · obtain ⟨its, rv, p', hz⟩ := I1.list hq
    exact call_enumerate_list p'.isList fun h' he hit hsz hk => wpAny_pyIter_enum he ⟨s1.heap.objs.size + 1, [s1.heap.objs.size + 1, s1.heap.objs.size], _, _, H1, rfl, I1.kept (t' := s1.toks) hk, turn_enum a (s1.heap.objs.size + 1) s1.heap.objs.size, ⟨⟨.none, he⟩, hit, Nat.succ_ne_self _⟩, fp, q⟩
  · obtain ⟨its, rv, p', hz⟩ := I1.tuple hq
    have la : a < s1.heap.objs.size := p'.lt
    exact call_enum_tup (show s1.heap.IsTuple a its.toArray from p') fun h' he hit hk => wpAny_pyIter_enum he ⟨s1.heap.objs.size + 1, [s1.heap.objs.size + 1, s1.heap.objs.size], _, _, H1, rfl, I1.kept (t' := s1.toks) hk, turn_enumT a (s1.heap.objs.size + 1) s1.heap.objs.size (Nat.ne_of_lt la) (Nat.ne_of_lt (Nat.lt_succ_of_lt la)), ⟨⟨.none, he⟩, hit, Nat.succ_ne_self _⟩, fp, q⟩
end K21
/-! The common layer: callees by name, constants by name, heaps kept but for one list, data (rows, logs) at values. -/
namespace K21
open PySem PySem.Spec PyProof.Rows L2

/-! ### a def by its name -/
structure Ok (P : Program) (w : World) (K : PySem.W.Frag) (mg : Str → Option Value) (base : Heap) (k : Nat) (x : Str) (ps : List Str) (sp : Sp) : Prop where
  ex : ∃ (f : Addr) (fd : FuncData), FnOk P w K mg base CX0 k f fd ps sp ∧ Binds K fd ps [] ∧ PySem.W.keepIn K (.ref f) = true ∧ mg x = some (.ref f)
/-- f(e, ..) -/
theorem pe_f {X : Cx} {k j : Nat} {x : Str} {ps : List Str} {sp : Sp} {p pos : Pos} {e : Expr} {es : List Expr} {t : TA} (h : Ok X.prog X.w X.K X.mg X.base k x ps sp) (hr : Room j X.A) (ha : PA X (e :: es) t) (hkj : k ≤ j := by decide) (hg : Gl X x := by rfl)
    (hdb : (x == ("__debug__" : Str)) = false := by decide) (he : starEach (e :: es) X.env = (false, eval e X.env) :: starEach es X.env := by rfl) (hpl : (backTo pos (starEach es X.env)).any (·.1) = false := by rfl) :
    PE X (.Call (.Name x p) (e :: es) [] pos) (tCall sp [] E0 t) := by
  obtain ⟨f, fd, F, b, kp, g⟩ := h.ex
  exact pe_call F (hr.mono hkj) hg g kp b .nil pass0 ha hdb he hpl
/-- a def that stands behind the top, by its datum -/
structure Fd (K : PySem.W.Frag) (mg : Str → Option Value) (d : He.DefD) : Prop where
  fn : ∃ fd, FunD K d.name d.qual d.params d.body d.scope (d.dvs K) (d.kws K) (He.fAd K d.at_) fd
  g : mg d.at_.1 = some (.ref (He.ga K d.at_.1))
section
variable {P : Program} {w : World} {K : PySem.W.Frag} {mg : Str → Option Value} {base : Heap}
theorem body_ok {x qual : Str} {params : Arguments} {body : List Stmt} {scope : Scope} {dvs : List V} {kws : List (Str × V)} {f : Addr} {fd : FuncData} {N ps : List Str} {k : Nat} {sp : Sp} (F : FunD K x qual params body scope dvs kws f fd) (S : FnScope N ps scope)
    (len : ∀ vs H Q E, sp vs H Q E → vs.length = ps.length)
    (hb : ∀ (cdv : Value) (A : Around) (outer : List Env) (s : Shared) (H : Hp) (vs : List V) (Q : VK) (E : XK), Room k (A.deeper (envOfC qual scope s.heap.objs.size f cdv)) → sp vs H Q E →
      ∃ t, PSs (cxOf CX0 P w K mg base N qual scope f cdv A outer s H E).nox body t ∧ t { nx := fun _ H' => Q .non H', rt := Q } (start N vs) H) : FnOk P w K mg base CX0 (k + 1) f fd ps sp :=
  F.ok S len fun cdv A outer s H vs Q E hr h => by
    obtain ⟨t, h1, h2⟩ := hb cdv A outer s H vs Q E hr h
    exact ⟨t, h1.nox, h2⟩
/-- a def of the module without defaults -/
theorem ok_mk {d : He.DefD} {N ps : List Str} {k : Nat} {sp : Sp} (D : Fd K mg d) (S : FnScope N ps d.scope)
    (hbind : ∀ (kV doc pm : Value) (an : Option Addr) (cdv ct : Value) (us : List Value), us.length = ps.length → bindArgs (PySem.W.fnOf d.name d.qual d.params d.body d.scope .none kV doc pm an cdv ct) ⟨us, []⟩ = pure (ps.zip us))
    (len : ∀ vs H Q E, sp vs H Q E → vs.length = ps.length)
    (hb : ∀ (f : Addr) (cdv : Value) (A : Around) (outer : List Env) (s : Shared) (H : Hp) (vs : List V) (Q : VK) (E : XK), Room k (A.deeper (envOfC d.qual d.scope s.heap.objs.size f cdv)) → sp vs H Q E →
      ∃ t, PSs (cxOf CX0 P w K mg base N d.qual d.scope f cdv A outer s H E).nox d.body t ∧ t { nx := fun _ H' => Q .non H', rt := Q } (start N vs) H)
    (hd : d.dfl = [] := by rfl) (hm : d.at_.2 = none := by rfl) : Ok P w K mg base (k + 1) d.at_.1 ps sp := by
  obtain ⟨fd, F⟩ := D.fn
  have e1 : d.dvs K = [] := by
    unfold He.DefD.dvs
    rw [hd]
    rfl
  have e2 : He.fAd K d.at_ = He.ga K d.at_.1 := by
    unfold He.fAd
    rw [hm]
  rw [e1, e2] at F
  exact ⟨_, fd, body_ok F S len (hb _), F.bindsN hbind, F.kp, D.g⟩
end

/-! ### the module's constants -/
def GI (mg : Str → Option Value) (x : Str) (i : Int) : Prop := ∃ t, mg x = some (.int i t)
def GS (mg : Str → Option Value) (x z : Str) : Prop := ∃ t, mg x = some (.str z t)
def GT (K : PySem.W.Frag) (mg : Str → Option Value) (x : Str) (a : Addr) (vs : List V) : Prop := mg x = some (.ref a) ∧ ∀ H, SqT K H a vs
theorem pe_gi {X : Cx} {x : Str} {i : Int} {p : Pos} (h : GI X.mg x i) (hg : Gl X x := by rfl) (hd : (x == ("__debug__" : Str)) = false := by decide) : PE X (.Name x p) (tC (.int i)) := by
  obtain ⟨t, e⟩ := h
  exact pe_glob hg e ⟨t, rfl⟩ hd
theorem pe_gs {X : Cx} {x z : Str} {p : Pos} (h : GS X.mg x z) (hg : Gl X x := by rfl) (hd : (x == ("__debug__" : Str)) = false := by decide) : PE X (.Name x p) (tC (.str z)) := by
  obtain ⟨t, e⟩ := h
  exact pe_glob hg e ⟨t, rfl⟩ hd
theorem pe_gt {X : Cx} {x : Str} {a : Addr} {vs : List V} {p : Pos} (h : GT X.K X.mg x a vs) (hg : Gl X x := by rfl) (hd : (x == ("__debug__" : Str)) = false := by decide) : PE X (.Name x p) (tC (.ref a)) := pe_glob hg h.1 rfl hd

/-! ### heaps: all that was tracked stays, but for what stands at x -/
def Ke (x : Addr) (H H' : Hp) : Prop := ∀ b o, H b = some o → b ≠ x → H' b = some o
theorem Ke.refl (x : Addr) (H : Hp) : Ke x H H := fun _ _ h _ => h
theorem Ke.trans {x : Addr} {H H1 H2 : Hp} (a : Ke x H H1) (b : Ke x H1 H2) : Ke x H H2 := fun c o h n => b c o (a c o h n) n
theorem Ke.of {x : Addr} {H H' : Hp} (e : Same H H') : Ke x H H' := fun b o h _ => e b o h
theorem Ke.upd {x : Addr} {H H' : Hp} {o : HO} (e : Ke x H H') : Ke x H (upd H' x o) := fun b u h n => by
  rw [upd_ne n]
  exact e b u h n
theorem Ke.set (x : Addr) (H : Hp) (o : HO) : Ke x H (L2.upd H x o) := (Ke.refl x H).upd
theorem Ke.free {x : Addr} {H H' : Hp} (e : Ke x H H') {l : Addr} (h : H' l = none) (n : l ≠ x) : H l = none := by
  cases q : H l with
  | none => rfl
  | some o =>
    rw [e l o q n] at h
    cases h
/-- changed at a place that was free ahead: all that was tracked stays -/
theorem Ke.same {x : Addr} {H H' : Hp} (e : Ke x H H') (hx : H x = none) : Same H H' := fun b o h => e b o h (ne_of_none h hx)
theorem _root_.L2.Same.new {H : Hp} {p : Addr} {o : HO} (h : H p = none) : Same H (upd H p o) := fun b u e => by
  rw [upd_ne (ne_of_none e h)]
  exact e
theorem _root_.L2.Same.mut {H H' : Hp} {p : Addr} {o : HO} (e : Same H H') (h : H p = none) : Same H (upd H' p o) := fun b u q => by
  rw [upd_ne (ne_of_none q h)]
  exact e b u q
theorem _root_.L2.Same.add {H H' : Hp} {p : Addr} {o : HO} (e : Same H H') (h : H' p = none) : Same H (upd H' p o) := e.trans (Same.new h)
theorem _root_.L2.Same.seqT {K : PySem.W.Frag} {H H' : Hp} {a : Addr} {xs : List V} (e : Same H H') (h : SqT K H a xs) : SqT K H' a xs := by
  rcases h with (h | ⟨o, h⟩) | h
  · exact .inl (.inl (e _ _ h))
  · exact .inl (.inr ⟨o, e _ _ h⟩)
  · exact .inr h
theorem Ke.seq {K : PySem.W.Frag} {x : Addr} {H H' : Hp} {a : Addr} {xs : List V} (e : Ke x H H') (n : a ≠ x) (h : SqL K H a xs) : SqL K H' a xs := by
  rcases h with (h | ⟨o, h⟩) | h
  · exact .inl (.inl (e _ _ h n))
  · exact .inl (.inr ⟨o, e _ _ h n⟩)
  · exact .inr h
/-- tuples stay where a list changes -/
theorem Ke.seqT {K : PySem.W.Frag} {x : Addr} {H H' : Hp} {a : Addr} {xs l : List V} (e : Ke x H H') (hx : H x = some (.lst l)) (h : SqT K H a xs) : SqT K H' a xs := by
  rcases h with (h | ⟨o, h⟩) | h
  · exact .inl (.inl (e _ _ h (ne_of h hx (by intro z; cases z))))
  · exact .inl (.inr ⟨o, e _ _ h (ne_of h hx (by intro z; cases z))⟩)
  · exact .inr h
/-- the same, where what changes is new -/
theorem Ke.seqT0 {K : PySem.W.Frag} {x : Addr} {H H' : Hp} {a : Addr} {xs : List V} (e : Ke x H H') (hx : H x = none) (h : SqT K H a xs) : SqT K H' a xs := (e.same hx).seqT h

/-! ### data at values -/
section
variable {K : PySem.W.Frag} {H H' : Hp}
mutual
theorem dpKeep (hL : ∀ a xs, SqL K H a xs → SqL K H' a xs) (hT : ∀ a xs, SqT K H a xs → SqT K H' a xs) : ∀ {v : V} {d : PyData}, Dp K H v d → Dp K H' v d
  | _, _, .non => .non
  | _, _, .bl b => .bl b
  | _, _, .int i => .int i
  | _, _, .str x => .str x
  | _, _, .lst h t => .lst (hL _ _ h) (dpAllKeep hL hT t)
  | _, _, .tup h t => .tup (hT _ _ h) (dpAllKeep hL hT t)
theorem dpAllKeep (hL : ∀ a xs, SqL K H a xs → SqL K H' a xs) (hT : ∀ a xs, SqT K H a xs → SqT K H' a xs) : ∀ {vs : List V} {ds : List PyData}, DpAll K H vs ds → DpAll K H' vs ds
  | _, _, .nil => .nil
  | _, _, .cons h t => .cons (dpKeep hL hT h) (dpAllKeep hL hT t)
end
theorem _root_.L2.Dp.same (e : Same H H') {v : V} {d : PyData} (h : Dp K H v d) : Dp K H' v d := dpKeep (fun _ _ => e.seq) (fun _ _ => e.seqT) h
theorem _root_.L2.DpAll.same (e : Same H H') {vs : List V} {ds : List PyData} (h : DpAll K H vs ds) : DpAll K H' vs ds := dpAllKeep (fun _ _ => e.seq) (fun _ _ => e.seqT) h
/-- no list within -/
def noL : PyData → Bool
  | .none => true
  | .bool _ => true
  | .int _ => true
  | .str _ => true
  | .tuple ds => noLs ds
  | _ => false
where noLs : List PyData → Bool
  | [] => true
  | d :: ds => noL d && noLs ds
mutual
theorem dpKeepT (hT : ∀ a xs, SqT K H a xs → SqT K H' a xs) : ∀ {v : V} {d : PyData}, noL d = true → Dp K H v d → Dp K H' v d
  | _, _, _, .non => .non
  | _, _, _, .bl b => .bl b
  | _, _, _, .int i => .int i
  | _, _, _, .str x => .str x
  | _, _, n, .lst h t => by
    unfold noL at n
    cases n
  | _, _, n, .tup h t => by
    unfold noL at n
    exact .tup (hT _ _ h) (dpAllKeepT hT n t)
theorem dpAllKeepT (hT : ∀ a xs, SqT K H a xs → SqT K H' a xs) : ∀ {vs : List V} {ds : List PyData}, noL.noLs ds = true → DpAll K H vs ds → DpAll K H' vs ds
  | _, _, _, .nil => .nil
  | _, _, n, .cons h t => by
    unfold noL.noLs at n
    obtain ⟨n1, n2⟩ := Bool.and_eq_true_iff.mp n
    exact .cons (dpKeepT hT n1 h) (dpAllKeepT hT n2 t)
end
theorem noLs_of : ∀ {ds : List PyData}, (∀ d ∈ ds, noL d = true) → noL.noLs ds = true
  | [], _ => rfl
  | d :: ds, h => by
    unfold noL.noLs
    rw [h d (List.mem_cons_self ..), noLs_of fun e he => h e (List.mem_cons_of_mem _ he)]
    rfl
theorem _root_.L2.Dp.tup_inv {v : V} {ds : List PyData} (h : Dp K H v (.tuple ds)) : ∃ a xs, v = .ref a ∧ SqT K H a xs ∧ DpAll K H xs ds := by
  cases h with
  | tup h t => exact ⟨_, _, rfl, h, t⟩
theorem _root_.L2.Dp.lst_inv {v : V} {ds : List PyData} (h : Dp K H v (.list ds)) : ∃ a xs, v = .ref a ∧ SqL K H a xs ∧ DpAll K H xs ds := by
  cases h with
  | lst h t => exact ⟨_, _, rfl, h, t⟩
theorem _root_.L2.Dp.int_inv {v : V} {i : Int} (h : Dp K H v (.int i)) : v = .int i := by
  cases h
  rfl
theorem _root_.L2.Dp.str_inv {v : V} {x : Str} (h : Dp K H v (.str x)) : v = .str x := by
  cases h
  rfl
theorem _root_.L2.Dp.bl_inv {v : V} {b : Bool} (h : Dp K H v (.bool b)) : v = .bl b := by
  cases h
  rfl
theorem _root_.L2.Dp.non_inv {v : V} (h : Dp K H v .none) : v = .non := by
  cases h
  rfl
theorem _root_.L2.DpAll.nil_inv {vs : List V} (h : DpAll K H vs []) : vs = [] := by
  cases h
  rfl
theorem _root_.L2.DpAll.cons_inv {vs : List V} {d : PyData} {ds : List PyData} (h : DpAll K H vs (d :: ds)) : ∃ v r, vs = v :: r ∧ Dp K H v d ∧ DpAll K H r ds := by
  cases h with
  | cons h t => exact ⟨_, _, rfl, h, t⟩
theorem _root_.L2.DpAll.length : ∀ {vs : List V} {ds : List PyData}, DpAll K H vs ds → vs.length = ds.length
  | _, _, .nil => rfl
  | _, _, .cons _ t => congrArg Nat.succ t.length
theorem _root_.L2.DpAll.get : ∀ {vs : List V} {ds : List PyData}, DpAll K H vs ds → ∀ (i : Nat) (v : V), vs[i]? = some v → ∃ d, ds[i]? = some d ∧ Dp K H v d
  | _, _, .nil, i, v, e => by simp at e
  | _, _, .cons h t, 0, v, e => by
    cases Option.some.inj e
    exact ⟨_, rfl, h⟩
  | _, _, .cons h t, i + 1, v, e => t.get i v e
theorem _root_.L2.DpAll.get' : ∀ {vs : List V} {ds : List PyData}, DpAll K H vs ds → ∀ (i : Nat) (d : PyData), ds[i]? = some d → ∃ v, vs[i]? = some v ∧ Dp K H v d
  | _, _, .nil, i, v, e => by simp at e
  | _, _, .cons h t, 0, v, e => by
    cases Option.some.inj e
    exact ⟨_, rfl, h⟩
  | _, _, .cons h t, i + 1, v, e => t.get' i v e
theorem _root_.L2.DpAll.append : ∀ {vs vs' : List V} {ds ds' : List PyData}, DpAll K H vs ds → DpAll K H vs' ds' → DpAll K H (vs ++ vs') (ds ++ ds')
  | _, _, _, _, .nil, s => s
  | _, _, _, _, .cons h t, s => .cons h (t.append s)
theorem _root_.L2.DpAll.take : ∀ {vs : List V} {ds : List PyData} (n : Nat), DpAll K H vs ds → DpAll K H (vs.take n) (ds.take n)
  | _, _, 0, _ => .nil
  | _, _, _ + 1, .nil => .nil
  | _, _, n + 1, .cons h t => .cons h (t.take n)
theorem _root_.L2.DpAll.drop : ∀ {vs : List V} {ds : List PyData} (n : Nat), DpAll K H vs ds → DpAll K H (vs.drop n) (ds.drop n)
  | _, _, 0, r => r
  | _, _, _ + 1, .nil => .nil
  | _, _, n + 1, .cons _ t => t.drop n
theorem _root_.L2.DpAll.one {v : V} {d : PyData} (h : Dp K H v d) : DpAll K H [v] [d] := .cons h .nil
theorem _root_.L2.DpAll.rev : ∀ {vs : List V} {ds : List PyData}, DpAll K H vs ds → DpAll K H vs.reverse ds.reverse
  | _, _, .nil => .nil
  | _, _, .cons h t => by
    rw [List.reverse_cons, List.reverse_cons]
    exact t.rev.append (.one h)
theorem _root_.L2.DpAll.ints (is : List Int) : DpAll K H (is.map V.int) (is.map PyData.int) := by
  induction is with
  | nil => exact .nil
  | cons i r ih => exact .cons (.int i) ih
theorem dpInts : ∀ {vs : List V} {is : List Int}, DpAll K H vs (is.map PyData.int) → vs = is.map V.int
  | _, [], h => h.nil_inv
  | _, i :: r, h => by
    obtain ⟨v, t, rfl, h1, h2⟩ := DpAll.cons_inv (d := .int i) (ds := r.map PyData.int) h
    rw [h1.int_inv, dpInts h2]
    rfl
end

/-! ### data that may be compared -/
structure Sh (n : Nat) (d : PyData) : Prop where
  l : d.canLay0 = true
  d : d.depth ≤ n
theorem Sh.mono {n m : Nat} {d : PyData} (h : Sh n d) (e : n ≤ m := by decide) : Sh m d := ⟨h.l, Nat.le_trans h.d e⟩
theorem Sh.ok {n : Nat} {d : PyData} (h : Sh n d) (e : n ≤ 64 := by decide) : SeqAt.shaped d = true := by
  unfold SeqAt.shaped
  rw [h.l, decide_eq_true (Nat.le_trans h.d e)]
  rfl
theorem canLayAll_of : ∀ {ds : List PyData}, (∀ d ∈ ds, d.canLay0 = true) → PyData.canLayAll0 ds = true
  | [], _ => rfl
  | d :: ds, h => by
    unfold PyData.canLayAll0
    rw [h d (List.mem_cons_self ..), canLayAll_of fun e he => h e (List.mem_cons_of_mem _ he)]
    rfl
theorem depthAll_of {n : Nat} : ∀ {ds : List PyData}, (∀ d ∈ ds, d.depth ≤ n) → PyData.depthAll ds ≤ n
  | [], _ => Nat.zero_le _
  | d :: ds, h => by
    unfold PyData.depthAll
    exact Nat.max_le.mpr ⟨h d (List.mem_cons_self ..), depthAll_of fun e he => h e (List.mem_cons_of_mem _ he)⟩
theorem Sh.list {n : Nat} {ds : List PyData} (h : ∀ d ∈ ds, Sh n d) : Sh (n + 1) (.list ds) := by
  refine ⟨?_, ?_⟩
  · unfold PyData.canLay0
    exact canLayAll_of fun d hd => (h d hd).l
  · unfold PyData.depth
    exact Nat.succ_le_succ (depthAll_of fun d hd => (h d hd).d)
theorem Sh.tuple {n : Nat} {ds : List PyData} (h : ∀ d ∈ ds, Sh n d) : Sh (n + 1) (.tuple ds) := by
  refine ⟨?_, ?_⟩
  · unfold PyData.canLay0
    exact canLayAll_of fun d hd => (h d hd).l
  · unfold PyData.depth
    exact Nat.succ_le_succ (depthAll_of fun d hd => (h d hd).d)
theorem Sh.int (n : Nat) (i : Int) : Sh n (.int i) := ⟨by unfold PyData.canLay0; rfl, by unfold PyData.depth; exact Nat.zero_le _⟩
theorem Sh.bool (n : Nat) (i : Bool) : Sh n (.bool i) := ⟨by unfold PyData.canLay0; rfl, by unfold PyData.depth; exact Nat.zero_le _⟩
theorem Sh.none (n : Nat) : Sh n .none := ⟨by unfold PyData.canLay0; rfl, by unfold PyData.depth; exact Nat.zero_le _⟩
theorem Sh.str (n : Nat) {x : Str} (h : PyData.strOk x = true) : Sh n (.str x) := ⟨by unfold PyData.canLay0; exact h, by unfold PyData.depth; exact Nat.zero_le _⟩
theorem eqv_self {n : Nat} {d : PyData} (h : Sh n d) : PyData.eqv d d = true := SeqAt.eqv_refl d h.l
end K21
/-! The head: the defs as data, the facts, the run. Printed by genhead.py. -/
namespace K21
open PySem PySem.Spec PyProof.Rows L2
def top (i : Nat) : Stmt := PySem.Challenge.pw_startlog_k21_whole_one_row_leads_anywher.main.body.getD i (.Pass ⟨0, 0, 0, 0⟩)
abbrev s_is_name : Stmt := top 13
abbrev s_name_number : Stmt := top 14
abbrev s_name_of : Stmt := top 15
abbrev s_is_from : Stmt := top 25
abbrev s_is_noted : Stmt := top 26
abbrev s_is_row : Stmt := top 27
abbrev s_row_number : Stmt := top 28
abbrev s_row_with : Stmt := top 29
abbrev s_is_between : Stmt := top 35
abbrev s_divisor_of : Stmt := top 36
abbrev s_Mixing_init : Stmt := inClass (top 38) 0
abbrev s_Mixing_begin : Stmt := inClass (top 38) 1
abbrev s_Mixing_mixed : Stmt := inClass (top 38) 2
abbrev s_Mixing_alike : Stmt := inClass (top 38) 4
abbrev s_figures_of : Stmt := top 41
abbrev s_row_behind_reading : Stmt := top 42
abbrev s_read : Stmt := top 44
abbrev s_can_stand : Stmt := top 49
abbrev s_fault : Stmt := top 50
abbrev s_look_log : Stmt := top 52
abbrev s_row_behind_replays : Stmt := top 53
abbrev s_replays : Stmt := top 55
abbrev s_replay : Stmt := top 56
abbrev s_leads_to : Stmt := top 57
abbrev s_shown_rows : Stmt := top 58
abbrev s_is_turned : Stmt := top 60
abbrev s_is_moved : Stmt := top 61
abbrev s_is_step : Stmt := top 62
abbrev s_behind_step : Stmt := top 63
abbrev s_mended : Stmt := top 64
abbrev s_all_steps : Stmt := top 65
abbrev s_mends : Stmt := top 66
abbrev s_alike_ahead : Stmt := top 67
abbrev s_first_parted : Stmt := top 68
abbrev s__law_box : Stmt := top 70
abbrev s__law_take : Stmt := top 71
abbrev s__law_pick : Stmt := top 72
abbrev s__law_names : Stmt := top 73
abbrev s__law_same : Stmt := top 74
abbrev s__law_name_number : Stmt := top 75
abbrev s__law_row_number : Stmt := top 76
abbrev s__law_shares : Stmt := top 77
abbrev s__law_how : Stmt := top 78
abbrev s__law_mixed : Stmt := top 79
abbrev s__law_replay : Stmt := top 80
abbrev s__law_note : Stmt := top 81
abbrev s__law_row : Stmt := top 82
abbrev s__law_log : Stmt := top 83
abbrev s__law_sizes : Stmt := top 84
abbrev s__law_turned : Stmt := top 85
abbrev s__law_note_due : Stmt := top 86
abbrev s__law_shown_there : Stmt := top 87
abbrev s__law_parted_due : Stmt := top 88
abbrev s__law_words : Stmt := top 89
abbrev s__law_wide_right : Stmt := top 90
abbrev s__law_place_right : Stmt := top 91
abbrev s__law_all_right : Stmt := top 92
abbrev s_law : Stmt := top 93
def d_is_name : He.DefD := ⟨("is_name", none), "is_name", "is_name", defArgs s_is_name, defBody s_is_name, defScope s_is_name, [], []⟩
def d_name_number : He.DefD := ⟨("name_number", none), "name_number", "name_number", defArgs s_name_number, defBody s_name_number, defScope s_name_number, [], []⟩
def d_name_of : He.DefD := ⟨("name_of", none), "name_of", "name_of", defArgs s_name_of, defBody s_name_of, defScope s_name_of, [], []⟩
def d_is_from : He.DefD := ⟨("is_from", none), "is_from", "is_from", defArgs s_is_from, defBody s_is_from, defScope s_is_from, [], []⟩
def d_is_noted : He.DefD := ⟨("is_noted", none), "is_noted", "is_noted", defArgs s_is_noted, defBody s_is_noted, defScope s_is_noted, [], []⟩
def d_is_row : He.DefD := ⟨("is_row", none), "is_row", "is_row", defArgs s_is_row, defBody s_is_row, defScope s_is_row, [], []⟩
def d_row_number : He.DefD := ⟨("row_number", none), "row_number", "row_number", defArgs s_row_number, defBody s_row_number, defScope s_row_number, [], []⟩
def d_row_with : He.DefD := ⟨("row_with", none), "row_with", "row_with", defArgs s_row_with, defBody s_row_with, defScope s_row_with, [], []⟩
def d_is_between : He.DefD := ⟨("is_between", none), "is_between", "is_between", defArgs s_is_between, defBody s_is_between, defScope s_is_between, [], []⟩
def d_divisor_of : He.DefD := ⟨("divisor_of", none), "divisor_of", "divisor_of", defArgs s_divisor_of, defBody s_divisor_of, defScope s_divisor_of, [], []⟩
def d_Mixing_init : He.DefD := ⟨("Mixing", some "__init__"), "__init__", "Mixing.__init__", defArgs s_Mixing_init, defBody s_Mixing_init, defScope s_Mixing_init, [.non], [("factor", .int 7919)]⟩
def d_Mixing_begin : He.DefD := ⟨("Mixing", some "begin"), "begin", "Mixing.begin", defArgs s_Mixing_begin, defBody s_Mixing_begin, defScope s_Mixing_begin, [], [("reset", .bl false)]⟩
def d_Mixing_mixed : He.DefD := ⟨("Mixing", some "mixed"), "mixed", "Mixing.mixed", defArgs s_Mixing_mixed, defBody s_Mixing_mixed, defScope s_Mixing_mixed, [], []⟩
def d_Mixing_alike : He.DefD := ⟨("Mixing", some "alike"), "alike", "Mixing.alike", defArgs s_Mixing_alike, defBody s_Mixing_alike, defScope s_Mixing_alike, [], []⟩
def d_figures_of : He.DefD := ⟨("figures_of", none), "figures_of", "figures_of", defArgs s_figures_of, defBody s_figures_of, defScope s_figures_of, [], []⟩
def d_row_behind_reading : He.DefD := ⟨("row_behind_reading", none), "row_behind", "row_behind", defArgs s_row_behind_reading, defBody s_row_behind_reading, defScope s_row_behind_reading, [], []⟩
def d_read : He.DefD := ⟨("read", none), "read", "read", defArgs s_read, defBody s_read, defScope s_read, [], []⟩
def d_can_stand : He.DefD := ⟨("can_stand", none), "can_stand", "can_stand", defArgs s_can_stand, defBody s_can_stand, defScope s_can_stand, [], []⟩
def d_fault : He.DefD := ⟨("fault", none), "fault", "fault", defArgs s_fault, defBody s_fault, defScope s_fault, [], [("many", .int 4), ("fixed", .int 2)]⟩
def d_look_log : He.DefD := ⟨("look_log", none), "look_log", "look_log", defArgs s_look_log, defBody s_look_log, defScope s_look_log, [], []⟩
def d_row_behind_replays : He.DefD := ⟨("row_behind_replays", none), "row_behind", "row_behind", defArgs s_row_behind_replays, defBody s_row_behind_replays, defScope s_row_behind_replays, [], []⟩
def d_replays : He.DefD := ⟨("replays", none), "replays", "replays", defArgs s_replays, defBody s_replays, defScope s_replays, [], [("many", .int 4), ("fixed", .int 2)]⟩
def d_replay : He.DefD := ⟨("replay", none), "replay", "replay", defArgs s_replay, defBody s_replay, defScope s_replay, [], [("many", .int 4), ("fixed", .int 2)]⟩
def d_leads_to : He.DefD := ⟨("leads_to", none), "leads_to", "leads_to", defArgs s_leads_to, defBody s_leads_to, defScope s_leads_to, [], [("many", .int 4), ("fixed", .int 2)]⟩
def d_shown_rows : He.DefD := ⟨("shown_rows", none), "shown_rows", "shown_rows", defArgs s_shown_rows, defBody s_shown_rows, defScope s_shown_rows, [], [("many", .int 4), ("fixed", .int 2)]⟩
def d_is_turned : He.DefD := ⟨("is_turned", none), "is_turned", "is_turned", defArgs s_is_turned, defBody s_is_turned, defScope s_is_turned, [], []⟩
def d_is_moved : He.DefD := ⟨("is_moved", none), "is_moved", "is_moved", defArgs s_is_moved, defBody s_is_moved, defScope s_is_moved, [], []⟩
def d_is_step : He.DefD := ⟨("is_step", none), "is_step", "is_step", defArgs s_is_step, defBody s_is_step, defScope s_is_step, [], []⟩
def d_behind_step : He.DefD := ⟨("behind_step", none), "behind_step", "behind_step", defArgs s_behind_step, defBody s_behind_step, defScope s_behind_step, [], []⟩
def d_mended : He.DefD := ⟨("mended", none), "mended", "mended", defArgs s_mended, defBody s_mended, defScope s_mended, [], []⟩
def d_all_steps : He.DefD := ⟨("all_steps", none), "all_steps", "all_steps", defArgs s_all_steps, defBody s_all_steps, defScope s_all_steps, [], []⟩
def d_mends : He.DefD := ⟨("mends", none), "mends", "mends", defArgs s_mends, defBody s_mends, defScope s_mends, [], [("many", .int 4), ("fixed", .int 2)]⟩
def d_alike_ahead : He.DefD := ⟨("alike_ahead", none), "alike_ahead", "alike_ahead", defArgs s_alike_ahead, defBody s_alike_ahead, defScope s_alike_ahead, [], []⟩
def d_first_parted : He.DefD := ⟨("first_parted", none), "first_parted", "first_parted", defArgs s_first_parted, defBody s_first_parted, defScope s_first_parted, [], [("many", .int 4), ("fixed", .int 2)]⟩
def d__law_box : He.DefD := ⟨("_law_box", none), "_law_box", "_law_box", defArgs s__law_box, defBody s__law_box, defScope s__law_box, [], []⟩
def d__law_take : He.DefD := ⟨("_law_take", none), "_law_take", "_law_take", defArgs s__law_take, defBody s__law_take, defScope s__law_take, [], []⟩
def d__law_pick : He.DefD := ⟨("_law_pick", none), "_law_pick", "_law_pick", defArgs s__law_pick, defBody s__law_pick, defScope s__law_pick, [], []⟩
def d__law_names : He.DefD := ⟨("_law_names", none), "_law_names", "_law_names", defArgs s__law_names, defBody s__law_names, defScope s__law_names, [], []⟩
def d__law_same : He.DefD := ⟨("_law_same", none), "_law_same", "_law_same", defArgs s__law_same, defBody s__law_same, defScope s__law_same, [], []⟩
def d__law_name_number : He.DefD := ⟨("_law_name_number", none), "_law_name_number", "_law_name_number", defArgs s__law_name_number, defBody s__law_name_number, defScope s__law_name_number, [], []⟩
def d__law_row_number : He.DefD := ⟨("_law_row_number", none), "_law_row_number", "_law_row_number", defArgs s__law_row_number, defBody s__law_row_number, defScope s__law_row_number, [], []⟩
def d__law_shares : He.DefD := ⟨("_law_shares", none), "_law_shares", "_law_shares", defArgs s__law_shares, defBody s__law_shares, defScope s__law_shares, [], []⟩
def d__law_how : He.DefD := ⟨("_law_how", none), "_law_how", "_law_how", defArgs s__law_how, defBody s__law_how, defScope s__law_how, [], []⟩
def d__law_mixed : He.DefD := ⟨("_law_mixed", none), "_law_mixed", "_law_mixed", defArgs s__law_mixed, defBody s__law_mixed, defScope s__law_mixed, [], []⟩
def d__law_replay : He.DefD := ⟨("_law_replay", none), "_law_replay", "_law_replay", defArgs s__law_replay, defBody s__law_replay, defScope s__law_replay, [], []⟩
def d__law_note : He.DefD := ⟨("_law_note", none), "_law_note", "_law_note", defArgs s__law_note, defBody s__law_note, defScope s__law_note, [], []⟩
def d__law_row : He.DefD := ⟨("_law_row", none), "_law_row", "_law_row", defArgs s__law_row, defBody s__law_row, defScope s__law_row, [], []⟩
def d__law_log : He.DefD := ⟨("_law_log", none), "_law_log", "_law_log", defArgs s__law_log, defBody s__law_log, defScope s__law_log, [], []⟩
def d__law_sizes : He.DefD := ⟨("_law_sizes", none), "_law_sizes", "_law_sizes", defArgs s__law_sizes, defBody s__law_sizes, defScope s__law_sizes, [], []⟩
def d__law_turned : He.DefD := ⟨("_law_turned", none), "_law_turned", "_law_turned", defArgs s__law_turned, defBody s__law_turned, defScope s__law_turned, [], []⟩
def d__law_note_due : He.DefD := ⟨("_law_note_due", none), "_law_note_due", "_law_note_due", defArgs s__law_note_due, defBody s__law_note_due, defScope s__law_note_due, [], []⟩
def d__law_shown_there : He.DefD := ⟨("_law_shown_there", none), "_law_shown_there", "_law_shown_there", defArgs s__law_shown_there, defBody s__law_shown_there, defScope s__law_shown_there, [], []⟩
def d__law_parted_due : He.DefD := ⟨("_law_parted_due", none), "_law_parted_due", "_law_parted_due", defArgs s__law_parted_due, defBody s__law_parted_due, defScope s__law_parted_due, [], []⟩
def d__law_words : He.DefD := ⟨("_law_words", none), "_law_words", "_law_words", defArgs s__law_words, defBody s__law_words, defScope s__law_words, [], []⟩
def d__law_wide_right : He.DefD := ⟨("_law_wide_right", none), "_law_wide_right", "_law_wide_right", defArgs s__law_wide_right, defBody s__law_wide_right, defScope s__law_wide_right, [], []⟩
def d__law_place_right : He.DefD := ⟨("_law_place_right", none), "_law_place_right", "_law_place_right", defArgs s__law_place_right, defBody s__law_place_right, defScope s__law_place_right, [], []⟩
def d__law_all_right : He.DefD := ⟨("_law_all_right", none), "_law_all_right", "_law_all_right", defArgs s__law_all_right, defBody s__law_all_right, defScope s__law_all_right, [], []⟩
def d_law : He.DefD := ⟨("law", none), "law", "law", defArgs s_law, defBody s_law, defScope s_law, [], []⟩
def fnL : List He.DefD := [d_is_name, d_name_number, d_name_of, d_is_from, d_is_noted, d_is_row, d_row_number, d_row_with, d_is_between, d_divisor_of, d_Mixing_init, d_Mixing_begin, d_Mixing_mixed, d_Mixing_alike, d_figures_of, d_row_behind_reading, d_read, d_can_stand, d_fault, d_look_log, d_row_behind_replays, d_replays, d_replay, d_leads_to, d_shown_rows, d_is_turned, d_is_moved, d_is_step, d_behind_step, d_mended, d_all_steps, d_mends, d_alike_ahead, d_first_parted, d__law_box, d__law_take, d__law_pick, d__law_names, d__law_same, d__law_name_number, d__law_row_number, d__law_shares, d__law_how, d__law_mixed, d__law_replay, d__law_note, d__law_row, d__law_log, d__law_sizes, d__law_turned, d__law_note_due, d__law_shown_there, d__law_parted_due, d__law_words, d__law_wide_right, d__law_place_right, d__law_all_right, d_law]
def faL0 : List He.Fa := [.glo "is_name", .glo "name_number", .glo "name_of", .glo "is_from", .glo "is_noted", .glo "is_row", .glo "row_number", .glo "row_with", .glo "is_between", .glo "divisor_of", .glo "figures_of", .glo "row_behind_reading", .glo "read", .glo "can_stand", .glo "fault", .glo "look_log", .glo "row_behind_replays", .glo "replays", .glo "replay", .glo "leads_to", .glo "shown_rows", .glo "is_turned", .glo "is_moved", .glo "is_step", .glo "behind_step", .glo "mended", .glo "all_steps", .glo "mends", .glo "alike_ahead", .glo "first_parted"]
def faL1 : List He.Fa := [.glo "_law_box", .glo "_law_take", .glo "_law_pick", .glo "_law_names", .glo "_law_same", .glo "_law_name_number", .glo "_law_row_number", .glo "_law_shares", .glo "_law_how", .glo "_law_mixed", .glo "_law_replay", .glo "_law_note", .glo "_law_row", .glo "_law_log", .glo "_law_sizes", .glo "_law_turned", .glo "_law_note_due", .glo "_law_shown_there", .glo "_law_parted_due", .glo "_law_words", .glo "_law_wide_right", .glo "_law_place_right", .glo "_law_all_right", .glo "law", .glo "Mixing", .int "LONGEST" 4, .int "BASE" 27, .int "NOTES" 9973, .int "SPAN" 26500305465, .int "FACTOR" 7919]
def faL2 : List He.Fa := [.int "BOARDS" 4, .int "FIXED" 2, .int "MOST_BOARDS" 8, .int "LEAST_WIDTH" 3, .int "MOST" 1000000, .int "PLAIN_BEGIN" 1, .int "RESET_BEGIN" 2, .str "LETTERS" "abcdefghijklmnopqrstuvwxyz", .str "RESET_reading" "reset", .str "END" "end", .str "RESET_logs" "reset", .glo "WORDS", .glo "BARE_WORDS", .glo "BEHIND_END", .free "len", .free "range", .free "isinstance", .free "all", .free "zip", .free "enumerate", .free "divmod", .free "max", .free "min", .free "int", .free "bool", .free "str", .free "abs", .free "list", .free "tuple", .cls "Mixing"]
def faL3 : List He.Fa := [.noat "Mixing" "width", .noat "Mixing" "factor", .mkr "Mixing", .meth "Mixing" "begin", .meth "Mixing" "mixed", .meth "Mixing" "alike"]
def faL : List He.Fa := faL0 ++ faL1 ++ faL2 ++ faL3
def tupN (K : PySem.W.Frag) (x : Str) : Bool := match K.lookup (He.ga K x) with
  | some ⟨.type c, none, _, _⟩ => decide (c = "tuple")
  | _ => false
def exB (K : PySem.W.Frag) : Bool := He.tupB K "WORDS" [.str "load", .str "set", .str "end", .str "late", .str "reset"] && He.tupB K "BARE_WORDS" [.str "end", .str "reset"] && He.tupB K "BEHIND_END" [.str "late", .str "reset"] && tupN K "WORDS"
def loose0 : List PySem.Str := ["_wall", "StartError", "NoName", "NoRow", "BadMixing", "NoBoard", "BadLog", "BadStep", "LETTERS", "LONGEST", "BASE", "is_name", "name_number", "name_of", "WORDS", "NOTES", "SPAN", "FACTOR", "BOARDS", "FIXED", "MOST_BOARDS", "BARE_WORDS", "is_from", "is_noted", "is_row", "row_number", "row_with", "LEAST_WIDTH", "MOST", "PLAIN_BEGIN"]
def loose1 : List PySem.Str := ["RESET_BEGIN", "is_between", "divisor_of", "parts_text", "Mixing", "RESET_reading", "figures_of", "row_behind", "row_behind_reading", "read", "BEHIND_END", "END", "RESET_logs", "can_stand", "fault", "look_log", "row_behind_replays", "replays", "replay", "leads_to", "shown_rows", "is_turned", "is_moved", "is_step", "behind_step", "mended", "all_steps", "mends", "alike_ahead", "first_parted"]
def loose2 : List PySem.Str := ["_law_box", "_law_take", "_law_pick", "_law_names", "_law_same", "_law_name_number", "_law_row_number", "_law_shares", "_law_how", "_law_mixed", "_law_replay", "_law_note", "_law_row", "_law_log", "_law_sizes", "_law_turned", "_law_note_due", "_law_shown_there", "_law_parted_due", "_law_words", "_law_wide_right", "_law_place_right", "_law_all_right"]
def looseL : List PySem.Str := loose0 ++ loose1 ++ loose2
abbrev R : PySem.W.OpenRow := PySem.W.OpenLaw.row PySem.Challenge.rw_startlog_k21_whole_one_row_leads_anywher
abbrev hk : PySem.W.Hook := He.hookX 6 faL fnL [] [] exB
def ob (s : PySem.W.SharedT) : He.AlX := He.obsX 6 faL fnL [] [] exB (HandSHeadRun.getT s)
theorem ob_eq (s : PySem.W.SharedT) : ob s = hk.obs s.abs := He.obsX_eq (HandSHeadRun.getT_eq s)
end K21
namespace K21
open PySem PySem.Spec PyProof.Rows L2
theorem run (w : World) : HandSHeadRun.RunEq R (PySem.W.view R.prog [93]) hk ob 20000 looseL w := by
  intro os
  kernel_rfl
end K21
/-! Rows and logs at values; what the top has written. -/
namespace K21
open PySem PySem.Spec PyProof.Rows L2

/-! ### rows as data -/
def wordS : Nat → Str
  | 0 => "load"
  | 1 => "set"
  | 2 => "end"
  | 3 => "late"
  | _ => "reset"
def nameS (l : List Nat) : Str := ⟨(l.map (· + 97)).toArray⟩
theorem nameS_len (l : List Nat) : (nameS l).length = l.length := by
  show (l.map (· + 97)).toArray.size = l.length
  simp
def rowD (r : Row) : PyData := .tuple [.int (r.b : Int), .str (wordS r.w), .str (nameS r.n), .int r.k]
/-- what of a row its board shows -/
def tripD (r : Row) : PyData := .tuple [.str (wordS r.w), .str (nameS r.n), .int r.k]
def rowV (r : Row) : List V := [.int (r.b : Int), .str (wordS r.w), .str (nameS r.n), .int r.k]
theorem wordS_ok (w : Nat) : PyData.strOk (wordS w) = true := by
  match w with
  | 0 => decide +kernel
  | 1 => decide +kernel
  | 2 => decide +kernel
  | 3 => decide +kernel
  | n + 4 =>
    show PyData.strOk "reset" = true
    decide +kernel
theorem nameS_ok {l : List Nat} (h : okName l) : PyData.strOk (nameS l) = true := by
  unfold PyData.strOk nameS
  simp only [List.all_toArray, List.all_map, List.all_eq_true]
  intro c hc
  have := h.2.2 c hc
  simp only [Function.comp, decide_eq_true_eq]
  omega
theorem wordS_inj {a b : Nat} (ha : a < 5) (hb : b < 5) (e : wordS a = wordS b) : a = b := by
  have key : ∀ a : Fin 5, ∀ b : Fin 5, wordS a.1 = wordS b.1 → a = b := by decide +kernel
  exact congrArg Fin.val (key ⟨a, ha⟩ ⟨b, hb⟩ e)
theorem wordS_is (a b : Nat) (ha : a < 5) (hb : b < 5) : decide (wordS a = wordS b) = decide (a = b) := by
  by_cases e : a = b
  · rw [e, decide_eq_true rfl, decide_eq_true rfl]
  · rw [decide_eq_false e, decide_eq_false fun z => e (wordS_inj ha hb z)]
theorem rowD_sh {r : Row} (h : r.Ok) : Sh 1 (rowD r) := by
  refine Sh.tuple fun d hd => ?_
  rcases List.mem_cons.mp hd with rfl | hd
  · exact .int _ _
  rcases List.mem_cons.mp hd with rfl | hd
  · exact .str _ (wordS_ok _)
  rcases List.mem_cons.mp hd with rfl | hd
  · exact .str _ (nameS_ok h.n)
  rcases List.mem_cons.mp hd with rfl | hd
  · exact .int _ _
  · cases hd
theorem tripD_sh {r : Row} (h : r.Ok) : Sh 1 (tripD r) := by
  refine Sh.tuple fun d hd => ?_
  rcases List.mem_cons.mp hd with rfl | hd
  · exact .str _ (wordS_ok _)
  rcases List.mem_cons.mp hd with rfl | hd
  · exact .str _ (nameS_ok h.n)
  rcases List.mem_cons.mp hd with rfl | hd
  · exact .int _ _
  · cases hd
theorem rowD_noL (r : Row) : noL (rowD r) = true := rfl
theorem tripD_noL (r : Row) : noL (tripD r) = true := rfl
/-- a log that may be anything made of rows -/
def OkRows (rs : List Row) : Prop := ∀ r ∈ rs, r.Ok
def logD (rs : List Row) : PyData := .list (rs.map rowD)
theorem logD_sh {rs : List Row} (h : OkRows rs) : Sh 2 (logD rs) := Sh.list fun d hd => by
  obtain ⟨r, hr, rfl⟩ := List.mem_map.mp hd
  exact rowD_sh (h r hr)
section
variable {K : PySem.W.Frag} {H H' : Hp}
theorem row_inv {v : V} {r : Row} (h : Dp K H v (rowD r)) : ∃ a, v = .ref a ∧ SqT K H a (rowV r) := by
  obtain ⟨a, xs, rfl, h1, h2⟩ := h.tup_inv
  obtain ⟨v1, t1, rfl, e1, h2⟩ := h2.cons_inv
  obtain ⟨v2, t2, rfl, e2, h2⟩ := h2.cons_inv
  obtain ⟨v3, t3, rfl, e3, h2⟩ := h2.cons_inv
  obtain ⟨v4, t4, rfl, e4, h2⟩ := h2.cons_inv
  cases h2.nil_inv
  cases e1.int_inv
  cases e2.str_inv
  cases e3.str_inv
  cases e4.int_inv
  exact ⟨a, rfl, h1⟩
theorem row_mk {a : Addr} {r : Row} (h : SqT K H a (rowV r)) : Dp K H (.ref a) (rowD r) := .tup h (.cons (.int _) (.cons (.str _) (.cons (.str _) (.cons (.int _) .nil))))
theorem trip_mk {a : Addr} {r : Row} (h : SqT K H a [.str (wordS r.w), .str (nameS r.n), .int r.k]) : Dp K H (.ref a) (tripD r) := .tup h (.cons (.str _) (.cons (.str _) (.cons (.int _) .nil)))
/-- the i-th row of a log -/
theorem rows_get {vs : List V} {rs : List Row} (h : DpAll K H vs (rs.map rowD)) {i : Nat} {v : V} (e : vs[i]? = some v) : ∃ r, rs[i]? = some r ∧ Dp K H v (rowD r) := by
  obtain ⟨d, e1, h1⟩ := h.get i v e
  rw [List.getElem?_map] at e1
  cases q : rs[i]? with
  | none =>
    rw [q] at e1
    cases e1
  | some r =>
    rw [q] at e1
    cases Option.some.inj e1
    exact ⟨r, rfl, h1⟩
theorem rows_len {vs : List V} {rs : List Row} (h : DpAll K H vs (rs.map rowD)) : vs.length = rs.length := by
  rw [h.length, List.length_map]
/-- rows stay where a list changes -/
theorem rows_ke {x : Addr} {l : List V} (e : Ke x H H') (hx : H x = some (.lst l)) {vs : List V} {rs : List Row} (h : DpAll K H vs (rs.map rowD)) : DpAll K H' vs (rs.map rowD) :=
  dpAllKeepT (fun _ _ => e.seqT hx) (noLs_of fun d hd => by
    obtain ⟨r, _, rfl⟩ := List.mem_map.mp hd
    exact rowD_noL r) h
theorem row_ke {x : Addr} {l : List V} (e : Ke x H H') (hx : H x = some (.lst l)) {v : V} {r : Row} (h : Dp K H v (rowD r)) : Dp K H' v (rowD r) := dpKeepT (fun _ _ => e.seqT hx) (rowD_noL r) h
/-- a log at a -/
def LogAt (K : PySem.W.Frag) (H : Hp) (a : Addr) (rs : List Row) : Prop := Dp K H (.ref a) (logD rs)
theorem LogAt.inv {a : Addr} {rs : List Row} (h : LogAt K H a rs) : ∃ vs, SqL K H a vs ∧ DpAll K H vs (rs.map rowD) := by
  obtain ⟨b, vs, e, h1, h2⟩ := Dp.lst_inv h
  cases e
  exact ⟨vs, h1, h2⟩
theorem LogAt.mk {a : Addr} {rs : List Row} {vs : List V} (h1 : SqL K H a vs) (h2 : DpAll K H vs (rs.map rowD)) : LogAt K H a rs := .lst h1 h2
theorem LogAt.same (e : Same H H') {a : Addr} {rs : List Row} (h : LogAt K H a rs) : LogAt K H' a rs := Dp.same e h
theorem LogAt.ke {x : Addr} {l : List V} (e : Ke x H H') (hx : H x = some (.lst l)) {a : Addr} (n : a ≠ x) {rs : List Row} (h : LogAt K H a rs) : LogAt K H' a rs := by
  obtain ⟨vs, h1, h2⟩ := h.inv
  exact .mk (e.seq n h1) (rows_ke e hx h2)
end

/-! ### what the top has written -/
abbrev mixC (K : PySem.W.Frag) : Addr := He.ga K "Mixing"
structure Tx (K : PySem.W.Frag) (mg : Str → Option Value) : Prop where
  LETTERS : GS mg "LETTERS" "abcdefghijklmnopqrstuvwxyz"
  LONGEST : GI mg "LONGEST" 4
  BASE : GI mg "BASE" 27
  WORDS : GT K mg "WORDS" (He.ga K "WORDS") [.str "load", .str "set", .str "end", .str "late", .str "reset"]
  WORDSo : ∃ o, K.lookup (He.ga K "WORDS") = some o ∧ o.cls = .type "tuple" ∧ o.dict = none
  NOTES : GI mg "NOTES" 9973
  SPAN : GI mg "SPAN" 26500305465
  MOST_BOARDS : GI mg "MOST_BOARDS" 8
  BARE_WORDS : GT K mg "BARE_WORDS" (He.ga K "BARE_WORDS") [.str "end", .str "reset"]
  LEAST_WIDTH : GI mg "LEAST_WIDTH" 3
  MOST : GI mg "MOST" 1000000
  PLAIN_BEGIN : GI mg "PLAIN_BEGIN" 1
  RESET_BEGIN : GI mg "RESET_BEGIN" 2
  RESET_reading : GS mg "RESET_reading" "reset"
  BEHIND_END : GT K mg "BEHIND_END" (He.ga K "BEHIND_END") [.str "late", .str "reset"]
  END : GS mg "END" "end"
  RESET_logs : GS mg "RESET_logs" "reset"
  len : mg "len" = none
  range : mg "range" = none
  isinstance : mg "isinstance" = none
  all : mg "all" = none
  zip : mg "zip" = none
  enumerate : mg "enumerate" = none
  divmod : mg "divmod" = none
  max : mg "max" = none
  min : mg "min" = none
  int : mg "int" = none
  bool : mg "bool" = none
  str : mg "str" = none
  abs : mg "abs" = none
  list : mg "list" = none
  tuple : mg "tuple" = none
  mix : mg "Mixing" = some (.ref (mixC K))
  cl : Cls K (mixC K)
  nW : NoAttr K (mixC K) "width"
  nF : NoAttr K (mixC K) "factor"
  mkr : Mk K (mixC K) (He.ma K (mixC K) "__init__")
  mBegin : Meth K (mixC K) "begin" (He.ma K (mixC K) "begin")
  mMixed : Meth K (mixC K) "mixed" (He.ma K (mixC K) "mixed")
  mAlike : Meth K (mixC K) "alike" (He.ma K (mixC K) "alike")
end K21
/-! Rules in the shapes that the walks below use. -/
namespace K21
open PySem PySem.Spec PyProof.Rows L2

/-! ### isinstance(x, T), T a built-in type by its name -/
def rIsB (K : PySem.W.Frag) : List V → Hp → VK → Prop := fun xs H Q => ∃ x S T b, xs = [x, .ty T] ∧ TyX K H x (.type S) ∧ kitB S T = some b ∧ Q (.bl b) H
theorem call_isB {X : Cx} : CallR X (.builtin "isinstance") (rIsB X.K) := fun pins s σ H xs us Q I r h => by
  obtain ⟨x, S, T, b, e, ty, k, q⟩ := h
  exact call_isi pins s σ H xs us Q I r ⟨x, .ty T, .type S, .type T, b, e, .ty T, ty, kit_ty k, q⟩
theorem tyx_int {K : PySem.W.Frag} {H : Hp} (i : Int) : TyX K H (.int i) (.type "int") := .base (.int i)
theorem tyx_bl {K : PySem.W.Frag} {H : Hp} (i : Bool) : TyX K H (.bl i) (.type "bool") := .base (.bl i)
theorem tyx_str {K : PySem.W.Frag} {H : Hp} (i : Str) : TyX K H (.str i) (.type "str") := .base (.str i)
theorem tyx_non {K : PySem.W.Frag} {H : Hp} : TyX K H .non (.type "NoneType") := .base .non
theorem tyx_T {K : PySem.W.Frag} {H : Hp} {a : Addr} {xs : List V} (h : SqT K H a xs) : TyX K H (.ref a) (.type "tuple") := by
  rcases h with (h | ⟨o, h⟩) | ⟨o, its, n, h, c, _⟩
  · exact .base (.tup h)
  · exact .fTuple h
  · exact .kTuple h c
theorem tyx_L {K : PySem.W.Frag} {H : Hp} {a : Addr} {xs : List V} (h : SqL K H a xs) : TyX K H (.ref a) (.type "list") := by
  rcases h with (h | ⟨o, h⟩) | ⟨o, its, n, h, c, _⟩
  · exact .base (.lst h)
  · exact .base (.frz h)
  · exact .kList h c

/-! ### x in xs, flat things -/
def rIn2 (K : PySem.W.Frag) : R2 := fun x y H Q => ∃ p xs, y = .ref p ∧ (SqL K H p xs ∨ SqT K H p xs) ∧ flatV x = true ∧ xs.all flatV = true ∧ Q (.bl (inV x xs)) H
theorem op_in2 {X : Cx} : OpR X (compareOp .In) (rIn2 X.K) := fun pins s σ H x y v u Q I rx ry h => by
  obtain ⟨p, xs, e, hs, f1, f2, q⟩ := h
  exact op_in_seq pins s σ H x y v u Q I rx ry ⟨p, xs, e, hs, f1, f2, q⟩
def rNotIn2 (K : PySem.W.Frag) : R2 := fun x y H Q => ∃ p xs, y = .ref p ∧ (SqL K H p xs ∨ SqT K H p xs) ∧ flatV x = true ∧ xs.all flatV = true ∧ Q (.bl (!inV x xs)) H
theorem op_notIn2 {X : Cx} : OpR X (compareOp .NotIn) (rNotIn2 X.K) := fun pins s σ H x y v u Q I rx ry h => by
  obtain ⟨p, xs, e, hs, f1, f2, q⟩ := h
  exact op_notIn_seq pins s σ H x y v u Q I rx ry ⟨p, xs, e, hs, f1, f2, q⟩

/-! ### LETTERS.index(c), never refused -/
theorem mt_sindex {X : Cx} (hc : X.calm = true) : MtS X "str.index" (rIndexX fun _ _ _ _ => False) := mt_indexX hc takes0

/-! ### methods of one's own class, by name -/
structure OkM (P : Program) (w : World) (K : PySem.W.Frag) (mg : Str → Option Value) (base : Heap) (C : Addr) (k : Nat) (m : Str) (ps : List Str) (dvs : List V) (sp : Sp) : Prop where
  ex : ∃ (f : Addr) (fd : FuncData) (ds : List Value), FnOk P w K mg base CX0 k f fd ps sp ∧ Binds K fd ps ds ∧ Vals dvs ds ∧ Meth K C m f
section
variable {X : Cx} {C : Addr} {k j n : Nat} {x m : Str} {ps ks : List Str} {dvs : List V} {sp : Sp} {p pos apos : Pos} {o e : Expr} {es : List Expr} {kws : List Keyword} {ta : TE} {t tk : TA} {gV : List V → List V → List V}
theorem pe_m {pl : Sem Bool} (h : OkM X.prog X.w X.K X.mg X.base C k m ps dvs sp) (c : Cls X.K C) (hr : Room j X.A) (ho : PE X o ta) (ha : PA X (e :: es) t) (hkj : k ≤ j := by decide)
    (hst : starEach (e :: es) X.env = (false, eval e X.env) :: starEach es X.env := by rfl) (hpl : (backTo pos (starEach es X.env)).any (·.1) = false := by rfl)
    (ht : eval (.Call (.Attribute o m apos) (e :: es) [] pos) X.env = (do
      let r ← eval o X.env
      standAt apos.atName
      let (q, lead) ← holding [r] (getMethod r m pl)
      callWith pos q lead (backTo pos (starEach (e :: es) X.env)) (backToKw pos (keywordEach [] X.env))) := by rfl) :
    PE X (.Call (.Attribute o m apos) (e :: es) [] pos) (tMeth C m sp dvs E0 ta t) := by
  obtain ⟨f, fd, ds, F, b, v, M⟩ := h.ex
  exact pe_meth (pl := pl) ho c M F (hr.mono hkj) b v pass0 ha hst hpl ht
theorem pe_m0 {pl : Sem Bool} (h : OkM X.prog X.w X.K X.mg X.base C k m ps dvs sp) (c : Cls X.K C) (hr : Room j X.A) (ho : PE X o ta) (hkj : k ≤ j := by decide)
    (ht : eval (.Call (.Attribute o m apos) [] [] pos) X.env = (do
      let r ← eval o X.env
      standAt apos.atName
      let (q, lead) ← holding [r] (getMethod r m pl)
      callWith pos q lead (backTo pos (starEach [] X.env)) (backToKw pos (keywordEach [] X.env))) := by rfl) :
    PE X (.Call (.Attribute o m apos) [] [] pos) (tMeth C m sp dvs E0 ta tNil) := by
  obtain ⟨f, fd, ds, F, b, v, M⟩ := h.ex
  exact pe_meth0 (pl := pl) ho c M F (hr.mono hkj) b v pass0 ht

/-! ### calls with keywords, by name -/
structure OkK (P : Program) (w : World) (K : PySem.W.Frag) (mg : Str → Option Value) (base : Heap) (k : Nat) (x : Str) (ps : List Str) (sp : Sp) (n : Nat) (ks : List Str) (gV : List V → List V → List V) : Prop where
  ex : ∃ (f : Addr) (fd : FuncData) (g : List Value → List Value → List Value), FnOk P w K mg base CX0 k f fd ps sp ∧ KBn K fd ps n ks g gV ∧ PySem.W.keepIn K (.ref f) = true ∧ mg x = some (.ref f)
theorem pe_fk (h : OkK X.prog X.w X.K X.mg X.base k x ps sp n ks gV) (hr : Room j X.A) (ha : PA X (e :: es) t) (hkw : PK X kws tk) (hkj : k ≤ j := by decide) (hg : Gl X x := by rfl)
    (hall : (backToKw pos (keywordEach kws X.env)).all (·.1.isSome) = true := by rfl) (hks : (backToKw pos (keywordEach kws X.env)).filterMap (·.1) = ks := by rfl)
    (hdb : (x == ("__debug__" : Str)) = false := by decide) (he : starEach (e :: es) X.env = (false, eval e X.env) :: starEach es X.env := by rfl)
    (hpl : ((backTo pos (starEach (e :: es) X.env)).any (·.1) || (backToKw pos (keywordEach kws X.env)).any (·.1.isNone)) = false := by rfl) :
    PE X (.Call (.Name x p) (e :: es) kws pos) (tCallN n ks.length sp gV E0 t tk) := by
  obtain ⟨f, fd, g, F, b, kp, gl⟩ := h.ex
  exact pe_callN F (hr.mono hkj) hg gl kp b pass0 ha hkw hall hks hdb he hpl
theorem pe_fk0 (h : OkK X.prog X.w X.K X.mg X.base k x ps sp 0 ks gV) (hr : Room j X.A) (hkw : PK X kws tk) (hkj : k ≤ j := by decide) (hg : Gl X x := by rfl)
    (hall : (backToKw pos (keywordEach kws X.env)).all (·.1.isSome) = true := by rfl) (hks : (backToKw pos (keywordEach kws X.env)).filterMap (·.1) = ks := by rfl)
    (hdb : (x == ("__debug__" : Str)) = false := by decide)
    (hpl : ((backTo pos (starEach [] X.env)).any (·.1) || (backToKw pos (keywordEach kws X.env)).any (·.1.isNone)) = false := by rfl) :
    PE X (.Call (.Name x p) [] kws pos) (tCallN0 ks.length sp gV E0 tk) := by
  obtain ⟨f, fd, g, F, b, kp, gl⟩ := h.ex
  exact pe_callN0 F (hr.mono hkj) hg gl kp b pass0 hkw hall hks hdb hpl
/-- o.m(k = v, ..) -/
structure OkMK (P : Program) (w : World) (K : PySem.W.Frag) (mg : Str → Option Value) (base : Heap) (C : Addr) (k : Nat) (m : Str) (ps : List Str) (sp : Sp) (ks : List Str) (gV : List V → List V → List V) : Prop where
  ex : ∃ (f : Addr) (fd : FuncData) (g : List Value → List Value → List Value), FnOk P w K mg base CX0 k f fd ps sp ∧ KBn K fd ps 1 ks g gV ∧ Meth K C m f
theorem pe_mk {pl : Sem Bool} (h : OkMK X.prog X.w X.K X.mg X.base C k m ps sp ks gV) (c : Cls X.K C) (hr : Room j X.A) (ho : PE X o ta) (hkw : PK X kws tk) (hkj : k ≤ j := by decide)
    (hall : (backToKw pos (keywordEach kws X.env)).all (·.1.isSome) = true := by rfl) (hks : (backToKw pos (keywordEach kws X.env)).filterMap (·.1) = ks := by rfl)
    (hpl : ((backTo pos (starEach [] X.env)).any (·.1) || (backToKw pos (keywordEach kws X.env)).any (·.1.isNone)) = false := by rfl)
    (ht : eval (.Call (.Attribute o m apos) [] kws pos) X.env = (do
      let r ← eval o X.env
      standAt apos.atName
      let (q, lead) ← holding [r] (getMethod r m pl)
      callWith pos q lead (backTo pos (starEach [] X.env)) (backToKw pos (keywordEach kws X.env))) := by rfl) :
    PE X (.Call (.Attribute o m apos) [] kws pos) (tMethN0 C m ks.length sp gV E0 ta tk) := by
  obtain ⟨f, fd, g, F, b, M⟩ := h.ex
  exact pe_methN0 (pl := pl) ho c M F (hr.mono hkj) b pass0 hkw hall hks hpl ht
end
/-- y = {..} is stored within the comprehension's frame -/
theorem sw_dict {kx vx : Expr} {gs : List Comprehension} {scope : Scope} {pos py : Pos} {y : Str} {l : Nat} {env : Env} (hk : env.scope.kind = .function) (hy : env.scope.names.lookup y = some .local) (hl : (py.line == pos.line) = true)
    (ha : (scope.names.any fun (n, k) => n == y && (k == .local || k == .cell)) = false) : swapsWith (.DictComp kx vx gs scope pos) (some (.Name y py)) l env = pure true := by
  have e1 : env.kindOf y = some .local := hy
  have e2 : env.blockKind = .function := by
    unfold Env.blockKind
    rw [hk] <;> rfl
  unfold swapsWith
  simp only [e2, e1, ha, Expr.pos, hl] <;> rfl
/-- a built-in type by its name, as a value -/
theorem pe_bt {X : Cx} (n : String) {x : Str} {p : Pos} (hm : X.mg x = none) (hv : bootBuiltins x = some (.type n) := by decide +kernel) (hg : Gl X x := by rfl) (hn : x ≠ "__name__" := by decide) (hd : (x == ("__debug__" : Str)) = false := by decide) : PE X (.Name x p) (tC (.ty n)) :=
  pe_bltn hg hm hv (v := .ty n) rfl hn hd
theorem at0 {α : Type} {x : α} {r : List α} : atI (x :: r) 0 = some x := atI_nat (j := 0) rfl
theorem at1 {α : Type} {x y : α} {r : List α} : atI (x :: y :: r) 1 = some y := atI_nat (j := 1) rfl
theorem at2 {α : Type} {x y z : α} {r : List α} : atI (x :: y :: z :: r) 2 = some z := atI_nat (j := 2) rfl
theorem at3 {α : Type} {x y z u : α} {r : List α} : atI (x :: y :: z :: u :: r) 3 = some u := atI_nat (j := 3) rfl
theorem small {n : Nat} (h : n ≤ 100000) : n < sizeLine := Nat.lt_of_le_of_lt h (by decide)
theorem smallE {n : Nat} (h : n ≤ 100000) : n ≤ sizeLine := Nat.le_of_lt (small h)
end K21
namespace K21
open PySem PySem.Spec PyProof.Rows L2
section
variable {P : Program} {w : World} {K : PySem.W.Frag} {mg : Str → Option Value} {base : Heap}
/-! ### is_from -/
def spFrom : Sp := fun vs H Q _ => ∃ i l t : Int, vs = [.int i, .int l, .int t] ∧ Q (.bl (decide (l ≤ i) && decide (i < t))) H
theorem sc_is_from : FnScope ["thing", "least", "top"] ["thing", "least", "top"] d_is_from.scope := ⟨rfl, rfl, rfl, by decide +kernel, rfl, by decide +kernel, by decide +kernel⟩
theorem ok_is_from (T : Tx K mg) (D : Fd K mg d_is_from) : Ok P w K mg base 1 "is_from" ["thing", "least", "top"] spFrom := by
  refine ok_mk D sc_is_from (fun _ _ _ _ _ _ us hl => match us, hl with | [_, _, _], _ => rfl) (fun vs H Q E h => ?_) (fun f cdv A outer s H vs Q E hr h => ?_)
  · obtain ⟨i, l, t, rfl, _⟩ := h
    rfl
  · obtain ⟨i, l, t, rfl, q⟩ := h
    refine ⟨_, 
    (pss_one
      (ps_ret (pe_and (pe_callB call_isB (by rfl) T.isinstance (by decide +kernel) (pa_cons (pv 0) (pa_cons (pe_bt "int" T.int) pa_nil))) (pe_and (pe_not (pe_callB call_isB (by rfl) T.isinstance (by decide +kernel) (pa_cons (pv 0) (pa_cons (pe_bt "bool" T.bool) pa_nil)))) (pe_one (pe_chain op_le op_lt (pv 1) (pv 0) (pv 2)))))))
      , ?_⟩
    refine ⟨_, rfl, _, "int", "int", true, rfl, tyx_int _, by decide +kernel, true, rfl, iteT ?_⟩
    refine ⟨_, rfl, _, "int", "bool", false, rfl, tyx_int _, by decide +kernel, false, rfl, true, rfl, iteT ?_⟩
    refine ⟨_, rfl, _, rfl, _, _, rfl, rfl, _, rfl, ?_⟩
    by_cases e : l ≤ i
    · rw [decide_eq_true e] at q ⊢
      exact iteT ⟨_, rfl, _, _, rfl, rfl, q⟩
    · rw [decide_eq_false e] at q ⊢
      exact iteF q
end
end K21
namespace K21
open PySem PySem.Spec PyProof.Rows L2
section
variable {P : Program} {w : World} {K : PySem.W.Frag} {mg : Str → Option Value} {base : Heap}
/-! ### is_noted -/
theorem bare_in {w : Nat} (h : w < 5) : inV (.str (wordS w)) [.str "end", .str "reset"] = decide (w = 2 ∨ w = 4) := by
  have key : ∀ w : Fin 5, inV (.str (wordS w.1)) [.str "end", .str "reset"] = decide (w.1 = 2 ∨ w.1 = 4) := by decide +kernel
  exact key ⟨w, h⟩
def spNoted : Sp := fun vs H Q _ => ∃ r : Row, r.Ok ∧ vs = [.str (wordS r.w), .int r.k] ∧ Q (.bl true) H
theorem sc_is_noted : FnScope ["word", "note"] ["word", "note"] d_is_noted.scope := ⟨rfl, rfl, rfl, by decide +kernel, rfl, by decide +kernel, by decide +kernel⟩
theorem ok_is_noted (T : Tx K mg) (D : Fd K mg d_is_noted) (h_is_from : Ok P w K mg base 1 "is_from" ["thing", "least", "top"] spFrom) : Ok P w K mg base 2 "is_noted" ["word", "note"] spNoted := by
  refine ok_mk D sc_is_noted (fun _ _ _ _ _ _ us hl => match us, hl with | [_, _], _ => rfl) (fun vs H Q E h => ?_) (fun f cdv A outer s H vs Q E hr h => ?_)
  · obtain ⟨r, _, rfl, _⟩ := h
    rfl
  · obtain ⟨r, ok, rfl, q⟩ := h
    refine ⟨_, 
    (pss_one
      (ps_ret (pe_f h_is_from hr (pa_cons (pv 1) (pa_cons pe_int (pa_cons (pe_ifExp (pt_cmpR op_in2 (pv 0) (pe_gt T.BARE_WORDS) rfl) pe_int (pe_gi T.NOTES)) pa_nil))))))
      , ?_⟩
    refine ⟨_, rfl, _, rfl, _, _, rfl, .inr (T.BARE_WORDS.2 H), rfl, rfl, _, rfl, ?_⟩
    rw [bare_in ok.w]
    have k0 := ok.k0
    have k1 := ok.k1
    unfold noteTop at k1
    refine ite2 (fun c => ?_) (fun c => ?_)
    · rw [if_pos (of_decide_eq_true c)] at k1
      refine ⟨r.k, 0, 1, rfl, ?_⟩
      rw [decide_eq_true k0, decide_eq_true k1]
      exact q
    · rw [if_neg fun z => c (decide_eq_true z)] at k1
      refine ⟨r.k, 0, 9973, rfl, ?_⟩
      rw [decide_eq_true k0, decide_eq_true k1]
      exact q
/-! ### is_name -/
theorem letters_in {c : Nat} (h : c < 26) : decide (c + 97 ∈ ("abcdefghijklmnopqrstuvwxyz" : Str).cps.toList) = true := by
  have key : ∀ c : Fin 26, decide (c.1 + 97 ∈ ("abcdefghijklmnopqrstuvwxyz" : Str).cps.toList) = true := by decide +kernel
  exact key ⟨c, h⟩
theorem nameS_at {l : List Nat} {i c : Nat} (h : (nameS l).cps[i]? = some c) : ∃ d, l[i]? = some d ∧ c = d + 97 := by
  unfold nameS at h
  simp only [List.getElem?_toArray, List.getElem?_map] at h
  cases e : l[i]? with
  | none =>
    rw [e] at h
    cases h
  | some d =>
    rw [e] at h
    exact ⟨d, rfl, (Option.some.inj h).symm⟩
theorem nameS_size (l : List Nat) : (nameS l).cps.size = l.length := nameS_len l
def spName : Sp := fun vs H Q _ => ∃ l : List Nat, okName l ∧ vs = [.str (nameS l)] ∧ ∀ H', Same H H' → Q (.bl true) H'
theorem sc_is_name : FnScope ["thing", "letter"] ["thing"] d_is_name.scope := ⟨rfl, rfl, rfl, by decide +kernel, rfl, by decide +kernel, by decide +kernel⟩
theorem ok_is_name (T : Tx K mg) (D : Fd K mg d_is_name) : Ok P w K mg base 1 "is_name" ["thing"] spName := by
  refine ok_mk D sc_is_name (fun _ _ _ _ _ _ us hl => match us, hl with | [_], _ => rfl) (fun vs H Q E h => ?_) (fun f cdv A outer s H vs Q E hr h => ?_)
  · obtain ⟨l, _, rfl, _⟩ := h
    rfl
  · obtain ⟨l, ok, rfl, q⟩ := h
    refine ⟨_, 
    (pss_cons
      (ps_if (PW.pt (pw_or (pt_not (pt_val (pe_callB call_isB (by rfl) T.isinstance (by decide +kernel) (pa_cons (pv 0) (pa_cons (pe_bt "str" T.str) pa_nil))))) (pw_or1 (pt_not (pt_chain op_le op_le pe_int (pe_callB call_len_str (by rfl) T.len PySem.boot_len (pa_cons (pv 0) pa_nil)) (pe_gi T.LONGEST))))))
        (pss_one
          (ps_ret pe_bl))
        pss_nil)
    (pss_one
      (ps_ret (pe_callB (cr_all rfl) (by rfl) T.all (by decide +kernel) (pa_cons (pe_lc rfl sc_is_name.nd (pi_str (pv 0)) (blkOk_by (N := ["thing", "letter"]) (sc := d_is_name.scope) (own := [("letter", 1)]) (by decide +kernel)) (fun _ _ _ _ _ => (pg_name (i := 1) sc_is_name.nd rfl (.inl rfl))) (fun _ _ _ _ _ => pts_nil) (fun _ _ _ _ _ => (pe_cmpR op_in_sign (pv 1) (pe_gs T.LETTERS) rfl))) pa_nil)))))
      , ?_⟩
    have l1 := ok.1
    have l4 := ok.2.1
    refine ⟨_, rfl, _, "str", "str", true, rfl, tyx_str _, by decide +kernel, true, rfl, iteF ?_⟩
    refine ⟨_, rfl, _, rfl, by rw [nameS_len]; exact smallE (by omega), _, _, rfl, rfl, _, rfl, ?_⟩
    rw [decide_eq_true (show (1 : Int) ≤ ((nameS l).length : Nat) by rw [nameS_len]; omega)]
    refine iteT ⟨_, _, rfl, rfl, _, rfl, ?_⟩
    rw [decide_eq_true (show ((nameS l).length : Nat) ≤ (4 : Int) by rw [nameS_len]; omega)]
    refine iteF ?_
    refine ⟨_, rfl, _, rfl, fun D hD => lc_it walk_str (fun i H2 => Same H H2 ∧ H2 D = some (.lst ((List.replicate i true).map V.bl))) ⟨Same.new hD, upd_same⟩ (fun _ _ _ _ => trivial) ?_ ?_⟩
    · rintro i x H2 _ hi ⟨s2, e2⟩ ⟨rfl, c, hc, rfl⟩
      obtain ⟨d, hd, rfl⟩ := nameS_at hc
      have d26 := ok.2.2 d (List.mem_of_getElem? hd)
      refine ⟨rfl, _, rfl, d + 97, _, rfl, rfl, _, e2, ?_, s2.mut hD, ?_⟩
      · rw [nameS_size] at hi
        rw [List.length_map, List.length_replicate]
        exact small (by omega)
      · rw [upd_same, letters_in d26, List.replicate_succ', List.map_append]
        rfl
    · rintro H2 ⟨s2, e2⟩
      refine ⟨D, _, rfl, .of e2, ?_⟩
      have ea : (List.replicate (nameS l).cps.size true).all id = true := by
        rw [List.all_eq_true]
        intro b hb
        rw [List.eq_of_mem_replicate hb]
        rfl
      rw [ea]
      exact q H2 s2
end
end K21
namespace K21
open PySem PySem.Spec PyProof.Rows L2
section
variable {P : Program} {w : World} {K : PySem.W.Frag} {mg : Str → Option Value} {base : Heap}
/-! ### is_row -/
theorem words_in {w : Nat} (h : w < 5) : inV (.str (wordS w)) [.str "load", .str "set", .str "end", .str "late", .str "reset"] = true := by
  have key : ∀ w : Fin 5, inV (.str (wordS w.1)) [.str "load", .str "set", .str "end", .str "late", .str "reset"] = true := by decide +kernel
  exact key ⟨w, h⟩
def spRow (K : PySem.W.Frag) : Sp := fun vs H Q _ => ∃ (v : V) (r : Row), vs = [v] ∧ r.Ok ∧ Dp K H v (rowD r) ∧ ∀ H', Same H H' → Q (.bl true) H'
theorem sc_is_row : FnScope ["thing", "board", "word", "rest"] ["thing"] d_is_row.scope := ⟨rfl, rfl, rfl, by decide +kernel, rfl, by decide +kernel, by decide +kernel⟩
theorem ok_is_row (T : Tx K mg) (D : Fd K mg d_is_row) (h_is_from : Ok P w K mg base 1 "is_from" ["thing", "least", "top"] spFrom) (h_is_name : Ok P w K mg base 1 "is_name" ["thing"] spName)
    (h_is_noted : Ok P w K mg base 2 "is_noted" ["word", "note"] spNoted) : Ok P w K mg base 3 "is_row" ["thing"] (spRow K) := by
  refine ok_mk D sc_is_row (fun _ _ _ _ _ _ us hl => match us, hl with | [_], _ => rfl) (fun vs H Q E h => ?_) (fun f cdv A outer s H vs Q E hr h => ?_)
  · obtain ⟨v, r, rfl, _⟩ := h
    rfl
  · obtain ⟨v, r, rfl, ok, hv, q⟩ := h
    obtain ⟨a, rfl, hT⟩ := row_inv hv
    have b0 := ok.b
    refine ⟨_, 
    (pss_cons
      (ps_if (PW.pt (pw_or (pt_not (pt_val (pe_callB call_isB (by rfl) T.isinstance (by decide +kernel) (pa_cons (pv 0) (pa_cons (pe_bt "tuple" T.tuple) pa_nil))))) (pw_or (pt_cmpR op_ne (pe_callB call_len_seq (by rfl) T.len PySem.boot_len (pa_cons (pv 0) pa_nil)) pe_int (nomark _)) (pw_or1 (pt_not (pt_val (pe_f h_is_from hr (pa_cons (pe_ix ix_tup (pv 0) pe_int (fun _ _ => rfl)) (pa_cons pe_int (pa_cons (pe_gi T.MOST_BOARDS) pa_nil))))))))))
        (pss_one
          (ps_ret pe_bl))
        pss_nil)
    (pss_cons
      (ps_asg (pv 0) (pg_star (n := 2) rfl (pgs_cons (pg_name (i := 1) sc_is_row.nd rfl (.inl rfl)) (pgs_cons (pg_name (i := 2) sc_is_row.nd rfl (.inl rfl)) (pgs_cons (pg_name (i := 3) sc_is_row.nd rfl (.inl rfl)) pgs_nil)))))
    (pss_one
      (ps_ret (pe_and (pe_callB call_isB (by rfl) T.isinstance (by decide +kernel) (pa_cons (pv 2) (pa_cons (pe_bt "str" T.str) pa_nil))) (pe_and (pe_cmpR op_in2 (pv 2) (pe_gt T.WORDS) rfl) (pe_and (pe_f h_is_name hr (pa_cons (pe_ix ix_list (pv 3) pe_int (fun _ _ => rfl)) pa_nil)) (pe_one (pe_f h_is_noted hr (pa_cons (pv 2) (pa_cons (pe_ix ix_list (pv 3) pe_int (fun _ _ => rfl)) pa_nil)))))))))))
      , ?_⟩
    refine ⟨_, rfl, _, "tuple", "tuple", true, rfl, tyx_T hT, by decide +kernel, true, rfl, iteF ?_⟩
    refine ⟨_, rfl, a, _, rfl, .inr hT, rfl, _, rfl, iteNS rfl ?_⟩
    refine ⟨_, rfl, a, _, _, _, rfl, rfl, hT, at0, (r.b : Int), 0, 8, rfl, ?_⟩
    rw [decide_eq_true (show (0 : Int) ≤ (r.b : Int) by omega), decide_eq_true (show (r.b : Int) < 8 by omega)]
    refine ⟨true, rfl, iteF ?_⟩
    refine ⟨_, rfl, a, _, rfl, hT, Nat.le_of_ble_eq_true rfl, fun p hp => ⟨_, _, rfl, _, _, rfl, _, _, rfl, rfl, ?_⟩⟩
    have s1 : Same H (upd H p (.lst [.str (nameS r.n), .int r.k])) := Same.new hp
    refine ⟨_, rfl, _, "str", "str", true, rfl, tyx_str _, by decide +kernel, true, rfl, iteT ?_⟩
    refine ⟨_, rfl, _, _, rfl, .inr (T.WORDS.2 _), rfl, rfl, _, rfl, ?_⟩
    rw [words_in ok.w]
    refine iteT ?_
    refine ⟨_, rfl, p, _, _, _, rfl, rfl, .of upd_same, at0, r.n, ok.n, rfl, fun H2 s2 => ⟨true, rfl, iteT ?_⟩⟩
    refine ⟨_, rfl, _, rfl, p, _, _, _, rfl, rfl, .of (s2 _ _ upd_same), at1, r, ok, rfl, ?_⟩
    exact q H2 (s1.trans s2)
/-! ### name_number -/
theorem letters_ix {c : Nat} (h : c < 26) : Txt.index0 "abcdefghijklmnopqrstuvwxyz" ⟨#[c + 97]⟩ = some c := by
  have key : ∀ c : Fin 26, Txt.index0 "abcdefghijklmnopqrstuvwxyz" ⟨#[c.1 + 97]⟩ = some c.1 := by decide +kernel
  exact key ⟨c, h⟩
theorem nameNum_take {l : List Nat} {i d : Nat} (h : l[i]? = some d) : nameNum (l.take (i + 1)) = nameNum (l.take i) * 27 + (d : Int) + 1 := by
  unfold nameNum
  rw [List.take_add_one, h, List.foldl_append]
  rfl
def spNameNum : Sp := fun vs H Q _ => ∃ l : List Nat, vs = [.str (nameS l)] ∧ okName l ∧ Q (.int (nameNum l)) H
theorem sc_name_number : FnScope ["name", "found", "letter"] ["name"] d_name_number.scope := ⟨rfl, rfl, rfl, by decide +kernel, rfl, by decide +kernel, by decide +kernel⟩
theorem ok_name_number (T : Tx K mg) (D : Fd K mg d_name_number) : Ok P w K mg base 1 "name_number" ["name"] spNameNum := by
  refine ok_mk D sc_name_number (fun _ _ _ _ _ _ us hl => match us, hl with | [_], _ => rfl) (fun vs H Q E h => ?_) (fun f cdv A outer s H vs Q E hr h => ?_)
  · obtain ⟨l, rfl, _⟩ := h
    rfl
  · obtain ⟨l, rfl, ok, q⟩ := h
    refine ⟨_, 
    (pss_cons
      (ps_set (i := 1) sc_name_number.nd rfl (.inl rfl) pe_int)
    (pss_cons
      (ps_for PassesOwn.never rfl (pi_str (pv 0)) (pg_name (i := 2) sc_name_number.nd rfl (.inl rfl))
        (pss_one
          (ps_set (i := 1) sc_name_number.nd rfl (.inl rfl) (pe_op op_add (pe_op op_add (pe_op op_mul (pv 1) (pe_gi T.BASE)) (pe_bmS PySem.F.plainAttrs_str PySem.F.slot_str_index PySem.F.type_str_index (mt_sindex rfl) (pe_gs T.LETTERS) (pa_cons (pv 2) pa_nil))) pe_int))))
    (pss_one
      (ps_ret (pv 1)))))
      , ?_⟩
    refine ⟨_, rfl, _, rfl, for_it walk_str (fun i σ H2 => H2 = H ∧ ∃ z, σ = [some (.str (nameS l)), some (.int (nameNum (l.take i))), z]) ⟨rfl, _, rfl⟩ (fun _ _ _ _ _ => trivial) ?_ ?_⟩
    · rintro i x σ H2 H3 hi ⟨rfl, z, rfl⟩ ⟨rfl, c, hc, rfl⟩
      obtain ⟨d, hd, rfl⟩ := nameS_at hc
      have d26 := ok.2.2 d (List.mem_of_getElem? hd)
      refine ⟨_, rfl, _, _, rfl, rfl, .inr ⟨by decide, by decide⟩, rfl, _, rfl, _, _, rfl, rfl, fun k hk => ?_, fun hn => ?_⟩
      · rw [letters_ix d26] at hk
        cases hk
        refine ⟨_, _, rfl, rfl, _, _, rfl, rfl, rfl, some (.str ⟨#[d + 97]⟩), ?_⟩
        rw [nameNum_take hd]
        rfl
      · rw [letters_ix d26] at hn
        cases hn
    · rintro σ H2 ⟨rfl, z, rfl⟩
      refine ⟨_, rfl, ?_⟩
      rw [nameS_size, List.take_length]
      exact q
/-! ### row_number -/
def spRowNum (K : PySem.W.Frag) : Sp := fun vs H Q _ => ∃ (v : V) (r : Row), vs = [v] ∧ r.Ok ∧ Dp K H v (rowD r) ∧ Q (.int (rowNum r)) H
theorem sc_row_number : FnScope ["row", "board", "word", "name", "note"] ["row"] d_row_number.scope := ⟨rfl, rfl, rfl, by decide +kernel, rfl, by decide +kernel, by decide +kernel⟩
def wordsL : List Str := ["load", "set", "end", "late", "reset"]
theorem words_at {w : Nat} (h : w < 5) : wordsL[w]? = some (wordS w) ∧ ∀ m, m < w → wordsL[m]? ≠ some (wordS w) := by
  have key : ∀ w : Fin 5, wordsL[w.1]? = some (wordS w.1) ∧ ∀ m : Fin 5, m.1 < w.1 → wordsL[m.1]? ≠ some (wordS w.1) := by decide +kernel
  exact ⟨(key ⟨w, h⟩).1, fun m hm => (key ⟨w, h⟩).2 ⟨m, by omega⟩ hm⟩
theorem ok_row_number (T : Tx K mg) (D : Fd K mg d_row_number) (h_name_number : Ok P w K mg base 1 "name_number" ["name"] spNameNum) : Ok P w K mg base 2 "row_number" ["row"] (spRowNum K) := by
  refine ok_mk D sc_row_number (fun _ _ _ _ _ _ us hl => match us, hl with | [_], _ => rfl) (fun vs H Q E h => ?_) (fun f cdv A outer s H vs Q E hr h => ?_)
  · obtain ⟨v, r, rfl, _⟩ := h
    rfl
  · obtain ⟨v, r, rfl, ok, hv, q⟩ := h
    obtain ⟨a, rfl, hT⟩ := row_inv hv
    have nb := nameNum_bound ok.n
    have w5 := ok.w
    refine ⟨_, 
    (pss_cons
      (ps_asg (pv 0) (pg_tup rfl (pgs_cons (pg_name (i := 1) sc_row_number.nd rfl (.inl rfl)) (pgs_cons (pg_name (i := 2) sc_row_number.nd rfl (.inl rfl)) (pgs_cons (pg_name (i := 3) sc_row_number.nd rfl (.inl rfl)) (pgs_cons (pg_name (i := 4) sc_row_number.nd rfl (.inl rfl)) pgs_nil))))))
    (pss_one
      (ps_ret (pe_op op_add (pe_op op_mul (pe_op op_add (pe_op op_mul (pe_f h_name_number hr (pa_cons (pv 3) pa_nil)) (pe_callB call_len_seq (by rfl) T.len PySem.boot_len (pa_cons (pe_gt T.WORDS) pa_nil))) (pe_bm PySem.F.plainAttrs_tuple PySem.F.slot_tuple_index PySem.F.type_tuple_index mt_tup_index (pe_gt T.WORDS) (pa_cons (pv 2) pa_nil))) (pe_gi T.NOTES)) (pv 4)))))
      , ?_⟩
    refine ⟨_, rfl, a, _, rfl, hT, rfl, _, _, rfl, _, _, rfl, _, _, rfl, _, _, rfl, rfl, ?_⟩
    refine ⟨_, rfl, r.n, rfl, ok.n, _, _, rfl, .inr (T.WORDS.2 H), _, _, rfl, rfl, .inr ⟨by decide, by decide⟩, ?_⟩
    refine ⟨.inr (.inl ⟨rfl, T.WORDSo⟩), _, rfl, _, wordsL, wordS r.w, r.w, rfl, rfl, T.WORDS.2 H, (words_at w5).1, (words_at w5).2, ?_⟩
    refine ⟨_, _, rfl, rfl, _, _, rfl, rfl, .inr ⟨by decide, by decide⟩, _, rfl, _, _, rfl, rfl, ?_⟩
    exact q
end
end K21
namespace K21
open PySem PySem.Spec PyProof.Rows L2
/-! ### mixings as objects -/
def wdV : Option Int → V
  | none => .non
  | some w => .int w
def mixFs (m : Mix) : List (Str × V) := putF "factor" (.int m.f) (putF "width" (wdV m.wd) [])
theorem mixFs_w (m : Mix) : (mixFs m).lookup ("width" : Str) = some (wdV m.wd) := by
  unfold mixFs
  rw [lookup_putF, if_neg (by decide +kernel), lookup_putF, if_pos rfl]
theorem mixFs_f (m : Mix) : (mixFs m).lookup ("factor" : Str) = some (V.int m.f) := by
  unfold mixFs
  rw [lookup_putF, if_pos rfl]
theorem mixFs_no (m : Mix) {x : Str} (h1 : ¬ x = "factor") (h2 : ¬ x = "width") : (mixFs m).lookup x = none := by
  unfold mixFs
  rw [lookup_putF, if_neg h1, lookup_putF, if_neg h2]
  rfl
def MixAt (K : PySem.W.Frag) (H : Hp) (p : Addr) (m : Mix) : Prop := ∃ dx, H p = some (.ins (mixC K) dx (mixFs m))
theorem MixAt.same {K : PySem.W.Frag} {H H' : Hp} {p : Addr} {m : Mix} (e : Same H H') (h : MixAt K H p m) : MixAt K H' p m := by
  obtain ⟨dx, h⟩ := h
  exact ⟨dx, e _ _ h⟩
theorem MixAt.ke {K : PySem.W.Frag} {H H' : Hp} {p x : Addr} {m : Mix} {l : List V} (e : Ke x H H') (hx : H x = some (.lst l)) (h : MixAt K H p m) : MixAt K H' p m := by
  obtain ⟨dx, h⟩ := h
  exact ⟨dx, e _ _ h (ne_of h hx (by intro z; cases z))⟩
def gcdI (a b : Int) : Int := (Int.gcd a b : Nat)
theorem gcdI_step {a b : Int} (ha : 0 ≤ a) (hb : 0 ≤ b) : gcdI b (a % b) = gcdI a b := by
  obtain ⟨m, rfl⟩ := Int.eq_ofNat_of_zero_le ha
  obtain ⟨n, rfl⟩ := Int.eq_ofNat_of_zero_le hb
  unfold gcdI
  rw [← Int.natCast_emod, Int.gcd_natCast_natCast, Int.gcd_natCast_natCast, Nat.gcd_comm n (m % n), ← Nat.gcd_rec, Nat.gcd_comm]
theorem gcdI_zero {a : Int} (ha : 0 ≤ a) : gcdI a 0 = a := by
  obtain ⟨m, rfl⟩ := Int.eq_ofNat_of_zero_le ha
  unfold gcdI
  rw [Int.gcd_zero_right]
  rfl
structure MixOk (m : Mix) : Prop where
  f1 : 1 ≤ m.f
  f2 : m.f ≤ 1000000
  w : ∀ x, m.wd = some x → 3 ≤ x ∧ x ≤ 1000000 ∧ gcdI x m.f = 1
section
variable {P : Program} {w : World} {K : PySem.W.Frag} {mg : Str → Option Value} {base : Heap}
/-! ### is_between -/
def spBetween : Sp := fun vs H Q _ => ∃ i l t : Int, vs = [.int i, .int l, .int t] ∧ Q (.bl (decide (l ≤ i) && decide (i ≤ t))) H
theorem sc_is_between : FnScope ["thing", "least", "most"] ["thing", "least", "most"] d_is_between.scope := ⟨rfl, rfl, rfl, by decide +kernel, rfl, by decide +kernel, by decide +kernel⟩
theorem ok_is_between (T : Tx K mg) (D : Fd K mg d_is_between) : Ok P w K mg base 1 "is_between" ["thing", "least", "most"] spBetween := by
  refine ok_mk D sc_is_between (fun _ _ _ _ _ _ us hl => match us, hl with | [_, _, _], _ => rfl) (fun vs H Q E h => ?_) (fun f cdv A outer s H vs Q E hr h => ?_)
  · obtain ⟨i, l, t, rfl, _⟩ := h
    rfl
  · obtain ⟨i, l, t, rfl, q⟩ := h
    refine ⟨_, 
    (pss_one
      (ps_ret (pe_and (pe_callB call_isB (by rfl) T.isinstance (by decide +kernel) (pa_cons (pv 0) (pa_cons (pe_bt "int" T.int) pa_nil))) (pe_and (pe_not (pe_callB call_isB (by rfl) T.isinstance (by decide +kernel) (pa_cons (pv 0) (pa_cons (pe_bt "bool" T.bool) pa_nil)))) (pe_one (pe_chain op_le op_le (pv 1) (pv 0) (pv 2)))))))
      , ?_⟩
    refine ⟨_, rfl, _, "int", "int", true, rfl, tyx_int _, by decide +kernel, true, rfl, iteT ?_⟩
    refine ⟨_, rfl, _, "int", "bool", false, rfl, tyx_int _, by decide +kernel, false, rfl, true, rfl, iteT ?_⟩
    refine ⟨_, rfl, _, rfl, _, _, rfl, rfl, _, rfl, ?_⟩
    by_cases e : l ≤ i
    · rw [decide_eq_true e] at q ⊢
      exact iteT ⟨_, rfl, _, _, rfl, rfl, q⟩
    · rw [decide_eq_false e] at q ⊢
      exact iteF q
/-! ### divisor_of -/
def spDiv : Sp := fun vs H Q _ => ∃ a b : Int, vs = [.int a, .int b] ∧ 0 ≤ a ∧ 0 ≤ b ∧ Q (.int (gcdI a b)) H
theorem sc_divisor_of : FnScope ["one", "other"] ["one", "other"] d_divisor_of.scope := ⟨rfl, rfl, rfl, by decide +kernel, rfl, by decide +kernel, by decide +kernel⟩
theorem ok_divisor_of (T : Tx K mg) (D : Fd K mg d_divisor_of) : Ok P w K mg base 1 "divisor_of" ["one", "other"] spDiv := by
  refine ok_mk D sc_divisor_of (fun _ _ _ _ _ _ us hl => match us, hl with | [_, _], _ => rfl) (fun vs H Q E h => ?_) (fun f cdv A outer s H vs Q E hr h => ?_)
  · obtain ⟨a, b, rfl, _⟩ := h
    rfl
  · obtain ⟨a, b, rfl, ha, hb, q⟩ := h
    refine ⟨_, 
    (pss_cons
      (ps_while PassesOwn.never (pt_cmpR op_gt (pv 1) pe_int (nomark _))
        (pss_one
          (ps_par (i := 0) (j := 1) (by rfl) sc_divisor_of.nd rfl rfl (by decide) rfl rfl (pa_cons (pv 1) (pa_cons (pe_op op_mod (pv 0) (pv 1)) pa_nil)) (by rfl))))
    (pss_one
      (ps_ret (pv 0))))
      , ?_⟩
    refine while_by (fun σ H2 => H2 = H ∧ ∃ x y : Int, σ = [some (.int x), some (.int y)] ∧ 0 ≤ x ∧ 0 ≤ y ∧ gcdI x y = gcdI a b) (fun σ _ => match σ with | [_, some (.int y)] => y.toNat | _ => 0) ⟨rfl, a, b, rfl, ha, hb, rfl⟩ ?_
      (fun σ H Q Q' m ⟨v, e, i, j, e1, e2, k, e3, z⟩ => ⟨v, e, i, j, e1, e2, k, e3, m _ _ z⟩)
    rintro σ H2 ⟨rfl, x, y, rfl, hx, hy, e⟩
    refine ⟨_, rfl, _, _, rfl, rfl, _, rfl, ite2 (fun c => ?_) (fun c => ?_)⟩
    · have y0 := of_decide_eq_true c
      have m0 := Int.emod_nonneg x (by omega : y ≠ 0)
      have m1 := Int.emod_lt_of_pos x y0
      refine ⟨_, rfl, _, rfl, _, rfl, _, _, rfl, rfl, y0, _, _, rfl, ⟨rfl, y, x % y, rfl, hy, m0, ?_⟩, ?_⟩
      · rw [gcdI_step hx hy, e]
      · show (x % y).toNat < y.toNat
        omega
    · have y0 : y = 0 := by
        have h0 : ¬ (0 : Int) < y := fun z => c (decide_eq_true z)
        omega
      refine ⟨_, rfl, ?_⟩
      rw [y0, gcdI_zero hx] at e
      rw [e]
      exact q
/-! ### Mixing -/
def spInit (K : PySem.W.Frag) : Sp := fun vs H Q _ => ∃ (p dx : Addr) (m : Mix), vs = [.ref p, wdV m.wd, .int m.f] ∧ MixOk m ∧ H p = some (.ins (mixC K) dx []) ∧ ∀ H', Ke p H H' → MixAt K H' p m → Q .non H'
theorem sc_Mixing_init : FnScope ["self", "width", "factor"] ["self", "width", "factor"] d_Mixing_init.scope := ⟨rfl, rfl, rfl, by decide +kernel, rfl, by decide +kernel, by decide +kernel⟩
theorem fn_init (T : Tx K mg) {f : Addr} {fd : FuncData} (F : FunD K d_Mixing_init.name d_Mixing_init.qual d_Mixing_init.params d_Mixing_init.body d_Mixing_init.scope (d_Mixing_init.dvs K) (d_Mixing_init.kws K) f fd) (h_is_between : Ok P w K mg base 1 "is_between" ["thing", "least", "most"] spBetween)
    (h_divisor_of : Ok P w K mg base 1 "divisor_of" ["one", "other"] spDiv) : FnOk P w K mg base CX0 2 f fd ["self", "width", "factor"] (spInit K) := by
  refine body_ok F sc_Mixing_init (fun vs H Q E h => ?_) (fun cdv A outer s H vs Q E hr h => ?_)
  · obtain ⟨p, dx, m, rfl, _⟩ := h
    rfl
  · obtain ⟨p, dx, m, rfl, ok, hp, q⟩ := h
    have f1 := ok.f1
    have f2 := ok.f2
    refine ⟨_, 
    (pss_cons
      (ps_if (PW.pt (pw_and (pt_cmpR op_notN (pv 1) pe_non (nomark _)) (pw_and1 (pt_not (pt_val (pe_f h_is_between hr (pa_cons (pv 1) (pa_cons (pe_gi T.LEAST_WIDTH) (pa_cons (pe_gi T.MOST) pa_nil)))))))))
        (pss_one
          ps_never)
        pss_nil)
    (pss_cons
      (ps_if (PW.pt (pw_or (pt_not (pt_val (pe_f h_is_between hr (pa_cons (pv 2) (pa_cons pe_int (pa_cons (pe_gi T.MOST) pa_nil)))))) (pw_or1 (PW.pt (pw_and (pt_cmpR op_notN (pv 1) pe_non (nomark _)) (pw_and1 (pt_cmpR op_gt (pe_f h_divisor_of hr (pa_cons (pv 1) (pa_cons (pv 2) pa_nil))) pe_int (nomark _))))))))
        (pss_one
          ps_never)
        pss_nil)
    (pss_cons
      (ps_fld (pv 0) (pv 1) rfl)
    (pss_one
      (ps_fld (pv 0) (pv 2) rfl)))))
      , ?_⟩
    have tl : tSeq (sFld K (tVar 0) (tVar 1) "width") (sFld K (tVar 0) (tVar 2) "factor") { nx := fun _ H' => Q .non H', rt := Q } [some (.ref p), some (wdV m.wd), some (.int m.f)] H := by
      refine ⟨_, rfl, _, rfl, p, _, dx, _, rfl, hp, T.cl, T.nW, Nat.le_of_ble_eq_true rfl, ?_⟩
      refine ⟨_, rfl, _, rfl, p, _, dx, _, rfl, upd_same, T.cl, T.nF, Nat.le_of_ble_eq_true rfl, ?_⟩
      exact q _ (Ke.set _ _ _).upd ⟨dx, upd_same⟩
    have fac : (decide ((1 : Int) ≤ m.f) && decide (m.f ≤ 1000000)) = true := by
      rw [decide_eq_true f1, decide_eq_true f2]
      rfl
    cases hw : m.wd with
    | none =>
      rw [hw] at tl
      refine ⟨_, rfl, rfl, _, rfl, iteF (iteF ?_)⟩
      refine ⟨_, rfl, _, _, _, rfl, _, rfl, ?_⟩
      rw [fac]
      refine iteF ⟨_, rfl, rfl, _, rfl, iteF (iteF ?_)⟩
      exact tl
    | some x =>
      obtain ⟨x3, xm, g⟩ := ok.w x hw
      rw [hw] at tl
      refine ⟨_, rfl, rfl, _, rfl, iteT ⟨_, rfl, x, 3, 1000000, rfl, _, rfl, ?_⟩⟩
      rw [decide_eq_true x3, decide_eq_true xm]
      refine iteF ⟨_, rfl, _, _, _, rfl, _, rfl, ?_⟩
      rw [fac]
      refine iteF ⟨_, rfl, rfl, _, rfl, iteT ⟨_, rfl, _, rfl, x, m.f, rfl, by omega, by omega, _, _, rfl, rfl, _, rfl, ?_⟩⟩
      rw [g]
      exact iteF tl
def spBegin (K : PySem.W.Frag) : Sp := fun vs H Q _ => ∃ (v : V) (b : Bool), vs = [v, .bl b] ∧ Q (.int (if b = true then 2 else 1)) H
theorem sc_Mixing_begin : FnScope ["self", "reset"] ["self", "reset"] d_Mixing_begin.scope := ⟨rfl, rfl, rfl, by decide +kernel, rfl, by decide +kernel, by decide +kernel⟩
theorem fn_begin (T : Tx K mg) {f : Addr} {fd : FuncData} (F : FunD K d_Mixing_begin.name d_Mixing_begin.qual d_Mixing_begin.params d_Mixing_begin.body d_Mixing_begin.scope (d_Mixing_begin.dvs K) (d_Mixing_begin.kws K) f fd) : FnOk P w K mg base CX0 1 f fd ["self", "reset"] (spBegin K) := by
  refine body_ok F sc_Mixing_begin (fun vs H Q E h => ?_) (fun cdv A outer s H vs Q E hr h => ?_)
  · obtain ⟨v, b, rfl, _⟩ := h
    rfl
  · obtain ⟨v, b, rfl, q⟩ := h
    refine ⟨_, 
    (pss_one
      (ps_ret (pe_ifExp (pt_val (pv 1)) (pe_gi T.RESET_BEGIN) (pe_gi T.PLAIN_BEGIN))))
      , ?_⟩
    refine ⟨_, rfl, _, rfl, ?_⟩
    cases b with
    | true => exact iteT q
    | false => exact iteF q
def spMixed (K : PySem.W.Frag) : Sp := fun vs H Q _ => ∃ (p : Addr) (m : Mix) (z : Int) (v : V) (r : Row), vs = [.ref p, .int z, v] ∧ MixOk m ∧ MixAt K H p m ∧ r.Ok ∧ Dp K H v (rowD r) ∧ (m.wd = none ∨ (-(2 ^ 64) < z ∧ z < 2 ^ 64)) ∧ Q (.int (mixed m z r)) H
theorem sc_Mixing_mixed : FnScope ["self", "value", "row"] ["self", "value", "row"] d_Mixing_mixed.scope := ⟨rfl, rfl, rfl, by decide +kernel, rfl, by decide +kernel, by decide +kernel⟩
theorem fn_mixed (T : Tx K mg) {f : Addr} {fd : FuncData} (F : FunD K d_Mixing_mixed.name d_Mixing_mixed.qual d_Mixing_mixed.params d_Mixing_mixed.body d_Mixing_mixed.scope (d_Mixing_mixed.dvs K) (d_Mixing_mixed.kws K) f fd) (h_row_number : Ok P w K mg base 2 "row_number" ["row"] (spRowNum K)) : FnOk P w K mg base CX0 3 f fd ["self", "value", "row"] (spMixed K) := by
  refine body_ok F sc_Mixing_mixed (fun vs H Q E h => ?_) (fun cdv A outer s H vs Q E hr h => ?_)
  · obtain ⟨p, m, z, v, r, rfl, _⟩ := h
    rfl
  · obtain ⟨p, m, z, v, r, rfl, mo, ⟨dx, hp⟩, ok, hv, hz, q⟩ := h
    refine ⟨_, 
    (pss_cons
      (ps_if (pt_cmpR op_isN (pe_fld (pv 0) rfl) pe_non (nomark _))
        (pss_one
          (ps_ret (pe_op op_add (pe_op op_add (pe_op op_mul (pv 1) (pe_gi T.SPAN)) (pe_f h_row_number hr (pa_cons (pv 2) pa_nil))) pe_int)))
        pss_nil)
    (pss_one
      (ps_ret (pe_op op_mod (pe_op op_add (pe_op op_add (pe_op op_mul (pv 1) (pe_fld (pv 0) rfl)) (pe_f h_row_number hr (pa_cons (pv 2) pa_nil))) pe_int) (pe_fld (pv 0) rfl)))))
      , ?_⟩
    refine ⟨_, rfl, p, _, dx, _, _, rfl, hp, T.cl, T.nW, mixFs_w m, rfl, _, rfl, ?_⟩
    cases hw : m.wd with
    | none =>
      refine iteT ⟨_, rfl, _, _, rfl, rfl, .inr ⟨by decide, by decide⟩, _, rfl, v, r, rfl, ok, hv, _, _, rfl, rfl, _, _, rfl, rfl, ?_⟩
      unfold mixed at q
      rw [hw] at q
      exact q
    | some x =>
      obtain ⟨x3, xm, g⟩ := mo.w x hw
      have hz2 : -(2 ^ 64) < z ∧ z < 2 ^ 64 := by
        rcases hz with h | h
        · rw [hw] at h
          cases h
        · exact h
      refine iteF ⟨_, rfl, _, rfl, p, _, dx, _, _, rfl, hp, T.cl, T.nF, mixFs_f m, _, _, rfl, rfl, .inl hz2, _, rfl, v, r, rfl, ok, hv, _, _, rfl, rfl, _, _, rfl, rfl, ?_⟩
      refine ⟨_, rfl, p, _, dx, _, _, rfl, hp, T.cl, T.nW, mixFs_w m, ?_⟩
      rw [hw]
      refine ⟨_, _, rfl, rfl, by omega, ?_⟩
      unfold mixed at q
      rw [hw] at q
      exact q
def spAlike (K : PySem.W.Frag) : Sp := fun vs H Q _ => ∃ (p : Addr) (m : Mix) (x : Int) (v1 v2 : V) (r1 r2 : Row), vs = [.ref p, v1, v2] ∧ MixOk m ∧ MixAt K H p m ∧ m.wd = some x ∧ r1.Ok ∧ r2.Ok ∧ Dp K H v1 (rowD r1) ∧ Dp K H v2 (rowD r2) ∧ Q (.bl (decide ((rowNum r1 - rowNum r2) % x = 0))) H
theorem sc_Mixing_alike : FnScope ["self", "row", "other", "parted"] ["self", "row", "other"] d_Mixing_alike.scope := ⟨rfl, rfl, rfl, by decide +kernel, rfl, by decide +kernel, by decide +kernel⟩
theorem fn_alike (T : Tx K mg) {f : Addr} {fd : FuncData} (F : FunD K d_Mixing_alike.name d_Mixing_alike.qual d_Mixing_alike.params d_Mixing_alike.body d_Mixing_alike.scope (d_Mixing_alike.dvs K) (d_Mixing_alike.kws K) f fd) (h_row_number : Ok P w K mg base 2 "row_number" ["row"] (spRowNum K)) : FnOk P w K mg base CX0 3 f fd ["self", "row", "other"] (spAlike K) := by
  refine body_ok F sc_Mixing_alike (fun vs H Q E h => ?_) (fun cdv A outer s H vs Q E hr h => ?_)
  · obtain ⟨p, m, x, v1, v2, r1, r2, rfl, _⟩ := h
    rfl
  · obtain ⟨p, m, x, v1, v2, r1, r2, rfl, mo, ⟨dx, hp⟩, hw, ok1, ok2, h1, h2, q⟩ := h
    obtain ⟨x3, xm, g⟩ := mo.w x hw
    refine ⟨_, 
    (pss_cons
      (ps_set (i := 3) sc_Mixing_alike.nd rfl (.inl rfl) (pe_op op_sub (pe_f h_row_number hr (pa_cons (pv 1) pa_nil)) (pe_f h_row_number hr (pa_cons (pv 2) pa_nil))))
    (pss_one
      (ps_ret (pe_ifExp (pt_cmpR op_isN (pe_fld (pv 0) rfl) pe_non (nomark _)) (pe_cmpR op_eq (pv 3) pe_int (nomark _)) (pe_cmpR op_eq (pe_op op_mod (pv 3) (pe_fld (pv 0) rfl)) pe_int (nomark _))))))
      , ?_⟩
    refine ⟨_, rfl, v1, r1, rfl, ok1, h1, _, rfl, v2, r2, rfl, ok2, h2, _, _, rfl, rfl, ?_⟩
    refine ⟨_, rfl, p, _, dx, _, _, rfl, hp, T.cl, T.nW, mixFs_w m, rfl, _, rfl, ?_⟩
    rw [hw]
    refine iteF ⟨_, rfl, _, rfl, p, _, dx, _, _, rfl, hp, T.cl, T.nW, mixFs_w m, ?_⟩
    rw [hw]
    refine ⟨_, _, rfl, rfl, by omega, rfl, ?_⟩
    have e : decide (V.int ((rowNum r1 - rowNum r2) % x) = V.int 0) = decide ((rowNum r1 - rowNum r2) % x = 0) := by
      by_cases z : (rowNum r1 - rowNum r2) % x = 0
      · rw [z]
        rfl
      · rw [decide_eq_false z, decide_eq_false fun y => z (V.int.inj y)]
    rw [e]
    exact q
end
end K21
namespace K21
open PySem PySem.Spec PyProof.Rows L2 TL
/-! ### texts of signs -/
def signS (d : Nat) : Str := ⟨#[d + 97]⟩
theorem join_signs : ∀ l : List Nat, Txt.join "" (l.map signS) = nameS l := by
  intro l
  rw [join_eq]
  have e : ∀ l : List Nat, (Str.join "" (l.map signS)).cps.toList = l.map (· + 97) := by
    intro l
    have h := tl_join "" (l.map signS)
    have h2 : ∀ l : List Nat, joinL (tl "") ((l.map signS).map tl) = l.map (· + 97) := by
      intro l
      have et : tl "" = [] := by decide +kernel
      rw [et]
      induction l with
      | nil => rfl
      | cons d r ih =>
        cases r with
        | nil => rfl
        | cons d2 r2 =>
          show [d + 97] ++ ([] ++ joinL [] (((d2 :: r2).map signS).map tl)) = _
          rw [ih]
          rfl
    exact h.trans (h2 l)
  have e2 := e l
  unfold nameS
  cases h : Str.join "" (l.map signS) with
  | mk c =>
    rw [h] at e2
    have e3 : c = (l.map (· + 97)).toArray := by
      rw [← e2]
    rw [e3]
theorem signs_len (l : List Nat) : ((l.map signS).map (·.length)).sum = l.length := by
  induction l with
  | nil => rfl
  | cons d r ih =>
    rw [List.map_cons, List.map_cons, List.sum_cons, ih, List.length_cons]
    show 1 + r.length = r.length + 1
    omega
theorem letter_at {d : Nat} (h : d < 26) : atI ("abcdefghijklmnopqrstuvwxyz" : Str).cps.toList (d : Int) = some (d + 97) := by
  have key : ∀ d : Fin 26, atI ("abcdefghijklmnopqrstuvwxyz" : Str).cps.toList (d.1 : Int) = some (d.1 + 97) := by decide +kernel
  exact key ⟨d, h⟩
theorem nameNum_pos {l : List Nat} (h : ∀ c ∈ l, c < 26) : 0 ≤ nameNum l := (nameFold_bound l 0 h (Int.le_refl _)).1
section
variable {P : Program} {w : World} {K : PySem.W.Frag} {mg : Str → Option Value} {base : Heap}
/-! ### name_of -/
def spNameOf : Sp := fun vs H Q _ => ∃ l : List Nat, vs = [.int (nameNum l)] ∧ okName l ∧ ∀ H', Same H H' → Q (.str (nameS l)) H'
theorem sc_name_of : FnScope ["number", "letters", "rest"] ["number"] d_name_of.scope := ⟨rfl, rfl, rfl, by decide +kernel, rfl, by decide +kernel, by decide +kernel⟩
theorem ok_name_of (T : Tx K mg) (D : Fd K mg d_name_of) : Ok P w K mg base 1 "name_of" ["number"] spNameOf := by
  refine ok_mk D sc_name_of (fun _ _ _ _ _ _ us hl => match us, hl with | [_], _ => rfl) (fun vs H Q E h => ?_) (fun f cdv A outer s H vs Q E hr h => ?_)
  · obtain ⟨l, rfl, _⟩ := h
    rfl
  · obtain ⟨l, rfl, ok, q⟩ := h
    have l1 := ok.1
    have l4 := ok.2.1
    refine ⟨_, 
    (pss_cons
      (ps_par (i := 1) (j := 2) (by rfl) sc_name_of.nd rfl rfl (by decide) rfl rfl (pa_cons (pe_lst pa_nil) (pa_cons (pv 0) pa_nil)) (by rfl))
    (pss_cons
      (ps_while PassesOwn.never (PW.pt (pw_and (pt_cmpR op_gt (pv 2) pe_int (nomark _)) (pw_and1 (pt_cmpR op_gt (pe_op op_mod (pv 2) (pe_gi T.BASE)) pe_int (nomark _)))))
        (pss_cons
          (ps_expr (pe_bm PySem.F.plainAttrs_list PySem.F.slot_list_append PySem.F.type_list_append mt_append (pv 1) (pa_cons (pe_ix ix_str (pe_gs T.LETTERS) (pe_op op_sub (pe_op op_mod (pv 2) (pe_gi T.BASE)) pe_int) (fun _ _ => rfl)) pa_nil)))
        (pss_one
          (ps_aug (i := 2) sc_name_of.nd rfl (.inl rfl) (pe_gi T.BASE) iop_fdiv))))
    (pss_cons
      (ps_if (PW.pt (pw_or (pt_cmpR op_ne (pv 2) pe_int (nomark _)) (pw_or1 (pt_not (pt_chain op_le op_le pe_int (pe_callB call_len_seq (by rfl) T.len PySem.boot_len (pa_cons (pv 1) pa_nil)) (pe_gi T.LONGEST))))))
        (pss_one
          ps_never)
        pss_nil)
    (pss_one
      (ps_ret (pe_join pe_str (pe_revL (pv 1))))))))
      , ?_⟩
    refine ⟨Nat.zero_le _, fun p hp => ⟨_, rfl, _, _, rfl, ?_⟩⟩
    refine while_by (fun σ H2 => ∃ m, m ≤ l.length ∧ Same H H2 ∧ H2 p = some (.lst ((l.drop m).reverse.map fun d => V.str (signS d))) ∧ σ = [some (.int (nameNum l)), some (.ref p), some (.int (nameNum (l.take m)))])
      (fun σ _ => match σ with | [_, _, some (.int y)] => y.toNat | _ => 0) ⟨l.length, Nat.le_refl _, Same.new hp, by rw [upd_same, List.drop_length]; rfl, by rw [List.take_length]; rfl⟩ ?_ ?_
    · rintro σ H2 ⟨m, hm, s2, e2, rfl⟩
      have hp0 := nameNum_pos (l := l.take m) fun c hc => ok.2.2 c (List.mem_of_mem_take hc)
      refine ⟨_, rfl, _, _, rfl, rfl, _, rfl, ?_⟩
      cases m with
      | zero =>
        refine iteF (iteF ?_)
        refine ⟨_, rfl, rfl, _, rfl, iteNS rfl ⟨_, rfl, p, _, rfl, .inl (.of e2), _, _, rfl, rfl, _, rfl, ?_⟩⟩
        have hl : ((l.drop 0).reverse.map fun d => V.str (signS d)).length = l.length := by simp
        rw [hl, decide_eq_true (show (1 : Int) ≤ (l.length : Int) by omega)]
        refine iteT ⟨_, _, rfl, rfl, _, rfl, ?_⟩
        rw [decide_eq_true (show (l.length : Int) ≤ 4 by omega)]
        refine iteF ⟨⟨_, rfl⟩, _, rfl, p, _, rfl, .of e2, fun p2 hp2 => ⟨_, p2, l.map signS, rfl, rfl, .inl (.of ?_), ?_, ?_⟩⟩
        · rw [upd_same]
          simp
        · rw [signs_len, List.length_map]
          show l.length + l.length * 0 ≤ 16777216
          omega
        · rw [join_signs]
          exact q _ (s2.add hp2)
      | succ m =>
        have hml : m < l.length := hm
        have hd : l[m]? = some l[m] := List.getElem?_eq_getElem hml
        have d26 : l[m] < 26 := ok.2.2 _ (List.getElem_mem hml)
        have en := nameNum_take hd
        have hq0 := nameNum_pos (l := l.take m) fun c hc => ok.2.2 c (List.mem_of_mem_take hc)
        have e27 : nameNum (l.take (m + 1)) % 27 = (l[m] : Int) + 1 := by omega
        have ediv : nameNum (l.take (m + 1)) / 27 = nameNum (l.take m) := by omega
        rw [decide_eq_true (show (0 : Int) < nameNum (l.take (m + 1)) by omega)]
        refine iteT ⟨_, rfl, _, _, rfl, rfl, (by show (0 : Int) < 27; decide), _, _, rfl, rfl, _, rfl, ?_⟩
        rw [decide_eq_true (show (0 : Int) < nameNum (l.take (m + 1)) % 27 by omega)]
        refine iteT ?_
        refine ⟨_, rfl, .inl ⟨rfl, _, .of e2⟩, _, rfl, _, _, rfl, rfl, (by show (0 : Int) < 27; decide), _, _, rfl, rfl, _, _, l[m] + 97, rfl, rfl, (by decide +kernel), ?_, p, _, _, rfl, rfl, e2, ?_, ?_⟩
        · rw [e27, show (l[m] : Int) + 1 - 1 = (l[m] : Int) by omega]
          exact letter_at d26
        · simp only [List.length_map, List.length_reverse, List.length_drop]
          exact small (by omega)
        · -- rest //= BASE
          refine ⟨_, rfl, _, _, rfl, rfl, ⟨by decide, by decide⟩, ⟨m, by omega, s2.mut hp, ?_, ?_⟩, ?_⟩
          · rw [upd_same, List.drop_eq_getElem_cons hml, List.reverse_cons, List.map_append]
            rfl
          · show [some (V.int (nameNum l)), some (V.ref p), some (V.int (nameNum (l.take (m + 1)) / 27))] = _
            rw [ediv]
          · show (nameNum (l.take (m + 1)) / 27).toNat < (nameNum (l.take (m + 1))).toNat
            omega
    · rintro σ H2 Q1 Q2 mono ⟨v, e, i, j, e1, e2, k, e3, z⟩
      refine ⟨v, e, i, j, e1, e2, k, e3, ?_⟩
      cases k with
      | false => exact mono _ _ z
      | true =>
        obtain ⟨v2, e4, i2, j2, e5, e6, c0, i3, j3, e7, e8, k2, e9, z2⟩ := z
        exact ⟨v2, e4, i2, j2, e5, e6, c0, i3, j3, e7, e8, k2, e9, mono _ _ z2⟩
end
end K21
namespace K21
open PySem PySem.Spec PyProof.Rows L2 TL
theorem divp_of {i j : Int} (hj : 0 < j) (h : i.natAbs < 2 ^ 2102) : CDivP i j := divp_ok hj (Nat.le_trans (PyProof.Rows.intBits_le h) (Nat.le_trans (by decide : 2102 ≤ 4000) (Nat.le_add_left _ _)))
theorem bits_small {i : Int} (h0 : 0 ≤ i) (h : i < 18446744073709551616) : i.natAbs < 2 ^ 2102 := by
  have h1 : i.natAbs < 2 ^ 64 := by omega
  exact Nat.lt_of_lt_of_le h1 (Nat.pow_le_pow_right (by decide) (by decide))
theorem words_ati {w : Nat} (h : w < 5) : atI [V.str "load", .str "set", .str "end", .str "late", .str "reset"] (w : Int) = some (.str (wordS w)) := by
  have key : ∀ w : Fin 5, atI [V.str "load", .str "set", .str "end", .str "late", .str "reset"] (w.1 : Int) = some (.str (wordS w.1)) := by decide +kernel
  exact key ⟨w, h⟩
section
variable {P : Program} {w : World} {K : PySem.W.Frag} {mg : Str → Option Value} {base : Heap}
/-! ### row_with -/
def spRowWith (K : PySem.W.Frag) : Sp := fun vs H Q _ => ∃ r : Row, vs = [.int (rowNum r), .int 0] ∧ r.Ok ∧ ∀ (p : Addr) (H' : Hp), Same H H' → SqT K H' p [.int 0, .str (wordS r.w), .str (nameS r.n), .int r.k] → Q (.ref p) H'
theorem sc_row_with : FnScope ["number", "board", "head", "note", "spelled", "place", "word", "name"] ["number", "board"] d_row_with.scope := ⟨rfl, rfl, rfl, by decide +kernel, rfl, by decide +kernel, by decide +kernel⟩
theorem ok_row_with (T : Tx K mg) (D : Fd K mg d_row_with) (h_is_noted : Ok P w K mg base 2 "is_noted" ["word", "note"] spNoted) (h_name_of : Ok P w K mg base 1 "name_of" ["number"] spNameOf) : Ok P w K mg base 3 "row_with" ["number", "board"] (spRowWith K) := by
  refine ok_mk D sc_row_with (fun _ _ _ _ _ _ us hl => match us, hl with | [_, _], _ => rfl) (fun vs H Q E h => ?_) (fun f cdv A outer s H vs Q E hr h => ?_)
  · obtain ⟨r, rfl, _⟩ := h
    rfl
  · obtain ⟨r, rfl, ok, q⟩ := h
    have nb := nameNum_bound ok.n
    have rb := rowNum_bound ok
    have w5 := ok.w
    have k0 := ok.k0
    have k2 := ok.k2
    have e1 : rowNum r / 9973 = nameNum r.n * 5 + r.w := by
      unfold rowNum
      omega
    have e2 : rowNum r % 9973 = r.k := by
      unfold rowNum
      omega
    refine ⟨_, 
    (pss_cons
      (ps_asg (pe_callB call_divmodW (by rfl) T.divmod (by decide +kernel) (pa_cons (pv 0) (pa_cons (pe_gi T.NOTES) pa_nil))) (pg_tup rfl (pgs_cons (pg_name (i := 2) sc_row_with.nd rfl (.inl rfl)) (pgs_cons (pg_name (i := 3) sc_row_with.nd rfl (.inl rfl)) pgs_nil))))
    (pss_cons
      (ps_asg (pe_callB call_divmodW (by rfl) T.divmod (by decide +kernel) (pa_cons (pv 2) (pa_cons (pe_callB call_len_seq (by rfl) T.len PySem.boot_len (pa_cons (pe_gt T.WORDS) pa_nil)) pa_nil))) (pg_tup rfl (pgs_cons (pg_name (i := 4) sc_row_with.nd rfl (.inl rfl)) (pgs_cons (pg_name (i := 5) sc_row_with.nd rfl (.inl rfl)) pgs_nil))))
    (pss_cons
      (ps_set (i := 6) sc_row_with.nd rfl (.inl rfl) (pe_ix ix_tup (pe_gt T.WORDS) (pv 5) (fun _ _ => rfl)))
    (pss_cons
      (ps_if (PW.pt (pw_or (pt_cmpR op_lt (pv 0) pe_int (nomark _)) (pw_or1 (pt_not (pt_val (pe_f h_is_noted hr (pa_cons (pv 6) (pa_cons (pv 3) pa_nil))))))))
        (pss_one
          ps_never)
        pss_nil)
    (pss_cons
      (ps_try_thru0
        (pss_one
          (ps_set (i := 7) sc_row_with.nd rfl (.inl rfl) (pe_f h_name_of hr (pa_cons (pv 4) pa_nil)))))
    (pss_one
      (ps_ret (pe_tup (pa_cons (pv 1) (pa_cons (pv 6) (pa_cons (pv 7) (pa_cons (pv 3) pa_nil))))))))))))
      , ?_⟩
    refine ⟨_, rfl, _, _, rfl, divp_of (by decide) (bits_small (by omega) (by omega)), fun p hp => ?_⟩
    rw [e1, e2]
    refine ⟨p, _, rfl, .of upd_same, rfl, _, _, rfl, _, _, rfl, rfl, ?_⟩
    refine ⟨_, rfl, _, _, rfl, .inr (T.WORDS.2 _), _, _, rfl, divp_of (by decide) (bits_small (by omega) (by omega)), fun p2 hp2 => ?_⟩
    have e3 : (nameNum r.n * 5 + (r.w : Int)) / (([V.str "load", V.str "set", V.str "end", V.str "late", V.str "reset"] : List V).length : Int) = nameNum r.n := by
      show (nameNum r.n * 5 + (r.w : Int)) / 5 = nameNum r.n
      omega
    have e4 : (nameNum r.n * 5 + (r.w : Int)) % (([V.str "load", V.str "set", V.str "end", V.str "late", V.str "reset"] : List V).length : Int) = (r.w : Int) := by
      show (nameNum r.n * 5 + (r.w : Int)) % 5 = (r.w : Int)
      omega
    rw [e3, e4]
    have s2 := ((Same.new (o := .tup [.int (nameNum r.n * 5 + r.w), .int r.k]) hp)).add (o := .tup [.int (nameNum r.n), .int (r.w : Int)]) hp2
    refine ⟨p2, _, rfl, .of upd_same, rfl, _, _, rfl, _, _, rfl, rfl, ?_⟩
    refine ⟨_, rfl, _, _, _, _, rfl, rfl, T.WORDS.2 _, words_ati w5, ?_⟩
    refine ⟨_, rfl, _, _, rfl, rfl, _, rfl, ?_⟩
    rw [decide_eq_false (show ¬ rowNum r < 0 by omega)]
    refine iteF ⟨_, rfl, _, rfl, r, ok, rfl, true, rfl, iteF ?_⟩
    refine ⟨_, rfl, r.n, rfl, ok.n, fun H3 s3 => ?_⟩
    refine ⟨_, rfl, _, rfl, _, rfl, _, rfl, Nat.le_of_ble_eq_true rfl, fun p4 hp4 => ?_⟩
    exact q p4 _ ((s2.trans s3).add hp4) (.of upd_same)
/-! ### figures_of -/
def figD (rs : List Row) : List V := rs.map fun r => V.int (rowNum r + 1)
def spFigures (K : PySem.W.Frag) : Sp := fun vs H Q _ => ∃ (b0 : Int) (rs : List Row), vs = [.int (wideOf b0 rs)] ∧ 1 ≤ b0 ∧ b0 ≤ 2 ∧ OkRows rs ∧ rs.length ≤ 60 ∧
  ∀ (p p2 : Addr) (H' : Hp), Same H H' → SqT K H' p [.int b0, .ref p2] → SqL K H' p2 (figD rs) → Q (.ref p) H'
theorem sc_figures_of : FnScope ["value", "figures", "here", "figure"] ["value"] d_figures_of.scope := ⟨rfl, rfl, rfl, by decide +kernel, rfl, by decide +kernel, by decide +kernel⟩
theorem ok_figures_of (T : Tx K mg) (D : Fd K mg d_figures_of) : Ok P w K mg base 1 "figures_of" ["value"] (spFigures K) := by
  refine ok_mk D sc_figures_of (fun _ _ _ _ _ _ us hl => match us, hl with | [_], _ => rfl) (fun vs H Q E h => ?_) (fun f cdv A outer s H vs Q E hr h => ?_)
  · obtain ⟨b0, rs, rfl, _⟩ := h
    rfl
  · obtain ⟨b0, rs, rfl, hb1, hb2, ok, hl, q⟩ := h
    refine ⟨_, 
    (pss_cons
      (ps_set (i := 1) sc_figures_of.nd rfl (.inl rfl) (pe_lst pa_nil))
    (pss_cons
      (ps_set (i := 2) sc_figures_of.nd rfl (.inl rfl) (pv 0))
    (pss_cons
      (ps_while PassesOwn.never (pt_cmpR op_gt (pv 2) (pe_gi T.RESET_BEGIN) (nomark _))
        (pss_cons
          (ps_asg (pe_callB call_divmodW (by rfl) T.divmod (by decide +kernel) (pa_cons (pv 2) (pa_cons (pe_gi T.SPAN) pa_nil))) (pg_tup rfl (pgs_cons (pg_name (i := 2) sc_figures_of.nd rfl (.inl rfl)) (pgs_cons (pg_name (i := 3) sc_figures_of.nd rfl (.inl rfl)) pgs_nil))))
        (pss_one
          (ps_expr (pe_bm PySem.F.plainAttrs_list PySem.F.slot_list_append PySem.F.type_list_append mt_append (pv 1) (pa_cons (pv 3) pa_nil))))))
    (pss_one
      (ps_ret (pe_tup (pa_cons (pv 2) (pa_cons (pe_revL (pv 1)) pa_nil))))))))
      , ?_⟩
    refine ⟨Nat.zero_le _, fun p hp => ⟨_, rfl, ?_⟩⟩
    refine while_by (fun σ H2 => ∃ m z, m ≤ rs.length ∧ Same H H2 ∧ H2 p = some (.lst (figD (rs.drop m)).reverse) ∧ σ = [some (.int (wideOf b0 rs)), some (.ref p), some (.int (wideOf b0 (rs.take m))), z])
      (fun σ _ => match σ with | [_, _, some (.int y), _] => y.toNat | _ => 0) ⟨rs.length, none, Nat.le_refl _, Same.new hp, by rw [upd_same, List.drop_length]; rfl, by rw [List.take_length]; rfl⟩ ?_
      (fun σ H Q Q' m ⟨v, e, i, j, e1, e2, k, e3, z⟩ => ⟨v, e, i, j, e1, e2, k, e3, m _ _ z⟩)
    rintro σ H2 ⟨m, z, hm, s2, e2, rfl⟩
    refine ⟨_, rfl, _, _, rfl, rfl, _, rfl, ?_⟩
    cases m with
    | zero =>
      rw [decide_eq_false (show ¬ (2 : Int) < wideOf b0 (rs.take 0) by show ¬ (2 : Int) < b0; omega)]
      refine iteF ⟨_, rfl, _, rfl, p, _, rfl, .of e2, fun p2 hp2 => ⟨Nat.le_of_ble_eq_true rfl, fun p3 hp3 => ?_⟩⟩
      have np : p2 ≠ p3 := ne_of_none upd_same hp3
      refine q p3 p2 _ ((s2.add hp2).add hp3) (.of upd_same) (.of ?_)
      rw [upd_ne np, upd_same, List.reverse_reverse]
      rfl
    | succ m =>
      have hml : m < rs.length := hm
      have hd : rs[m]? = some rs[m] := List.getElem?_eq_getElem hml
      have okr := ok _ (List.getElem_mem hml)
      have rb := rowNum_bound okr
      have okt : OkRows (rs.take m) := fun r hr => ok r (List.mem_of_mem_take hr)
      have okt2 : OkRows (rs.take (m + 1)) := fun r hr => ok r (List.mem_of_mem_take hr)
      have wp := wideOf_pos hb1 okt
      have en := wideOf_take (b0 := b0) hd
      have eb := wideOf_bits hb1 hb2 okt2 (by rw [List.length_take]; omega)
      have ediv : wideOf b0 (rs.take (m + 1)) / 26500305465 = wideOf b0 (rs.take m) := by omega
      have emod : wideOf b0 (rs.take (m + 1)) % 26500305465 = rowNum rs[m] + 1 := by omega
      rw [decide_eq_true (show (2 : Int) < wideOf b0 (rs.take (m + 1)) by omega)]
      refine iteT ⟨_, rfl, _, _, rfl, divp_of (by decide) eb, fun p2 hp2 => ?_⟩
      rw [ediv, emod]
      have np : p ≠ p2 := ne_of_none e2 hp2
      refine ⟨p2, _, rfl, .of upd_same, rfl, _, _, rfl, _, _, rfl, rfl, ?_⟩
      have e3 : (upd H2 p2 (.tup [.int (wideOf b0 (rs.take m)), .int (rowNum rs[m] + 1)])) p = some (.lst (figD (rs.drop (m + 1))).reverse) := by
        rw [upd_ne np]
        exact e2
      refine ⟨_, rfl, .inl ⟨rfl, _, .of e3⟩, _, rfl, p, _, _, rfl, rfl, e3, ?_, ⟨m, _, by omega, (s2.add hp2).mut hp, ?_, rfl⟩, ?_⟩
      · unfold figD
        simp only [List.length_map, List.length_reverse, List.length_drop]
        exact small (by omega)
      · rw [upd_same, List.drop_eq_getElem_cons hml]
        unfold figD
        rw [List.map_cons, List.reverse_cons]
      · show (wideOf b0 (rs.take m)).toNat < (wideOf b0 (rs.take (m + 1))).toNat
        omega
/-! ### row_behind (of reading) -/
def spBehindR (K : PySem.W.Frag) : Sp := fun vs H Q _ => ∃ (v0 : V) (r : Row), vs = [v0, .int (rowNum r + 1)] ∧ r.Ok ∧ r.w ≠ 4 ∧ ∀ (v : V) (H' : Hp), Same H H' → Dp K H' v (tripD r) → Q v H'
theorem sc_row_behind_reading : FnScope ["value", "figure", "board", "word", "rest"] ["value", "figure"] d_row_behind_reading.scope := ⟨rfl, rfl, rfl, by decide +kernel, rfl, by decide +kernel, by decide +kernel⟩
theorem ok_row_behind_reading (T : Tx K mg) (D : Fd K mg d_row_behind_reading) (h_row_with : Ok P w K mg base 3 "row_with" ["number", "board"] (spRowWith K)) : Ok P w K mg base 4 "row_behind_reading" ["value", "figure"] (spBehindR K) := by
  refine ok_mk D sc_row_behind_reading (fun _ _ _ _ _ _ us hl => match us, hl with | [_, _], _ => rfl) (fun vs H Q E h => ?_) (fun f cdv A outer s H vs Q E hr h => ?_)
  · obtain ⟨v0, r, rfl, _⟩ := h
    rfl
  · obtain ⟨v0, r, rfl, ok, h4, q⟩ := h
    refine ⟨_, 
    (pss_cons
      (ps_try_thru0
        (pss_one
          (ps_asg (pe_f h_row_with hr (pa_cons (pe_op op_sub (pv 1) pe_int) (pa_cons pe_int pa_nil))) (pg_star (n := 2) rfl (pgs_cons (pg_name (i := 2) sc_row_behind_reading.nd rfl (.inl rfl)) (pgs_cons (pg_name (i := 3) sc_row_behind_reading.nd rfl (.inl rfl)) (pgs_cons (pg_name (i := 4) sc_row_behind_reading.nd rfl (.inl rfl)) pgs_nil)))))))
    (pss_cons
      (ps_if (pt_cmpR op_eq (pv 3) (pe_gs T.RESET_reading) (nomark _))
        (pss_one
          ps_never)
        pss_nil)
    (pss_one
      (ps_ret (pe_op op_catA (pe_tup (pa_cons (pv 3) pa_nil)) (pe_callTy call_tuple_of (by rfl) T.tuple (by decide +kernel) (pa_cons (pv 4) pa_nil)))))))
      , ?_⟩
    refine ⟨_, rfl, _, _, rfl, rfl, r, ?_, ok, fun p H1 s1 hT => ?_⟩
    · show [V.int (rowNum r + 1 - 1), V.int 0] = _
      rw [show rowNum r + 1 - 1 = rowNum r by omega]
    refine ⟨p, _, rfl, hT, Nat.le_of_ble_eq_true rfl, fun p2 hp2 => ⟨_, _, rfl, _, _, rfl, _, _, rfl, rfl, ?_⟩⟩
    have e4 : decide (V.str (wordS r.w) = V.str "reset") = false := by
      refine decide_eq_false fun z => h4 ?_
      exact wordS_inj ok.w (by decide) (V.str.inj z)
    refine ⟨_, rfl, rfl, _, rfl, ?_⟩
    rw [e4]
    refine iteF ?_
    have s2 := s1.add (o := .lst [.str (nameS r.n), .int r.k]) hp2
    refine ⟨_, rfl, Nat.le_of_ble_eq_true rfl, fun p3 hp3 => ?_⟩
    have n23 : p2 ≠ p3 := ne_of_none upd_same hp3
    refine ⟨_, rfl, p2, _, rfl, .inl ⟨.of (by rw [upd_ne n23, upd_same]), fun p4 hp4 => ?_⟩⟩
    have n34 : p3 ≠ p4 := ne_of_none upd_same hp4
    refine ⟨p3, p4, [.str (wordS r.w)], [.str (nameS r.n), .int r.k], rfl, rfl, .of (by rw [upd_ne n34, upd_same]), .of upd_same, Nat.le_of_ble_eq_true rfl, (fun z => nomatch z), (fun _ z => nomatch z), fun _ _ p5 hp5 => ?_⟩
    exact q _ _ (((s2.add hp3).add hp4).add hp5) (trip_mk (.of upd_same))
/-! ### read -/
/-- what is told of a wide board -/
def readD (reset : Bool) (rs : List Row) : PyData := .tuple [.bool reset, .list (rs.map tripD)]
def spRead (K : PySem.W.Frag) : Sp := fun vs H Q _ => ∃ (b : Bool) (rs : List Row), vs = [.int (wideOf (beginOf b) rs)] ∧ OkRows rs ∧ (∀ r ∈ rs, r.w ≠ 4) ∧ rs.length ≤ 60 ∧ ∀ (t l : Addr) (xs : List V) (H' : Hp), Same H H' → H l = none → SqT K H' t [.bl b, .ref l] → SqL K H' l xs → DpAll K H' xs (rs.map tripD) → Q (.ref t) H'
theorem sc_read : FnScope ["value", "begin", "figures", "figure"] ["value"] d_read.scope := ⟨rfl, rfl, rfl, by decide +kernel, rfl, by decide +kernel, by decide +kernel⟩
theorem trips_at {rs : List Row} {i : Nat} {r : Row} (h : rs[i]? = some r) : (rs.take (i + 1)).map tripD = (rs.take i).map tripD ++ [tripD r] := by
  rw [List.take_add_one, h, List.map_append]
  rfl
theorem ok_read (T : Tx K mg) (D : Fd K mg d_read) (h_figures_of : Ok P w K mg base 1 "figures_of" ["value"] (spFigures K)) (h_row_behind_reading : Ok P w K mg base 4 "row_behind_reading" ["value", "figure"] (spBehindR K)) : Ok P w K mg base 5 "read" ["value"] (spRead K) := by
  refine ok_mk D sc_read (fun _ _ _ _ _ _ us hl => match us, hl with | [_], _ => rfl) (fun vs H Q E h => ?_) (fun f cdv A outer s H vs Q E hr h => ?_)
  · obtain ⟨b, rs, rfl, _⟩ := h
    rfl
  · obtain ⟨b, rs, rfl, ok, h4, hl, q⟩ := h
    have hb : 1 ≤ beginOf b ∧ beginOf b ≤ 2 := by cases b <;> decide
    refine ⟨_, 
    (pss_cons
      (ps_asg (pe_f h_figures_of hr (pa_cons (pv 0) pa_nil)) (pg_tup rfl (pgs_cons (pg_name (i := 1) sc_read.nd rfl (.inl rfl)) (pgs_cons (pg_name (i := 2) sc_read.nd rfl (.inl rfl)) pgs_nil))))
    (pss_cons
      (ps_if (pt_cmpR op_notIn2 (pv 1) (pe_tup (pa_cons (pe_gi T.PLAIN_BEGIN) (pa_cons (pe_gi T.RESET_BEGIN) pa_nil))) rfl)
        (pss_one
          ps_never)
        pss_nil)
    (pss_one
      (ps_ret (pe_tup (pa_cons (pe_cmpR op_eq (pv 1) (pe_gi T.RESET_BEGIN) (nomark _)) (pa_cons (pe_lc rfl sc_read.nd (pi_list (pv 2)) (blkOk_by (N := ["value", "begin", "figures", "figure"]) (sc := d_read.scope) (own := [("figure", 3)]) (by decide +kernel)) (fun _ _ _ _ _ => (pg_name (i := 3) sc_read.nd rfl (.inl rfl))) (fun _ _ _ _ _ => pts_nil) (fun _ _ _ _ _ => (pe_f h_row_behind_reading hr (pa_cons (pv 0) (pa_cons (pv 3) pa_nil))))) pa_nil)))))))
      , ?_⟩
    refine ⟨_, rfl, beginOf b, rs, rfl, hb.1, hb.2, ok, hl, fun p p2 H1 s1 hT hL => ?_⟩
    refine ⟨p, _, rfl, hT, rfl, _, _, rfl, _, _, rfl, rfl, ?_⟩
    refine ⟨_, rfl, Nat.le_of_ble_eq_true rfl, fun p3 hp3 => ?_⟩
    have s2 := s1.add (o := .tup [.int 1, .int 2]) hp3
    refine ⟨p3, _, rfl, .inr (.of upd_same), rfl, rfl, _, rfl, ?_⟩
    have e1 : (!inV (.int (beginOf b)) [.int 1, .int 2]) = false := by cases b <;> rfl
    rw [e1]
    refine iteF ⟨_, rfl, rfl, _, rfl, p2, rfl, ⟨_, (Same.new hp3).seq hL⟩, fun D hD => ?_⟩
    have e2 : decide (V.int (beginOf b) = V.int 2) = b := by cases b <;> rfl
    rw [e2]
    have hL2 := (Same.new (o := .tup [.int 1, .int 2]) hp3).seq hL
    refine lc_it walk_list (fun i H2 => Same (upd H1 p3 (.tup [.int 1, .int 2])) H2 ∧ ∃ acc, H2 D = some (.lst acc) ∧ DpAll K H2 acc ((rs.take i).map tripD)) ⟨Same.new hD, [], upd_same, .nil⟩ (fun i H2 _ h => h.1.seq hL2) ?_ ?_
    · rintro i x H2 _ hi ⟨s3, acc, e3, da⟩ ⟨rfl, hx⟩
      have hi2 : i < rs.length := by
        unfold figD at hi
        rw [List.length_map] at hi
        exact hi
      have hri : rs[i]? = some rs[i] := List.getElem?_eq_getElem hi2
      unfold figD at hx
      rw [List.getElem?_map, hri] at hx
      cases Option.some.inj hx
      have mem := List.getElem_mem hi2
      refine ⟨rfl, _, rfl, _, rfl, _, rs[i], rfl, ok _ mem, h4 _ mem, fun v H4 s4 dv => ?_⟩
      have nD : H4 D = some (.lst acc) := s4 _ _ e3
      have la := da.length
      rw [List.length_map, List.length_take] at la
      refine ⟨acc, nD, small (by omega), (s3.trans s4).mut hD, acc ++ [v], upd_same, ?_⟩
      rw [trips_at hri]
      have da4 := (da.same s4).append (.one dv)
      refine dpAllKeepT (fun a xs h => (Ke.set D H4 _).seqT nD h) (noLs_of fun d hd => ?_) da4
      rcases List.mem_append.mp hd with hd | hd
      · obtain ⟨r, _, rfl⟩ := List.mem_map.mp hd
        exact tripD_noL r
      · rw [List.mem_singleton.mp hd]
        exact tripD_noL _
    · rintro H2 ⟨s3, acc, e3, da⟩
      have et : (rs.take (figD rs).length).map tripD = rs.map tripD := by
        unfold figD
        rw [List.length_map, List.take_length]
      rw [et] at da
      refine ⟨Nat.le_of_ble_eq_true rfl, fun p4 hp4 => ?_⟩
      refine q p4 D acc _ ((s2.trans s3).add hp4) (s2.free hD) (.of upd_same) (.of ?_) (da.same (Same.new hp4))
      rw [upd_ne (ne_of_none e3 hp4)]
      exact e3
end
end K21
namespace K21
open PySem PySem.Spec PyProof.Rows L2 TL
/-! ### a def with keyword-only defaults: its body once, its calls by their shapes -/
structure OkD (P : Program) (w : World) (K : PySem.W.Frag) (mg : Str → Option Value) (base : Heap) (k : Nat) (d : He.DefD) (ps : List Str) (sp : Sp) : Prop where
  ex : ∃ fd, FnOk P w K mg base CX0 k (He.ga K d.at_.1) fd ps sp ∧ FunD K d.name d.qual d.params d.body d.scope [] (d.kws K) (He.ga K d.at_.1) fd
  g : mg d.at_.1 = some (.ref (He.ga K d.at_.1))
section
variable {P : Program} {w : World} {K : PySem.W.Frag} {mg : Str → Option Value} {base : Heap}
theorem okd_mk {d : He.DefD} {N ps : List Str} {k : Nat} {sp : Sp} (D : Fd K mg d) (S : FnScope N ps d.scope)
    (len : ∀ vs H Q E, sp vs H Q E → vs.length = ps.length)
    (hb : ∀ (f : Addr) (cdv : Value) (A : Around) (outer : List Env) (s : Shared) (H : Hp) (vs : List V) (Q : VK) (E : XK), Room k (A.deeper (envOfC d.qual d.scope s.heap.objs.size f cdv)) → sp vs H Q E →
      ∃ t, PSs (cxOf CX0 P w K mg base N d.qual d.scope f cdv A outer s H E).nox d.body t ∧ t { nx := fun _ H' => Q .non H', rt := Q } (start N vs) H)
    (hd : d.dfl = [] := by rfl) (hm : d.at_.2 = none := by rfl) : OkD P w K mg base (k + 1) d ps sp := by
  obtain ⟨fd, F⟩ := D.fn
  have e1 : d.dvs K = [] := by
    unfold He.DefD.dvs
    rw [hd]
    rfl
  have e2 : He.fAd K d.at_ = He.ga K d.at_.1 := by
    unfold He.fAd
    rw [hm]
  rw [e1, e2] at F
  exact ⟨⟨fd, body_ok F S len (hb _), F⟩, D.g⟩
theorem vals_rev : ∀ {vs : List V} {us : List Value}, Vals vs us → Vals vs.reverse us.reverse
  | _, _, .nil => .nil
  | _, _, .cons r t => by
    rw [List.reverse_cons, List.reverse_cons]
    exact (vals_rev t).append (.cons r .nil)
/-- a call that gives all keyword-only parameters, in any order -/
theorem OkD.k {d : He.DefD} {ps : List Str} {k : Nat} {sp : Sp} (h : OkD P w K mg base k d ps sp) (n : Nat) (ks : List Str) (g : {α : Type} → List α → List α → List α)
    (hrel : ∀ {vs zs : List V} {us ws : List Value}, Vals vs us → Vals zs ws → Vals (g vs zs) (g us ws))
    (hb : ∀ (D : Addr) (doc pm : Value) (an : Option Addr) (cdv ct : Value) (us ws : List Value), us.length = n → ws.length = ks.length →
      bindArgs (PySem.W.fnOf d.name d.qual d.params d.body d.scope .none (.ref D) doc pm an cdv ct) ⟨us, ks.zip ws⟩ = pure (ps.zip (g us ws)))
    (hk : d.kws K ≠ [] := by intro z; cases z) : OkK P w K mg base k d.at_.1 ps sp n ks (fun vs zs => g vs zs) := by
  obtain ⟨fd, F, D⟩ := h.ex
  obtain ⟨mv, B⟩ := D.kbinds0 (ps := ps) n ks [] (fun us _ ws => g us ws) hk (fun q hq => by cases hq) (fun r1 _ r3 => hrel r1 r3) (fun D doc pm an cdv ct us mv ws l1 _ l3 => hb D doc pm an cdv ct us ws l1 l3)
  exact ⟨_, fd, _, F, B, D.kp, h.g⟩

/-! ### a list or a tuple -/
def SqA (K : PySem.W.Frag) (H : Hp) (a : Addr) (vs : List V) : Prop := SqL K H a vs ∨ SqT K H a vs
theorem SqA.same {H H' : Hp} {a : Addr} {vs : List V} (e : Same H H') (h : SqA K H a vs) : SqA K H' a vs := h.imp e.seq e.seqT
def LogA (K : PySem.W.Frag) (H : Hp) (a : Addr) (rs : List Row) : Prop := ∃ vs, SqA K H a vs ∧ DpAll K H vs (rs.map rowD)
theorem LogA.same {H H' : Hp} {a : Addr} {rs : List Row} (e : Same H H') (h : LogA K H a rs) : LogA K H' a rs := by
  obtain ⟨vs, h1, h2⟩ := h
  exact ⟨vs, h1.same e, h2.same e⟩
theorem LogAt.a {H : Hp} {a : Addr} {rs : List Row} (h : LogAt K H a rs) : LogA K H a rs := by
  obtain ⟨vs, h1, h2⟩ := h.inv
  exact ⟨vs, .inl h1, h2⟩
/-- for i, x in enumerate(xs), xs in a slot: a list or a tuple -/
theorem for_enumA {j : Nat} {g : TG} {tb : TS} {D : Ends} {σ : L2.St} {H H0 : Hp} {a : Addr} {vs : List V} (hv : σ[j]? = some (some (.ref a))) (h : SqA K H0 a vs) (Pv : Nat → L2.St → Hp → Prop) (h0 : Pv 0 σ H) (hP : ∀ i σ' H', Pv i σ' H' → Same H0 H')
    (hs : ∀ i σ' H' t y, i < vs.length → vs[i]? = some y → Pv i σ' H' → H' t = none → g (.ref t) σ' (upd H' t (.tup [.int (i : Nat), y])) fun σ2 H2 => tb { D with nx := Pv (i + 1), ct := Pv (i + 1), bk := D.nx } σ2 H2) (hd : ∀ σ' H', Pv vs.length σ' H' → D.nx σ' H') :
    tFor (iEnumA K (tCons (tVar j) tNil)) g tb D σ H := by
  refine ⟨_, hv, a, vs, rfl, ?_⟩
  have key : ∀ (J : It) (G : Hp → Prop), Walk J vs.length G (YPair (fun i => some (.int (i : Nat))) (fun i => vs[i]?)) → (∀ H', Same H0 H' → G H') →
      ∃ W : Nat → Nat → L2.St → Hp → Prop, (∃ m, W 0 m σ H) ∧ ∀ i m σ H, W i m σ H →
        (J.stop i H ∧ D.nx σ H) ∨ (J.go i H ∧ ∃ N : L2.St → Hp → Prop, (∀ σ' H', N σ' H' → ∃ m', m' < m ∧ W (i + 1) m' σ' H') ∧ ∀ x H', J.yld i H x H' → g x σ H' fun σ2 H2 => tb { D with nx := N, ct := N, bk := D.nx } σ2 H2) := fun J G wk hG =>
    for_it wk Pv h0 (fun i σ' H' _ p => hG H' (hP i σ' H' p)) (fun i x σ' H' H'' hi p ⟨t, x1, y, e1, ht, e2, e3, e4⟩ => by
      cases Option.some.inj e3
      subst e1 e2
      exact hs i σ' H' t y hi e4 p ht) hd
  rcases h with h | h
  · exact .inl ⟨(hP _ _ _ h0).seq h, key _ _ walk_enum fun H' e => e.seq h⟩
  · exact .inr ⟨(hP _ _ _ h0).seqT h, key _ _ walk_enumT fun H' e => e.seqT h⟩
/-- for x in xs, xs in a slot: a list or a tuple -/
theorem for_any {j : Nat} {g : TG} {tb : TS} {D : Ends} {σ : L2.St} {H H0 : Hp} {a : Addr} {vs : List V} (hv : σ[j]? = some (some (.ref a))) (h : SqA K H0 a vs) (Pv : Nat → L2.St → Hp → Prop) (h0 : Pv 0 σ H) (hP : ∀ i σ' H', Pv i σ' H' → Same H0 H')
    (hs : ∀ i σ' H' y, i < vs.length → vs[i]? = some y → Pv i σ' H' → g y σ' H' fun σ2 H2 => tb { D with nx := Pv (i + 1), ct := Pv (i + 1), bk := D.nx } σ2 H2) (hd : ∀ σ' H', Pv vs.length σ' H' → D.nx σ' H') :
    tFor (iAny K (tVar j)) g tb D σ H := by
  refine ⟨_, hv, a, rfl, ?_⟩
  have key : ∀ (J : It) (G : Hp → Prop), Walk J vs.length G (YAt vs) → (∀ H', Same H0 H' → G H') →
      ∃ W : Nat → Nat → L2.St → Hp → Prop, (∃ m, W 0 m σ H) ∧ ∀ i m σ H, W i m σ H →
        (J.stop i H ∧ D.nx σ H) ∨ (J.go i H ∧ ∃ N : L2.St → Hp → Prop, (∀ σ' H', N σ' H' → ∃ m', m' < m ∧ W (i + 1) m' σ' H') ∧ ∀ x H', J.yld i H x H' → g x σ H' fun σ2 H2 => tb { D with nx := N, ct := N, bk := D.nx } σ2 H2) := fun J G wk hG =>
    for_it wk Pv h0 (fun i σ' H' _ p => hG H' (hP i σ' H' p)) (fun i x σ' H' H'' hi p ⟨e1, e2⟩ => by
      subst e1
      exact hs i σ' _ x hi e2 p) hd
  rcases h with h | h
  · exact .inl ⟨⟨vs, (hP _ _ _ h0).seq h⟩, key _ _ walk_list fun H' e => e.seq h⟩
  · exact .inr ⟨⟨vs, (hP _ _ _ h0).seqT h⟩, key _ _ walk_tup fun H' e => e.seqT h⟩
/-! ### can_stand -/
theorem behind_in {w : Nat} (h : w < 5) : inV (.str (wordS w)) [.str "late", .str "reset"] = decide (w = 3 ∨ w = 4) := by
  have key : ∀ w : Fin 5, inV (.str (wordS w.1)) [.str "late", .str "reset"] = decide (w.1 = 3 ∨ w.1 = 4) := by decide +kernel
  exact key ⟨w, h⟩
theorem word_reset {w : Nat} (h : w < 5) : decide (V.str (wordS w) = V.str "reset") = decide (w = 4) := by
  have key : ∀ w : Fin 5, decide (V.str (wordS w.1) = V.str "reset") = decide (w.1 = 4) := by decide +kernel
  exact key ⟨w, h⟩
theorem word_end {w : Nat} (h : w < 5) : decide (V.str (wordS w) = V.str "end") = decide (w = 2) := by
  have key : ∀ w : Fin 5, decide (V.str (wordS w.1) = V.str "end") = decide (w.1 = 2) := by decide +kernel
  exact key ⟨w, h⟩
def spCanStand (K : PySem.W.Frag) : Sp := fun vs H Q _ => ∃ (v : V) (r : Row) (e : Bool) (many fixed : Int), vs = [v, .bl e, .int many, .int fixed] ∧ r.Ok ∧ Dp K H v (rowD r) ∧ ∀ H', Same H H' → Q (.bl (canStand many fixed e r)) H'
theorem sc_can_stand : FnScope ["row", "ended", "many", "fixed"] ["row", "ended", "many", "fixed"] d_can_stand.scope := ⟨rfl, rfl, rfl, by decide +kernel, rfl, by decide +kernel, by decide +kernel⟩
theorem ok_can_stand (T : Tx K mg) (D : Fd K mg d_can_stand) (h_is_row : Ok P w K mg base 3 "is_row" ["thing"] (spRow K)) : Ok P w K mg base 4 "can_stand" ["row", "ended", "many", "fixed"] (spCanStand K) := by
  refine ok_mk D sc_can_stand (fun _ _ _ _ _ _ us hl => match us, hl with | [_, _, _, _], _ => rfl) (fun vs H Q E h => ?_) (fun f cdv A outer s H vs Q E hr h => ?_)
  · obtain ⟨v, r, e, many, fixed, rfl, _⟩ := h
    rfl
  · obtain ⟨v, r, e, many, fixed, rfl, ok, hv, q⟩ := h
    obtain ⟨a, rfl, hT⟩ := row_inv hv
    have w5 := ok.w
    refine ⟨_, 
    (pss_cons
      (ps_if (PW.pt (pw_or (pt_not (pt_val (pe_f h_is_row hr (pa_cons (pv 0) pa_nil)))) (pw_or1 (pt_cmpR op_ge (pe_ix ix_tup (pv 0) pe_int (fun _ _ => rfl)) (pv 2) (nomark _)))))
        (pss_one
          (ps_ret pe_bl))
        pss_nil)
    (pss_cons
      (ps_if (pt_cmpR op_ne (pe_cmpR op_in2 (pe_ix ix_tup (pv 0) pe_int (fun _ _ => rfl)) (pe_gt T.BEHIND_END) rfl) (pv 1) (nomark _))
        (pss_one
          (ps_ret pe_bl))
        pss_nil)
    (pss_one
      (ps_ret (pe_or (pe_cmpR op_ne (pe_ix ix_tup (pv 0) pe_int (fun _ _ => rfl)) (pe_gs T.RESET_logs) (nomark _)) (pe_one (pe_cmpR op_ge (pe_ix ix_tup (pv 0) pe_int (fun _ _ => rfl)) (pv 3) (nomark _))))))))
      , ?_⟩
    refine ⟨_, rfl, _, r, rfl, ok, hv, fun H1 s1 => ⟨true, rfl, iteF ?_⟩⟩
    have hT1 := s1.seqT hT
    have q1 := q H1 s1
    unfold canStand isBehind at q1
    refine ⟨_, rfl, a, _, _, _, rfl, rfl, hT1, at0, _, rfl, _, _, rfl, rfl, _, rfl, ?_⟩
    by_cases c1 : (r.b : Int) < many
    · rw [decide_eq_true c1, Bool.true_and] at q1
      rw [decide_eq_false (show ¬ many ≤ (r.b : Int) by omega)]
      refine iteF ⟨_, rfl, a, _, _, _, rfl, rfl, hT1, at1, _, _, rfl, .inr (T.BEHIND_END.2 _), rfl, rfl, _, rfl, rfl, _, rfl, ?_⟩
      rw [behind_in w5]
      have eb : (!decide (V.bl (decide (r.w = 3 ∨ r.w = 4)) = V.bl e)) = !(decide (r.w = 3 ∨ r.w = 4) == e) := by
        cases decide (r.w = 3 ∨ r.w = 4) <;> cases e <;> rfl
      rw [eb]
      cases c2 : (decide (r.w = 3 ∨ r.w = 4) == e) with
      | false =>
        rw [c2] at q1
        exact iteT q1
      | true =>
        rw [c2, Bool.true_and] at q1
        refine iteF ⟨_, rfl, a, _, _, _, rfl, rfl, hT1, at1, rfl, _, rfl, ?_⟩
        rw [word_reset w5]
        by_cases c3 : r.w = 4
        · rw [decide_eq_true c3]
          rw [decide_eq_false fun z => z c3, Bool.false_or] at q1
          exact iteF ⟨_, rfl, a, _, _, _, rfl, rfl, hT1, at0, _, rfl, _, _, rfl, rfl, q1⟩
        · rw [decide_eq_false c3]
          rw [decide_eq_true c3, Bool.true_or] at q1
          exact iteT q1
    · rw [decide_eq_false c1, Bool.false_and] at q1
      rw [decide_eq_true (show many ≤ (r.b : Int) by omega)]
      exact iteT q1
/-! ### fault -/
def faultV : Option Nat → V
  | none => .non
  | some i => .int (i : Nat)
theorem faultAt_cons (many fixed : Int) (e : Bool) (r : Row) (rs : List Row) (i : Nat) : faultAt many fixed e (r :: rs) i = if canStand many fixed e r = true then faultAt many fixed (e || isEnd r) rs (i + 1) else some i := rfl
def spFault (K : PySem.W.Frag) : Sp := fun vs H Q _ => ∃ (a : Addr) (rs : List Row) (many fixed : Int), vs = [.ref a, .int many, .int fixed] ∧ OkRows rs ∧ LogA K H a rs ∧ ∀ H', Same H H' → Q (faultV (faultAt many fixed false rs 0)) H'
theorem sc_fault : FnScope ["log", "many", "fixed", "ended", "place", "row"] ["log", "many", "fixed"] d_fault.scope := ⟨rfl, rfl, rfl, by decide +kernel, rfl, by decide +kernel, by decide +kernel⟩
theorem ok_fault (T : Tx K mg) (D : Fd K mg d_fault) (h_can_stand : Ok P w K mg base 4 "can_stand" ["row", "ended", "many", "fixed"] (spCanStand K)) : OkD P w K mg base 5 d_fault ["log", "many", "fixed"] (spFault K) := by
  refine okd_mk D sc_fault (fun vs H Q E h => ?_) (fun f cdv A outer s H vs Q E hr h => ?_)
  · obtain ⟨a, rs, many, fixed, rfl, _⟩ := h
    rfl
  · obtain ⟨a, rs, many, fixed, rfl, ok, ⟨vs, hS, hD⟩, q⟩ := h
    have hl := rows_len hD
    refine ⟨_, 
    (pss_cons
      (ps_set (i := 3) sc_fault.nd rfl (.inl rfl) pe_bl)
    (pss_cons
      (ps_for PassesOwn.never rfl (pi_enumA (by rfl) T.enumerate (pa_cons (pv 0) pa_nil)) (pg_tup rfl (pgs_cons (pg_name (i := 4) sc_fault.nd rfl (.inl rfl)) (pgs_cons (pg_name (i := 5) sc_fault.nd rfl (.inl rfl)) pgs_nil)))
        (pss_cons
          (ps_if (pt_not (pt_val (pe_f h_can_stand hr (pa_cons (pv 5) (pa_cons (pv 3) (pa_cons (pv 1) (pa_cons (pv 2) pa_nil)))))))
            (pss_one
              (ps_ret (pv 4)))
            pss_nil)
        (pss_one
          (ps_set (i := 3) sc_fault.nd rfl (.inl rfl) (pe_or (pv 3) (pe_one (pe_cmpR op_eq (pe_ix ix_tup (pv 5) pe_int (fun _ _ => rfl)) (pe_gs T.END) (nomark _))))))))
    (pss_one
      (ps_ret pe_non))))
      , ?_⟩
    refine for_enumA (j := 0) rfl hS (fun i σ H2 => Same H H2 ∧ ∃ (e : Bool) (z4 z5 : Option V), σ = [some (.ref a), some (.int many), some (.int fixed), some (.bl e), z4, z5] ∧ faultAt many fixed false rs 0 = faultAt many fixed e (rs.drop i) i)
      ⟨Same.refl H, false, none, none, rfl, rfl⟩ (fun i σ H2 h => h.1) ?_ ?_
    · rintro i σ H2 t x2 hi e2 ⟨s2, e, z4, z5, rfl, ef⟩ ht
      obtain ⟨r, er, hr2⟩ := rows_get (hD.same s2) e2
      have okr := ok r (List.mem_of_getElem? er)
      have hr3 := hr2.same (Same.new (o := .tup [.int (i : Nat), x2]) ht)
      obtain ⟨ra, rfl, hT⟩ := row_inv hr3
      have hir : i < rs.length := (List.getElem?_eq_some_iff.mp er).1
      have edr : rs.drop i = r :: rs.drop (i + 1) := by
        rw [List.drop_eq_getElem_cons hir]
        rw [(List.getElem?_eq_some_iff.mp er).2]
      rw [edr, faultAt_cons] at ef
      refine ⟨t, _, rfl, .of upd_same, rfl, _, _, rfl, _, _, rfl, rfl, ?_⟩
      refine ⟨_, rfl, _, rfl, _, rfl, _, rfl, _, r, e, many, fixed, rfl, okr, hr3, fun H4 s4 => ⟨_, rfl, ?_⟩⟩
      have s5 := (s2.add (o := .tup [.int (i : Nat), .ref ra]) ht).trans s4
      cases c : canStand many fixed e r with
      | false =>
        rw [c, if_neg Bool.false_ne_true] at ef
        refine iteT ⟨_, rfl, ?_⟩
        have q1 := q H4 s5
        rw [ef] at q1
        exact q1
      | true =>
        rw [c, if_pos rfl] at ef
        refine iteF ⟨_, rfl, e, rfl, ?_⟩
        cases e with
        | true => exact iteT ⟨s5, true, _, _, rfl, ef⟩
        | false =>
          refine iteF ⟨_, rfl, ra, _, _, _, rfl, rfl, s4.seqT hT, at1, rfl, ?_⟩
          refine ⟨s5, decide (r.w = 2), some (.int (i : Nat)), some (.ref ra), ?_, ef⟩
          rw [word_end okr.w]
          rfl
    · rintro σ H2 ⟨s2, e, z4, z5, rfl, ef⟩
      have q1 := q H2 s2
      rw [ef, hl, List.drop_length] at q1
      exact q1
end
end K21
namespace K21
open PySem PySem.Spec PyProof.Rows L2 TL
theorem ixN_nat {n j : Nat} (h : j < n) : ixN n (j : Int) = some j := by
  unfold ixN
  rw [if_pos (by omega), if_pos (by omega)]
  rfl
theorem eqvAll_ints : ∀ xs ys : List Int, PyData.eqvAll (xs.map PyData.int) (ys.map PyData.int) = decide (xs = ys)
  | [], [] => by
    show PyData.eqvAll [] [] = _
    rw [PyData.eqvAll, decide_eq_true rfl]
  | [], y :: ys => by
    show PyData.eqvAll [] (.int y :: ys.map PyData.int) = _
    rw [PyData.eqvAll, decide_eq_false fun z => by cases z]
  | x :: xs, [] => by
    show PyData.eqvAll (.int x :: xs.map PyData.int) [] = _
    rw [PyData.eqvAll, decide_eq_false fun z => by cases z]
  | x :: xs, y :: ys => by
    show PyData.eqvAll (.int x :: xs.map PyData.int) (.int y :: ys.map PyData.int) = _
    rw [PyData.eqvAll, eqvAll_ints xs ys, PyData.eqv]
    by_cases h : x = y
    · subst h
      by_cases h2 : xs = ys
      · subst h2
        simp
      · rw [decide_eq_false h2, decide_eq_false fun z => h2 (List.cons.inj z).2]
        simp
    · rw [decide_eq_false fun z => h (List.cons.inj z).1, beq_eq_false_iff_ne.mpr h]
      rfl
theorem eqv_ints (xs ys : List Int) : PyData.eqv (.list (xs.map PyData.int)) (.list (ys.map PyData.int)) = decide (xs = ys) := by
  rw [PyData.eqv]
  exact eqvAll_ints xs ys
theorem ints_sh (xs : List Int) : Sh 1 (.list (xs.map PyData.int)) := Sh.list fun d hd => by
  obtain ⟨i, _, rfl⟩ := List.mem_map.mp hd
  exact .int _ _
theorem MixOk.w3 {m : Mix} (h : MixOk m) : ∀ w, m.wd = some w → 3 ≤ w := fun w e => (h.w w e).1
section
variable {P : Program} {w : World} {K : PySem.W.Frag} {mg : Str → Option Value} {base : Heap}
/-! ### look_log -/
def spLook (K : PySem.W.Frag) : Sp := fun vs H Q _ => ∃ (a : Addr) (rs : List Row) (many fixed : Int), vs = [.ref a, .int many, .int fixed] ∧ OkRows rs ∧ LogA K H a rs ∧ stands many fixed false rs = true ∧ ∀ H', Same H H' → Q .non H'
theorem sc_look_log : FnScope ["log", "many", "fixed", "place"] ["log", "many", "fixed"] d_look_log.scope := ⟨rfl, rfl, rfl, by decide +kernel, rfl, by decide +kernel, by decide +kernel⟩
theorem ok_look_log (T : Tx K mg) (D : Fd K mg d_look_log) (h_fault_mf : OkK P w K mg base 5 "fault" ["log", "many", "fixed"] (spFault K) 1 ["many", "fixed"] (fun vs zs => vs ++ zs)) : Ok P w K mg base 6 "look_log" ["log", "many", "fixed"] (spLook K) := by
  refine ok_mk D sc_look_log (fun _ _ _ _ _ _ us hl => match us, hl with | [_, _, _], _ => rfl) (fun vs H Q E h => ?_) (fun f cdv A outer s H vs Q E hr h => ?_)
  · obtain ⟨a, rs, many, fixed, rfl, _⟩ := h
    rfl
  · obtain ⟨a, rs, many, fixed, rfl, ok, hL, st, q⟩ := h
    refine ⟨_, 
    (pss_cons
      (ps_set (i := 3) sc_look_log.nd rfl (.inl rfl) (pe_fk h_fault_mf hr (pa_cons (pv 0) pa_nil) (pk_cons (pv 1) (pk_cons (pv 2) pk_nil))))
    (pss_one
      (ps_if (pt_cmpR op_notN (pv 3) pe_non (nomark _))
        (pss_one
          ps_never)
        pss_nil)))
      , ?_⟩
    refine ⟨_, rfl, _, rfl, _, rfl, rfl, rfl, a, rs, many, fixed, rfl, ok, hL, fun H1 s1 => ?_⟩
    rw [(fault_stands many fixed rs false 0).mpr st]
    exact ⟨_, rfl, rfl, _, rfl, iteF (q H1 s1)⟩
/-! ### row_behind (of replays) -/
def spBehind (K : PySem.W.Frag) : Sp := fun vs H Q _ => ∃ (p b : Addr) (v : V) (m : Mix) (bs : List Int) (r : Row), vs = [.ref p, .ref b, v] ∧ MixOk m ∧ MixAt K H p m ∧ SqL K H b (bs.map V.int) ∧ LowB m bs ∧ r.Ok ∧ Dp K H v (rowD r) ∧ r.b < bs.length ∧
  ∀ (p' : Addr) (H' : Hp), Same H H' → H p' = none → H' p' = some (.lst ((stepB m bs r).map V.int)) → Q (.ref p') H'
theorem sc_row_behind_replays : FnScope ["mixing", "boards", "row", "board", "found"] ["mixing", "boards", "row"] d_row_behind_replays.scope := ⟨rfl, rfl, rfl, by decide +kernel, rfl, by decide +kernel, by decide +kernel⟩
theorem ok_row_behind_replays (T : Tx K mg) (D : Fd K mg d_row_behind_replays) (m_beginK : OkMK P w K mg base (mixC K) 1 "begin" ["self", "reset"] (spBegin K) ["reset"] (fun vs zs => vs ++ zs)) (m_mixed : OkM P w K mg base (mixC K) 3 "mixed" ["self", "value", "row"] [] (spMixed K)) :
    Ok P w K mg base 4 "row_behind_replays" ["mixing", "boards", "row"] (spBehind K) := by
  refine ok_mk D sc_row_behind_replays (fun _ _ _ _ _ _ us hl => match us, hl with | [_, _, _], _ => rfl) (fun vs H Q E h => ?_) (fun f cdv A outer s H vs Q E hr h => ?_)
  · obtain ⟨p, b, v, m, bs, r, rfl, _⟩ := h
    rfl
  · obtain ⟨p, b, v, m, bs, r, rfl, mo, hM, hB, low, ok, hv, hb, q⟩ := h
    obtain ⟨a, rfl, hT⟩ := row_inv hv
    refine ⟨_, 
    (pss_cons
      (ps_set (i := 3) sc_row_behind_replays.nd rfl (.inl rfl) (pe_ix ix_tup (pv 2) pe_int (fun _ _ => rfl)))
    (pss_cons
      (ps_set (i := 4) sc_row_behind_replays.nd rfl (.inl rfl) (pe_callTy call_list_of (by rfl) T.list (by decide +kernel) (pa_cons (pv 1) pa_nil)))
    (pss_cons
      (ps_asg (pe_ifExp (pt_cmpR op_eq (pe_ix ix_tup (pv 2) pe_int (fun _ _ => rfl)) (pe_gs T.RESET_logs) (nomark _)) (pe_mk m_beginK T.cl hr (pv 0) (pk_cons pe_bl pk_nil)) (pe_m m_mixed T.cl hr (pv 0) (pa_cons (pe_ix ix_list (pv 1) (pv 3) (fun _ _ => rfl)) (pa_cons (pv 2) pa_nil)))) (pg_sub (pv 4) (pv 3) set_list))
    (pss_one
      (ps_ret (pv 4))))))
      , ?_⟩
    refine ⟨_, rfl, a, _, _, _, rfl, rfl, hT, at0, ?_⟩
    refine ⟨_, rfl, b, _, rfl, .inl hB, fun l hl => ?_⟩
    have s1 : Same H (upd H l (.lst (bs.map V.int))) := Same.new hl
    have gb : bs[r.b]? = some bs[r.b] := List.getElem?_eq_getElem hb
    have fin : ∀ z : Int, (if r.w = 4 then 2 else mixed m (bs.getD r.b 0) r) = z → Q (.ref l) (upd (upd H l (.lst (bs.map V.int))) l (.lst ((bs.map V.int).set r.b (.int z)))) := by
      intro z hz
      refine q l _ (s1.mut hl) hl ?_
      rw [upd_same]
      unfold stepB
      rw [hz, List.map_set]
    have ix : ixN (bs.map V.int).length (r.b : Int) = some r.b := ixN_nat (by rw [List.length_map]; exact hb)
    obtain ⟨dx, hp⟩ := hM.same s1
    refine ⟨_, rfl, a, _, _, _, rfl, rfl, s1.seqT hT, at1, rfl, _, rfl, ?_⟩
    rw [word_reset ok.w]
    by_cases c : r.w = 4
    · rw [decide_eq_true c]
      refine iteT ⟨_, rfl, p, dx, _, rfl, hp, mixFs_no m (by decide +kernel) (by decide +kernel), rfl, _, true, rfl, ?_⟩
      refine ⟨_, rfl, _, rfl, l, _, _, r.b, rfl, rfl, upd_same, ix, _, rfl, ?_⟩
      exact fin 2 (if_pos c)
    · rw [decide_eq_false c]
      refine iteF ⟨_, rfl, p, dx, _, rfl, hp, mixFs_no m (by decide +kernel) (by decide +kernel), _, rfl, _, rfl, b, _, _, .int bs[r.b], rfl, rfl, s1.seq hB, ?_, _, rfl, ?_⟩
      · refine atI_nat ?_
        rw [List.getElem?_map, gb]
        rfl
      refine ⟨p, m, bs[r.b], _, r, rfl, mo, ⟨dx, hp⟩, ok, hv.same s1, ?_, ?_⟩
      · cases hw : m.wd with
        | none => exact .inl rfl
        | some x =>
          obtain ⟨l0, l1⟩ := low x hw _ (List.getElem_mem hb)
          have := (mo.w x hw).2.1
          exact .inr ⟨by omega, by omega⟩
      refine ⟨_, rfl, _, rfl, l, _, _, r.b, rfl, rfl, upd_same, ix, _, rfl, ?_⟩
      refine fin _ ?_
      rw [if_neg c, List.getD_eq_getElem?_getD, gb]
      rfl
/-! ### replays -/
def spReplays (K : PySem.W.Frag) : Sp := fun vs H Q _ => ∃ (p a : Addr) (m : Mix) (rs : List Row) (n : Nat) (fixed : Int), vs = [.ref p, .ref a, .int (n : Int), .int fixed] ∧ MixOk m ∧ MixAt K H p m ∧ OkRows rs ∧ rs.length ≤ 60 ∧ LogA K H a rs ∧ n ≤ 8 ∧ stands (n : Int) fixed false rs = true ∧
  ∀ (q b : Addr) (vs : List V) (H' : Hp), Same H H' → H' q = some (.lst (vs ++ [.ref b])) → H' b = some (.lst ((replayF m n rs).map V.int)) → Q (.ref q) H'
theorem sc_replays : FnScope ["mixing", "log", "many", "fixed", "found", "row", "board"] ["mixing", "log", "many", "fixed"] d_replays.scope := ⟨rfl, rfl, rfl, by decide +kernel, rfl, by decide +kernel, by decide +kernel⟩
theorem ok_replays (T : Tx K mg) (D : Fd K mg d_replays) (h_look_log : Ok P w K mg base 6 "look_log" ["log", "many", "fixed"] (spLook K)) (m_begin0 : OkM P w K mg base (mixC K) 1 "begin" ["self", "reset"] [.bl false] (spBegin K))
    (h_row_behind_replays : Ok P w K mg base 4 "row_behind_replays" ["mixing", "boards", "row"] (spBehind K)) : OkD P w K mg base 7 d_replays ["mixing", "log", "many", "fixed"] (spReplays K) := by
  refine okd_mk D sc_replays (fun vs H Q E h => ?_) (fun f cdv A outer s H vs Q E hr h => ?_)
  · obtain ⟨p, a, m, rs, n, fixed, rfl, _⟩ := h
    rfl
  · obtain ⟨p, a, m, rs, n, fixed, rfl, mo, hM, ok, l60, hL, n8, st, q⟩ := h
    refine ⟨_, 
    (pss_cons
      (ps_expr (pe_f h_look_log hr (pa_cons (pv 1) (pa_cons (pv 2) (pa_cons (pv 3) pa_nil)))))
    (pss_cons
      (ps_set (i := 4) sc_replays.nd rfl (.inl rfl) (pe_lst (pa_cons (pe_lc rfl sc_replays.nd (pi_range1 (by rfl) T.range (pa_cons (pv 2) pa_nil)) (blkOk_by (N := ["mixing", "log", "many", "fixed", "found", "row", "board"]) (sc := d_replays.scope) (own := [("board", 6)]) (by decide +kernel)) (fun _ _ _ _ _ => (pg_name (i := 6) sc_replays.nd rfl (.inl rfl))) (fun _ _ _ _ _ => pts_nil) (fun _ _ _ _ _ => (pe_m0 m_begin0 T.cl hr (pv 0)))) pa_nil)))
    (pss_cons
      (ps_for PassesOwn.never rfl (pi_any (pv 1)) (pg_name (i := 5) sc_replays.nd rfl (.inl rfl))
        (pss_one
          (ps_expr (pe_bm PySem.F.plainAttrs_list PySem.F.slot_list_append PySem.F.type_list_append mt_append (pv 4) (pa_cons (pe_f h_row_behind_replays hr (pa_cons (pv 0) (pa_cons (pe_ix ix_list (pv 4) (pe_un un_neg pe_int) (fun _ _ => rfl)) (pa_cons (pv 5) pa_nil)))) pa_nil)))))
    (pss_one
      (ps_ret (pv 4))))))
      , ?_⟩
    refine ⟨_, rfl, _, rfl, _, rfl, a, rs, n, fixed, rfl, ok, hL, st, fun H1 s1 => ?_⟩
    refine ⟨_, rfl, _, rfl, by omega, by omega, fun D hD => lc_it walk_range (fun i H2 => Same H1 H2 ∧ H2 D = some (.lst ((List.replicate i (1 : Int)).map V.int))) ⟨Same.new hD, upd_same⟩ (fun _ _ _ _ => trivial) ?_ ?_⟩
    · rintro i x H2 _ hi ⟨s2, e2⟩ ⟨rfl, rfl⟩
      obtain ⟨dx, hp⟩ := (hM.same s1).same s2
      refine ⟨rfl, _, rfl, p, dx, _, rfl, hp, mixFs_no m (by decide +kernel) (by decide +kernel), _, false, rfl, _, e2, ?_, s2.mut hD, ?_⟩
      · rw [List.length_map, List.length_replicate]
        exact small (by omega)
      · rw [upd_same, List.replicate_succ', List.map_append]
        rfl
    rintro H2 ⟨s2, e2⟩
    refine ⟨Nat.le_of_ble_eq_true rfl, fun p2 hp2 => ?_⟩
    have s12 := s1.trans s2
    have hp2H : H p2 = none := s12.free hp2
    have hDp : D ≠ p2 := ne_of_none e2 hp2
    have e3 : (upd H2 p2 (.lst [.ref D])) D = some (.lst ((boardsOf m (List.replicate n 1) (rs.take 0)).map V.int)) := by
      rw [upd_ne hDp]
      exact e2
    obtain ⟨vs, hS, hR⟩ := hL.same s12
    have hl := rows_len hR
    have hM2 := (hM.same s1).same s2
    refine for_any (j := 1) rfl hS (fun i σ H3 => Same H2 H3 ∧ ∃ (us : List V) (b : Addr) (z : Option V), us.length = i ∧ H3 p2 = some (.lst (us ++ [.ref b])) ∧ H3 b = some (.lst ((boardsOf m (List.replicate n 1) (rs.take i)).map V.int)) ∧
      σ = [some (.ref p), some (.ref a), some (.int (n : Int)), some (.int fixed), some (.ref p2), z, none])
      ⟨Same.new hp2, [], D, none, rfl, upd_same, e3, rfl⟩ (fun i σ H3 h => h.1) ?_ ?_
    · rintro i σ H3 y hi ey ⟨s3, us, b, z, lu, eq, eb, rfl⟩
      obtain ⟨r, er, hr2⟩ := rows_get (hR.same s3) ey
      have okr := ok r (List.mem_of_getElem? er)
      have rb := stands_board st r (List.mem_of_getElem? er)
      have lb : LowB m (boardsOf m (List.replicate n 1) (rs.take i)) := LowB.boards mo.w3 _ _ (LowB.start mo.w3)
      refine ⟨_, rfl, .inl ⟨rfl, _, .of eq⟩, _, rfl, _, rfl, _, rfl, p2, _, _, _, rfl, rfl, .of eq, atI_last _ _, _, rfl, ?_⟩
      refine ⟨p, b, y, m, _, r, rfl, mo, hM2.same s3, .of eb, lb, okr, hr2, ?_, fun b2 H4 s4 hb2 eb2 => ?_⟩
      · rw [boardsOf_len, List.length_replicate]
        omega
      have nb : b2 ≠ p2 := fun z => by
        rw [z, eq] at hb2
        cases hb2
      have eq4 := s4 _ _ eq
      refine ⟨p2, _, _, rfl, rfl, eq4, ?_, (s3.trans s4).mut hp2, us ++ [.ref b], b2, some y, ?_, upd_same, ?_, rfl⟩
      · rw [List.length_append, lu]
        show i + 1 < sizeLine
        exact small (by omega)
      · rw [List.length_append, lu]
        rfl
      · rw [upd_ne nb, eb2, boardsOf_take er]
    · rintro σ H3 ⟨s3, us, b, z, lu, eq, eb, rfl⟩
      rw [hl, List.take_length] at eb
      exact ⟨_, rfl, q p2 b us H3 (s12.trans s3) eq eb⟩
/-! ### replay -/
def spReplay (K : PySem.W.Frag) : Sp := fun vs H Q _ => ∃ (p a : Addr) (m : Mix) (rs : List Row) (n : Nat) (fixed : Int), vs = [.ref p, .ref a, .int (n : Int), .int fixed] ∧ MixOk m ∧ MixAt K H p m ∧ OkRows rs ∧ rs.length ≤ 60 ∧ LogA K H a rs ∧ n ≤ 8 ∧ stands (n : Int) fixed false rs = true ∧
  ∀ (b : Addr) (H' : Hp), Same H H' → H' b = some (.lst ((replayF m n rs).map V.int)) → Q (.ref b) H'
theorem sc_replay : FnScope ["mixing", "log", "many", "fixed"] ["mixing", "log", "many", "fixed"] d_replay.scope := ⟨rfl, rfl, rfl, by decide +kernel, rfl, by decide +kernel, by decide +kernel⟩
theorem ok_replay (T : Tx K mg) (D : Fd K mg d_replay) (h_replays_mf : OkK P w K mg base 7 "replays" ["mixing", "log", "many", "fixed"] (spReplays K) 2 ["many", "fixed"] (fun vs zs => vs ++ zs)) : OkD P w K mg base 8 d_replay ["mixing", "log", "many", "fixed"] (spReplay K) := by
  refine okd_mk D sc_replay (fun vs H Q E h => ?_) (fun f cdv A outer s H vs Q E hr h => ?_)
  · obtain ⟨p, a, m, rs, n, fixed, rfl, _⟩ := h
    rfl
  · obtain ⟨p, a, m, rs, n, fixed, rfl, mo, hM, ok, l60, hL, n8, st, q⟩ := h
    refine ⟨_, 
    (pss_one
      (ps_ret (pe_ix ix_list (pe_fk h_replays_mf hr (pa_cons (pv 0) (pa_cons (pv 1) pa_nil)) (pk_cons (pv 2) (pk_cons (pv 3) pk_nil))) (pe_un un_neg pe_int) (fun _ _ => rfl))))
      , ?_⟩
    refine ⟨_, rfl, _, rfl, _, rfl, _, rfl, rfl, rfl, p, a, m, rs, n, fixed, rfl, mo, hM, ok, l60, hL, n8, st, fun p2 b us H1 s1 e1 e2 => ?_⟩
    exact ⟨_, rfl, p2, _, _, _, rfl, rfl, .of e1, atI_last _ _, q b H1 s1 e2⟩
/-! ### leads_to -/
def leadsTo (m : Mix) (n : Nat) (fixed : Int) (rs : List Row) (vals : List Int) : Bool := stands (n : Int) fixed false rs && decide (replayF m n rs = vals)
def spLeads (K : PySem.W.Frag) : Sp := fun vs H Q _ => ∃ (p a b : Addr) (m : Mix) (rs : List Row) (vals : List Int) (n : Nat) (fixed : Int), vs = [.ref p, .ref a, .ref b, .int (n : Int), .int fixed] ∧ MixOk m ∧ MixAt K H p m ∧ OkRows rs ∧ rs.length ≤ 60 ∧ LogA K H a rs ∧ n ≤ 8 ∧ SqA K H b (vals.map V.int) ∧
  ∀ H', Same H H' → Q (.bl (leadsTo m n fixed rs vals)) H'
theorem sc_leads_to : FnScope ["mixing", "log", "values", "many", "fixed"] ["mixing", "log", "values", "many", "fixed"] d_leads_to.scope := ⟨rfl, rfl, rfl, by decide +kernel, rfl, by decide +kernel, by decide +kernel⟩
theorem ok_leads_to (T : Tx K mg) (D : Fd K mg d_leads_to) (h_fault_mf : OkK P w K mg base 5 "fault" ["log", "many", "fixed"] (spFault K) 1 ["many", "fixed"] (fun vs zs => vs ++ zs)) (h_replay_mf : OkK P w K mg base 8 "replay" ["mixing", "log", "many", "fixed"] (spReplay K) 2 ["many", "fixed"] (fun vs zs => vs ++ zs)) :
    OkD P w K mg base 9 d_leads_to ["mixing", "log", "values", "many", "fixed"] (spLeads K) := by
  refine okd_mk D sc_leads_to (fun vs H Q E h => ?_) (fun f cdv A outer s H vs Q E hr h => ?_)
  · obtain ⟨p, a, b, m, rs, vals, n, fixed, rfl, _⟩ := h
    rfl
  · obtain ⟨p, a, b, m, rs, vals, n, fixed, rfl, mo, hM, ok, l60, hL, n8, hB, q⟩ := h
    refine ⟨_, 
    (pss_cons
      (ps_if (pt_cmpR op_notN (pe_fk h_fault_mf hr (pa_cons (pv 1) pa_nil) (pk_cons (pv 3) (pk_cons (pv 4) pk_nil))) pe_non (nomark _))
        (pss_one
          (ps_ret pe_bl))
        pss_nil)
    (pss_one
      (ps_ret (pe_cmpR (op_eqD hr.units) (pe_fk h_replay_mf hr (pa_cons (pv 0) (pa_cons (pv 1) pa_nil)) (pk_cons (pv 3) (pk_cons (pv 4) pk_nil))) (pe_callTy call_list_of (by rfl) T.list (by decide +kernel) (pa_cons (pv 2) pa_nil)) (nomark _)))))
      , ?_⟩
    refine ⟨_, rfl, _, rfl, _, rfl, rfl, rfl, a, rs, _, fixed, rfl, ok, hL, fun H1 s1 => ?_⟩
    have q1 := fun H' s => q H' s
    unfold leadsTo at q1
    cases st : stands (n : Int) fixed false rs with
    | false =>
      obtain ⟨j, ej⟩ := fault_some (i := 0) st
      rw [ej]
      rw [st, Bool.false_and] at q1
      exact ⟨rfl, _, rfl, iteT (q1 H1 s1)⟩
    | true =>
      rw [(fault_stands (n : Int) fixed rs false 0).mpr st]
      rw [st, Bool.true_and] at q1
      refine ⟨rfl, _, rfl, iteF ⟨_, rfl, _, rfl, _, rfl, _, rfl, rfl, rfl, p, a, m, rs, n, fixed, rfl, mo, hM.same s1, ok, l60, hL.same s1, n8, st, fun b2 H2 s2 e2 => ?_⟩⟩
      have s12 := s1.trans s2
      refine ⟨_, rfl, b, _, rfl, hB.same s12, fun l hl => ?_⟩
      refine ⟨.list ((replayF m n rs).map PyData.int), .list (vals.map PyData.int), .lst (.of (Same.new hl _ _ e2)) (DpAll.ints _), .lst (.of upd_same) (DpAll.ints _), (ints_sh _).ok, (ints_sh _).ok, ?_⟩
      rw [eqv_ints]
      exact q1 _ (s12.add hl)
end
end K21
namespace K21
open PySem PySem.Spec PyProof.Rows L2 TL
/-! ### Mixing(..) -/
structure OkMake (P : Program) (w : World) (K : PySem.W.Frag) (mg : Str → Option Value) (base : Heap) : Prop where
  ex : ∃ (f : Addr) (fd : FuncData), FnOk P w K mg base CX0 2 f fd ["self", "width", "factor"] (spInit K) ∧ Mk K (mixC K) f ∧ (∃ g : List Value → List Value → List Value, KBn K fd ["self", "width", "factor"] 2 ["factor"] g (fun vs zs => vs ++ zs)) ∧
    ∃ ds : List Value, Vals [.non, .int 7919] ds ∧ Binds K fd ["self", "width", "factor"] ds
section
variable {P : Program} {w : World} {K : PySem.W.Frag} {mg : Str → Option Value} {base : Heap}
theorem okMake_of (T : Tx K mg) {fd : FuncData} (F : FunD K d_Mixing_init.name d_Mixing_init.qual d_Mixing_init.params d_Mixing_init.body d_Mixing_init.scope (d_Mixing_init.dvs K) (d_Mixing_init.kws K) (He.ma K (mixC K) "__init__") fd)
    (G : FnOk P w K mg base CX0 2 (He.ma K (mixC K) "__init__") fd ["self", "width", "factor"] (spInit K)) : OkMake P w K mg base := by
  refine ⟨_, fd, G, T.mkr, ?_, ?_⟩
  · obtain ⟨its, mv, B⟩ := FunD.kbinds (ps := ["self", "width", "factor"]) F 2 ["factor"] [] (fun us _ _ ws => us ++ ws) (by intro z; cases z) (by intro z; cases z) (fun q hq => by cases hq) (fun r1 _ _ r4 => r1.append r4)
      (fun T D doc pm an cdv ct us its mv ws l1 l2 l3 l4 => match us, its, mv, ws, l1, l2, l3, l4 with
        | [_, _], [_], [], [_], _, _, _, _ => ⟨_, rfl, rfl⟩)
    exact ⟨_, B⟩
  · exact FunD.binds (ps := ["self", "width", "factor"]) F 1 0 (by intro z; cases z) rfl
      (fun T D doc pm an cdv ct us its ks l1 l2 l3 => match us, its, ks, l1, l2, l3 with
        | [_], [_], [_], _, _, _ => ⟨_, rfl, _, _, _, _, _, _, rfl, rfl, rfl⟩) (by intro z; cases z)
end
section
variable {X : Cx} {j : Nat} {p pos : Pos} {e : Expr} {es : List Expr} {kws : List Keyword} {t tk : TA}
theorem pe_mkN (h : OkMake X.prog X.w X.K X.mg X.base) (hm : X.mg "Mixing" = some (.ref (mixC X.K))) (hr : Room j X.A) (ha : PA X (e :: es) t) (hkw : PK X kws tk) (hkj : 3 ≤ j := by decide) (hg : Gl X "Mixing" := by rfl)
    (hall : (backToKw pos (keywordEach kws X.env)).all (·.1.isSome) = true := by rfl) (hks : (backToKw pos (keywordEach kws X.env)).filterMap (·.1) = ([("factor" : Str)] : List Str) := by rfl)
    (he : starEach (e :: es) X.env = (false, eval e X.env) :: starEach es X.env := by rfl)
    (hpl : ((backTo pos (starEach (e :: es) X.env)).any (·.1) || (backToKw pos (keywordEach kws X.env)).any (·.1.isNone)) = false := by rfl) :
    PE X (.Call (.Name "Mixing" p) (e :: es) kws pos) (tMakeK (mixC X.K) 1 1 (spInit X.K) (fun vs zs => vs ++ zs) E0 t tk) := by
  obtain ⟨f, fd, F, M, ⟨g, B⟩, _⟩ := h.ex
  exact pe_makeK M F (hr.mono hkj) hg hm B pass0 ha hkw hall hks (by decide) he hpl
theorem pe_mkW (h : OkMake X.prog X.w X.K X.mg X.base) (hm : X.mg "Mixing" = some (.ref (mixC X.K))) (hr : Room j X.A) (hkj : 3 ≤ j := by decide) (hg : Gl X "Mixing" := by rfl) :
    PE X (.Call (.Name "Mixing" p) [] [] pos) (tMake (mixC X.K) (spInit X.K) [.non, .int 7919] E0 tNil) := by
  obtain ⟨f, fd, F, M, _, ds, v, B⟩ := h.ex
  exact pe_make0 M F (hr.mono hkj) hg hm B v pass0 (by decide)
end
end K21
namespace K21
open PySem PySem.Spec PyProof.Rows L2 TL
section
variable {P : Program} {w : World} {K : PySem.W.Frag} {mg : Str → Option Value} {base : Heap}
/-- {k: v for i, x in enumerate(xs) if ..}, xs in a slot: a list or a tuple -/
theorem dc_enumA {j : Nat} {g : TG} {tt : TT} {tk tv : TE} {ws : List Nat} {σ : L2.St} {H : Hp} {Q : VK} {a : Addr} {vs : List V} (hv : σ[j]? = some (some (.ref a))) (h : SqA K H a vs) (Pv : Addr → Nat → Hp → Prop) (h0 : ∀ D, H D = none → Pv D 0 (upd H D (.dK []))) (hP : ∀ D i H', Pv D i H' → Same H H')
    (hs : ∀ D i H' t y, H D = none → i < vs.length → vs[i]? = some y → Pv D i H' → H' t = none → g (.ref t) (wipe σ ws) (upd H' t (.tup [.int (i : Nat), y])) fun σ2 H2 => wipe σ2 ws = wipe σ ws ∧ tt σ2 H2 fun b H3 =>
      if b = true then tk σ2 H3 fun y H4 => tv σ2 H4 fun z H5 => ∃ kvs k, y = kV k ∧ H5 D = some (.dK kvs) ∧ kvs.length < sizeLine ∧ Pv D (i + 1) (upd H5 D (.dK (putK kvs k z))) else Pv D (i + 1) H3) (hd : ∀ D H', H D = none → Pv D vs.length H' → Q (.ref D) H') :
    tDc (iEnumA K (tCons (tVar j) tNil)) g tt tk tv ws σ H Q := by
  refine ⟨_, hv, a, vs, rfl, ?_⟩
  have key : ∀ (J : It) (G : Hp → Prop), Walk J vs.length G (YPair (fun i => some (.int (i : Nat))) (fun i => vs[i]?)) → (∀ H', Same H H' → G H') →
      ∀ D, H D = none → ∃ W : Nat → Nat → Hp → Prop, (∃ m, W 0 m (upd H D (.dK []))) ∧ ∀ i m H, W i m H →
        (J.stop i H ∧ Q (.ref D) H) ∨ (J.go i H ∧ ∃ Nx : Hp → Prop, (∀ H', Nx H' → ∃ m', m' < m ∧ W (i + 1) m' H') ∧ ∀ x H', J.yld i H x H' → g x (wipe σ ws) H' fun σ2 H2 => wipe σ2 ws = wipe σ ws ∧ tt σ2 H2 fun b H3 =>
          if b = true then tk σ2 H3 fun y H4 => tv σ2 H4 fun z H5 => ∃ kvs k, y = kV k ∧ H5 D = some (.dK kvs) ∧ kvs.length < sizeLine ∧ Nx (upd H5 D (.dK (putK kvs k z))) else Nx H3) := by
    intro J G wk hG D hD
    refine ⟨fun i m H' => m = vs.length - i ∧ i ≤ vs.length ∧ Pv D i H', ⟨_, rfl, Nat.zero_le _, h0 D hD⟩, ?_⟩
    rintro i m H' ⟨rfl, hi, p⟩
    have hg := hG H' (hP D i H' p)
    by_cases hlt : i < vs.length
    · refine .inr ⟨wk.goes i H' hlt hg, Pv D (i + 1), fun H2 p2 => ⟨vs.length - (i + 1), by omega, rfl, hlt, p2⟩, fun x H2 y => ?_⟩
      obtain ⟨t, x1, y1, e1, ht, e2, e3, e4⟩ := wk.yields i H' x H2 hlt hg y
      cases Option.some.inj e3
      subst e1 e2
      exact hs D i H' t y1 hD hlt e4 p ht
    · have ei : i = vs.length := by omega
      subst ei
      exact .inl ⟨wk.stops H' hg, hd D H' hD p⟩
  rcases h with h | h
  · exact .inl ⟨h, key _ _ walk_enum fun H' e => e.seq h⟩
  · exact .inr ⟨h, key _ _ walk_enumT fun H' e => e.seqT h⟩
theorem trips_noL' (rs : List Row) {r : Row} : noL.noLs (rs.map tripD ++ [r].map tripD) = true := noLs_of fun d hd => by
  rcases List.mem_append.mp hd with hd | hd
  · obtain ⟨r, _, rfl⟩ := List.mem_map.mp hd
    exact tripD_noL r
  · obtain ⟨r, _, rfl⟩ := List.mem_map.mp hd
    exact tripD_noL r
/-- (reset, rows) at v, its list apart from q -/
def ShAt (K : PySem.W.Frag) (H : Hp) (q : Addr) (v : V) (s : Bool × List Row) : Prop := ∃ t l xs, v = .ref t ∧ SqT K H t [.bl s.1, .ref l] ∧ SqL K H l xs ∧ DpAll K H xs (s.2.map tripD) ∧ l ≠ q
theorem trips_noL (rs : List Row) : noL.noLs (rs.map tripD) = true := noLs_of fun d hd => by
  obtain ⟨r, _, rfl⟩ := List.mem_map.mp hd
  exact tripD_noL r
theorem ShAt.ke {H H' : Hp} {q : Addr} {v : V} {s : Bool × List Row} {l : List V} (e : Ke q H H') (hq : H q = some (.lst l)) (h : ShAt K H q v s) : ShAt K H' q v s := by
  obtain ⟨t, l, xs, rfl, h1, h2, h3, n⟩ := h
  exact ⟨t, l, xs, rfl, e.seqT hq h1, e.seq n h2, dpAllKeepT (fun _ _ => e.seqT hq) (trips_noL _) h3, n⟩
theorem ShAt.same {H H' : Hp} {q : Addr} {v : V} {s : Bool × List Row} (e : Same H H') (h : ShAt K H q v s) : ShAt K H' q v s := by
  obtain ⟨t, l, xs, rfl, h1, h2, h3, n⟩ := h
  exact ⟨t, l, xs, rfl, e.seqT h1, e.seq h2, h3.same e, n⟩
abbrev Shs (K : PySem.W.Frag) (H : Hp) (q : Addr) : List V → List (Bool × List Row) → Prop := Paired (ShAt K H q)
theorem Shs.ke {H H' : Hp} {q : Addr} {l : List V} (e : Ke q H H') (hq : H q = some (.lst l)) {vs : List V} {ss : List (Bool × List Row)} (h : Shs K H q vs ss) : Shs K H' q vs ss := Paired.mapP h fun _ _ => ShAt.ke e hq
theorem Shs.same {H H' : Hp} {q : Addr} (e : Same H H') {vs : List V} {ss : List (Bool × List Row)} (h : Shs K H q vs ss) : Shs K H' q vs ss := Paired.mapP h fun _ _ => ShAt.same e
theorem paired_snoc {α β : Type} {F : α → β → Prop} {a : α} {b : β} (h : F a b) : ∀ {xs : List α} {ys : List β}, Paired F xs ys → Paired F (xs ++ [a]) (ys ++ [b])
  | _, _, .nil => .cons h .nil
  | _, _, .cons r t => .cons r (paired_snoc h t)
theorem paired_get {α β : Type} {F : α → β → Prop} : ∀ {xs : List α} {ys : List β}, Paired F xs ys → ∀ (i : Nat) (b : β), ys[i]? = some b → ∃ a, xs[i]? = some a ∧ F a b
  | _, _, .nil, i, b, e => by simp at e
  | _, _, .cons r t, 0, b, e => by
    cases Option.some.inj e
    exact ⟨_, rfl, r⟩
  | _, _, .cons r t, i + 1, b, e => paired_get t i b e
theorem paired_len {α β : Type} {F : α → β → Prop} : ∀ {xs : List α} {ys : List β}, Paired F xs ys → xs.length = ys.length
  | _, _, .nil => rfl
  | _, _, .cons _ t => congrArg Nat.succ (paired_len t)
theorem cutV_from (vs : List V) (f : Nat) (h : f ≤ vs.length) : cutV vs (some (f : Int)) none = vs.drop f := by
  have e1 : HT.sIx vs.length 0 (some (f : Int)) = f := by
    rw [HT.sIx_nat]
    omega
  show (vs.drop (HT.sIx vs.length 0 (some (f : Int)))).take (vs.length - HT.sIx vs.length 0 (some (f : Int))) = _
  rw [e1]
  exact List.take_of_length_le (by rw [List.length_drop]; exact Nat.le_refl _)
/-! ### shown_rows -/
def spShown (K : PySem.W.Frag) : Sp := fun vs H Q _ => ∃ (a : Addr) (rs : List Row) (n : Nat) (fixed : Int), vs = [.ref a, .int (n : Int), .int fixed] ∧ OkRows rs ∧ rs.length ≤ 60 ∧ LogAt K H a rs ∧ n ≤ 8 ∧ stands (n : Int) fixed false rs = true ∧
  ∀ (q : Addr) (us : List V) (H' : Hp), Same H H' → H q = none → H' q = some (.lst us) → Shs K H' q us ((List.range n).map fun b => shownF b rs) → Q (.ref q) H'
theorem sc_shown_rows : FnScope ["log", "many", "fixed", "resets", "found", "board", "first", "rows", "place", "row"] ["log", "many", "fixed"] d_shown_rows.scope := ⟨rfl, rfl, rfl, by decide +kernel, rfl, by decide +kernel, by decide +kernel⟩
/-- what the dict of resets holds -/
def ResK (kvs : List (Key × V)) (rs : List Row) : Prop := ∀ b : Nat, valV kvs (Sum.inl (b : Int)) = (lastR b rs).map fun j => V.int (j : Nat)
theorem ok_shown_rows (T : Tx K mg) (D : Fd K mg d_shown_rows) (h_look_log : Ok P w K mg base 6 "look_log" ["log", "many", "fixed"] (spLook K)) : OkD P w K mg base 7 d_shown_rows ["log", "many", "fixed"] (spShown K) := by
  refine okd_mk D sc_shown_rows (fun vs H Q E h => ?_) (fun f cdv A outer s H vs Q E hr h => ?_)
  · obtain ⟨a, rs, n, fixed, rfl, _⟩ := h
    rfl
  · obtain ⟨a, rs, n, fixed, rfl, ok, l60, hL, n8, st, q⟩ := h
    refine ⟨_, 
    (pss_cons
      (ps_expr (pe_f h_look_log hr (pa_cons (pv 0) (pa_cons (pv 1) (pa_cons (pv 2) pa_nil)))))
    (pss_cons
      (ps_setDc (i := 3) rfl sc_shown_rows.nd rfl rfl (sw_dict rfl rfl rfl (by decide +kernel)) (pi_enumA (by rfl) T.enumerate (pa_cons (pv 0) pa_nil)) (blkOk_by (N := ["log", "many", "fixed", "resets", "found", "board", "first", "rows", "place", "row"]) (sc := d_shown_rows.scope) (own := [("place", 8), ("row", 9)]) (by decide +kernel)) (fun s H C cl fp => (show PG _ _ (gTup K 2 _) from pg_tup rfl (pgs_cons (pg_name (i := 8) sc_shown_rows.nd rfl (.inl rfl)) (pgs_cons (pg_name (i := 9) sc_shown_rows.nd rfl (.inl rfl)) pgs_nil)))) (fun _ _ _ _ _ => pts_one (pt_cmpR op_eq (pe_ix (r := rIxT K) ix_tup (pv 9) pe_int (fun _ _ => rfl)) (pe_gs T.RESET_logs) (nomark _))) (fun _ _ _ _ _ => (pe_ix (r := rIxT K) ix_tup (pv 9) pe_int (fun _ _ => rfl))) (fun _ _ _ _ _ => (pv 8)))
    (pss_cons
      (ps_set (i := 4) sc_shown_rows.nd rfl (.inl rfl) (pe_lst pa_nil))
    (pss_cons
      (ps_for PassesOwn.never rfl (pi_range1 (by rfl) T.range (pa_cons (pv 1) pa_nil)) (pg_name (i := 5) sc_shown_rows.nd rfl (.inr rfl))
        (pss_cons
          (ps_set (i := 6) sc_shown_rows.nd rfl (.inl rfl) (pe_op op_add (pe_dget2 (hu_of hr) (pv 3) (pv 5) (pe_un un_neg pe_int) ⟨rfl, rfl, rfl, rfl⟩) pe_int))
        (pss_cons
          (ps_setLc (i := 7) rfl sc_shown_rows.nd rfl rfl (sw_true rfl rfl rfl (by decide +kernel)) (pi_list (pe_slice sl_list (pv 0) (po_some (pv 6)) po_none)) (blkOk_by (N := ["log", "many", "fixed", "resets", "found", "board", "first", "rows", "place", "row"]) (sc := d_shown_rows.scope) (own := [("row", 9)]) (by decide +kernel)) (fun _ _ _ _ _ => (pg_name (i := 9) sc_shown_rows.nd rfl (.inl rfl))) (fun _ _ _ _ _ => pts_one (pt_cmpR op_eq (pe_ix (r := rIxT K) ix_tup (pv 9) pe_int (fun _ _ => rfl)) (pv 5) (nomark _))) (fun _ _ _ _ _ => (pe_slice (r := rSlT K) sl_tup (pv 9) (po_some pe_int) po_none)))
        (pss_one
          (ps_expr (pe_bm PySem.F.plainAttrs_list PySem.F.slot_list_append PySem.F.type_list_append mt_append (pv 4) (pa_cons (pe_tup (pa_cons (pe_cmp (pc_din (hu_of hr) (pv 5) (pv 3)) rfl) (pa_cons (pv 7) pa_nil))) pa_nil)))))))
    (pss_one
      (ps_ret (pv 4)))))))
      , ?_⟩
    refine ⟨_, rfl, _, rfl, _, rfl, a, rs, _, fixed, rfl, ok, hL.a, st, fun H1 s1 => ?_⟩
    obtain ⟨vs, hS, hR⟩ := (hL.same s1).inv
    have hl := rows_len hR
    dsimp only [tSeq, tAsg]
    refine dc_enumA (j := 0) (σ := [some (.ref a), some (.int (n : Int)), some (.int fixed), none, none, none, none, none, none, none]) rfl (.inl hS) (fun D i H2 => Same H1 H2 ∧ ∃ kvs, H2 D = some (.dK kvs) ∧ kvs.length ≤ i ∧ ResK kvs (rs.take i)) (fun D hD => ⟨Same.new hD, [], upd_same, Nat.le_refl _, fun b => rfl⟩) (fun D i H2 h => h.1) ?_ ?_
    · rintro D i H2 t y hD hi ey ⟨s2, kvs, ek, lk, rk⟩ ht
      obtain ⟨r, er, hr2⟩ := rows_get (hR.same s2) ey
      have okr := ok r (List.mem_of_getElem? er)
      have hr3 := hr2.same (Same.new (o := .tup [.int (i : Nat), y]) ht)
      obtain ⟨ra, rfl, hT⟩ := row_inv hr3
      have nDt : D ≠ t := ne_of_none ek ht
      have ek3 : (upd H2 t (.tup [.int (i : Nat), .ref ra])) D = some (.dK kvs) := by
        rw [upd_ne nDt]
        exact ek
      refine ⟨t, _, rfl, .of upd_same, rfl, _, _, rfl, _, _, rfl, rfl, rfl, _, rfl, ra, _, _, _, rfl, rfl, hT, at1, rfl, _, rfl, ?_⟩
      rw [word_reset okr.w]
      by_cases h4 : r.w = 4
      · rw [decide_eq_true h4]
        refine iteT ⟨_, rfl, ra, _, _, _, rfl, rfl, hT, at0, _, rfl, kvs, Sum.inl (r.b : Int), rfl, ek3, small (by omega), (s2.add (o := .tup [.int (i : Nat), .ref ra]) ht).mut hD, _, upd_same, ?_, fun b => ?_⟩
        · have := length_putK kvs (Sum.inl (r.b : Int)) (V.int (i : Nat))
          omega
        · rw [valV_put, lastR_take er]
          by_cases hb : r.b = b
          · rw [if_pos (by rw [hb]), if_pos ⟨hb, h4⟩]
            rfl
          · rw [if_neg (fun z => hb (by have := Sum.inl.inj z; omega)), if_neg fun z => hb z.1]
            exact rk b
      · rw [decide_eq_false h4]
        refine iteF ⟨s2.add (o := .tup [.int (i : Nat), .ref ra]) ht, kvs, ek3, Nat.le_succ_of_le lk, fun b => ?_⟩
        rw [lastR_take er, if_neg fun z => h4 z.2]
        exact rk b
    rintro D H2 hD ⟨s2, kvs, ek, lk, rk⟩
    rw [hl, List.take_length] at rk
    refine ⟨Nat.zero_le _, fun q1 hq1 => ?_⟩
    have s12 := s1.trans s2
    have hq1H := s12.free hq1
    have nDq : D ≠ q1 := ne_of_none ek hq1
    refine ⟨_, rfl, _, rfl, by omega, by omega, for_it walk_range (fun i σ H3 => Same H2 H3 ∧ ∃ (us : List V) (z5 z6 z7 : Option V), H3 q1 = some (.lst us) ∧ Shs K H3 q1 us ((List.range i).map fun b => shownF b rs) ∧
      σ = [some (.ref a), some (.int (n : Int)), some (.int fixed), some (.ref D), some (.ref q1), z5, z6, z7, none, none])
      ⟨Same.new hq1, [], none, none, none, upd_same, .nil, rfl⟩ (fun _ _ _ _ _ => trivial) ?_ ?_⟩
    · rintro i x σ H3x H3 hi ⟨s3, us, z5, z6, z7, eq, sh, rfl⟩ ⟨rfl, rfl⟩
      have ekD : H3 D = some (.dK kvs) := s3 _ _ ek
      have lus := paired_len sh
      rw [List.length_map, List.length_range] at lus
      have e0 : (V.int ((0 : Int) + (i : Nat))) = V.int ((i : Nat) : Int) := by
        congr 1
        omega
      have ef : ((((lastR i rs).map fun j => V.int (j : Nat)).getD (V.int (-1)))) = V.int ((firstOf (lastR i rs) : Nat) - 1 : Int) := by
        cases lastR i rs with
        | none => rfl
        | some j =>
          show V.int (j : Nat) = V.int (((j + 1 : Nat) : Int) - 1)
          congr 1
          omega
      have ed : ((lastR i rs).map fun j => V.int (j : Nat)).isSome = (lastR i rs).isSome := by
        cases lastR i rs <;> rfl
      have fl : firstOf (lastR i rs) ≤ rs.length := by
        have := (shown_take i rs rs.length (Nat.le_refl _)).2
        rw [List.take_length] at this
        exact this
      show gName 5 (V.int (0 + (i : Nat))) _ _ _
      rw [e0]
      refine ⟨_, rfl, D, rfl, .inl ⟨kvs, .inl ekD⟩, _, rfl, _, rfl, _, .k (k := Sum.inl ((i : Nat) : Int)) ekD, ?_⟩
      rw [rk i]
      refine ⟨_, _, ef, rfl, ?_⟩
      have e1 : V.int ((firstOf (lastR i rs) : Int) - 1 + 1) = V.int ((firstOf (lastR i rs) : Nat) : Int) := by
        congr 1
        omega
      show gName 6 (V.int ((firstOf (lastR i rs) : Int) - 1 + 1)) _ _ _
      rw [e1]
      have hS3 := s3.seq (s2.seq hS)
      refine ⟨_, rfl, _, rfl, _, rfl, a, vs, rfl, hS3, fun p hp => ⟨p, rfl, ⟨_, .of upd_same⟩, fun C hC => ?_⟩⟩
      have s3p0 := Same.new (o := .lst (vs.drop (firstOf (lastR i rs)))) hp
      have s3p := s3.add (o := .lst (cutV vs (some ((firstOf (lastR i rs) : Nat) : Int)) none)) hp
      rw [cutV_from vs _ (by rw [hl]; exact fl)] at *
      have lv : (vs.drop (firstOf (lastR i rs))).length ≤ 60 := by
        rw [List.length_drop]
        omega
      refine lc_it walk_list (fun j H4 => Same (upd H3 p (.lst (vs.drop (firstOf (lastR i rs))))) H4 ∧ ∃ acc, H4 C = some (.lst acc) ∧ acc.length ≤ j ∧ DpAll K H4 acc ((((rs.drop (firstOf (lastR i rs))).take j).filter fun r => decide (r.b = i)).map tripD)) ⟨Same.new hC, [], upd_same, Nat.le_refl _, .nil⟩ (fun j H4 _ h => h.1.seq (.of upd_same)) ?_ ?_
      · rintro j x H4x H4 hj ⟨s4, acc, ea, la, da⟩ ⟨rfl, hx⟩
        have hR4 : DpAll K H4 (vs.drop (firstOf (lastR i rs))) ((rs.drop (firstOf (lastR i rs))).map rowD) := by
          rw [List.map_drop]
          exact (((hR.same s2).same (s3.trans s3p0)).same s4).drop _
        obtain ⟨r, er, hr2⟩ := rows_get hR4 hx
        have okr := ok r (List.mem_of_mem_drop (List.mem_of_getElem? er))
        obtain ⟨ra, rfl, hT⟩ := row_inv hr2
        refine ⟨rfl, _, rfl, ra, _, _, _, rfl, rfl, hT, at0, _, rfl, rfl, _, rfl, ?_⟩
        rw [take_snoc er, List.filter_append, List.map_append]
        by_cases hb : r.b = i
        · rw [decide_eq_true (by rw [hb])]
          refine iteT ⟨_, rfl, _, rfl, ra, _, rfl, hT, fun z => Nat.one_ne_zero z.1, fun t ht => ?_⟩
          have nC := ne_of_none ea ht
          refine ⟨acc, (upd_ne nC).trans ea, small (by omega), (s4.add ht).mut hC, acc ++ [.ref t], upd_same, ?_, ?_⟩
          · rw [List.length_append]
            exact Nat.add_le_add_right la 1
          · have d2 := ((da.same (Same.new (o := .tup (cutV (rowV r) (some 1) none)) ht)).append (.one (trip_mk (r := r) (.of upd_same))))
            have e2 : [r].filter (fun r => decide (r.b = i)) = [r] := by simp [hb]
            rw [e2]
            exact dpAllKeepT (fun a xs h => (Ke.set C _ _).seqT ((upd_ne nC).trans ea) h) (trips_noL' _) d2
        · rw [decide_eq_false (fun z => hb (by have := V.int.inj z; omega))]
          have e2 : [r].filter (fun r => decide (r.b = i)) = [] := by simp [hb]
          rw [e2]
          refine iteF ⟨s4, acc, ea, Nat.le_succ_of_le la, ?_⟩
          rw [List.map_nil, List.append_nil]
          exact da
      · rintro H4 ⟨s4, acc, ea, la, da⟩
        have el : (rs.drop (firstOf (lastR i rs))).take (vs.drop (firstOf (lastR i rs))).length = rs.drop (firstOf (lastR i rs)) := List.take_of_length_le (by
          rw [List.length_drop, List.length_drop, hl]
          exact Nat.le_refl _)
        rw [el] at da
        have s34 := s3p0.trans s4
        have eq4 := s34 _ _ eq
        have ekD4 := s34 _ _ ekD
        refine ⟨_, rfl, .inl ⟨rfl, _, .of eq4⟩, _, rfl, _, rfl, D, _, rfl, .k (k := Sum.inl ((i : Nat) : Int)) ekD4, _, rfl, ?_⟩
        rw [rk i, ed]
        refine ⟨Nat.le_of_ble_eq_true rfl, fun t ht => ?_⟩
        have eqt := (upd_ne (o := .tup [.bl (lastR i rs).isSome, .ref C]) (ne_of_none eq4 ht)).trans eq4
        have nCq : C ≠ q1 := fun z => by
          rw [z, upd_ne (ne_of_none eq hp)] at hC
          rw [eq] at hC
          cases hC
        refine ⟨q1, us, _, rfl, rfl, eqt, small (by omega), ((s3.trans s34).add ht).mut hq1, us ++ [.ref t], _, _, _, upd_same, ?_, rfl⟩
        have k1 : Ke q1 H4 (upd (upd H4 t (.tup [.bl (lastR i rs).isSome, .ref C])) q1 (.lst (us ++ [.ref t]))) := (Ke.of (Same.new ht)).trans (Ke.set q1 _ _)
        rw [List.range_succ, List.map_append]
        refine paired_snoc ?_ ((sh.same s34).ke k1 eq4)
        have ep : shownF i rs = ((lastR i rs).isSome, (rs.drop (firstOf (lastR i rs))).filter fun r => decide (r.b = i)) := shown_all i rs
        show ShAt K _ q1 (.ref t) (shownF i rs)
        rw [ep]
        refine ⟨t, C, acc, rfl, (Ke.set q1 _ _).seqT eqt (.of upd_same), k1.seq nCq (.of ea), ?_, nCq⟩
        exact dpAllKeepT (fun a xs h => k1.seqT eq4 h) (trips_noL _) da
    · rintro σ H3 ⟨s3, us, z5, z6, z7, eq, sh, rfl⟩
      refine ⟨_, rfl, ?_⟩
      exact q q1 us H3 (s12.trans s3) hq1H eq sh
end
end K21
namespace K21
open PySem PySem.Spec PyProof.Rows L2 TL
/-- how many are alike ahead of the first that are not -/
def aheadN : List PyData → List PyData → Nat
  | d :: ds, e :: es => if PyData.eqv d e = true then aheadN ds es + 1 else 0
  | [], _ => 0
  | _ :: _, [] => 0
theorem aheadN_nil (ds : List PyData) : aheadN ds [] = 0 := by cases ds <;> rfl
theorem drop_at {α : Type} {xs : List α} {i : Nat} {x : α} (h : xs[i]? = some x) : xs.drop i = x :: xs.drop (i + 1) := by
  obtain ⟨hi, e⟩ := List.getElem?_eq_some_iff.mp h
  rw [List.drop_eq_getElem_cons hi, e]
section
variable {P : Program} {w : World} {K : PySem.W.Frag} {mg : Str → Option Value} {base : Heap}
/-! ### alike_ahead -/
def spAhead (K : PySem.W.Frag) : Sp := fun vs H Q _ => ∃ (a b : Addr) (xs ys : List V) (ds es : List PyData), vs = [.ref a, .ref b] ∧ SqL K H a xs ∧ SqL K H b ys ∧ DpAll K H xs ds ∧ DpAll K H ys es ∧ (∀ d ∈ ds, SeqAt.shaped d = true) ∧ (∀ d ∈ es, SeqAt.shaped d = true) ∧ ds.length ≤ 100 ∧
  ∀ H', Same H H' → Q (.int (aheadN ds es : Nat)) H'
theorem sc_alike_ahead : FnScope ["rows", "others", "found", "row", "other"] ["rows", "others"] d_alike_ahead.scope := ⟨rfl, rfl, rfl, by decide +kernel, rfl, by decide +kernel, by decide +kernel⟩
theorem ok_alike_ahead (T : Tx K mg) (D : Fd K mg d_alike_ahead) : Ok P w K mg base 1 "alike_ahead" ["rows", "others"] (spAhead K) := by
  refine ok_mk D sc_alike_ahead (fun _ _ _ _ _ _ us hl => match us, hl with | [_, _], _ => rfl) (fun vs H Q E h => ?_) (fun f cdv A outer s H vs Q E hr h => ?_)
  · obtain ⟨a, b, xs, ys, ds, es, rfl, _⟩ := h
    rfl
  · obtain ⟨a, b, xs, ys, ds, es, rfl, hA, hB, dA, dB, sA, sB, l1, q⟩ := h
    refine ⟨_, 
    (pss_cons
      (ps_set (i := 2) sc_alike_ahead.nd rfl (.inl rfl) pe_int)
    (pss_cons
      (ps_for PassesOwn.never rfl (pi_zip (by rfl) T.zip (pa_cons (pv 0) (pa_cons (pv 1) pa_nil))) (pg_tup rfl (pgs_cons (pg_name (i := 3) sc_alike_ahead.nd rfl (.inl rfl)) (pgs_cons (pg_name (i := 4) sc_alike_ahead.nd rfl (.inl rfl)) pgs_nil)))
        (pss_cons
          (ps_if (pt_cmpR (op_neD hr.units) (pv 3) (pv 4) (nomark _))
            (pss_one
              (ps_ret (pv 2)))
            pss_nil)
        (pss_one
          (ps_aug (i := 2) sc_alike_ahead.nd rfl (.inl rfl) pe_int ip_add))))
    (pss_one
      (ps_ret (pv 2)))))
      , ?_⟩
    have lA := dA.length
    have lB := dB.length
    refine ⟨_, rfl, _, rfl, a, b, xs, ys, rfl, hA, hB, for_it (walk_zip rfl) (fun i σ H1 => Same H H1 ∧ aheadN ds es = i + aheadN (ds.drop i) (es.drop i) ∧ ∃ z3 z4, σ = [some (.ref a), some (.ref b), some (.int (i : Nat)), z3, z4])
      ⟨fun _ _ h => h, (Nat.zero_add _).symm, none, none, rfl⟩ (fun i σ H1 _ h => ⟨h.1.seq hA, h.1.seq hB⟩) ?_ ?_⟩
    · rintro i x σ H1 H2 hi ⟨s1, e1, z3, z4, rfl⟩ ⟨t, u, v, rfl, ht, rfl, eu, ev⟩
      have s2 := s1.add (o := .tup [u, v]) ht
      obtain ⟨d, ed, du⟩ := (dA.same s2).get i u eu
      obtain ⟨e, ee, dv⟩ := (dB.same s2).get i v ev
      refine ⟨t, _, rfl, .of upd_same, rfl, _, _, rfl, _, _, rfl, rfl, ?_⟩
      refine ⟨_, rfl, _, rfl, d, e, du, dv, sA d (List.mem_of_getElem? ed), sB e (List.mem_of_getElem? ee), _, rfl, ?_⟩
      rw [drop_at ed, drop_at ee] at e1
      cases h : PyData.eqv d e with
      | true =>
        refine iteF ⟨_, rfl, _, _, rfl, rfl, s2, ?_, _, _, rfl⟩
        rw [e1, aheadN, if_pos h]
        omega
      | false =>
        rw [aheadN, if_neg (by rw [h]; exact Bool.false_ne_true)] at e1
        refine iteT ⟨_, rfl, ?_⟩
        have := q _ s2
        rw [e1] at this
        exact this
    · rintro σ H1 ⟨s1, e1, z3, z4, rfl⟩
      have e2 : aheadN (ds.drop (min xs.length ys.length)) (es.drop (min xs.length ys.length)) = 0 := by
        by_cases h : xs.length ≤ ys.length
        · rw [Nat.min_eq_left h, lA, List.drop_length]
          rfl
        · rw [Nat.min_eq_right (by omega), lB, List.drop_length, aheadN_nil]
      rw [e2] at e1
      have := q _ s1
      rw [e1] at this
      exact ⟨_, rfl, this⟩
end
end K21
namespace K21
open PySem PySem.Spec PyProof.Rows L2 TL
/-- the rows of two boards are equal, as Python tells it -/
def tripsEq (xs ys : List Row) : Bool := PyData.eqv (.list (xs.map tripD)) (.list (ys.map tripD))
theorem tripsEq_self {rs : List Row} (h : OkRows rs) : tripsEq rs rs = true := eqv_self (n := 2) (Sh.list fun d hd => by
  obtain ⟨r, hr, rfl⟩ := List.mem_map.mp hd
  exact tripD_sh (h r hr))
theorem trips_sh {rs : List Row} (h : OkRows rs) : Sh 2 (.list (rs.map tripD)) := Sh.list fun d hd => by
  obtain ⟨r, hr, rfl⟩ := List.mem_map.mp hd
  exact tripD_sh (h r hr)
theorem trips_shaped {rs : List Row} (h : OkRows rs) : ∀ d ∈ rs.map tripD, SeqAt.shaped d = true := fun d hd => by
  obtain ⟨r, hr, rfl⟩ := List.mem_map.mp hd
  exact (tripD_sh (h r hr)).ok
theorem shown_rows_ok {b : Nat} {rs : List Row} (h : OkRows rs) : OkRows (shownF b rs).2 := fun r hr => h r (shown_ok hr).1
section
variable {P : Program} {w : World} {K : PySem.W.Frag} {mg : Str → Option Value} {base : Heap}
def aheadR (xs ys : List Row) : Nat := aheadN (xs.map tripD) (ys.map tripD)
/-! ### first_parted -/
def spFirst (K : PySem.W.Frag) : Sp := fun vs H Q _ => ∃ (p a v : Addr) (rs lg : List Row) (n B : Nat) (fixed : Int), vs = [.ref p, .ref a, .ref v, .int (n : Int), .int fixed] ∧ OkRows rs ∧ OkRows lg ∧ rs.length ≤ 60 ∧ lg.length ≤ 60 ∧ LogAt K H a lg ∧ n ≤ 8 ∧
  stands (n : Int) fixed false lg = true ∧ SqL K H v ((replayF wide n rs).map V.int) ∧ B < n ∧ (∀ b, b ≠ B → shownF b rs = shownF b lg) ∧ (shownF B rs).1 = (shownF B lg).1 ∧
  (tripsEq (shownF B rs).2 (shownF B lg).2 = true → ∀ H', Same H H' → Q .non H') ∧
  (tripsEq (shownF B rs).2 (shownF B lg).2 = false → ∀ (t : Addr) (H' : Hp), Same H H' → SqT K H' t [.int (B : Int), .int (aheadR (shownF B rs).2 (shownF B lg).2 : Nat)] → Q (.ref t) H')
theorem sc_first_parted : FnScope ["mixing", "log", "values", "many", "fixed", "told", "own", "board", "was_reset", "rows", "is_reset", "own_rows", "value"] ["mixing", "log", "values", "many", "fixed"] d_first_parted.scope := ⟨rfl, rfl, rfl, by decide +kernel, rfl, by decide +kernel, by decide +kernel⟩
theorem ok_first_parted (T : Tx K mg) (D : Fd K mg d_first_parted) (h_read : Ok P w K mg base 5 "read" ["value"] (spRead K)) (h_shown_rows_mf : OkK P w K mg base 7 "shown_rows" ["log", "many", "fixed"] (spShown K) 1 ["many", "fixed"] (fun vs zs => vs ++ zs))
    (h_alike_ahead : Ok P w K mg base 1 "alike_ahead" ["rows", "others"] (spAhead K)) : OkD P w K mg base 8 d_first_parted ["mixing", "log", "values", "many", "fixed"] (spFirst K) := by
  refine okd_mk D sc_first_parted (fun vs H Q E h => ?_) (fun f cdv A outer s H vs Q E hr h => ?_)
  · obtain ⟨p, a, v, rs, lg, n, B, fixed, rfl, _⟩ := h
    rfl
  · obtain ⟨p, a, v, rs, lg, n, B, fixed, rfl, okr, okl, lr, ll, hL, n8, st, hV, hB, oth, flg, q1, q2⟩ := h
    refine ⟨_, 
    (pss_cons
      (ps_setLc (i := 5) rfl sc_first_parted.nd rfl rfl (sw_true rfl rfl rfl (by decide +kernel)) (pi_list (pv 2)) (blkOk_by (N := ["mixing", "log", "values", "many", "fixed", "told", "own", "board", "was_reset", "rows", "is_reset", "own_rows", "value"]) (sc := d_first_parted.scope) (own := [("value", 12)]) (by decide +kernel)) (fun _ _ _ _ _ => (pg_name (i := 12) sc_first_parted.nd rfl (.inl rfl))) (fun _ _ _ _ _ => pts_nil) (fun _ _ _ _ _ => (pe_f h_read hr (pa_cons (pv 12) pa_nil))))
    (pss_cons
      (ps_set (i := 6) sc_first_parted.nd rfl (.inl rfl) (pe_fk h_shown_rows_mf hr (pa_cons (pv 1) pa_nil) (pk_cons (pv 3) (pk_cons (pv 4) pk_nil))))
    (pss_cons
      (ps_for PassesOwn.never rfl (pi_enumA (by rfl) T.enumerate (pa_cons (pv 5) pa_nil)) (pg_tup rfl (pgs_cons (pg_name (i := 7) sc_first_parted.nd rfl (.inl rfl)) (pgs_cons (pg_tup rfl (pgs_cons (pg_name (i := 8) sc_first_parted.nd rfl (.inl rfl)) (pgs_cons (pg_name (i := 9) sc_first_parted.nd rfl (.inl rfl)) pgs_nil))) pgs_nil)))
        (pss_cons
          (ps_asg (pe_ix (r := rIxL K) ix_list (pv 6) (pv 7) (fun _ _ => rfl)) (pg_tup rfl (pgs_cons (pg_name (i := 10) sc_first_parted.nd rfl (.inl rfl)) (pgs_cons (pg_name (i := 11) sc_first_parted.nd rfl (.inl rfl)) pgs_nil))))
        (pss_cons
          (ps_if (pt_cmpR op_ne (pv 8) (pv 10) (nomark _))
            (pss_one
              (ps_ret (pe_tup (pa_cons (pv 7) (pa_cons (pe_un un_neg pe_int) pa_nil)))))
            pss_nil)
        (pss_one
          (ps_if (pt_cmpR (op_neD hr.units) (pv 9) (pv 11) (nomark _))
            (pss_one
              (ps_ret (pe_tup (pa_cons (pv 7) (pa_cons (pe_f h_alike_ahead hr (pa_cons (pv 9) (pa_cons (pv 11) pa_nil))) pa_nil)))))
            pss_nil)))))
    (pss_one
      (ps_ret pe_non)))))
      , ?_⟩
    refine ⟨_, rfl, v, rfl, ⟨_, hV⟩, fun D hD => ?_⟩
    refine lc_it walk_list (fun i H2 => Same H H2 ∧ ∃ acc, H2 D = some (.lst acc) ∧ Shs K H2 D acc ((List.range i).map fun b => shownF b rs)) ⟨Same.new hD, [], upd_same, .nil⟩ (fun i H2 _ h => h.1.seq hV) ?_ ?_
    · rintro i x H2x H2 hi ⟨s2, acc, ea, sh⟩ ⟨rfl, hx⟩
      have hi2 : i < n := by
        rw [List.length_map, replayF_len] at hi
        exact hi
      rw [List.getElem?_map, replayF_get _ _ _ _ hi2, wide_val] at hx
      cases Option.some.inj hx
      have la := paired_len sh
      rw [List.length_map, List.length_range] at la
      refine ⟨rfl, _, rfl, (shownF i rs).1, (shownF i rs).2, rfl, shown_rows_ok okr, fun r hr => (shown_ok hr).2, Nat.le_trans (shownF_len i rs) lr, fun t l xs H4 s4 hl hT hX dA => ?_⟩
      have ea4 := s4 _ _ ea
      have nl : l ≠ D := fun z => by
        rw [z, ea] at hl
        cases hl
      refine ⟨acc, ea4, small (by omega), (s2.trans s4).mut hD, acc ++ [.ref t], upd_same, ?_⟩
      have k1 : Ke D H4 (upd H4 D (.lst (acc ++ [.ref t]))) := Ke.set D _ _
      rw [List.range_succ, List.map_append]
      refine paired_snoc ?_ ((sh.same s4).ke k1 ea4)
      exact ⟨t, l, xs, rfl, k1.seqT ea4 hT, k1.seq nl hX, dpAllKeepT (fun a xs h => k1.seqT ea4 h) (trips_noL _) dA, nl⟩
    rintro H2 ⟨s2, acc, ea, sh⟩
    rw [List.length_map, replayF_len] at sh
    have la := paired_len sh
    rw [List.length_map, List.length_range] at la
    refine ⟨_, rfl, _, rfl, _, rfl, rfl, rfl, a, lg, n, fixed, rfl, okl, ll, hL.same s2, n8, st, fun qa us H3 s3 hq eq shl => ?_⟩
    have lu := paired_len shl
    rw [List.length_map, List.length_range] at lu
    have s23 := s2.trans s3
    refine for_enumA (j := 5) (H0 := H3) rfl (.inl (.of (s3 _ _ ea))) (fun i σ H4 => Same H3 H4 ∧ (B < i → tripsEq (shownF B rs).2 (shownF B lg).2 = true) ∧
      ∃ z7 z8 z9 z10 z11, σ = [some (.ref p), some (.ref a), some (.ref v), some (.int (n : Int)), some (.int fixed), some (.ref D), some (.ref qa), z7, z8, z9, z10, z11, none])
      ⟨fun _ _ h => h, fun z => absurd z (Nat.not_lt_zero _), _, _, _, _, _, rfl⟩ (fun i σ H4 h => h.1) ?_ ?_
    · rintro i σ H4 t y hi ey ⟨s4, tb, z7, z8, z9, z10, z11, rfl⟩ ht
      have hin : i < n := by omega
      have ei : ((List.range n).map fun b => shownF b rs)[i]? = some (shownF i rs) := by
        rw [List.getElem?_map, List.getElem?_range hin]
        rfl
      have ei2 : ((List.range n).map fun b => shownF b lg)[i]? = some (shownF i lg) := by
        rw [List.getElem?_map, List.getElem?_range hin]
        rfl
      have s5 := s4.add (o := .tup [.int (i : Nat), y]) ht
      obtain ⟨y', ey', at1'⟩ := paired_get (sh.same (s3.trans s5)) i _ ei
      rw [ey] at ey'
      cases Option.some.inj ey'
      obtain ⟨t1, l1, xs1, rfl, hT1, hL1, dA1, _⟩ := at1'
      obtain ⟨y2, ey2, at2'⟩ := paired_get (shl.same s5) i _ ei2
      obtain ⟨t2, l2, xs2, rfl, hT2, hL2, dA2, _⟩ := at2'
      refine ⟨t, _, rfl, .of upd_same, rfl, _, _, rfl, _, _, rfl, ⟨t1, _, rfl, hT1, rfl, _, _, rfl, _, _, rfl, rfl, rfl, _, rfl, _, rfl, qa, us, _, _, rfl, rfl, .of (s5 _ _ eq), atI_nat ey2, t2, _, rfl, hT2, rfl, _, _, rfl, _, _, rfl, rfl, ?_⟩⟩
      refine ⟨_, rfl, _, rfl, rfl, _, rfl, ?_⟩
      have fe : (shownF i rs).1 = (shownF i lg).1 := by
        by_cases c : i = B
        · rw [c]
          exact flg
        · rw [oth i c]
      refine iteNS (by rw [fe]) ⟨_, rfl, _, rfl, _, _, .lst hL1 dA1, .lst hL2 dA2, (trips_sh (shown_rows_ok okr)).ok, (trips_sh (shown_rows_ok okl)).ok, _, rfl, ?_⟩
      show (if (!tripsEq (shownF i rs).2 (shownF i lg).2) = true then _ else _)
      by_cases c : i = B
      · subst c
        cases te : tripsEq (shownF i rs).2 (shownF i lg).2 with
        | true => exact iteF ⟨s5, fun _ => rfl, _, _, _, _, _, rfl⟩
        | false =>
          refine iteT ⟨_, rfl, _, rfl, _, rfl, l1, l2, xs1, xs2, _, _, rfl, hL1, hL2, dA1, dA2, trips_shaped (shown_rows_ok okr), trips_shaped (shown_rows_ok okl), ?_, fun H6 s6 => ⟨Nat.le_of_ble_eq_true rfl, fun t3 ht3 => ?_⟩⟩
          · rw [List.length_map]
            have := shownF_len i rs
            omega
          · exact q2 te t3 _ (((s23.trans s5).trans s6).add ht3) (.of upd_same)
      · rw [oth i c, tripsEq_self (shown_rows_ok okl)]
        refine iteF ⟨s5, fun z => ?_, _, _, _, _, _, rfl⟩
        exact tb (by omega)
    · rintro σ H4 ⟨s4, tb, z7, z8, z9, z10, z11, rfl⟩
      exact q1 (tb (by omega)) _ (s23.trans s4)
end
end K21
namespace K21
open PySem PySem.Spec PyProof.Rows L2 TL
/-- a step of a mend -/
inductive Stp
  | out (i : Nat)
  | put (i : Nat) (r : Row)
  | turn (i : Nat) (r : Row)
  | move (i j : Nat)
def Stp.wd : Stp → Str
  | .out _ => "out"
  | .put _ _ => "put"
  | .turn _ _ => "turn"
  | .move _ _ => "move"
def Stp.at : Stp → Nat
  | .out i => i
  | .put i _ => i
  | .turn i _ => i
  | .move i _ => i
def Stp.rest : Stp → List PyData
  | .out _ => []
  | .put _ r => [rowD r]
  | .turn _ r => [rowD r]
  | .move _ j => [.int (j : Int)]
def stpD (s : Stp) : PyData := .tuple (.str s.wd :: .int (s.at : Int) :: s.rest)
/-- the rows behind it -/
def Stp.on (rs : List Row) : Stp → List Row
  | .out i => rs.eraseIdx i
  | .put i r => rs.take i ++ [r] ++ rs.drop i
  | .turn i r => rs.set i r
  | .move i j => (rs.eraseIdx i).take j ++ (rs[i]?).toList ++ (rs.eraseIdx i).drop j
/-- a step of this log -/
def Stp.Ok (rs : List Row) : Stp → Prop
  | .out i => i < rs.length
  | .put i r => i ≤ rs.length ∧ r.Ok
  | .turn i r => r.Ok ∧ ∃ r0, rs[i]? = some r0 ∧ PyData.eqv (rowD r) (rowD r0) = false
  | .move i j => i < rs.length ∧ j < rs.length ∧ j ≠ i
theorem stpD_noL (s : Stp) : noL (stpD s) = true := by cases s <;> rfl
theorem Stp.Ok.at {rs : List Row} {s : Stp} (h : s.Ok rs) : s.at ≤ rs.length := by
  cases s with
  | out i => exact Nat.le_of_lt h
  | put i r => exact h.1
  | turn i r =>
    obtain ⟨_, r0, e, _⟩ := h
    exact Nat.le_of_lt (List.getElem?_eq_some_iff.mp e).1
  | move i j => exact Nat.le_of_lt h.1
theorem Stp.on_ok {rs : List Row} {s : Stp} (ok : OkRows rs) (h : s.Ok rs) : OkRows (s.on rs) := by
  intro q hq
  cases s with
  | out i => exact ok q (List.mem_of_mem_eraseIdx hq)
  | put i r =>
    rcases List.mem_append.mp hq with hq | hq
    · rcases List.mem_append.mp hq with hq | hq
      · exact ok q (List.mem_of_mem_take hq)
      · rw [List.mem_singleton.mp hq]
        exact h.2
    · exact ok q (List.mem_of_mem_drop hq)
  | turn i r =>
    rcases List.mem_or_eq_of_mem_set hq with hq | hq
    · exact ok q hq
    · rw [hq]
      exact h.1
  | move i j =>
    rcases List.mem_append.mp hq with hq | hq
    · rcases List.mem_append.mp hq with hq | hq
      · exact ok q (List.mem_of_mem_eraseIdx (List.mem_of_mem_take hq))
      · rw [Option.mem_toList] at hq
        exact ok q (List.mem_of_getElem? hq)
    · exact ok q (List.mem_of_mem_eraseIdx (List.mem_of_mem_drop hq))
theorem Stp.on_len {rs : List Row} {s : Stp} (h : s.Ok rs) : (s.on rs).length ≤ rs.length + 1 := by
  cases s with
  | out i =>
    have := List.length_eraseIdx_le rs i
    show (rs.eraseIdx i).length ≤ _
    omega
  | put i r =>
    show (rs.take i ++ [r] ++ rs.drop i).length ≤ _
    rw [List.length_append, List.length_append, List.length_take, List.length_drop, List.length_singleton]
    omega
  | turn i r =>
    show (rs.set i r).length ≤ _
    rw [List.length_set]
    omega
  | move i j =>
    show ((rs.eraseIdx i).take j ++ (rs[i]?).toList ++ (rs.eraseIdx i).drop j).length ≤ _
    have h1 := List.length_eraseIdx_le rs i
    have h2 : (rs[i]?).toList.length ≤ 1 := by
      cases rs[i]? with
      | none => exact Nat.zero_le _
      | some _ => exact Nat.le_refl _
    rw [List.length_append, List.length_append, List.length_take, List.length_drop]
    omega
section
variable {P : Program} {w : World} {K : PySem.W.Frag} {mg : Str → Option Value} {base : Heap} {H : Hp}
theorem stp_inv {v : V} {s : Stp} (h : Dp K H v (stpD s)) : ∃ t xs, v = .ref t ∧ SqT K H t (.str s.wd :: .int (s.at : Int) :: xs) ∧ DpAll K H xs s.rest := by
  obtain ⟨a, xs, rfl, h1, h2⟩ := h.tup_inv
  obtain ⟨v1, t1, rfl, e1, h3⟩ := h2.cons_inv
  obtain ⟨v2, t2, rfl, e2, h4⟩ := h3.cons_inv
  cases e1.str_inv
  cases e2.int_inv
  exact ⟨a, t2, rfl, h1, h4⟩
theorem one_inv {xs : List V} {d : PyData} (h : DpAll K H xs [d]) : ∃ v, xs = [v] ∧ Dp K H v d := by
  obtain ⟨v1, t1, rfl, e1, h2⟩ := h.cons_inv
  cases h2.nil_inv
  exact ⟨v1, rfl, e1⟩
/-! ### is_turned -/
def spTurned (K : PySem.W.Frag) : Sp := fun vs H Q _ => ∃ (a l : Addr) (v : V) (rs : List Row) (i : Nat) (r r0 : Row), vs = [.ref a, .int (i : Int), .ref l] ∧ OkRows rs ∧ LogAt K H a rs ∧ SqL K H l [v] ∧ Dp K H v (rowD r) ∧ r.Ok ∧ rs[i]? = some r0 ∧ PyData.eqv (rowD r) (rowD r0) = false ∧
  ∀ H', Same H H' → Q (.bl true) H'
theorem sc_is_turned : FnScope ["log", "place", "rest"] ["log", "place", "rest"] d_is_turned.scope := ⟨rfl, rfl, rfl, by decide +kernel, rfl, by decide +kernel, by decide +kernel⟩
theorem ok_is_turned (T : Tx K mg) (D : Fd K mg d_is_turned) (h_is_from : Ok P w K mg base 1 "is_from" ["thing", "least", "top"] spFrom) (h_is_row : Ok P w K mg base 3 "is_row" ["thing"] (spRow K)) : Ok P w K mg base 4 "is_turned" ["log", "place", "rest"] (spTurned K) := by
  refine ok_mk D sc_is_turned (fun _ _ _ _ _ _ us hl => match us, hl with | [_, _, _], _ => rfl) (fun vs H Q E h => ?_) (fun f cdv A outer s H vs Q E hr h => ?_)
  · obtain ⟨a, l, v, rs, i, r, r0, rfl, _⟩ := h
    rfl
  · obtain ⟨a, l, v, rs, i, r, r0, rfl, okr, hL, hl, hv, ok, e0, en, q⟩ := h
    refine ⟨_, 
    (pss_one
      (ps_ret (pe_and (pe_f h_is_from hr (pa_cons (pv 1) (pa_cons pe_int (pa_cons (pe_callB call_len_seq (by rfl) T.len PySem.boot_len (pa_cons (pv 0) pa_nil)) pa_nil)))) (pe_and (pe_cmpR op_eq (pe_callB call_len_seq (by rfl) T.len PySem.boot_len (pa_cons (pv 2) pa_nil)) pe_int (nomark _)) (pe_and (pe_f h_is_row hr (pa_cons (pe_ix (r := rIxL K) ix_list (pv 2) pe_int (fun _ _ => rfl)) pa_nil)) (pe_one (pe_cmpR (op_neD hr.units) (pe_ix (r := rIxL K) ix_list (pv 2) pe_int (fun _ _ => rfl)) (pe_ix (r := rIxL K) ix_list (pv 0) (pv 1) (fun _ _ => rfl)) (nomark _))))))))
      , ?_⟩
    obtain ⟨xs, hS, hR⟩ := hL.inv
    have hle := rows_len hR
    have hi := (List.getElem?_eq_some_iff.mp e0).1
    refine ⟨_, rfl, _, rfl, a, _, rfl, .inl hS, _, _, _, rfl, ?_⟩
    rw [decide_eq_true (show (0 : Int) ≤ (i : Int) by omega), decide_eq_true (show (i : Int) < (xs.length : Int) by omega)]
    refine ⟨true, rfl, iteT ⟨_, rfl, l, _, rfl, .inl hl, rfl, true, rfl, iteT ⟨_, rfl, l, _, _, _, rfl, rfl, hl, at0, v, r, rfl, ok, hv, fun H1 s1 => ⟨true, rfl, iteT ?_⟩⟩⟩⟩
    have ex : xs[i]? = some (xs[i]'(by omega)) := List.getElem?_eq_getElem _
    obtain ⟨r1, er1, hr1⟩ := rows_get (hR.same s1) ex
    rw [e0] at er1
    cases Option.some.inj er1
    refine ⟨_, rfl, l, _, _, _, rfl, rfl, s1.seq hl, at0, _, rfl, _, rfl, a, _, _, _, rfl, rfl, s1.seq hS, atI_nat ex, rowD r, rowD r0, hv.same s1, hr1, (rowD_sh ok).ok, (rowD_sh (okr _ (List.mem_of_getElem? e0))).ok, ?_⟩
    rw [en]
    exact q H1 s1
/-! ### is_moved -/
def spMoved (K : PySem.W.Frag) : Sp := fun vs H Q _ => ∃ (a l : Addr) (rs : List Row) (i j : Nat), vs = [.ref a, .int (i : Int), .ref l] ∧ LogAt K H a rs ∧ SqL K H l [.int (j : Int)] ∧ i < rs.length ∧ j < rs.length ∧ j ≠ i ∧ Q (.bl true) H
theorem sc_is_moved : FnScope ["log", "place", "rest"] ["log", "place", "rest"] d_is_moved.scope := ⟨rfl, rfl, rfl, by decide +kernel, rfl, by decide +kernel, by decide +kernel⟩
theorem ok_is_moved (T : Tx K mg) (D : Fd K mg d_is_moved) (h_is_from : Ok P w K mg base 1 "is_from" ["thing", "least", "top"] spFrom) : Ok P w K mg base 2 "is_moved" ["log", "place", "rest"] (spMoved K) := by
  refine ok_mk D sc_is_moved (fun _ _ _ _ _ _ us hl => match us, hl with | [_, _, _], _ => rfl) (fun vs H Q E h => ?_) (fun f cdv A outer s H vs Q E hr h => ?_)
  · obtain ⟨a, l, rs, i, j, rfl, _⟩ := h
    rfl
  · obtain ⟨a, l, rs, i, j, rfl, hL, hl, hi, hj, ne, q⟩ := h
    refine ⟨_, 
    (pss_cons
      (ps_if (PW.pt (pw_or (pt_cmpR op_ne (pe_callB call_len_seq (by rfl) T.len PySem.boot_len (pa_cons (pv 2) pa_nil)) pe_int (nomark _)) (pw_or (pt_not (pt_val (pe_f h_is_from hr (pa_cons (pv 1) (pa_cons pe_int (pa_cons (pe_callB call_len_seq (by rfl) T.len PySem.boot_len (pa_cons (pv 0) pa_nil)) pa_nil)))))) (pw_or1 (pt_not (pt_val (pe_f h_is_from hr (pa_cons (pe_ix (r := rIxL K) ix_list (pv 2) pe_int (fun _ _ => rfl)) (pa_cons pe_int (pa_cons (pe_callB call_len_seq (by rfl) T.len PySem.boot_len (pa_cons (pv 0) pa_nil)) pa_nil))))))))))
        (pss_one
          (ps_ret pe_bl))
        pss_nil)
    (pss_one
      (ps_ret (pe_cmpR op_ne (pv 1) (pe_ix (r := rIxL K) ix_list (pv 2) pe_int (fun _ _ => rfl)) (nomark _)))))
      , ?_⟩
    obtain ⟨xs, hS, hR⟩ := hL.inv
    have hle := rows_len hR
    refine ⟨_, rfl, l, _, rfl, .inl hl, rfl, _, rfl, iteNS rfl ⟨_, rfl, _, rfl, a, _, rfl, .inl hS, _, _, _, rfl, ?_⟩⟩
    rw [decide_eq_true (show (0 : Int) ≤ (i : Int) by omega), decide_eq_true (show (i : Int) < (xs.length : Int) by omega)]
    refine ⟨true, rfl, iteF ⟨_, rfl, l, _, _, _, rfl, rfl, hl, at0, _, rfl, a, _, rfl, .inl hS, _, _, _, rfl, ?_⟩⟩
    rw [decide_eq_true (show (0 : Int) ≤ (j : Int) by omega), decide_eq_true (show (j : Int) < (xs.length : Int) by omega)]
    refine ⟨true, rfl, iteF ⟨_, rfl, _, rfl, l, _, _, _, rfl, rfl, hl, at0, rfl, ?_⟩⟩
    rw [decide_eq_false (fun z => ne (by have := V.int.inj z; omega))]
    exact q
end
end K21
namespace K21
open PySem PySem.Spec PyProof.Rows L2 TL
section
variable {P : Program} {w : World} {K : PySem.W.Frag} {mg : Str → Option Value} {base : Heap}
/-! ### is_step -/
def spStep (K : PySem.W.Frag) : Sp := fun vs H Q _ => ∃ (a : Addr) (v : V) (rs : List Row) (s : Stp), vs = [.ref a, v] ∧ OkRows rs ∧ LogAt K H a rs ∧ Dp K H v (stpD s) ∧ s.Ok rs ∧ ∀ H', Same H H' → Q (.bl true) H'
theorem sc_is_step : FnScope ["log", "thing", "word", "place", "rest"] ["log", "thing"] d_is_step.scope := ⟨rfl, rfl, rfl, by decide +kernel, rfl, by decide +kernel, by decide +kernel⟩
theorem ok_is_step (T : Tx K mg) (D : Fd K mg d_is_step) (h_is_from : Ok P w K mg base 1 "is_from" ["thing", "least", "top"] spFrom) (h_is_row : Ok P w K mg base 3 "is_row" ["thing"] (spRow K))
    (h_is_turned : Ok P w K mg base 4 "is_turned" ["log", "place", "rest"] (spTurned K)) (h_is_moved : Ok P w K mg base 2 "is_moved" ["log", "place", "rest"] (spMoved K)) : Ok P w K mg base 5 "is_step" ["log", "thing"] (spStep K) := by
  refine ok_mk D sc_is_step (fun _ _ _ _ _ _ us hl => match us, hl with | [_, _], _ => rfl) (fun vs H Q E h => ?_) (fun f cdv A outer s H vs Q E hr h => ?_)
  · obtain ⟨a, v, rs, st, rfl, _⟩ := h
    rfl
  · obtain ⟨a, v, rs, st, rfl, okr, hL, hv, ok, q⟩ := h
    obtain ⟨t, ys, rfl, hT, hY⟩ := stp_inv hv
    obtain ⟨xs, hS, hR⟩ := hL.inv
    have hle := rows_len hR
    refine ⟨_, 
    (pss_cons
      (ps_if (PW.pt (pw_or (pt_not (pt_val (pe_callB call_isB (by rfl) T.isinstance (by decide +kernel) (pa_cons (pv 1) (pa_cons (pe_bt "tuple" T.tuple) pa_nil))))) (pw_or (pt_cmpR op_lt (pe_callB call_len_seq (by rfl) T.len PySem.boot_len (pa_cons (pv 1) pa_nil)) pe_int (nomark _)) (pw_or1 (pt_not (pt_val (pe_callB call_isB (by rfl) T.isinstance (by decide +kernel) (pa_cons (pe_ix (r := rIxT K) ix_tup (pv 1) pe_int (fun _ _ => rfl)) (pa_cons (pe_bt "str" T.str) pa_nil)))))))))
        (pss_one
          (ps_ret pe_bl))
        pss_nil)
    (pss_cons
      (ps_asg (pv 1) (pg_star (n := 2) rfl (pgs_cons (pg_name (i := 2) sc_is_step.nd rfl (.inl rfl)) (pgs_cons (pg_name (i := 3) sc_is_step.nd rfl (.inl rfl)) (pgs_cons (pg_name (i := 4) sc_is_step.nd rfl (.inl rfl)) pgs_nil)))))
    (pss_cons
      (ps_if (pt_cmpR op_eq (pv 2) pe_str (nomark _))
        (pss_one
          (ps_ret (pe_and (pe_cmpR (op_eqD hr.units) (pv 4) (pe_lst pa_nil) (nomark _)) (pe_one (pe_f h_is_from hr (pa_cons (pv 3) (pa_cons pe_int (pa_cons (pe_callB call_len_seq (by rfl) T.len PySem.boot_len (pa_cons (pv 0) pa_nil)) pa_nil))))))))
        pss_nil)
    (pss_cons
      (ps_if (pt_cmpR op_eq (pv 2) pe_str (nomark _))
        (pss_one
          (ps_ret (pe_and (pe_cmpR op_eq (pe_callB call_len_seq (by rfl) T.len PySem.boot_len (pa_cons (pv 4) pa_nil)) pe_int (nomark _)) (pe_and (pe_f h_is_from hr (pa_cons (pv 3) (pa_cons pe_int (pa_cons (pe_op op_add (pe_callB call_len_seq (by rfl) T.len PySem.boot_len (pa_cons (pv 0) pa_nil)) pe_int) pa_nil)))) (pe_one (pe_f h_is_row hr (pa_cons (pe_ix (r := rIxL K) ix_list (pv 4) pe_int (fun _ _ => rfl)) pa_nil)))))))
        pss_nil)
    (pss_cons
      (ps_if (pt_cmpR op_eq (pv 2) pe_str (nomark _))
        (pss_one
          (ps_ret (pe_f h_is_turned hr (pa_cons (pv 0) (pa_cons (pv 3) (pa_cons (pv 4) pa_nil))))))
        pss_nil)
    (pss_one
      (ps_ret (pe_and (pe_cmpR op_eq (pv 2) pe_str (nomark _)) (pe_one (pe_f h_is_moved hr (pa_cons (pv 0) (pa_cons (pv 3) (pa_cons (pv 4) pa_nil)))))))))))))
      , ?_⟩
    refine ⟨_, rfl, _, "tuple", "tuple", true, rfl, tyx_T hT, by decide +kernel, true, rfl, iteF ?_⟩
    refine ⟨_, rfl, t, _, rfl, .inr hT, _, _, rfl, rfl, _, rfl, ?_⟩
    rw [decide_eq_false (show ¬ (((V.str st.wd :: V.int (st.at : Int) :: ys).length : Int) < 2) by rw [List.length_cons, List.length_cons]; omega)]
    refine iteF ⟨_, rfl, t, _, _, _, rfl, rfl, hT, at0, _, "str", "str", true, rfl, tyx_str _, by decide +kernel, true, rfl, iteF ?_⟩
    refine ⟨_, rfl, t, _, rfl, hT, Nat.le_add_left _ _, fun p hp => ⟨_, _, rfl, _, _, rfl, _, _, rfl, rfl, ?_⟩⟩
    have s1 : Same H (upd H p (.lst ys)) := Same.new hp
    have hY1 := hY.same s1
    have sl : SqL K (upd H p (.lst ys)) p ys := .of upd_same
    have hS1 := s1.seq hS
    cases st with
    | out i =>
      cases hY1.nil_inv
      have hi : i < rs.length := ok
      refine ⟨_, rfl, rfl, _, rfl, iteT ⟨_, rfl, Nat.le_of_ble_eq_true rfl, fun p2 hp2 => ?_⟩⟩
      have s2 := s1.add (o := .lst []) hp2
      have e0 : Sh 1 (.list []) := Sh.list fun d hd => by cases hd
      refine ⟨.list [], .list [], .lst ((Same.new hp2).seq sl) .nil, .lst (.of upd_same) .nil, e0.ok, e0.ok, ?_⟩
      rw [eqv_self e0]
      refine ⟨true, rfl, iteT ⟨_, rfl, _, rfl, a, _, rfl, .inl (s2.seq hS), _, _, _, rfl, ?_⟩⟩
      rw [decide_eq_true (show (0 : Int) ≤ ((Stp.out i).at : Int) by omega), decide_eq_true (show ((Stp.out i).at : Int) < (xs.length : Int) by rw [hle]; exact Int.ofNat_lt.mpr hi)]
      exact q _ s2
    | put i r =>
      obtain ⟨v, rfl, hv1⟩ := one_inv hY1
      have hi : i ≤ rs.length := ok.1
      refine ⟨_, rfl, rfl, _, rfl, iteF ⟨_, rfl, rfl, _, rfl, iteT ⟨_, rfl, p, _, rfl, .inl sl, rfl, true, rfl, iteT ⟨_, rfl, _, rfl, a, _, rfl, .inl hS1, _, _, rfl, rfl, _, _, _, rfl, ?_⟩⟩⟩⟩
      rw [decide_eq_true (show (0 : Int) ≤ ((Stp.put i r).at : Int) by omega), decide_eq_true (show ((Stp.put i r).at : Int) < (xs.length : Int) + 1 by rw [hle]; exact Int.lt_add_one_of_le (Int.ofNat_le.mpr hi))]
      refine ⟨true, rfl, iteT ⟨_, rfl, p, _, _, _, rfl, rfl, sl, at0, v, r, rfl, ok.2, hv1, fun H2 s2 => ?_⟩⟩
      exact q _ (s1.trans s2)
    | turn i r =>
      obtain ⟨v, rfl, hv1⟩ := one_inv hY1
      obtain ⟨ok1, r0, e0, en⟩ := ok
      refine ⟨_, rfl, rfl, _, rfl, iteF ⟨_, rfl, rfl, _, rfl, iteF ⟨_, rfl, rfl, _, rfl, iteT ⟨_, rfl, _, rfl, _, rfl, a, p, v, rs, i, r, r0, rfl, okr, hL.same s1, sl, hv1, ok1, e0, en, fun H2 s2 => ?_⟩⟩⟩⟩
      exact q _ (s1.trans s2)
    | move i j =>
      obtain ⟨v, rfl, hv1⟩ := one_inv hY1
      cases hv1.int_inv
      refine ⟨_, rfl, rfl, _, rfl, iteF ⟨_, rfl, rfl, _, rfl, iteF ⟨_, rfl, rfl, _, rfl, iteF ⟨_, rfl, rfl, true, rfl, iteT ⟨_, rfl, _, rfl, _, rfl, a, p, rs, i, j, rfl, hL.same s1, sl, ok.1, ok.2.1, ok.2.2, ?_⟩⟩⟩⟩⟩
      exact q _ s1
/-! ### behind_step -/
def spBehindStep (K : PySem.W.Frag) : Sp := fun vs H Q _ => ∃ (a : Addr) (v : V) (rs : List Row) (s : Stp), vs = [.ref a, v] ∧ LogA K H a rs ∧ Dp K H v (stpD s) ∧ s.Ok rs ∧ rs.length ≤ 60 ∧ ∀ (b : Addr) (H' : Hp), Same H H' → LogAt K H' b (s.on rs) → Q (.ref b) H'
theorem sc_behind_step : FnScope ["log", "step", "word", "place", "rest", "rows", "row"] ["log", "step"] d_behind_step.scope := ⟨rfl, rfl, rfl, by decide +kernel, rfl, by decide +kernel, by decide +kernel⟩
theorem dpAll_erase {H : Hp} : ∀ {vs : List V} {ds : List PyData} (i : Nat), DpAll K H vs ds → DpAll K H (vs.eraseIdx i) (ds.eraseIdx i)
  | _, _, _, .nil => .nil
  | _, _, 0, .cons _ t => t
  | _, _, i + 1, .cons h t => .cons h (dpAll_erase i t)
theorem dpAll_set {H : Hp} {v : V} {d : PyData} (hv : Dp K H v d) : ∀ {vs : List V} {ds : List PyData} (i : Nat), DpAll K H vs ds → DpAll K H (vs.set i v) (ds.set i d)
  | _, _, _, .nil => .nil
  | _, _, 0, .cons _ t => .cons hv t
  | _, _, i + 1, .cons h t => .cons h (dpAll_set hv i t)
theorem map_erase {α β : Type} (f : α → β) : ∀ (xs : List α) (i : Nat), (xs.eraseIdx i).map f = (xs.map f).eraseIdx i
  | [], _ => rfl
  | _ :: _, 0 => rfl
  | x :: xs, i + 1 => congrArg (f x :: ·) (map_erase f xs i)
theorem seqIx_nat {n i : Nat} (h : i < n) : seqIndex? (i : Int) n = some i := seqIndex_of (by omega) (by omega)
theorem ok_behind_step (T : Tx K mg) (D : Fd K mg d_behind_step) : Ok P w K mg base 1 "behind_step" ["log", "step"] (spBehindStep K) := by
  refine ok_mk D sc_behind_step (fun _ _ _ _ _ _ us hl => match us, hl with | [_, _], _ => rfl) (fun vs H Q E h => ?_) (fun f cdv A outer s H vs Q E hr h => ?_)
  · obtain ⟨a, v, rs, st, rfl, _⟩ := h
    rfl
  · obtain ⟨a, v, rs, st, rfl, hL, hv, ok, l60, q⟩ := h
    obtain ⟨t, ys, rfl, hT, hY⟩ := stp_inv hv
    refine ⟨_, 
    (pss_cons
      (ps_asg (pv 1) (pg_star (n := 2) rfl (pgs_cons (pg_name (i := 2) sc_behind_step.nd rfl (.inl rfl)) (pgs_cons (pg_name (i := 3) sc_behind_step.nd rfl (.inl rfl)) (pgs_cons (pg_name (i := 4) sc_behind_step.nd rfl (.inl rfl)) pgs_nil)))))
    (pss_cons
      (ps_set (i := 5) sc_behind_step.nd rfl (.inl rfl) (pe_callTy call_list_of (by rfl) T.list (by decide +kernel) (pa_cons (pv 0) pa_nil)))
    (pss_cons
      (ps_if (pt_cmpR op_in2 (pv 2) (pe_tup (pa_cons pe_str (pa_cons pe_str pa_nil))) rfl)
        (pss_cons
          (ps_set (i := 6) sc_behind_step.nd rfl (.inl rfl) (pe_bm PySem.F.plainAttrs_list PySem.F.slot_list_pop PySem.F.type_list_pop mt_popAt (pv 5) (pa_cons (pv 3) pa_nil)))
        (pss_one
          (ps_if (pt_cmpR op_eq (pv 2) pe_str (nomark _))
            (pss_one
              (ps_expr (pe_bm PySem.F.plainAttrs_list PySem.F.slot_list_insert PySem.F.type_list_insert mt_insert (pv 5) (pa_cons (pe_ix (r := rIxL K) ix_list (pv 4) pe_int (fun _ _ => rfl)) (pa_cons (pv 6) pa_nil)))))
            pss_nil)))
        (pss_one
          (ps_if (pt_cmpR op_eq (pv 2) pe_str (nomark _))
            (pss_one
              (ps_expr (pe_bm PySem.F.plainAttrs_list PySem.F.slot_list_insert PySem.F.type_list_insert mt_insert (pv 5) (pa_cons (pv 3) (pa_cons (pe_ix (r := rIxL K) ix_list (pv 4) pe_int (fun _ _ => rfl)) pa_nil)))))
            (pss_one
              (ps_asg (pe_ix (r := rIxL K) ix_list (pv 4) pe_int (fun _ _ => rfl)) (pg_sub (pv 5) (pv 3) set_list))))))
    (pss_one
      (ps_ret (pv 5))))))
      , ?_⟩
    refine ⟨_, rfl, t, _, rfl, hT, Nat.le_add_left _ _, fun p hp => ⟨_, _, rfl, _, _, rfl, _, _, rfl, rfl, ?_⟩⟩
    rw [show List.drop 2 (V.str st.wd :: V.int (st.at : Int) :: ys) = ys from rfl]
    have s1 : Same H (upd H p (.lst ys)) := Same.new hp
    obtain ⟨xs, hS, hR⟩ := hL.same s1
    have hle := rows_len hR
    refine ⟨_, rfl, a, xs, rfl, hS, fun b hb => ?_⟩
    have hbH := s1.free hb
    refine ⟨_, rfl, Nat.le_of_ble_eq_true rfl, fun p2 hp2 => ⟨p2, _, rfl, .inr (.of upd_same), rfl, rfl, _, rfl, ?_⟩⟩
    have s2 : Same (upd H p (.lst ys)) (upd (upd (upd H p (.lst ys)) b (.lst xs)) p2 (.tup [.str "out", .str "move"])) := (Same.new hb).add hp2
    have s3 := s1.trans s2
    have nb : b ≠ p2 := ne_of_none upd_same hp2
    have eb : (upd (upd (upd H p (.lst ys)) b (.lst xs)) p2 (.tup [.str "out", .str "move"])) b = some (.lst xs) := by
      rw [upd_ne nb, upd_same]
    have hY3 := (hY.same s1).same s2
    have hR3 := hR.same s2
    have sl : SqL K _ p ys := s2.seq (.of upd_same)
    have nbp : p ≠ b := ne_of_none upd_same hb
    have la := ok.at
    have fin : ∀ zs, DpAll K (upd (upd (upd H p (.lst ys)) b (.lst xs)) p2 (.tup [.str "out", .str "move"])) zs ((st.on rs).map rowD) → Q (.ref b) (upd (upd (upd (upd H p (.lst ys)) b (.lst xs)) p2 (.tup [.str "out", .str "move"])) b (.lst zs)) := fun zs hz =>
      q b _ (s3.mut hbH) (.mk (.of upd_same) (rows_ke (Ke.set b _ _) eb hz))
    generalize upd (upd (upd H p (.lst ys)) b (.lst xs)) p2 (.tup [.str "out", .str "move"]) = H3 at *
    cases st with
    | out i =>
      have hi : i < xs.length := by rw [hle]; exact ok
      refine iteT ⟨_, rfl, .inl ⟨rfl, _, .of eb⟩, _, rfl, b, xs, _, i, _, rfl, rfl, eb, ?_, ?_, seqIx_nat hi, List.getElem?_eq_getElem hi, ?_⟩
      · show -(2 ^ 63) ≤ (i : Int)
        omega
      · show (i : Int) < 2 ^ 63
        omega
      refine ⟨_, rfl, rfl, _, rfl, iteF ⟨_, rfl, fin _ ?_⟩⟩
      show DpAll K H3 _ ((rs.eraseIdx i).map rowD)
      rw [map_erase]
      exact dpAll_erase i hR3
    | put i r =>
      obtain ⟨v, rfl, hv1⟩ := one_inv hY3
      have la2 : i ≤ rs.length := ok.1
      refine iteF ⟨_, rfl, rfl, _, rfl, iteT ⟨_, rfl, .inl ⟨rfl, _, .of eb⟩, _, rfl, _, rfl, p, _, _, _, rfl, rfl, sl, at0, b, xs, _, _, rfl, rfl, eb, small (by omega), ?_, ?_, _, rfl, fin _ ?_⟩⟩
      · show (0 : Int) ≤ (i : Int)
        omega
      · show (i : Int) < 2 ^ 63
        omega
      show DpAll K H3 (xs.take i ++ [v] ++ xs.drop i) ((rs.take i ++ [r] ++ rs.drop i).map rowD)
      rw [List.map_append, List.map_append, List.map_take, List.map_drop]
      exact ((hR3.take i).append (.one hv1)).append (hR3.drop i)
    | turn i r =>
      obtain ⟨v, rfl, hv1⟩ := one_inv hY3
      have hi : i < xs.length := by
        obtain ⟨_, r0, e0, _⟩ := ok
        rw [hle]
        exact (List.getElem?_eq_some_iff.mp e0).1
      refine iteF ⟨_, rfl, rfl, _, rfl, iteF ⟨_, rfl, p, _, _, _, rfl, rfl, sl, at0, _, rfl, _, rfl, b, xs, _, i, rfl, rfl, eb, ixN_nat hi, _, rfl, fin _ ?_⟩⟩
      show DpAll K H3 (xs.set i v) ((rs.set i r).map rowD)
      rw [List.map_set]
      exact dpAll_set hv1 i hR3
    | move i j =>
      obtain ⟨v, rfl, hv1⟩ := one_inv hY3
      cases hv1.int_inv
      have hi : i < xs.length := by rw [hle]; exact ok.1
      refine iteT ⟨_, rfl, .inl ⟨rfl, _, .of eb⟩, _, rfl, b, xs, _, i, _, rfl, rfl, eb, ?_, ?_, seqIx_nat hi, List.getElem?_eq_getElem hi, ?_⟩
      · show -(2 ^ 63) ≤ (i : Int)
        omega
      · show (i : Int) < 2 ^ 63
        omega
      have lj := ok.2.1
      have le := List.length_eraseIdx_le xs i
      refine ⟨_, rfl, rfl, _, rfl, iteT ⟨_, rfl, .inl ⟨rfl, _, .of upd_same⟩, _, rfl, p, _, _, _, rfl, rfl, (Ke.set b H3 _).seq nbp sl, at0, _, rfl, b, xs.eraseIdx i, (j : Int), _, rfl, rfl, upd_same, small (by omega), by omega, by omega, ?_⟩⟩
      rw [upd_upd]
      refine ⟨_, rfl, fin _ ?_⟩
      obtain ⟨r, er, hr1⟩ := rows_get hR3 (List.getElem?_eq_getElem hi)
      show DpAll K H3 ((xs.eraseIdx i).take j ++ [xs[i]] ++ (xs.eraseIdx i).drop j) (((rs.eraseIdx i).take j ++ (rs[i]?).toList ++ (rs.eraseIdx i).drop j).map rowD)
      rw [er, List.map_append, List.map_append, List.map_take, List.map_drop, map_erase]
      have h1 := dpAll_erase i hR3
      exact ((h1.take j).append (.one hr1)).append (h1.drop j)
end
end K21
namespace K21
open PySem PySem.Spec PyProof.Rows L2 TL
section
variable {P : Program} {w : World} {K : PySem.W.Frag} {mg : Str → Option Value} {base : Heap}
/-! ### mended -/
def spMended (K : PySem.W.Frag) : Sp := fun vs H Q _ => ∃ (a : Addr) (v : V) (rs : List Row) (s : Stp), vs = [.ref a, v] ∧ OkRows rs ∧ LogAt K H a rs ∧ Dp K H v (stpD s) ∧ s.Ok rs ∧ rs.length ≤ 60 ∧ ∀ (b : Addr) (H' : Hp), Same H H' → LogAt K H' b (s.on rs) → Q (.ref b) H'
theorem sc_mended : FnScope ["log", "step"] ["log", "step"] d_mended.scope := ⟨rfl, rfl, rfl, by decide +kernel, rfl, by decide +kernel, by decide +kernel⟩
theorem ok_mended (T : Tx K mg) (D : Fd K mg d_mended) (h_is_step : Ok P w K mg base 5 "is_step" ["log", "thing"] (spStep K)) (h_behind_step : Ok P w K mg base 1 "behind_step" ["log", "step"] (spBehindStep K)) : Ok P w K mg base 6 "mended" ["log", "step"] (spMended K) := by
  refine ok_mk D sc_mended (fun _ _ _ _ _ _ us hl => match us, hl with | [_, _], _ => rfl) (fun vs H Q E h => ?_) (fun f cdv A outer s H vs Q E hr h => ?_)
  · obtain ⟨a, v, rs, st, rfl, _⟩ := h
    rfl
  · obtain ⟨a, v, rs, st, rfl, okr, hL, hv, ok, l60, q⟩ := h
    refine ⟨_, 
    (pss_cons
      (ps_if (pt_not (pt_val (pe_f h_is_step hr (pa_cons (pv 0) (pa_cons (pv 1) pa_nil)))))
        (pss_one
          ps_never)
        pss_nil)
    (pss_one
      (ps_ret (pe_f h_behind_step hr (pa_cons (pv 0) (pa_cons (pv 1) pa_nil))))))
      , ?_⟩
    refine ⟨_, rfl, _, rfl, a, v, rs, st, rfl, okr, hL, hv, ok, fun H1 s1 => ⟨true, rfl, iteF ⟨_, rfl, _, rfl, a, v, rs, st, rfl, (hL.same s1).a, hv.same s1, ok, l60, fun b H2 s2 hb => ?_⟩⟩⟩
    exact q b H2 (s1.trans s2) hb
/-! ### all_steps -/
/-- a walk, its turns by a rule -/
theorem go_it {J : It} {n : Nat} {G : Hp → Prop} {Y : Nat → Hp → V → Hp → Prop} (w : Walk J n G Y) {H0 : Hp} {Qd : Hp → Prop} {body : V → Hp → (Hp → Prop) → Prop} (Pv : Nat → Hp → Prop) (h0 : Pv 0 H0) (hG : ∀ i H, Pv i H → G H)
    (hs : ∀ i x H H', i < n → Pv i H → Y i H x H' → body x H' (Pv (i + 1))) (hd : ∀ H, Pv n H → Qd H) :
    ∃ W : Nat → Nat → Hp → Prop, (∃ m, W 0 m H0) ∧ ∀ i m H, W i m H → (J.stop i H ∧ Qd H) ∨ (J.go i H ∧ ∃ Nx : Hp → Prop, (∀ H', Nx H' → ∃ m', m' < m ∧ W (i + 1) m' H') ∧ ∀ x H', J.yld i H x H' → body x H' Nx) := by
  refine ⟨fun i m H' => i ≤ n ∧ m + i = n ∧ Pv i H', ⟨n, Nat.zero_le _, rfl, h0⟩, fun i m H' ⟨hi, hm, p⟩ => ?_⟩
  have g := hG i H' p
  rcases Nat.lt_or_eq_of_le hi with hlt | rfl
  · exact .inr ⟨w.goes i H' hlt g, Pv (i + 1), fun H2 p2 => ⟨m - 1, by omega, hlt, by omega, p2⟩, fun x H2 y => hs i x H' H2 hlt p (w.yields i H' x H2 hlt g y)⟩
  · exact .inl ⟨w.stops H' g, hd H' p⟩
/-- steps gathered at D -/
def Acc (K : PySem.W.Frag) (rs : List Row) (D : Addr) (ss : List Stp) (k : Nat) (H : Hp) : Prop := ∃ acc, H D = some (.lst acc) ∧ acc.length ≤ k ∧ DpAll K H acc (ss.map stpD) ∧ ∀ s ∈ ss, s.Ok rs
theorem steps_noL (ss : List Stp) : noL.noLs (ss.map stpD) = true := noLs_of fun d hd => by
  obtain ⟨s, _, rfl⟩ := List.mem_map.mp hd
  exact stpD_noL s
theorem Acc.same {rs : List Row} {D : Addr} {ss : List Stp} {k : Nat} {H H' : Hp} (e : Same H H') (h : Acc K rs D ss k H) : Acc K rs D ss k H' := by
  obtain ⟨acc, e1, l1, d1, o1⟩ := h
  exact ⟨acc, e _ _ e1, l1, d1.same e, o1⟩
theorem Acc.up {rs : List Row} {D : Addr} {ss : List Stp} {k k' : Nat} {H : Hp} (h : Acc K rs D ss k H) (e : k ≤ k') : Acc K rs D ss k' H := by
  obtain ⟨acc, e1, l1, d1, o1⟩ := h
  exact ⟨acc, e1, Nat.le_trans l1 e, d1, o1⟩
theorem Acc.push {rs : List Row} {D : Addr} {ss : List Stp} {k : Nat} {H H' : Hp} {y : V} {s : Stp} (h : Acc K rs D ss k H) (e : Same H H') (hy : Dp K H' y (stpD s)) (ok : s.Ok rs) (hk : k < 1000) :
    ∃ acc, H' D = some (.lst acc) ∧ acc.length < sizeLine ∧ Acc K rs D (ss ++ [s]) (k + 1) (upd H' D (.lst (acc ++ [y]))) := by
  obtain ⟨acc, e1, l1, d1, o1⟩ := h.same e
  refine ⟨acc, e1, small (by omega), acc ++ [y], upd_same, ?_, ?_, fun z hz => ?_⟩
  · rw [List.length_append]
    exact Nat.add_le_add_right l1 1
  · refine dpAllKeepT (fun a xs h => (Ke.set D H' _).seqT e1 h) (steps_noL _) ?_
    rw [List.map_append]
    exact d1.append (.one hy)
  · rcases List.mem_append.mp hz with hz | hz
    · exact o1 z hz
    · rw [List.mem_singleton.mp hz]
      exact ok
theorem Acc.join {rs : List Row} {D D2 : Addr} {ss ss2 : List Stp} {k k2 : Nat} {H : Hp} (h : Acc K rs D ss k H) (h2 : Acc K rs D2 ss2 k2 H) (hk : k + k2 < 1000) :
    ∃ xs zs, H D = some (.lst xs) ∧ H D2 = some (.lst zs) ∧ xs.length + zs.length ≤ sizeLine ∧ Acc K rs D (ss ++ ss2) (k + k2) (upd H D (.lst (xs ++ zs))) := by
  obtain ⟨xs, e1, l1, d1, o1⟩ := h
  obtain ⟨zs, e2, l2, d2, o2⟩ := h2
  refine ⟨xs, zs, e1, e2, Nat.le_of_lt (small (by omega)), xs ++ zs, upd_same, ?_, ?_, fun z hz => ?_⟩
  · rw [List.length_append]
    omega
  · refine dpAllKeepT (fun a xs h => (Ke.set D H _).seqT e1 h) (steps_noL _) ?_
    rw [List.map_append]
    exact d1.append d2
  · rcases List.mem_append.mp hz with hz | hz
    · exact o1 z hz
    · exact o2 z hz
theorem rg_len (n : Nat) : (rgV 0 (n : Int)).length = n := by
  rw [rgV_length]
  omega
theorem rg_at {n i : Nat} (h : i < n) : (rgV 0 (n : Int))[i]? = some (V.int (i : Int)) := by
  unfold rgV
  rw [List.getElem?_map, List.getElem?_range (by omega)]
  show some (V.int (0 + (i : Int))) = _
  rw [Int.zero_add]
def spAll (K : PySem.W.Frag) : Sp := fun vs H Q _ => ∃ (a c : Addr) (v : V) (rs : List Row) (m : Row), vs = [.ref a, .ref c] ∧ OkRows rs ∧ LogAt K H a rs ∧ SqL K H c [v] ∧ Dp K H v (rowD m) ∧ m.Ok ∧ rs.length ≤ 7 ∧
  ∀ (b : Addr) (H' : Hp) (ss : List Stp), Same H H' → H b = none → Acc K rs b ss 100 H' → (∀ i, i ≤ rs.length → Stp.put i m ∈ ss) → Q (.ref b) H'
theorem sc_all_steps : FnScope ["log", "some", "places", "found", "place", "row", "to"] ["log", "some"] d_all_steps.scope := ⟨rfl, rfl, rfl, by decide +kernel, rfl, by decide +kernel, by decide +kernel⟩
theorem ok_all_steps (T : Tx K mg) (D : Fd K mg d_all_steps) : Ok P w K mg base 1 "all_steps" ["log", "some"] (spAll K) := by
  refine ok_mk D sc_all_steps (fun _ _ _ _ _ _ us hl => match us, hl with | [_, _], _ => rfl) (fun vs H Q E h => ?_) (fun f cdv A outer s H vs Q E hr h => ?_)
  · obtain ⟨a, c, v, rs, m, rfl, _⟩ := h
    rfl
  · obtain ⟨a, c, v, rs, m, rfl, okr, hL, hC, hv, ok, l7, q⟩ := h
    refine ⟨_, 
    (pss_cons
      (ps_set (i := 2) sc_all_steps.nd rfl (.inr rfl) (pe_listRg rfl (by rfl) T.list (prg_1 (by rfl) T.range (pe_callB call_len_seq (by rfl) T.len PySem.boot_len (pa_cons (pv 0) pa_nil)))))
    (pss_cons
      (ps_setLc (i := 3) rfl sc_all_steps.nd rfl rfl (sw_true rfl rfl rfl (by decide +kernel)) (pi_list (pv 2)) (blkOk_by (N := ["log", "some", "places", "found", "place", "row", "to"]) (sc := d_all_steps.scope) (own := [("place", 4)]) (by decide +kernel)) (fun _ _ _ _ _ => (pg_name (i := 4) sc_all_steps.nd rfl (.inl rfl))) (fun _ _ _ _ _ => pts_nil) (fun _ _ _ _ _ => (pe_tup (pa_cons pe_str (pa_cons (pv 4) pa_nil)))))
    (pss_cons
      (ps_expr (pe_bm PySem.F.plainAttrs_list PySem.F.slot_list_extend PySem.F.type_list_extend mt_extend (pv 3) (pa_cons (pe_lc2 rfl sc_all_steps.nd (pi_range1 (by rfl) T.range (pa_cons (pe_op op_add (pe_callB call_len_seq (by rfl) T.len PySem.boot_len (pa_cons (pv 0) pa_nil)) pe_int) pa_nil)) (blkOk_by (N := ["log", "some", "places", "found", "place", "row", "to"]) (sc := d_all_steps.scope) (own := [("place", 4), ("row", 5)]) (by decide +kernel)) (vs1 := [5]) (by decide)
        (fun _ _ _ _ _ => pg_name (i := 4) sc_all_steps.nd rfl (.inl rfl)) (fun _ _ _ _ _ => pts_nil) (fun _ _ _ _ _ => (show PI _ _ _ (iList K _) from pi_list (pv 1))) (fun _ _ _ _ _ => pg_name (i := 5) sc_all_steps.nd rfl (.inl rfl)) (fun _ _ _ _ _ => pts_nil) (fun _ _ _ _ _ => pe_tup (pa_cons pe_str (pa_cons (pv 4) (pa_cons (pv 5) pa_nil))))) pa_nil)))
    (pss_cons
      (ps_expr (pe_bm PySem.F.plainAttrs_list PySem.F.slot_list_extend PySem.F.type_list_extend mt_extend (pv 3) (pa_cons (pe_lc2 rfl sc_all_steps.nd (pi_list (pv 2)) (blkOk_by (N := ["log", "some", "places", "found", "place", "row", "to"]) (sc := d_all_steps.scope) (own := [("place", 4), ("row", 5)]) (by decide +kernel)) (vs1 := [5]) (by decide)
        (fun _ _ _ _ _ => pg_name (i := 4) sc_all_steps.nd rfl (.inl rfl)) (fun _ _ _ _ _ => pts_nil) (fun _ _ _ _ _ => (show PI _ _ _ (iList K _) from pi_list (pv 1))) (fun _ _ _ _ _ => pg_name (i := 5) sc_all_steps.nd rfl (.inl rfl)) (fun _ _ _ _ _ => pts_one (pt_cmpR (show OpR _ _ (rNeD K) from op_neD hr.units) (pv 5) (pe_ix (r := rIxL K) ix_list (pv 0) (pv 4) (fun _ _ => rfl)) (nomark _))) (fun _ _ _ _ _ => pe_tup (pa_cons pe_str (pa_cons (pv 4) (pa_cons (pv 5) pa_nil))))) pa_nil)))
    (pss_cons
      (ps_expr (pe_bm PySem.F.plainAttrs_list PySem.F.slot_list_extend PySem.F.type_list_extend mt_extend (pv 3) (pa_cons (pe_lc2 rfl sc_all_steps.nd (pi_list (pv 2)) (blkOk_by (N := ["log", "some", "places", "found", "place", "row", "to"]) (sc := d_all_steps.scope) (own := [("place", 4), ("to", 6)]) (by decide +kernel)) (vs1 := [6]) (by decide)
        (fun _ _ _ _ _ => pg_name (i := 4) sc_all_steps.nd rfl (.inl rfl)) (fun _ _ _ _ _ => pts_nil) (fun _ _ _ _ _ => (show PI _ _ _ (iList K _) from pi_list (pv 2))) (fun _ _ _ _ _ => pg_name (i := 6) sc_all_steps.nd rfl (.inl rfl)) (fun _ _ _ _ _ => pts_one (pt_cmpR op_ne (pv 6) (pv 4) (nomark _))) (fun _ _ _ _ _ => pe_tup (pa_cons pe_str (pa_cons (pv 4) (pa_cons (pv 6) pa_nil))))) pa_nil)))
    (pss_one
      (ps_ret (pv 3))))))))
      , ?_⟩
    obtain ⟨xs, hS, hR⟩ := hL.inv
    have hle := rows_len hR
    refine ⟨_, rfl, a, xs, rfl, .inl hS, _, rfl, RgOk.of_le (by omega) (by omega) (by omega) (by omega), fun P1 hP1 => ?_⟩
    have s1 : Same H (upd H P1 (.lst (rgV 0 xs.length))) := Same.new hP1
    have hP : SqL K (upd H P1 (.lst (rgV 0 xs.length))) P1 (rgV 0 xs.length) := .of upd_same
    rw [hle] at hP s1 ⊢
    generalize upd H P1 (.lst (rgV 0 rs.length)) = H1 at *
    have hS1 := s1.seq hS
    have hC1 := s1.seq hC
    have hv1 := hv.same s1
    have hR1 := hR.same s1
    refine ⟨_, rfl, P1, rfl, ⟨_, hP⟩, fun D hD => ?_⟩
    refine lc_it walk_list (fun i H2 => Same H1 H2 ∧ ∃ ss, Acc K rs D ss i H2) ⟨Same.new hD, [], [], upd_same, Nat.le_refl _, .nil, fun s h => by cases h⟩ (fun i H2 _ h => h.1.seq hP) ?_ ?_
    · rintro i x H2x H2 hi ⟨s2, ss, ac⟩ ⟨rfl, hx⟩
      rw [rg_len] at hi
      rw [rg_at hi] at hx
      cases Option.some.inj hx
      refine ⟨rfl, _, rfl, Nat.le_of_ble_eq_true rfl, fun t ht => ?_⟩
      obtain ⟨acc, e1, e2, e3⟩ := ac.push (s := .out i) (Same.new (o := .tup [.str "out", .int (i : Int)]) ht) (.tup (.of upd_same) (.cons (.str _) (.cons (.int _) .nil))) hi (by omega)
      exact ⟨acc, e1, e2, (s2.add ht).mut hD, _, e3⟩
    rintro H2 ⟨s2, ss, ac⟩
    rw [rg_len] at ac
    obtain ⟨acc, eD, -, -, -⟩ := id ac
    refine ⟨_, rfl, .inl ⟨rfl, _, .of eD⟩, _, rfl, a, _, rfl, .inl (s2.seq hS1), _, _, rfl, rfl, _, rfl, by omega, by omega, fun D2 hD2 => ?_⟩
    have ne2 : D ≠ D2 := ne_of_none eD hD2
    have en : ((xs.length : Int) + 1 - 0).toNat = rs.length + 1 := by omega
    refine go_it walk_range (fun i H3 => Same H2 H3 ∧ ∃ ss, Acc K rs D2 ss i H3 ∧ ∀ i', i' < i → Stp.put i' m ∈ ss) ⟨Same.new hD2, [], ⟨[], upd_same, Nat.le_refl _, .nil, fun s h => by cases h⟩, fun i' h => absurd h (Nat.not_lt_zero _)⟩ (fun _ _ _ => trivial) ?_ ?_
    · rintro i x H3x H3 hi ⟨s3, ss2, ac2, hin⟩ ⟨rfl, rfl⟩
      have e0 : V.int ((0 : Int) + (i : Nat)) = V.int ((i : Nat) : Int) := by
        congr 1
        omega
      have s23 := s2.trans s3
      show gName 4 (V.int (0 + (i : Nat))) _ _ _
      rw [e0]
      refine ⟨rfl, _, rfl, c, rfl, ⟨_, s23.seq hC1⟩, ?_⟩
      refine go_it walk_list (fun j H4 => Same H2 H4 ∧ ∃ ss, Acc K rs D2 ss (i + j) H4 ∧ ∀ i', i' < i + j → Stp.put i' m ∈ ss) ⟨s3, ss2, ac2, hin⟩ (fun j H4 h => (s2.trans h.1).seq hC1) ?_ ?_
      · rintro j x H4x H4 hj ⟨s4, ss4, ac4, hin4⟩ ⟨rfl, hx⟩
        obtain rfl : j = 0 := by
          have : j < 1 := hj
          omega
        cases Option.some.inj hx
        refine ⟨rfl, _, rfl, _, rfl, Nat.le_of_ble_eq_true rfl, fun t ht => ?_⟩
        have s5 := Same.new (o := .tup [.str "put", .int (i : Int), v]) ht
        obtain ⟨acc, e1, e2, e3⟩ := ac4.push (s := .put i m) s5 (.tup (.of upd_same) (.cons (.str _) (.cons (.int _) (.cons ((hv1.same (s2.trans s4)).same s5) .nil)))) ⟨by omega, ok⟩ (by omega)
        refine ⟨acc, e1, e2, (s4.trans s5).mut hD2, _, e3, fun i' h' => ?_⟩
        by_cases hlt : i' < i + 0
        · exact List.mem_append_left _ (hin4 i' hlt)
        · obtain rfl : i' = i := by omega
          exact List.mem_append_right _ (List.mem_singleton_self _)
      · rintro H4 ⟨s4, ss4, ac4, hin4⟩
        exact ⟨s4, ss4, ac4, hin4⟩
    rintro H3 ⟨s3, ss2, ac2, hin⟩
    obtain ⟨ys, zs, eD3, eD23, sz, acj⟩ := (ac.same s3).join ac2 (by omega)
    refine ⟨D, D2, ys, zs, rfl, rfl, eD3, eD23, sz, ?_⟩
    have s4 : Same H1 (upd H3 D (.lst (ys ++ zs))) := (s2.trans s3).mut hD
    clear eD3 eD23 ac2 ac eD
    generalize upd H3 D (.lst (ys ++ zs)) = H4 at *
    have hin : ∀ i, i ≤ rs.length → Stp.put i m ∈ ss ++ ss2 := fun i hi => List.mem_append_right _ (hin i (by omega))
    generalize ss ++ ss2 = ss at *
    obtain ⟨acc4, eD4, -, -, -⟩ := id acj
    refine ⟨_, rfl, .inl ⟨rfl, _, .of eD4⟩, _, rfl, P1, rfl, ⟨_, s4.seq hP⟩, fun D3 hD3 => ?_⟩
    refine go_it walk_list (fun i H5 => Same H4 H5 ∧ ∃ ss, Acc K rs D3 ss i H5) ⟨Same.new hD3, [], [], upd_same, Nat.le_refl _, .nil, fun s h => by cases h⟩ (fun i H5 h => (s4.trans h.1).seq hP) ?_ ?_
    · rintro i x H5x H5 hi ⟨s5, ss5, ac5⟩ ⟨rfl, hx⟩
      rw [rg_len] at hi
      rw [rg_at hi] at hx
      cases Option.some.inj hx
      have s45 := s4.trans s5
      refine ⟨rfl, _, rfl, c, rfl, ⟨_, s45.seq hC1⟩, ?_⟩
      refine go_it walk_list (fun j H6 => Same H4 H6 ∧ ∃ ss, Acc K rs D3 ss (i + j) H6) ⟨s5, ss5, ac5⟩ (fun j H6 h => (s4.trans h.1).seq hC1) ?_ ?_
      · rintro j x H6x H6 hj ⟨s6, ss6, ac6⟩ ⟨rfl, hx⟩
        obtain rfl : j = 0 := by
          have : j < 1 := hj
          omega
        cases Option.some.inj hx
        have s46 := s4.trans s6
        have ex : xs[i]? = some (xs[i]'(by omega)) := List.getElem?_eq_getElem _
        obtain ⟨r0, er0, hr0⟩ := rows_get (hR1.same s46) ex
        refine ⟨rfl, _, rfl, _, rfl, _, rfl, a, _, _, _, rfl, rfl, s46.seq hS1, atI_nat ex, rowD m, rowD r0, hv1.same s46, hr0, (rowD_sh ok).ok, (rowD_sh (okr _ (List.mem_of_getElem? er0))).ok, _, rfl, ?_⟩
        cases te : PyData.eqv (rowD m) (rowD r0) with
        | true => exact iteF ⟨s6, _, ac6.up (by omega)⟩
        | false =>
          refine iteT ⟨_, rfl, _, rfl, Nat.le_of_ble_eq_true rfl, fun t ht => ?_⟩
          have s7 := Same.new (o := .tup [.str "turn", .int (i : Int), v]) ht
          obtain ⟨acc, e1, e2, e3⟩ := ac6.push (s := .turn i m) s7 (.tup (.of upd_same) (.cons (.str _) (.cons (.int _) (.cons ((hv1.same s46).same s7) .nil)))) ⟨ok, r0, er0, te⟩ (by omega)
          exact ⟨acc, e1, e2, (s6.trans s7).mut hD3, _, e3⟩
      · rintro H6 ⟨s6, ss6, ac6⟩
        exact ⟨s6, ss6, ac6⟩
    rintro H5 ⟨s5, ss5, ac5⟩
    rw [rg_len] at ac5
    obtain ⟨ys, zs, eD5, eD35, sz, acj5⟩ := (acj.same s5).join ac5 (by omega)
    refine ⟨D, D3, ys, zs, rfl, rfl, eD5, eD35, sz, ?_⟩
    have s6 : Same H1 (upd H5 D (.lst (ys ++ zs))) := (s4.trans s5).mut hD
    clear eD5 eD35 ac5 acj eD4
    generalize upd H5 D (.lst (ys ++ zs)) = H6 at *
    have hin : ∀ i, i ≤ rs.length → Stp.put i m ∈ ss ++ ss5 := fun i hi => List.mem_append_left _ (hin i hi)
    generalize ss ++ ss5 = ss at *
    obtain ⟨acc4, eD4, -, -, -⟩ := id acj5
    refine ⟨_, rfl, .inl ⟨rfl, _, .of eD4⟩, _, rfl, P1, rfl, ⟨_, s6.seq hP⟩, fun D3 hD3 => ?_⟩
    refine go_it walk_list (fun i H7 => Same H6 H7 ∧ ∃ ss, Acc K rs D3 ss (i * 7) H7) ⟨Same.new hD3, [], [], upd_same, Nat.le_refl _, .nil, fun s h => by cases h⟩ (fun i H7 h => (s6.trans h.1).seq hP) ?_ ?_
    · rintro i x H7x H7 hi ⟨s7, ss7, ac7⟩ ⟨rfl, hx⟩
      rw [rg_len] at hi
      rw [rg_at hi] at hx
      cases Option.some.inj hx
      refine ⟨rfl, _, rfl, P1, rfl, ⟨_, (s6.trans s7).seq hP⟩, ?_⟩
      refine go_it walk_list (fun j H8 => Same H6 H8 ∧ ∃ ss, Acc K rs D3 ss (i * 7 + j) H8) ⟨s7, ss7, ac7⟩ (fun j H8 h => (s6.trans h.1).seq hP) ?_ ?_
      · rintro j x H8x H8 hj ⟨s8, ss8, ac8⟩ ⟨rfl, hx⟩
        rw [rg_len] at hj
        rw [rg_at hj] at hx
        cases Option.some.inj hx
        refine ⟨rfl, _, rfl, _, rfl, rfl, _, rfl, ?_⟩
        by_cases ne : j = i
        · subst ne
          exact iteNS rfl ⟨s8, _, ac8.up (by omega)⟩
        · rw [decide_eq_false (fun z => ne (by have := V.int.inj z; omega))]
          refine iteT ⟨_, rfl, _, rfl, Nat.le_of_ble_eq_true rfl, fun t ht => ?_⟩
          have s9 := Same.new (o := .tup [.str "move", .int (i : Int), .int (j : Int)]) ht
          obtain ⟨acc, e1, e2, e3⟩ := ac8.push (s := .move i j) s9 (.tup (.of upd_same) (.cons (.str _) (.cons (.int _) (.cons (.int _) .nil)))) ⟨hi, hj, ne⟩ (by omega)
          exact ⟨acc, e1, e2, (s8.trans s9).mut hD3, _, e3⟩
      · rintro H8 ⟨s8, ss8, ac8⟩
        rw [rg_len] at ac8
        exact ⟨s8, ss8, ac8.up (by omega)⟩
    rintro H7 ⟨s7, ss7, ac7⟩
    rw [rg_len] at ac7
    obtain ⟨ys, zs, eD5, eD35, sz, acj7⟩ := (acj5.same s7).join ac7 (by omega)
    refine ⟨D, D3, ys, zs, rfl, rfl, eD5, eD35, sz, ?_⟩
    refine ⟨_, rfl, q D _ _ (s1.trans ((s6.trans s7).mut hD)) (s1.free hD) (acj7.up (by omega)) fun i hi => List.mem_append_left _ (hin i hi)⟩
end
end K21
namespace K21
open PySem PySem.Spec PyProof.Rows L2 TL
section
variable {P : Program} {w : World} {K : PySem.W.Frag} {mg : Str → Option Value} {base : Heap}
/-! ### mends -/
def spMends (K : PySem.W.Frag) : Sp := fun vs H Q _ => ∃ (p a b c : Addr) (v : V) (m : Mix) (rs : List Row) (vals : List Int) (made : Row) (n : Nat) (fixed : Int), vs = [.ref p, .ref a, .ref b, .ref c, .int (n : Int), .int fixed] ∧ MixOk m ∧ MixAt K H p m ∧ OkRows rs ∧ rs.length ≤ 7 ∧ LogAt K H a rs ∧ n ≤ 8 ∧
  SqA K H b (vals.map V.int) ∧ SqL K H c [v] ∧ Dp K H v (rowD made) ∧ made.Ok ∧
  ∀ (d : Addr) (H' : Hp) (ss : List Stp), Same H H' → Acc K rs d ss 100 H' → (∀ s ∈ ss, leadsTo m n fixed (s.on rs) vals = true) → (∀ i, i ≤ rs.length → leadsTo m n fixed ((Stp.put i made).on rs) vals = true → Stp.put i made ∈ ss) → Q (.ref d) H'
theorem sc_mends : FnScope ["mixing", "log", "values", "some", "many", "fixed", "found", "step"] ["mixing", "log", "values", "some", "many", "fixed"] d_mends.scope := ⟨rfl, rfl, rfl, by decide +kernel, rfl, by decide +kernel, by decide +kernel⟩
theorem ok_mends (T : Tx K mg) (D : Fd K mg d_mends) (h_all_steps : Ok P w K mg base 1 "all_steps" ["log", "some"] (spAll K)) (h_behind_step : Ok P w K mg base 1 "behind_step" ["log", "step"] (spBehindStep K))
    (h_leads_to_mf : OkK P w K mg base 9 "leads_to" ["mixing", "log", "values", "many", "fixed"] (spLeads K) 3 ["many", "fixed"] (fun vs zs => vs ++ zs)) : OkD P w K mg base 10 d_mends ["mixing", "log", "values", "some", "many", "fixed"] (spMends K) := by
  refine okd_mk D sc_mends (fun vs H Q E h => ?_) (fun f cdv A outer s H vs Q E hr h => ?_)
  · obtain ⟨p, a, b, c, v, m, rs, vals, made, n, fixed, rfl, _⟩ := h
    rfl
  · obtain ⟨p, a, b, c, v, m, rs, vals, made, n, fixed, rfl, mo, hM, ok, l7, hL, n8, hB, hC, hv, okm, q⟩ := h
    refine ⟨_, 
    (pss_cons
      (ps_set (i := 6) sc_mends.nd rfl (.inl rfl) (pe_lst pa_nil))
    (pss_cons
      (ps_for PassesOwn.never rfl (pi_list (pe_f h_all_steps hr (pa_cons (pv 1) (pa_cons (pv 3) pa_nil)))) (pg_name (i := 7) sc_mends.nd rfl (.inl rfl))
        (pss_one
          (ps_if (pt_val (pe_fk h_leads_to_mf hr (pa_cons (pv 0) (pa_cons (pe_f h_behind_step hr (pa_cons (pv 1) (pa_cons (pv 7) pa_nil))) (pa_cons (pv 2) pa_nil))) (pk_cons (pv 4) (pk_cons (pv 5) pk_nil))))
            (pss_one
              (ps_expr (pe_bm PySem.F.plainAttrs_list PySem.F.slot_list_append PySem.F.type_list_append mt_append (pv 6) (pa_cons (pv 7) pa_nil))))
            pss_nil)))
    (pss_one
      (ps_ret (pv 6)))))
      , ?_⟩
    refine ⟨Nat.le_of_ble_eq_true rfl, fun D1 hD1 => ?_⟩
    have s1 := Same.new (o := .lst []) hD1
    refine ⟨_, rfl, _, rfl, a, c, v, rs, made, rfl, ok, hL.same s1, s1.seq hC, hv.same s1, okm, l7, fun d H2 ss s2 hd0 ac puts => ?_⟩
    obtain ⟨acc, ed, la, da, oks⟩ := ac
    have le := da.length
    rw [List.length_map] at le
    have hd : SqL K H2 d acc := .of ed
    have eD1 : H2 D1 = some (.lst []) := s2 _ _ upd_same
    have nd : d ≠ D1 := fun z => by
      rw [z, upd_same] at hd0
      cases hd0
    have back : ∀ H3, Ke D1 H2 H3 → Same H H3 := fun H3 e x o hx => e x o ((s1.trans s2) _ _ hx) (ne_of_none hx hD1)
    refine ⟨d, rfl, ⟨_, hd⟩, for_it (walk_list (xs := acc)) (fun i σ H3 => Ke D1 H2 H3 ∧ ∃ ss', Acc K rs D1 ss' i H3 ∧ (∀ s ∈ ss', leadsTo m n fixed (s.on rs) vals = true) ∧ (∀ s ∈ ss.take i, leadsTo m n fixed (s.on rs) vals = true → s ∈ ss') ∧ ∃ z, σ = [some (.ref p), some (.ref a), some (.ref b), some (.ref c), some (.int (n : Int)), some (.int fixed), some (.ref D1), z])
      ⟨Ke.refl _ _, [], ⟨[], eD1, Nat.le_refl _, .nil, fun s h => by cases h⟩, (fun s h => by cases h), (fun s h => by cases h), none, rfl⟩ (fun i σ H3 _ h => h.1.seq nd hd) ?_ ?_⟩
    · rintro i x σ H3x H3 hi ⟨k3, ss', ac3, l3, t3, z, rfl⟩ ⟨rfl, hx⟩
      have da3 := dpAllKeepT (fun _ _ h => k3.seqT eD1 h) (steps_noL ss) da
      obtain ⟨e, ee, hy⟩ := da3.get i x hx
      rw [List.getElem?_map] at ee
      have hi2 : i < ss.length := by omega
      have es : ss[i]? = some ss[i] := List.getElem?_eq_getElem hi2
      rw [es] at ee
      cases Option.some.inj ee
      have okS := oks _ (List.getElem_mem hi2)
      have s3 := back H3 k3
      have take1 : ss.take (i + 1) = ss.take i ++ [ss[i]] := by rw [List.take_add_one, es]; rfl
      refine ⟨_, rfl, _, rfl, _, rfl, a, x, rs, ss[i], rfl, (hL.same s3).a, hy, okS, by omega, fun b4 H4 s4 hb4 => ?_⟩
      have s34 := s3.trans s4
      have on_l := Stp.on_len okS
      refine ⟨_, rfl, _, rfl, _, rfl, rfl, rfl, p, b4, b, m, ss[i].on rs, vals, n, fixed, rfl, mo, hM.same s34, Stp.on_ok ok okS, by omega, hb4.a, n8, hB.same s34, fun H5 s5 => ⟨_, rfl, ?_⟩⟩
      have s45 := s4.trans s5
      cases lt : leadsTo m n fixed (ss[i].on rs) vals with
      | true =>
        obtain ⟨acc5, e5, z5, a5⟩ := ac3.push s45 (hy.same s45) okS (by omega)
        obtain ⟨_, eD5, _⟩ := ac3.same s45
        refine iteT ⟨_, rfl, .inl ⟨rfl, _, .of eD5⟩, _, rfl, D1, acc5, _, rfl, rfl, e5, z5, (k3.trans (.of s45)).upd, _, a5, fun s hs => ?_, fun s hs hl => ?_, _, rfl⟩
        · rcases List.mem_append.mp hs with hs | hs
          · exact l3 s hs
          · rw [List.mem_singleton.mp hs]
            exact lt
        · rw [take1] at hs
          rcases List.mem_append.mp hs with hs | hs
          · exact List.mem_append_left _ (t3 s hs hl)
          · exact List.mem_append_right _ hs
      | false =>
        refine iteF ⟨k3.trans (.of s45), ss', (ac3.same s45).up (Nat.le_succ _), l3, fun s hs hl => ?_, _, rfl⟩
        rw [take1] at hs
        rcases List.mem_append.mp hs with hs | hs
        · exact t3 s hs hl
        · rw [List.mem_singleton.mp hs, lt] at hl
          cases hl
    · rintro σ H3 ⟨k3, ss', ac3, l3, t3, z, rfl⟩
      rw [List.take_of_length_le (by omega)] at t3
      exact ⟨_, rfl, q D1 H3 ss' (back H3 k3) (ac3.up la) l3 fun i hi hl => t3 _ (puts i hi) hl⟩
end
end K21
namespace K21
open PySem PySem.Spec PyProof.Rows L2 TL
section
variable {P : Program} {w : World} {K : PySem.W.Frag} {mg : Str → Option Value} {base : Heap}
/-- a box of draws, m of them taken at most -/
def Box (H : Hp) (b : Addr) (m : Nat) : Prop := ∃ n0 n1 c : Int, H b = some (.lst [.int n0, .int n1, .int c]) ∧ 0 ≤ n0 ∧ 0 ≤ n1 ∧ n1 < 8589934592 ∧ 0 ≤ c ∧ c ≤ m
theorem Box.at {H : Hp} {b : Addr} {m : Nat} (h : Box H b m) : ∃ l, H b = some (.lst l) := by
  obtain ⟨n0, n1, c, e, _⟩ := h
  exact ⟨_, e⟩
theorem Box.same {H H' : Hp} {b : Addr} {m : Nat} (e : Same H H') (h : Box H b m) : Box H' b m := by
  obtain ⟨n0, n1, c, e1, r⟩ := h
  exact ⟨n0, n1, c, e _ _ e1, r⟩
theorem Box.up {H : Hp} {b : Addr} {m m' : Nat} (h : Box H b m) (e : m ≤ m') : Box H b m' := by
  obtain ⟨n0, n1, c, e1, a1, a2, a3, a4, a5⟩ := h
  exact ⟨n0, n1, c, e1, a1, a2, a3, a4, by omega⟩
/-! ### _law_box -/
def spBox (K : PySem.W.Frag) : Sp := fun vs H Q _ => ∃ (a : Addr) (ns : List Int) (k : Nat), vs = [.ref a, .int (k : Int)] ∧ SqL K H a (ns.map V.int) ∧ k ≤ 3 ∧ ∀ (b : Addr) (H' : Hp), Same H H' → H b = none → Box H' b 0 → Q (.ref b) H'
theorem sc__law_box : FnScope ["_law_script", "_law_k", "_law_cell"] ["_law_script", "_law_k"] d__law_box.scope := ⟨rfl, rfl, rfl, by decide +kernel, rfl, by decide +kernel, by decide +kernel⟩
theorem ok__law_box (T : Tx K mg) (D : Fd K mg d__law_box) : Ok P w K mg base 1 "_law_box" ["_law_script", "_law_k"] (spBox K) := by
  refine ok_mk D sc__law_box (fun _ _ _ _ _ _ us hl => match us, hl with | [_, _], _ => rfl) (fun vs H Q E h => ?_) (fun f cdv A outer s H vs Q E hr h => ?_)
  · obtain ⟨a, ns, k, rfl, _⟩ := h
    rfl
  · obtain ⟨a, ns, k, rfl, hS, hk, q⟩ := h
    refine ⟨_, 
    (pss_cons
      (ps_set (i := 2) sc__law_box.nd rfl (.inl rfl) pe_int)
    (pss_cons
      (ps_if (pt_cmpR op_lt (pv 1) (pe_callB call_len_seq (by rfl) T.len PySem.boot_len (pa_cons (pv 0) pa_nil)) (nomark _))
        (pss_one
          (ps_set (i := 2) sc__law_box.nd rfl (.inl rfl) (pe_ix (r := rIxL K) ix_list (pv 0) (pv 1) (fun _ _ => rfl))))
        pss_nil)
    (pss_one
      (ps_ret (pe_lst (pa_cons (pe_op op_mul (pe_callB call_abs (by rfl) T.abs (by decide +kernel) (pa_cons (pv 2) pa_nil)) (pe_callTy call_int1 (by rfl) T.int (by decide +kernel) (pa_cons (pe_cmpR op_ge (pe_callB call_abs (by rfl) T.abs (by decide +kernel) (pa_cons (pv 2) pa_nil)) (pe_op op_pow pe_int pe_int) (nomark _)) pa_nil))) (pa_cons (pe_op op_add (pe_op op_add (pe_op op_mod (pv 2) pe_int) (pe_op op_mul pe_int (pv 1))) pe_int) (pa_cons pe_int pa_nil))))))))
      , ?_⟩
    have fin : ∀ (i : Int) (b : Addr), H b = none → Q (.ref b) (upd H b (.lst [.int ((if i < 0 then -i else i) * (if decide ((10 : Int) ^ (18 : Int).toNat ≤ (if i < 0 then -i else i)) = true then 1 else 0)), .int (i % 2147483629 + 7919 * (k : Int) + 11), .int 0])) := by
      intro i b hb
      refine q b _ (Same.new hb) hb ⟨_, _, _, upd_same, ?_, by omega, by omega, by omega, by omega⟩
      refine Int.mul_nonneg ?_ ?_
      · split <;> omega
      · split <;> omega
    have cm : ∀ (i : Int) (c : Bool), (-(2 ^ 64) < (if i < 0 then -i else i) ∧ (if i < 0 then -i else i) < (2 : Int) ^ 64) ∨ (-(2 ^ 64) < (if c = true then (1 : Int) else 0) ∧ (if c = true then (1 : Int) else 0) < 2 ^ 64) := fun i c => .inr (by cases c <;> exact ⟨by decide, by decide⟩)
    refine ⟨_, rfl, _, rfl, a, _, rfl, .inl hS, _, _, rfl, rfl, _, rfl, ?_⟩
    refine ite2 (fun c => ?_) (fun c => ?_)
    · have hi : k < (ns.map V.int).length := by
        have := of_decide_eq_true c
        omega
      rw [List.length_map] at hi
      have ei : (ns.map V.int)[k]? = some (.int ns[k]) := by
        rw [List.getElem?_map, List.getElem?_eq_getElem hi]
        rfl
      refine ⟨_, rfl, _, rfl, a, _, _, _, rfl, rfl, hS, atI_nat ei, ?_⟩
      refine ⟨_, rfl, _, rfl, _, rfl, _, rfl, _, _, rfl, rfl, ⟨by decide, by decide, by decide⟩, _, _, rfl, rfl, .inr ⟨_, rfl, _, _, rfl, rfl, cm _ _, _, rfl, _, _, rfl, rfl, (show (0 : Int) < 2147483629 by decide), _, rfl, _, _, rfl, rfl, .inl ⟨by decide, by decide⟩, _, _, rfl, rfl, _, _, rfl, rfl, Nat.le_of_ble_eq_true rfl, fin _⟩⟩
    · refine ⟨_, rfl, _, rfl, _, rfl, _, rfl, _, _, rfl, rfl, ⟨by decide, by decide, by decide⟩, _, _, rfl, rfl, .inr ⟨_, rfl, _, _, rfl, rfl, cm _ _, _, rfl, _, _, rfl, rfl, (show (0 : Int) < 2147483629 by decide), _, rfl, _, _, rfl, rfl, .inl ⟨by decide, by decide⟩, _, _, rfl, rfl, _, _, rfl, rfl, Nat.le_of_ble_eq_true rfl, fin _⟩⟩
/-! ### _law_take -/
def spTake : Sp := fun vs H Q _ => ∃ (b : Addr) (size : Int) (m : Nat), vs = [.ref b, .int size] ∧ 0 < size ∧ size < 1073741824 ∧ Box H b m ∧ m < 1073741824 ∧ ∀ (n : Int) (H' : Hp), 0 ≤ n → n < size → Ke b H H' → Box H' b (m + 1) → Q (.int n) H'
theorem sc__law_take : FnScope ["_law_box_here", "_law_size", "_law_found", "_law_once"] ["_law_box_here", "_law_size"] d__law_take.scope := ⟨rfl, rfl, rfl, by decide +kernel, rfl, by decide +kernel, by decide +kernel⟩
theorem ok__law_take (T : Tx K mg) (D : Fd K mg d__law_take) : Ok P w K mg base 1 "_law_take" ["_law_box_here", "_law_size"] spTake := by
  refine ok_mk D sc__law_take (fun _ _ _ _ _ _ us hl => match us, hl with | [_, _], _ => rfl) (fun vs H Q E h => ?_) (fun f cdv A outer s H vs Q E hr h => ?_)
  · obtain ⟨b, size, m, rfl, _⟩ := h
    rfl
  · obtain ⟨b, size, m, rfl, z0, z1, ⟨n0, n1, c, eb, p0, p1, p2, p3, p4⟩, hm, q⟩ := h
    refine ⟨_, 
    (pss_cons
      (ps_if (pt_cmpR op_gt (pe_ix (r := rIxL K) ix_list (pv 0) pe_int (fun _ _ => rfl)) pe_int (nomark _))
        (pss_cons
          (ps_set (i := 2) sc__law_take.nd rfl (.inl rfl) (pe_op op_mod (pe_ix (r := rIxL K) ix_list (pv 0) pe_int (fun _ _ => rfl)) (pv 1)))
        (pss_cons
          (ps_asg (pe_op op_fdiv (pe_ix (r := rIxL K) ix_list (pv 0) pe_int (fun _ _ => rfl)) (pv 1)) (pg_sub (pv 0) pe_int set_list))
        (pss_one
          (ps_ret (pv 2)))))
        pss_nil)
    (pss_cons
      (ps_asg (pe_op op_add (pe_ix (r := rIxL K) ix_list (pv 0) pe_int (fun _ _ => rfl)) pe_int) (pg_sub (pv 0) pe_int set_list))
    (pss_cons
      (ps_set (i := 3) sc__law_take.nd rfl (.inl rfl) (pe_op op_mod (pe_op op_pow (pe_op op_add (pe_ix (r := rIxL K) ix_list (pv 0) pe_int (fun _ _ => rfl)) (pe_op op_mul pe_int (pe_ix (r := rIxL K) ix_list (pv 0) pe_int (fun _ _ => rfl)))) pe_int) pe_int))
    (pss_one
      (ps_ret (pe_op op_mod (pe_op op_fdiv (pe_op op_mod (pe_op op_add (pe_op op_mul (pv 3) (pe_op op_add (pe_op op_mod (pv 3) pe_int) pe_int)) (pe_op op_mul (pe_ix (r := rIxL K) ix_list (pv 0) pe_int (fun _ _ => rfl)) pe_int)) pe_int) pe_int) (pv 1)))))))
      , ?_⟩
    have sb : SqL K H b [.int n0, .int n1, .int c] := .of eb
    refine ⟨_, rfl, b, _, _, _, rfl, rfl, sb, at0, _, _, rfl, rfl, _, rfl, ?_⟩
    refine ite2 (fun g => ?_) (fun _ => ?_)
    · have g := of_decide_eq_true g
      refine ⟨_, rfl, b, _, _, _, rfl, rfl, sb, at0, _, rfl, _, _, rfl, rfl, z0, _, rfl, b, _, _, _, rfl, rfl, sb, at0, _, rfl, _, _, rfl, rfl, ⟨z0, z1⟩, _, rfl, b, _, _, 0, rfl, rfl, eb, ixN_nat (Nat.succ_pos 2), _, rfl, ?_⟩
      exact q _ _ (Int.emod_nonneg _ (by omega)) (Int.emod_lt_of_pos _ z0) (Ke.set b H _) ⟨n0 / size, n1, c, upd_same, Int.ediv_nonneg p0 (by omega), p1, p2, p3, by omega⟩
    · refine ⟨_, rfl, b, _, _, _, rfl, rfl, sb, at2, _, _, rfl, rfl, _, rfl, b, _, _, 2, rfl, rfl, eb, ixN_nat (Nat.lt_succ_self 2), ?_⟩
      have sb2 : SqL K (upd H b (.lst [.int n0, .int n1, .int (c + 1)])) b [.int n0, .int n1, .int (c + 1)] := .of upd_same
      have bd : (n1 + 39373 * (c + 1)).natAbs < 2 ^ 64 := by omega
      refine ⟨_, rfl, b, _, _, _, rfl, rfl, sb2, at1, _, rfl, b, _, _, _, rfl, rfl, sb2, at2, _, _, rfl, rfl, .inl ⟨by decide, by decide⟩, _, _, rfl, rfl, _, _, rfl, rfl, ⟨by decide, by decide, bd⟩, _, _, rfl, rfl, (show (0 : Int) < 2147483647 by decide), ?_⟩
      generalize hg : (n1 + 39373 * (c + 1)) ^ (5 : Int).toNat % 2147483647 = g
      have g0 : 0 ≤ g := by
        rw [← hg]
        exact Int.emod_nonneg _ (by decide)
      have g1 : g < 2147483647 := by
        rw [← hg]
        exact Int.emod_lt_of_pos _ (by decide)
      refine ⟨_, rfl, _, rfl, _, _, rfl, rfl, (show (0 : Int) < 40009 by decide), _, _, rfl, rfl, _, _, rfl, rfl, .inl ⟨by omega, by omega⟩, _, rfl, b, _, _, _, rfl, rfl, sb2, at2, _, _, rfl, rfl, .inl ⟨by omega, by omega⟩, _, _, rfl, rfl, _, _, rfl, rfl, (show (0 : Int) < 2147483629 by decide), _, _, rfl, rfl, ⟨by decide, by decide⟩, _, rfl, _, _, rfl, rfl, z0, ?_⟩
      exact q _ _ (Int.emod_nonneg _ (by omega)) (Int.emod_lt_of_pos _ z0) (Ke.set b H _) ⟨n0, n1, c + 1, upd_same, p0, p1, p2, by omega, by omega⟩
/-! ### _law_pick -/
def spPick (K : PySem.W.Frag) : Sp := fun vs H Q _ => ∃ (b l : Addr) (xs : List V) (m : Nat), vs = [.ref b, .ref l] ∧ SqL K H l xs ∧ l ≠ b ∧ 0 < xs.length ∧ xs.length < 1000 ∧ Box H b m ∧ m < 1073741824 ∧ ∀ (x : V) (H' : Hp), x ∈ xs → Ke b H H' → Box H' b (m + 1) → Q x H'
theorem sc__law_pick : FnScope ["_law_box_here", "_law_things"] ["_law_box_here", "_law_things"] d__law_pick.scope := ⟨rfl, rfl, rfl, by decide +kernel, rfl, by decide +kernel, by decide +kernel⟩
theorem ok__law_pick (T : Tx K mg) (D : Fd K mg d__law_pick) (h__law_take : Ok P w K mg base 1 "_law_take" ["_law_box_here", "_law_size"] spTake) : Ok P w K mg base 2 "_law_pick" ["_law_box_here", "_law_things"] (spPick K) := by
  refine ok_mk D sc__law_pick (fun _ _ _ _ _ _ us hl => match us, hl with | [_, _], _ => rfl) (fun vs H Q E h => ?_) (fun f cdv A outer s H vs Q E hr h => ?_)
  · obtain ⟨b, l, xs, m, rfl, _⟩ := h
    rfl
  · obtain ⟨b, l, xs, m, rfl, hL, nl, l0, l1, hB, hm, q⟩ := h
    refine ⟨_, 
    (pss_one
      (ps_ret (pe_ix (r := rIxL K) ix_list (pv 1) (pe_f h__law_take hr (pa_cons (pv 0) (pa_cons (pe_callB call_len_seq (by rfl) T.len PySem.boot_len (pa_cons (pv 1) pa_nil)) pa_nil))) (fun _ _ => rfl))))
      , ?_⟩
    refine ⟨_, rfl, _, rfl, _, rfl, l, xs, rfl, .inl hL, b, _, m, rfl, by omega, by omega, hB, hm, fun n H1 n0 n1 k1 b1 => ?_⟩
    obtain ⟨j, rfl⟩ := Int.eq_ofNat_of_zero_le n0
    have hj : j < xs.length := by omega
    exact ⟨l, _, _, _, rfl, rfl, k1.seq nl hL, atI_nat (List.getElem?_eq_getElem hj), q _ H1 (List.getElem_mem hj) k1 b1⟩
end
end K21
namespace K21
open PySem PySem.Spec PyProof.Rows L2 TL
section
variable {P : Program} {w : World} {K : PySem.W.Frag} {mg : Str → Option Value} {base : Heap}
/-! ### _law_name_number -/
theorem sc__law_name_number : FnScope ["_law_name", "_law_found", "_law_sign"] ["_law_name"] d__law_name_number.scope := ⟨rfl, rfl, rfl, by decide +kernel, rfl, by decide +kernel, by decide +kernel⟩
theorem ok__law_name_number (T : Tx K mg) (D : Fd K mg d__law_name_number) : Ok P w K mg base 1 "_law_name_number" ["_law_name"] spNameNum := by
  refine ok_mk D sc__law_name_number (fun _ _ _ _ _ _ us hl => match us, hl with | [_], _ => rfl) (fun vs H Q E h => ?_) (fun f cdv A outer s H vs Q E hr h => ?_)
  · obtain ⟨l, rfl, _⟩ := h
    rfl
  · obtain ⟨l, rfl, ok, q⟩ := h
    refine ⟨_, 
    (pss_cons
      (ps_set (i := 1) sc__law_name_number.nd rfl (.inl rfl) pe_int)
    (pss_cons
      (ps_for PassesOwn.never rfl (pi_str (pv 0)) (pg_name (i := 2) sc__law_name_number.nd rfl (.inl rfl))
        (pss_one
          (ps_set (i := 1) sc__law_name_number.nd rfl (.inl rfl) (pe_op op_add (pe_op op_add (pe_op op_mul (pv 1) pe_int) (pe_bmS PySem.F.plainAttrs_str PySem.F.slot_str_index PySem.F.type_str_index (mt_sindex rfl) pe_str (pa_cons (pv 2) pa_nil))) pe_int))))
    (pss_one
      (ps_ret (pv 1)))))
      , ?_⟩
    refine ⟨_, rfl, _, rfl, for_it walk_str (fun i σ H2 => H2 = H ∧ ∃ z, σ = [some (.str (nameS l)), some (.int (nameNum (l.take i))), z]) ⟨rfl, _, rfl⟩ (fun _ _ _ _ _ => trivial) ?_ ?_⟩
    · rintro i x σ H2 H3 hi ⟨rfl, z, rfl⟩ ⟨rfl, c, hc, rfl⟩
      obtain ⟨d, hd, rfl⟩ := nameS_at hc
      have d26 := ok.2.2 d (List.mem_of_getElem? hd)
      refine ⟨_, rfl, _, _, rfl, rfl, .inr ⟨by decide, by decide⟩, rfl, _, rfl, _, _, rfl, rfl, fun k hk => ?_, fun hn => ?_⟩
      · rw [letters_ix d26] at hk
        cases hk
        refine ⟨_, _, rfl, rfl, _, _, rfl, rfl, rfl, some (.str ⟨#[d + 97]⟩), ?_⟩
        rw [nameNum_take hd]
        rfl
      · rw [letters_ix d26] at hn
        cases hn
    · rintro σ H2 ⟨rfl, z, rfl⟩
      refine ⟨_, rfl, ?_⟩
      rw [nameS_size, List.take_length]
      exact q
/-! ### _law_row_number -/
def spLRowNum (K : PySem.W.Frag) : Sp := fun vs H Q _ => ∃ (v : V) (r : Row), vs = [v] ∧ r.Ok ∧ Dp K H v (rowD r) ∧ ∀ H', Same H H' → Q (.int (rowNum r)) H'
theorem sc__law_row_number : FnScope ["_law_row_here", "_law_place"] ["_law_row_here"] d__law_row_number.scope := ⟨rfl, rfl, rfl, by decide +kernel, rfl, by decide +kernel, by decide +kernel⟩
def wordsV : List V := [.str "load", .str "set", .str "end", .str "late", .str "reset"]
theorem wordsV_at {w : Nat} (h : w < 5) : wordsV[w]? = some (.str (wordS w)) ∧ eqV (.str (wordS w)) (.str (wordS w)) = true ∧ ∀ (m : Nat) (z : V), m < w → wordsV[m]? = some z → eqV z (.str (wordS w)) = false := by
  have key : ∀ w : Fin 5, wordsV[w.1]? = some (.str (wordS w.1)) ∧ eqV (.str (wordS w.1)) (.str (wordS w.1)) = true ∧ ∀ m : Fin 5, m.1 < w.1 → eqV (wordsV.getD m.1 .non) (.str (wordS w.1)) = false := by decide +kernel
  refine ⟨(key ⟨w, h⟩).1, (key ⟨w, h⟩).2.1, fun m z hm hz => ?_⟩
  have := (key ⟨w, h⟩).2.2 ⟨m, by omega⟩ hm
  rw [List.getD_eq_getElem?_getD, hz] at this
  exact this
theorem ok__law_row_number (T : Tx K mg) (D : Fd K mg d__law_row_number) (h__law_name_number : Ok P w K mg base 1 "_law_name_number" ["_law_name"] spNameNum) : Ok P w K mg base 2 "_law_row_number" ["_law_row_here"] (spLRowNum K) := by
  refine ok_mk D sc__law_row_number (fun _ _ _ _ _ _ us hl => match us, hl with | [_], _ => rfl) (fun vs H Q E h => ?_) (fun f cdv A outer s H vs Q E hr h => ?_)
  · obtain ⟨v, r, rfl, _⟩ := h
    rfl
  · obtain ⟨v, r, rfl, ok, hv, q⟩ := h
    obtain ⟨a, rfl, hT⟩ := row_inv hv
    have nb := nameNum_bound ok.n
    have w5 := ok.w
    refine ⟨_, 
    (pss_cons
      (ps_set (i := 1) sc__law_row_number.nd rfl (.inl rfl) (pe_bm PySem.F.plainAttrs_list PySem.F.slot_list_index PySem.F.type_list_index mt_index (pe_lst (pa_cons pe_str (pa_cons pe_str (pa_cons pe_str (pa_cons pe_str (pa_cons pe_str pa_nil)))))) (pa_cons (pe_ix (r := rIxT K) ix_tup (pv 0) pe_int (fun _ _ => rfl)) pa_nil)))
    (pss_one
      (ps_ret (pe_op op_add (pe_op op_mul (pe_op op_add (pe_op op_mul (pe_f h__law_name_number hr (pa_cons (pe_ix (r := rIxT K) ix_tup (pv 0) pe_int (fun _ _ => rfl)) pa_nil)) pe_int) (pv 1)) pe_int) (pe_ix (r := rIxT K) ix_tup (pv 0) pe_int (fun _ _ => rfl))))))
      , ?_⟩
    refine ⟨Nat.le_of_ble_eq_true rfl, fun p hp => ?_⟩
    have s1 : Same H (upd H p (.lst wordsV)) := Same.new hp
    have hT1 := s1.seqT hT
    obtain ⟨w1, w2, w3⟩ := wordsV_at w5
    refine ⟨.inl ⟨rfl, _, .of upd_same⟩, _, rfl, a, _, _, _, rfl, rfl, hT1, at1, p, wordsV, _, r.w, _, rfl, rfl, .of upd_same, rfl, rfl, w1, w2, w3, ?_⟩
    refine ⟨_, rfl, a, _, _, _, rfl, rfl, hT1, at2, r.n, rfl, ok.n, _, _, rfl, rfl, .inr ⟨by decide, by decide⟩, _, rfl, _, _, rfl, rfl, _, _, rfl, rfl, .inr ⟨by decide, by decide⟩, _, rfl, a, _, _, _, rfl, rfl, hT1, at3, _, _, rfl, rfl, ?_⟩
    exact q _ s1
/-! ### _law_shares -/
def spShares : Sp := fun vs H Q _ => ∃ x y : Int, vs = [.int x, .int y] ∧ 0 ≤ x ∧ 0 ≤ y ∧ ∀ b : Bool, (b = false → gcdI x y ≤ 1) → Q (.bl b) H
theorem sc__law_shares : FnScope ["_law_one", "_law_two", "_law_turn"] ["_law_one", "_law_two"] d__law_shares.scope := ⟨rfl, rfl, rfl, by decide +kernel, rfl, by decide +kernel, by decide +kernel⟩
theorem ok__law_shares (T : Tx K mg) (D : Fd K mg d__law_shares) : Ok P w K mg base 1 "_law_shares" ["_law_one", "_law_two"] spShares := by
  refine ok_mk D sc__law_shares (fun _ _ _ _ _ _ us hl => match us, hl with | [_, _], _ => rfl) (fun vs H Q E h => ?_) (fun f cdv A outer s H vs Q E hr h => ?_)
  · obtain ⟨x, y, rfl, _⟩ := h
    rfl
  · obtain ⟨x, y, rfl, hx, hy, q⟩ := h
    refine ⟨_, 
    (pss_cons
      (ps_for PassesOwn.never rfl (pi_range1 (by rfl) T.range (pa_cons pe_int pa_nil)) (pg_name (i := 2) sc__law_shares.nd rfl (.inl rfl))
        (pss_cons
          (ps_if (pt_cmpR op_eq (pv 1) pe_int (nomark _))
            (pss_one
              (ps_ret (pe_cmpR op_gt (pv 0) pe_int (nomark _))))
            pss_nil)
        (pss_one
          (ps_par (i := 0) (j := 1) (by rfl) sc__law_shares.nd rfl rfl (by decide) rfl rfl (pa_cons (pv 1) (pa_cons (pe_op op_mod (pv 0) (pv 1)) pa_nil)) (by rfl)))))
    (pss_one
      (ps_ret pe_bl)))
      , ?_⟩
    refine ⟨_, rfl, by decide, by decide, for_it walk_range (fun i σ H1 => H1 = H ∧ ∃ (u v : Int) (z : Option V), σ = [some (.int u), some (.int v), z] ∧ 0 ≤ u ∧ 0 ≤ v ∧ gcdI u v = gcdI x y) ⟨rfl, x, y, none, rfl, hx, hy, rfl⟩ (fun _ _ _ _ _ => trivial) ?_ ?_⟩
    · rintro i t σ H1x H1 hi ⟨rfl, u, v, z, rfl, hu, hv, e⟩ ⟨rfl, rfl⟩
      refine ⟨_, rfl, rfl, _, rfl, ite2 (fun c => ?_) (fun c => ?_)⟩
      · have v0 : v = 0 := V.int.inj (of_decide_eq_true c)
        subst v0
        rw [gcdI_zero hu] at e
        refine ⟨_, rfl, _, _, rfl, rfl, q _ fun h => ?_⟩
        have := of_decide_eq_false h
        omega
      · have v0 : 0 < v := by
          have : v ≠ 0 := fun z => c (decide_eq_true (by rw [z]))
          omega
        refine ⟨_, rfl, _, rfl, _, rfl, _, _, rfl, rfl, v0, _, _, rfl, rfl, v, u % v, _, rfl, hv, Int.emod_nonneg _ (by omega), ?_⟩
        rw [gcdI_step hu hv, e]
    · rintro σ H1 ⟨rfl, u, v, z, rfl, _⟩
      exact q true fun h => by cases h
end
end K21
namespace K21
open PySem PySem.Spec PyProof.Rows L2 TL
section
variable {P : Program} {w : World} {K : PySem.W.Frag} {mg : Str → Option Value} {base : Heap}
/-! ### _law_how -/
/-- a narrow mixing, told by its width and factor -/
structure HowAt (K : PySem.W.Frag) (H : Hp) (h : Addr) (m : Mix) (x : Int) : Prop where
  wd : m.wd = some x
  x1 : x ≤ 9973
  ok : MixOk m
  t : SqT K H h [.int x, .int m.f]
theorem HowAt.x0 {H : Hp} {h : Addr} {m : Mix} {x : Int} (a : HowAt K H h m x) : 3 ≤ x := (a.ok.w x a.wd).1
theorem HowAt.same {H H' : Hp} {h : Addr} {m : Mix} {x : Int} (e : Same H H') (a : HowAt K H h m x) : HowAt K H' h m x := ⟨a.wd, a.x1, a.ok, e.seqT a.t⟩
theorem HowAt.ke {H H' : Hp} {b h : Addr} {l : List V} {m : Mix} {x : Int} (e : Ke b H H') (hb : H b = some (.lst l)) (a : HowAt K H h m x) : HowAt K H' h m x := ⟨a.wd, a.x1, a.ok, e.seqT hb a.t⟩
def spHow (K : PySem.W.Frag) : Sp := fun vs H Q _ => ∃ (b : Addr) (k : Nat), vs = [.ref b] ∧ Box H b k ∧ k < 1000000 ∧ ∀ (h : Addr) (m : Mix) (x : Int) (H' : Hp), Ke b H H' → Box H' b (k + 4) → HowAt K H' h m x → Q (.ref h) H'
theorem sc__law_how : FnScope ["_law_box_here", "_law_width", "_law_by"] ["_law_box_here"] d__law_how.scope := ⟨rfl, rfl, rfl, by decide +kernel, rfl, by decide +kernel, by decide +kernel⟩
theorem ok__law_how (T : Tx K mg) (D : Fd K mg d__law_how) (h__law_take : Ok P w K mg base 1 "_law_take" ["_law_box_here", "_law_size"] spTake) (h__law_shares : Ok P w K mg base 1 "_law_shares" ["_law_one", "_law_two"] spShares) : Ok P w K mg base 2 "_law_how" ["_law_box_here"] (spHow K) := by
  refine ok_mk D sc__law_how (fun _ _ _ _ _ _ us hl => match us, hl with | [_], _ => rfl) (fun vs H Q E h => ?_) (fun f cdv A outer s H vs Q E hr h => ?_)
  · obtain ⟨b, k, rfl, _⟩ := h
    rfl
  · obtain ⟨b, k, rfl, hB, hk, q⟩ := h
    refine ⟨_, 
    (pss_cons
      (ps_set (i := 1) sc__law_how.nd rfl (.inl rfl) (pe_op op_add pe_int (pe_f h__law_take hr (pa_cons (pv 0) (pa_cons (pe_ix (r := rIxL K) ix_list (pe_lst (pa_cons pe_int (pa_cons pe_int (pa_cons pe_int (pa_cons pe_int pa_nil))))) (pe_f h__law_take hr (pa_cons (pv 0) (pa_cons pe_int pa_nil))) (fun _ _ => rfl)) pa_nil)))))
    (pss_cons
      (ps_set (i := 2) sc__law_how.nd rfl (.inl rfl) (pe_op op_add pe_int (pe_f h__law_take hr (pa_cons (pv 0) (pa_cons (pe_ix (r := rIxL K) ix_list (pe_lst (pa_cons pe_int (pa_cons (pe_op op_pow pe_int pe_int) pa_nil))) (pe_f h__law_take hr (pa_cons (pv 0) (pa_cons pe_int pa_nil))) (fun _ _ => rfl)) pa_nil)))))
    (pss_one
      (ps_ret (pe_tup (pa_cons (pv 1) (pa_cons (pe_ifExp (pt_val (pe_f h__law_shares hr (pa_cons (pv 1) (pa_cons (pv 2) pa_nil)))) pe_int (pv 2)) pa_nil)))))))
      , ?_⟩
    refine ⟨_, rfl, Nat.le_of_ble_eq_true rfl, fun p1 hp1 => ?_⟩
    have s1 := Same.new (o := .lst [.int 8, .int 98, .int 498, .int 9971]) hp1
    have nb1 : p1 ≠ b := fun z => by
      obtain ⟨l, e⟩ := hB.at
      rw [z, e] at hp1
      cases hp1
    refine ⟨_, rfl, b, 4, k, rfl, by decide, by decide, hB.same s1, by omega, fun n H2 n0 n1 k2 b2 => ?_⟩
    have hl2 : SqL K H2 p1 [.int 8, .int 98, .int 498, .int 9971] := k2.seq nb1 (.of upd_same)
    obtain ⟨z, z0, z1, ez⟩ : ∃ z : Int, 0 < z ∧ z ≤ 9971 ∧ atI [V.int 8, .int 98, .int 498, .int 9971] n = some (.int z) := by
      have : n = 0 ∨ n = 1 ∨ n = 2 ∨ n = 3 := by omega
      rcases this with rfl | rfl | rfl | rfl
      · exact ⟨8, by decide, by decide, at0⟩
      · exact ⟨98, by decide, by decide, at1⟩
      · exact ⟨498, by decide, by decide, at2⟩
      · exact ⟨9971, by decide, by decide, at3⟩
    refine ⟨p1, _, _, _, rfl, rfl, hl2, ez, b, z, k + 1, rfl, z0, by omega, b2, by omega, fun n2 H3 m0 m1 k3 b3 => ⟨_, _, rfl, rfl, ?_⟩⟩
    refine ⟨_, rfl, _, _, rfl, rfl, ⟨by decide, by decide, by decide⟩, Nat.le_of_ble_eq_true rfl, fun p2 hp2 => ?_⟩
    have s4 := Same.new (o := .lst [.int 12, .int ((10 : Int) ^ (6 : Int).toNat)]) hp2
    have nb2 : p2 ≠ b := fun z => by
      obtain ⟨l, e⟩ := b3.at
      rw [z, e] at hp2
      cases hp2
    refine ⟨_, rfl, b, 2, k + 2, rfl, by decide, by decide, b3.same s4, by omega, fun n5 H5 r0 r1 k5 b5 => ?_⟩
    have hl5 : SqL K H5 p2 [.int 12, .int ((10 : Int) ^ (6 : Int).toNat)] := k5.seq nb2 (.of upd_same)
    obtain ⟨y, y0, y1, ey⟩ : ∃ z : Int, 0 < z ∧ z ≤ 1000000 ∧ atI [V.int 12, .int ((10 : Int) ^ (6 : Int).toNat)] n5 = some (.int z) := by
      have : n5 = 0 ∨ n5 = 1 := by omega
      rcases this with rfl | rfl
      · exact ⟨12, by decide, by decide, at0⟩
      · exact ⟨1000000, by decide, by decide, at1⟩
    refine ⟨p2, _, _, _, rfl, rfl, hl5, ey, b, y, k + 3, rfl, y0, by omega, b5, by omega, fun n6 H6 t0 t1 k6 b6 => ⟨_, _, rfl, rfl, ?_⟩⟩
    have kk : Ke b H H6 := ((((Ke.of s1).trans k2).trans k3).trans (.of s4)).trans (k5.trans k6)
    refine ⟨_, rfl, _, rfl, _, rfl, 3 + n2, 1 + n6, rfl, by omega, by omega, fun c hc => ⟨_, rfl, ?_⟩⟩
    cases c with
    | true =>
      refine iteT ⟨Nat.le_of_ble_eq_true rfl, fun p hp => ?_⟩
      refine q p ⟨some (3 + n2), 1⟩ (3 + n2) _ (kk.trans (.of (Same.new hp))) (b6.same (Same.new hp)) ⟨rfl, by omega, ⟨(show (1 : Int) ≤ 1 by decide), (show (1 : Int) ≤ 1000000 by decide), fun x e => ?_⟩, .of upd_same⟩
      cases e
      refine ⟨by omega, by omega, ?_⟩
      show ((Int.gcd (3 + n2) 1 : Nat) : Int) = 1
      rw [Int.gcd_one]
      rfl
    | false =>
      refine iteF ⟨_, rfl, Nat.le_of_ble_eq_true rfl, fun p hp => ?_⟩
      refine q p ⟨some (3 + n2), 1 + n6⟩ (3 + n2) _ (kk.trans (.of (Same.new hp))) (b6.same (Same.new hp)) ⟨rfl, by omega, ⟨by show 1 ≤ 1 + n6; omega, by show 1 + n6 ≤ 1000000; omega, fun x e => ?_⟩, .of upd_same⟩
      cases e
      refine ⟨by omega, by omega, ?_⟩
      have h1 := hc rfl
      have h2 : 0 < Int.gcd (3 + n2) (1 + n6) := Int.gcd_pos_of_ne_zero_left _ (by omega)
      have h3 : ((Int.gcd (3 + n2) (1 + n6) : Nat) : Int) ≤ 1 := h1
      show ((Int.gcd (3 + n2) (1 + n6) : Nat) : Int) = 1
      omega
/-! ### _law_mixed -/
def spLMixed (K : PySem.W.Frag) : Sp := fun vs H Q _ => ∃ (h : Addr) (m : Mix) (x z : Int) (v : V) (r : Row), vs = [.ref h, .int z, v] ∧ HowAt K H h m x ∧ r.Ok ∧ Dp K H v (rowD r) ∧ -(2 ^ 64) < z ∧ z < 2 ^ 64 ∧ ∀ H', Same H H' → Q (.int (mixed m z r)) H'
theorem sc__law_mixed : FnScope ["_law_how_here", "_law_value", "_law_row_here", "_law_number"] ["_law_how_here", "_law_value", "_law_row_here"] d__law_mixed.scope := ⟨rfl, rfl, rfl, by decide +kernel, rfl, by decide +kernel, by decide +kernel⟩
theorem ok__law_mixed (T : Tx K mg) (D : Fd K mg d__law_mixed) (h__law_row_number : Ok P w K mg base 2 "_law_row_number" ["_law_row_here"] (spLRowNum K)) : Ok P w K mg base 3 "_law_mixed" ["_law_how_here", "_law_value", "_law_row_here"] (spLMixed K) := by
  refine ok_mk D sc__law_mixed (fun _ _ _ _ _ _ us hl => match us, hl with | [_, _, _], _ => rfl) (fun vs H Q E h => ?_) (fun f cdv A outer s H vs Q E hr h => ?_)
  · obtain ⟨h, m, x, z, v, r, rfl, _⟩ := h
    rfl
  · obtain ⟨h, m, x, z, v, r, rfl, hH, ok, hv, z0, z1, q⟩ := h
    refine ⟨_, 
    (pss_cons
      (ps_set (i := 3) sc__law_mixed.nd rfl (.inl rfl) (pe_op op_add (pe_f h__law_row_number hr (pa_cons (pv 2) pa_nil)) pe_int))
    (pss_one
      (ps_ret (pe_ifExp (pt_cmpR op_isN (pe_ix (r := rIxT K) ix_tup (pv 0) pe_int (fun _ _ => rfl)) pe_non (nomark _)) (pe_op op_add (pe_op op_mul (pv 1) pe_int) (pv 3)) (pe_op op_mod (pe_op op_add (pe_op op_mul (pv 1) (pe_ix (r := rIxT K) ix_tup (pv 0) pe_int (fun _ _ => rfl))) (pv 3)) (pe_ix (r := rIxT K) ix_tup (pv 0) pe_int (fun _ _ => rfl)))))))
      , ?_⟩
    refine ⟨_, rfl, v, r, rfl, ok, hv, fun H1 s1 => ⟨_, _, rfl, rfl, ?_⟩⟩
    have t1 := s1.seqT hH.t
    have x0 := hH.x0
    refine ⟨_, rfl, h, _, _, _, rfl, rfl, t1, at0, rfl, _, rfl, iteF ⟨_, rfl, _, rfl, h, _, _, _, rfl, rfl, t1, at1, _, _, rfl, rfl, .inl ⟨z0, z1⟩, _, rfl, _, _, rfl, rfl, _, rfl, h, _, _, _, rfl, rfl, t1, at0, _, _, rfl, rfl, (show (0 : Int) < x by omega), ?_⟩⟩
    have e : mixed m z r = (z * m.f + (rowNum r + 1)) % x := by
      unfold mixed
      rw [hH.wd, ← Int.add_assoc]
    show Q (.int ((z * m.f + (rowNum r + 1)) % x)) H1
    rw [← e]
    exact q H1 s1
/-! ### _law_replay -/
def spLReplay (K : PySem.W.Frag) : Sp := fun vs H Q _ => ∃ (h a : Addr) (m : Mix) (x : Int) (rs : List Row) (n : Nat), vs = [.ref h, .ref a, .int (n : Int)] ∧ HowAt K H h m x ∧ OkRows rs ∧ LogAt K H a rs ∧ n ≤ 8 ∧ (∀ r ∈ rs, r.b < n) ∧
  ∀ (b : Addr) (H' : Hp), Same H H' → H b = none → H' b = some (.lst ((replayF m n rs).map V.int)) → Q (.ref b) H'
theorem sc__law_replay : FnScope ["_law_how_here", "_law_rows", "_law_size", "_law_found", "_law_row_here"] ["_law_how_here", "_law_rows", "_law_size"] d__law_replay.scope := ⟨rfl, rfl, rfl, by decide +kernel, rfl, by decide +kernel, by decide +kernel⟩
theorem flat_ones (n : Nat) : (List.replicate n [V.int 1]).flatten = (List.replicate n (1 : Int)).map V.int := by
  induction n with
  | zero => rfl
  | succ n ih =>
    rw [List.replicate_succ, List.flatten_cons, ih, List.replicate_succ]
    rfl
theorem ok__law_replay (T : Tx K mg) (D : Fd K mg d__law_replay) (h__law_mixed : Ok P w K mg base 3 "_law_mixed" ["_law_how_here", "_law_value", "_law_row_here"] (spLMixed K)) : Ok P w K mg base 4 "_law_replay" ["_law_how_here", "_law_rows", "_law_size"] (spLReplay K) := by
  refine ok_mk D sc__law_replay (fun _ _ _ _ _ _ us hl => match us, hl with | [_, _, _], _ => rfl) (fun vs H Q E h => ?_) (fun f cdv A outer s H vs Q E hr h => ?_)
  · obtain ⟨h, a, m, x, rs, n, rfl, _⟩ := h
    rfl
  · obtain ⟨h, a, m, x, rs, n, rfl, hH, ok, hL, n8, rb, q⟩ := h
    refine ⟨_, 
    (pss_cons
      (ps_set (i := 3) sc__law_replay.nd rfl (.inl rfl) (pe_op op_rep (pe_lst (pa_cons pe_int pa_nil)) (pv 2)))
    (pss_cons
      (ps_for PassesOwn.never rfl (pi_list (pv 1)) (pg_name (i := 4) sc__law_replay.nd rfl (.inl rfl))
        (pss_one
          (ps_if (pt_cmpR op_eq (pe_ix (r := rIxT K) ix_tup (pv 4) pe_int (fun _ _ => rfl)) pe_str (nomark _))
            (pss_one
              (ps_asg pe_int (pg_sub (pv 3) (pe_ix (r := rIxT K) ix_tup (pv 4) pe_int (fun _ _ => rfl)) set_list)))
            (pss_one
              (ps_asg (pe_f h__law_mixed hr (pa_cons (pv 0) (pa_cons (pe_ix (r := rIxL K) ix_list (pv 3) (pe_ix (r := rIxT K) ix_tup (pv 4) pe_int (fun _ _ => rfl)) (fun _ _ => rfl)) (pa_cons (pv 4) pa_nil)))) (pg_sub (pv 3) (pe_ix (r := rIxT K) ix_tup (pv 4) pe_int (fun _ _ => rfl)) set_list))))))
    (pss_one
      (ps_ret (pv 3)))))
      , ?_⟩
    obtain ⟨vs, hS, hR⟩ := hL.inv
    have hl := rows_len hR
    refine ⟨Nat.le_of_ble_eq_true rfl, fun p1 hp1 => ⟨_, rfl, p1, _, _, rfl, rfl, upd_same, by omega, by omega, ?_, fun p hp => ?_⟩⟩
    · show 1 * (n : Int).toNat ≤ sizeLine
      exact Nat.le_of_lt (small (by omega))
    have s1 := Same.new (o := .lst [.int 1]) hp1
    have hpH := s1.free hp
    rw [show (n : Int).toNat = n by omega, flat_ones]
    refine ⟨_, rfl, a, rfl, ⟨_, (s1.add hp).seq hS⟩, for_it (walk_list (xs := vs)) (fun i σ H3 => Same H H3 ∧ H3 p = some (.lst ((boardsOf m (List.replicate n 1) (rs.take i)).map V.int)) ∧ ∃ z, σ = [some (.ref h), some (.ref a), some (.int (n : Int)), some (.ref p), z])
      ⟨s1.add hp, upd_same, none, rfl⟩ (fun i σ H3 _ e => e.1.seq hS) ?_ ?_⟩
    · rintro i y σ H3x H3 hi ⟨s3, ep, z, rfl⟩ ⟨rfl, hy⟩
      obtain ⟨r, er, hr2⟩ := rows_get (hR.same s3) hy
      have okr := ok r (List.mem_of_getElem? er)
      have rbn := rb r (List.mem_of_getElem? er)
      obtain ⟨ra, rfl, hT⟩ := row_inv hr2
      have lb : LowB m (boardsOf m (List.replicate n 1) (rs.take i)) := LowB.boards (fun x e => (hH.ok.w x e).1) _ _ (LowB.start (fun x e => (hH.ok.w x e).1))
      have ln : (boardsOf m (List.replicate n 1) (rs.take i)).length = n := by
        rw [boardsOf_len, List.length_replicate]
      rw [boardsOf_take er]
      generalize boardsOf m (List.replicate n 1) (rs.take i) = bs at *
      have hb : r.b < bs.length := by omega
      have gb : bs[r.b]? = some bs[r.b] := List.getElem?_eq_getElem hb
      have ix : ∀ u : Int, ixN (bs.map V.int).length (r.b : Int) = some r.b := fun _ => ixN_nat (by rw [List.length_map]; exact hb)
      refine ⟨_, rfl, ra, _, _, _, rfl, rfl, hT, at1, rfl, _, rfl, ?_⟩
      rw [word_reset okr.w]
      by_cases c : r.w = 4
      · rw [decide_eq_true c]
        refine iteT ⟨_, rfl, _, rfl, ra, _, _, _, rfl, rfl, hT, at0, p, _, _, r.b, rfl, rfl, ep, ix 0, s3.mut hpH, ?_, _, rfl⟩
        rw [upd_same]
        unfold stepB
        rw [if_pos c, List.map_set]
      · rw [decide_eq_false c]
        refine iteF ⟨_, rfl, _, rfl, _, rfl, ra, _, _, _, rfl, rfl, hT, at0, p, _, _, .int bs[r.b], rfl, rfl, .of ep, ?_, _, rfl, ?_⟩
        · refine atI_nat ?_
          rw [List.getElem?_map, gb]
          rfl
        obtain ⟨l0, l1⟩ := lb x hH.wd _ (List.getElem_mem hb)
        have x1 := hH.x1
        refine ⟨h, m, x, bs[r.b], _, r, rfl, hH.same s3, okr, hr2, by omega, by omega, fun H4 s4 => ⟨_, rfl, _, rfl, ra, _, _, _, rfl, rfl, s4.seqT hT, at0, p, _, _, r.b, rfl, rfl, s4 _ _ ep, ix 0, (s3.trans s4).mut hpH, ?_, _, rfl⟩⟩
        rw [upd_same]
        unfold stepB
        rw [if_neg c, List.map_set, List.getD_eq_getElem?_getD, gb]
        rfl
    · rintro σ H3 ⟨s3, ep, z, rfl⟩
      rw [hl, List.take_length] at ep
      exact ⟨_, rfl, q p H3 s3 hpH ep⟩
/-! ### _law_note -/
def spNote : Sp := fun vs H Q _ => ∃ (b : Addr) (k : Nat), vs = [.ref b] ∧ Box H b k ∧ k < 1000000 ∧ ∀ (n : Int) (H' : Hp), 0 ≤ n → n < 9973 → Ke b H H' → Box H' b (k + 2) → Q (.int n) H'
theorem sc__law_note : FnScope ["_law_box_here"] ["_law_box_here"] d__law_note.scope := ⟨rfl, rfl, rfl, by decide +kernel, rfl, by decide +kernel, by decide +kernel⟩
theorem ok__law_note (T : Tx K mg) (D : Fd K mg d__law_note) (h__law_take : Ok P w K mg base 1 "_law_take" ["_law_box_here", "_law_size"] spTake) : Ok P w K mg base 2 "_law_note" ["_law_box_here"] spNote := by
  refine ok_mk D sc__law_note (fun _ _ _ _ _ _ us hl => match us, hl with | [_], _ => rfl) (fun vs H Q E h => ?_) (fun f cdv A outer s H vs Q E hr h => ?_)
  · obtain ⟨b, k, rfl, _⟩ := h
    rfl
  · obtain ⟨b, k, rfl, hB, hk, q⟩ := h
    refine ⟨_, 
    (pss_one
      (ps_ret (pe_f h__law_take hr (pa_cons (pv 0) (pa_cons (pe_ix (r := rIxL K) ix_list (pe_lst (pa_cons pe_int (pa_cons pe_int (pa_cons pe_int pa_nil)))) (pe_f h__law_take hr (pa_cons (pv 0) (pa_cons pe_int pa_nil))) (fun _ _ => rfl)) pa_nil)))))
      , ?_⟩
    refine ⟨_, rfl, Nat.le_of_ble_eq_true rfl, fun p1 hp1 => ?_⟩
    have s1 := Same.new (o := .lst [.int 3, .int 12, .int 9973]) hp1
    have nb1 : p1 ≠ b := fun z => by
      obtain ⟨l, e⟩ := hB.at
      rw [z, e] at hp1
      cases hp1
    refine ⟨_, rfl, b, 3, k, rfl, by decide, by decide, hB.same s1, by omega, fun n H2 n0 n1 k2 b2 => ?_⟩
    have hl2 : SqL K H2 p1 [.int 3, .int 12, .int 9973] := k2.seq nb1 (.of upd_same)
    obtain ⟨z, z0, z1, ez⟩ : ∃ z : Int, 0 < z ∧ z ≤ 9973 ∧ atI [V.int 3, .int 12, .int 9973] n = some (.int z) := by
      have : n = 0 ∨ n = 1 ∨ n = 2 := by omega
      rcases this with rfl | rfl | rfl
      · exact ⟨3, by decide, by decide, at0⟩
      · exact ⟨12, by decide, by decide, at1⟩
      · exact ⟨9973, by decide, by decide, at2⟩
    refine ⟨p1, _, _, _, rfl, rfl, hl2, ez, b, z, k + 1, rfl, z0, by omega, b2, by omega, fun n2 H3 m0 m1 k3 b3 => ?_⟩
    exact q n2 H3 m0 (by omega) (((Ke.of s1).trans k2).trans k3) b3
end
end K21
namespace K21
open PySem PySem.Spec PyProof.Rows L2 TL
section
variable {P : Program} {w : World} {K : PySem.W.Frag} {mg : Str → Option Value} {base : Heap}
theorem Box.ne {H : Hp} {b p : Addr} {m : Nat} (h : Box H b m) (hp : H p = none) : p ≠ b := fun z => by
  obtain ⟨l, e⟩ := h.at
  rw [z, e] at hp
  cases hp
/-- the names drawn, at l -/
structure NamesAt (K : PySem.W.Frag) (H : Hp) (b l : Addr) (nm : List (List Nat)) : Prop where
  s : SqL K H l (nm.map fun x => V.str (nameS x))
  n : l ≠ b
  l0 : 0 < nm.length
  l1 : nm.length < 1000
  ok : ∀ x ∈ nm, okName x
theorem NamesAt.ke {H H' : Hp} {b l : Addr} {nm : List (List Nat)} (e : Ke b H H') (h : NamesAt K H b l nm) : NamesAt K H' b l nm := ⟨e.seq h.n h.s, h.n, h.l0, h.l1, h.ok⟩
/-! ### _law_row -/
def spLRow (K : PySem.W.Frag) : Sp := fun vs H Q _ => ∃ (b l : Addr) (nm : List (List Nat)) (wd : Nat) (n k : Nat), vs = [.ref b, .ref l, .str (wordS wd), .int (n : Int)] ∧ Box H b k ∧ k < 1000000 ∧ NamesAt K H b l nm ∧ wd < 5 ∧ 0 < n ∧ n ≤ 8 ∧
  ∀ (t : Addr) (r : Row) (H' : Hp), Ke b H H' → Box H' b (k + 4) → SqT K H' t (rowV r) → r.Ok → r.w = wd → r.b < n → Q (.ref t) H'
theorem sc__law_row : FnScope ["_law_box_here", "_law_names_here", "_law_word", "_law_size", "_law_note_here"] ["_law_box_here", "_law_names_here", "_law_word", "_law_size"] d__law_row.scope := ⟨rfl, rfl, rfl, by decide +kernel, rfl, by decide +kernel, by decide +kernel⟩
theorem ok__law_row (T : Tx K mg) (D : Fd K mg d__law_row) (h__law_take : Ok P w K mg base 1 "_law_take" ["_law_box_here", "_law_size"] spTake) (h__law_pick : Ok P w K mg base 2 "_law_pick" ["_law_box_here", "_law_things"] (spPick K))
    (h__law_note : Ok P w K mg base 2 "_law_note" ["_law_box_here"] spNote) : Ok P w K mg base 3 "_law_row" ["_law_box_here", "_law_names_here", "_law_word", "_law_size"] (spLRow K) := by
  refine ok_mk D sc__law_row (fun _ _ _ _ _ _ us hl => match us, hl with | [_, _, _, _], _ => rfl) (fun vs H Q E h => ?_) (fun f cdv A outer s H vs Q E hr h => ?_)
  · obtain ⟨b, l, nm, wd, n, k, rfl, _⟩ := h
    rfl
  · obtain ⟨b, l, nm, wd, n, k, rfl, hB, hk, hN, w5, n0, n8, q⟩ := h
    refine ⟨_, 
    (pss_cons
      (ps_set (i := 4) sc__law_row.nd rfl (.inl rfl) (pe_ifExp (pt_cmpR op_in2 (pv 2) (pe_tup (pa_cons pe_str (pa_cons pe_str pa_nil))) rfl) pe_int (pe_f h__law_note hr (pa_cons (pv 0) pa_nil))))
    (pss_one
      (ps_ret (pe_tup (pa_cons (pe_f h__law_take hr (pa_cons (pv 0) (pa_cons (pv 3) pa_nil))) (pa_cons (pv 2) (pa_cons (pe_f h__law_pick hr (pa_cons (pv 0) (pa_cons (pv 1) pa_nil))) (pa_cons (pv 4) pa_nil))))))))
      , ?_⟩
    have fin : ∀ (z : Int) (H1 : Hp), Ke b H H1 → Box H1 b (k + 2) → 0 ≤ z → z < noteTop wd →
        tRet (tTup (tCons (tCall spTake [] E0 (tCons (tVar 0) (tCons (tVar 3) tNil))) (tCons (tVar 2) (tCons (tCall (spPick K) [] E0 (tCons (tVar 0) (tCons (tVar 1) tNil))) (tCons (tVar 4) tNil))))) { nx := fun _ H' => Q .non H', rt := Q } [some (.ref b), some (.ref l), some (.str (wordS wd)), some (.int (n : Int)), some (.int z)] H1 := by
      intro z H1 k1 b1 z0 z1
      refine ⟨_, rfl, _, rfl, b, _, k + 2, rfl, by omega, by omega, b1, by omega, fun y H2 y0 y1 k2 b2 => ⟨_, rfl, ?_⟩⟩
      have hN2 := (hN.ke k1).ke k2
      refine ⟨_, rfl, _, rfl, b, l, _, k + 3, rfl, hN2.s, hN2.n, ?_, ?_, b2, by omega, fun v H3 hv k3 b3 => ⟨_, rfl, Nat.le_of_ble_eq_true rfl, fun t ht => ?_⟩⟩
      · rw [List.length_map]
        exact hN.l0
      · rw [List.length_map]
        exact hN.l1
      obtain ⟨x, hx, rfl⟩ := List.mem_map.mp hv
      obtain ⟨j, rfl⟩ := Int.eq_ofNat_of_zero_le y0
      have s4 := Same.new (o := .tup [.int (j : Int), .str (wordS wd), .str (nameS x), .int z]) ht
      exact q t ⟨j, wd, x, z⟩ _ (((k1.trans k2).trans k3).trans (.of s4)) (b3.same s4) (.of upd_same) ⟨(by show j < 8; omega), w5, hN.ok x hx, z0, z1⟩ rfl (by show j < n; omega)
    refine ⟨_, rfl, Nat.le_of_ble_eq_true rfl, fun p hp => ⟨p, _, rfl, .inr (.of upd_same), rfl, rfl, _, rfl, ?_⟩⟩
    have s1 := Same.new (o := .tup [.str "end", .str "reset"]) hp
    rw [bare_in w5]
    by_cases c : wd = 2 ∨ wd = 4
    · rw [decide_eq_true c]
      refine iteT (fin 0 _ (.of s1) ((hB.same s1).up (by omega)) (by decide) ?_)
      unfold noteTop
      rw [if_pos c]
      decide
    · rw [decide_eq_false c]
      refine iteF ⟨_, rfl, b, k, rfl, hB.same s1, hk, fun z H2 z0 z1 k2 b2 => fin z H2 ((Ke.of s1).trans k2) b2 z0 ?_⟩
      unfold noteTop
      rw [if_neg c]
      exact z1
/-! ### _law_sizes -/
def spSizes (K : PySem.W.Frag) : Sp := fun vs H Q _ => ∃ (b : Addr) (k : Nat), vs = [.ref b] ∧ Box H b k ∧ k < 1000000 ∧ ∀ (t : Addr) (n fx : Nat) (H' : Hp), Ke b H H' → Box H' b (k + 4) → SqT K H' t [.int (n : Int), .int (fx : Int)] → 0 < n → n ≤ 8 → fx ≤ n → Q (.ref t) H'
theorem sc__law_sizes : FnScope ["_law_box_here", "_law_size"] ["_law_box_here"] d__law_sizes.scope := ⟨rfl, rfl, rfl, by decide +kernel, rfl, by decide +kernel, by decide +kernel⟩
theorem ok__law_sizes (T : Tx K mg) (D : Fd K mg d__law_sizes) (h__law_take : Ok P w K mg base 1 "_law_take" ["_law_box_here", "_law_size"] spTake) : Ok P w K mg base 2 "_law_sizes" ["_law_box_here"] (spSizes K) := by
  refine ok_mk D sc__law_sizes (fun _ _ _ _ _ _ us hl => match us, hl with | [_], _ => rfl) (fun vs H Q E h => ?_) (fun f cdv A outer s H vs Q E hr h => ?_)
  · obtain ⟨b, k, rfl, _⟩ := h
    rfl
  · obtain ⟨b, k, rfl, hB, hk, q⟩ := h
    refine ⟨_, 
    (pss_cons
      (ps_set (i := 1) sc__law_sizes.nd rfl (.inl rfl) (pe_op op_add pe_int (pe_f h__law_take hr (pa_cons (pv 0) (pa_cons pe_int pa_nil)))))
    (pss_one
      (ps_ret (pe_ix (r := rIxL K) ix_list (pe_lst (pa_cons (pe_tup (pa_cons pe_int (pa_cons pe_int pa_nil))) (pa_cons (pe_tup (pa_cons (pv 1) (pa_cons (pe_f h__law_take hr (pa_cons (pv 0) (pa_cons (pe_op op_add (pv 1) pe_int) pa_nil))) pa_nil))) (pa_cons (pe_tup (pa_cons (pv 1) (pa_cons (pe_op op_fdiv (pe_f h__law_take hr (pa_cons (pv 0) (pa_cons (pe_op op_add (pv 1) pe_int) pa_nil))) pe_int) pa_nil))) pa_nil)))) (pe_f h__law_take hr (pa_cons (pv 0) (pa_cons pe_int pa_nil))) (fun _ _ => rfl)))))
      , ?_⟩
    refine ⟨_, rfl, b, 8, k, rfl, by decide, by decide, hB, by omega, fun y H1 y0 y1 k1 b1 => ⟨_, _, rfl, rfl, ?_⟩⟩
    obtain ⟨j, rfl⟩ := Int.eq_ofNat_of_zero_le y0
    obtain ⟨n, en⟩ : ∃ n : Nat, n = 1 + j := ⟨_, rfl⟩
    have ez : V.int (1 + (j : Int)) = V.int (n : Int) := by
      congr 1
      omega
    show gName 1 (V.int (1 + (j : Int))) _ _ _
    rw [ez]
    refine ⟨Nat.le_of_ble_eq_true rfl, fun t1 ht1 => ?_⟩
    have s2 := Same.new (o := .tup [.int 4, .int 2]) ht1
    have b2 := b1.same s2
    refine ⟨_, rfl, _, rfl, _, rfl, _, _, rfl, rfl, b, _, k + 1, rfl, by omega, by omega, b2, by omega, fun u H3 u0 u1 k3 b3 => ⟨Nat.le_of_ble_eq_true rfl, fun t2 ht2 => ?_⟩⟩
    have s4 := Same.new (o := .tup [.int (n : Int), .int u]) ht2
    have b4 := b3.same s4
    refine ⟨_, rfl, _, rfl, _, rfl, _, _, rfl, rfl, b, _, k + 2, rfl, by omega, by omega, b4, by omega, fun v H5 v0 v1 k5 b5 => ⟨_, _, rfl, rfl, ⟨by decide, by decide⟩, Nat.le_of_ble_eq_true rfl, fun t3 ht3 => ⟨Nat.le_of_ble_eq_true rfl, fun p hp => ?_⟩⟩⟩
    have s6 := Same.new (o := .tup [.int (n : Int), .int (v / 2)]) ht3
    have s7 := Same.new (o := .lst [.ref t1, .ref t2, .ref t3]) hp
    have b7 := (b5.same s6).same s7
    have np : p ≠ b := (b5.same s6).ne hp
    obtain ⟨l1, e1⟩ := b1.at
    obtain ⟨l2, e2⟩ := b2.at
    obtain ⟨l3, e3⟩ := b3.at
    obtain ⟨l4, e4⟩ := b4.at
    obtain ⟨l7, e7⟩ := b7.at
    refine ⟨_, rfl, b, 3, k + 3, rfl, by decide, by decide, b7, by omega, fun z H8 z0 z1 k8 b8 => ?_⟩
    have T1 : SqT K H8 t1 [.int 4, .int 2] := k8.seqT e7 (s7.seqT (s6.seqT (k5.seqT e4 (s4.seqT (k3.seqT e2 (.of upd_same))))))
    have T2 : SqT K H8 t2 [.int (n : Int), .int u] := k8.seqT e7 (s7.seqT (s6.seqT (k5.seqT e4 (.of upd_same))))
    have T3 : SqT K H8 t3 [.int (n : Int), .int (v / 2)] := k8.seqT e7 (s7.seqT (.of upd_same))
    have hp8 : SqL K H8 p [.ref t1, .ref t2, .ref t3] := k8.seq np (.of upd_same)
    have kk : Ke b H H8 := ((((k1.trans (.of s2)).trans k3).trans (.of s4)).trans k5).trans (((Ke.of s6).trans (.of s7)).trans k8)
    obtain ⟨u', rfl⟩ := Int.eq_ofNat_of_zero_le u0
    obtain ⟨v', ev⟩ := Int.eq_ofNat_of_zero_le (show 0 ≤ v / 2 by omega)
    rw [ev] at T3
    have : z = 0 ∨ z = 1 ∨ z = 2 := by omega
    rcases this with rfl | rfl | rfl
    · exact ⟨p, _, _, _, rfl, rfl, hp8, at0, q t1 4 2 H8 kk b8 T1 (by decide) (by decide) (by decide)⟩
    · exact ⟨p, _, _, _, rfl, rfl, hp8, at1, q t2 n u' H8 kk b8 T2 (by omega) (by omega) (by omega)⟩
    · exact ⟨p, _, _, _, rfl, rfl, hp8, at2, q t3 n v' H8 kk b8 T3 (by omega) (by omega) (by omega)⟩
end
end K21
namespace K21
open PySem PySem.Spec PyProof.Rows L2 TL
theorem nameS_list (l : List Nat) : (nameS l).cps.toList = l.map (· + 97) := by
  unfold nameS
  simp
theorem nameS_append (l r : List Nat) : nameS l ++ nameS r = nameS (l ++ r) := by
  show Str.mk ((nameS l).cps ++ (nameS r).cps) = Str.mk ((l ++ r).map (· + 97)).toArray
  congr 1
  apply Array.ext'
  simp [nameS]
theorem cut_to (l : List Nat) (j : Nat) (h : j ≤ l.length) : cutS (nameS l) none (some (j : Int)) = nameS (l.take j) := by
  have e1 : HT.sIx (nameS l).length (nameS l).length (some (j : Int)) = j := by
    rw [HT.sIx_nat, nameS_len]
    omega
  unfold cutS
  rw [e1]
  show Str.mk (((nameS l).cps.toList.drop 0).take (j - 0)).toArray = Str.mk ((l.take j).map (· + 97)).toArray
  rw [nameS_list, List.drop_zero, Nat.sub_zero, List.map_take]
theorem cut_from (l : List Nat) (j : Nat) (h : j ≤ l.length) : cutS (nameS l) (some (j : Int)) none = nameS (l.drop j) := by
  have e1 : HT.sIx (nameS l).length 0 (some (j : Int)) = j := by
    rw [HT.sIx_nat, nameS_len]
    omega
  unfold cutS
  rw [e1, HT.sIx_none]
  show Str.mk (((nameS l).cps.toList.drop j).take ((nameS l).length - j)).toArray = Str.mk ((l.drop j).map (· + 97)).toArray
  rw [nameS_list, nameS_len, List.map_drop, List.take_of_length_le (by rw [List.length_drop, List.length_map]; exact Nat.le_refl _)]
section
variable {P : Program} {w : World} {K : PySem.W.Frag} {mg : Str → Option Value} {base : Heap}
theorem Ke.mut {x D : Addr} {H H' : Hp} {o : HO} (e : Ke x H H') (hD : H D = none) : Ke x H (L2.upd H' D o) := fun b u h n => by
  rw [upd_ne (ne_of_none h hD)]
  exact e b u h n
theorem Box.mut {H : Hp} {b D : Addr} {m : Nat} {o : HO} (h : Box H b m) (n : D ≠ b) : Box (upd H D o) b m := by
  obtain ⟨n0, n1, c, e1, r⟩ := h
  exact ⟨n0, n1, c, by rw [upd_ne (Ne.symm n)]; exact e1, r⟩
/-! ### _law_names -/
def spNames (K : PySem.W.Frag) : Sp := fun vs H Q _ => ∃ (b : Addr) (k : Nat), vs = [.ref b, .int 4] ∧ Box H b k ∧ k < 1000000 ∧ ∀ (l : Addr) (nm : List (List Nat)) (H' : Hp), Ke b H H' → Box H' b (k + 8) → NamesAt K H' b l nm → Q (.ref l) H'
theorem sc__law_names : FnScope ["_law_box_here", "_law_size", "_law_letters", "_law_begun", "_law_by", "_law_tail", "_law_at", "_law_k"] ["_law_box_here", "_law_size"] d__law_names.scope := ⟨rfl, rfl, rfl, by decide +kernel, rfl, by decide +kernel, by decide +kernel⟩
theorem ok__law_names (T : Tx K mg) (D : Fd K mg d__law_names) (h__law_take : Ok P w K mg base 1 "_law_take" ["_law_box_here", "_law_size"] spTake) : Ok P w K mg base 2 "_law_names" ["_law_box_here", "_law_size"] (spNames K) := by
  refine ok_mk D sc__law_names (fun _ _ _ _ _ _ us hl => match us, hl with | [_, _], _ => rfl) (fun vs H Q E h => ?_) (fun f cdv A outer s H vs Q E hr h => ?_)
  · obtain ⟨b, k, rfl, _⟩ := h
    rfl
  · obtain ⟨b, k, rfl, hB, hk, q⟩ := h
    refine ⟨_, 
    (pss_cons
      (ps_asg (pe_tup (pa_cons pe_str (pa_cons (pe_f h__law_take hr (pa_cons (pv 0) (pa_cons pe_int pa_nil))) (pa_cons (pe_ix (r := rIxL K) ix_list (pe_lst (pa_cons pe_int (pa_cons pe_int (pa_cons pe_int (pa_cons pe_int pa_nil))))) (pe_f h__law_take hr (pa_cons (pv 0) (pa_cons pe_int pa_nil))) (fun _ _ => rfl)) pa_nil)))) (pg_tup rfl (pgs_cons (pg_name (i := 2) sc__law_names.nd rfl (.inr rfl)) (pgs_cons (pg_name (i := 3) sc__law_names.nd rfl (.inr rfl)) (pgs_cons (pg_name (i := 4) sc__law_names.nd rfl (.inr rfl)) pgs_nil)))))
    (pss_cons
      (ps_set (i := 5) sc__law_names.nd rfl (.inr rfl) (pe_join pe_str (pe_lc rfl sc__law_names.nd (pi_range1 (by rfl) T.range (pa_cons (pe_f h__law_take hr (pa_cons (pv 0) (pa_cons pe_int pa_nil))) pa_nil)) (blkOk_by (N := ["_law_box_here", "_law_size", "_law_letters", "_law_begun", "_law_by", "_law_tail", "_law_at", "_law_k"]) (sc := d__law_names.scope) (own := [("_law_k", 7)]) (by decide +kernel)) (fun _ _ _ _ _ => (pg_name (i := 7) sc__law_names.nd rfl (.inl rfl))) (fun _ _ _ _ _ => pts_nil) (fun _ _ _ _ _ => (pe_ix ix_str (pv 2) (pe_f h__law_take hr (pa_cons (pv 0) (pa_cons pe_int pa_nil))) (fun _ _ => rfl))))))
    (pss_cons
      (ps_set (i := 6) sc__law_names.nd rfl (.inr rfl) (pe_f h__law_take hr (pa_cons (pv 0) (pa_cons (pe_op op_add (pe_callB call_len_str (by rfl) T.len PySem.boot_len (pa_cons (pv 5) pa_nil)) pe_int) pa_nil))))
    (pss_one
      (ps_ret (pe_lc rfl sc__law_names.nd (pi_range1 (by rfl) T.range (pa_cons (pv 1) pa_nil)) (blkOk_by (N := ["_law_box_here", "_law_size", "_law_letters", "_law_begun", "_law_by", "_law_tail", "_law_at", "_law_k"]) (sc := d__law_names.scope) (own := [("_law_k", 7)]) (by decide +kernel)) (fun _ _ _ _ _ => (pg_name (i := 7) sc__law_names.nd rfl (.inl rfl))) (fun _ _ _ _ _ => pts_nil) (fun _ _ _ _ _ => (pe_op op_add_str (pe_op op_add_str (pe_slice sl_str (pv 5) po_none (po_some (pv 6))) (pe_ix ix_str (pv 2) (pe_op op_mod (pe_op op_add (pv 3) (pe_op op_mul (pv 4) (pv 7))) pe_int) (fun _ _ => rfl))) (pe_slice sl_str (pv 5) (po_some (pv 6)) po_none)))))))))
      , ?_⟩
    refine ⟨_, rfl, b, 26, k, rfl, by decide, by decide, hB, by omega, fun y H1 y0 y1 k1 b1 => ⟨Nat.le_of_ble_eq_true rfl, fun p1 hp1 => ?_⟩⟩
    have s2 := Same.new (o := .lst [.int 1, .int 3, .int 7, .int 25]) hp1
    have nb1 := b1.ne hp1
    refine ⟨_, rfl, b, 4, k + 1, rfl, by decide, by decide, b1.same s2, by omega, fun n H3 n0 n1 k3 b3 => ?_⟩
    have hl3 : SqL K H3 p1 [.int 1, .int 3, .int 7, .int 25] := k3.seq nb1 (.of upd_same)
    obtain ⟨z, z0, z1, ez⟩ : ∃ z : Int, 0 < z ∧ z ≤ 25 ∧ atI [V.int 1, .int 3, .int 7, .int 25] n = some (.int z) := by
      have : n = 0 ∨ n = 1 ∨ n = 2 ∨ n = 3 := by omega
      rcases this with rfl | rfl | rfl | rfl
      · exact ⟨1, by decide, by decide, at0⟩
      · exact ⟨3, by decide, by decide, at1⟩
      · exact ⟨7, by decide, by decide, at2⟩
      · exact ⟨25, by decide, by decide, at3⟩
    refine ⟨p1, _, _, _, rfl, rfl, hl3, ez, Nat.le_of_ble_eq_true rfl, fun t ht => ⟨t, _, rfl, .of upd_same, rfl, _, _, rfl, _, _, rfl, _, _, rfl, rfl, ?_⟩⟩
    have s4 := Same.new (o := .tup [.str "abcdefghijklmnopqrstuvwxyz", .int y, .int z]) ht
    have b4 := b3.same s4
    have k4 : Ke b H _ := ((k1.trans (.of s2)).trans k3).trans (.of s4)
    generalize upd H3 t (.tup [.str "abcdefghijklmnopqrstuvwxyz", .int y, .int z]) = H4 at *
    refine ⟨⟨_, rfl⟩, _, rfl, b, 4, k + 2, rfl, by decide, by decide, b4, by omega, fun c H5 c0 c1 k5 b5 => ⟨_, rfl, by omega, by omega, fun D hD => ?_⟩⟩
    have nD := b5.ne hD
    refine lc_it walk_range (fun i H6 => Ke b H5 H6 ∧ Box H6 b (k + 3 + i) ∧ ∃ tl : List Nat, tl.length = i ∧ (∀ d ∈ tl, d < 26) ∧ H6 D = some (.lst ((tl.map signS).map V.str))) ⟨.of (Same.new hD), b5.same (Same.new hD), [], rfl, (fun d h => by cases h), upd_same⟩ (fun _ _ _ _ => trivial) ?_ ?_
    · rintro i x H6x H6 hi ⟨k6, b6, tl, ltl, otl, e6⟩ ⟨rfl, rfl⟩
      refine ⟨rfl, _, rfl, _, rfl, b, 26, k + 3 + i, rfl, by decide, by decide, b6, by omega, fun d H7 d0 d1 k7 b7 => ?_⟩
      obtain ⟨d, rfl⟩ := Int.eq_ofNat_of_zero_le d0
      have d26 : d < 26 := by omega
      have e7 := k7 _ _ e6 nD
      refine ⟨_, _, _, rfl, rfl, (by decide +kernel), letter_at d26, _, e7, small (by rw [List.length_map, List.length_map]; omega), (k6.trans k7).mut hD, b7.mut nD, tl ++ [d], ?_, ?_, ?_⟩
      · rw [List.length_append, ltl]
        rfl
      · intro u hu
        rcases List.mem_append.mp hu with hu | hu
        · exact otl u hu
        · rw [List.mem_singleton.mp hu]
          exact d26
      · rw [upd_same, List.map_append, List.map_append]
        rfl
    · rintro H6 ⟨k6, b6, tl, ltl, otl, e6⟩
      have tl3 : tl.length ≤ 3 := by omega
      refine ⟨_, D, tl.map signS, rfl, rfl, .inl (.of e6), ?_, ?_⟩
      · rw [signs_len, List.length_map]
        show tl.length + tl.length * 0 ≤ 16777216
        omega
      rw [join_signs]
      have ztl : (nameS tl).length ≤ sizeLine := by
        rw [nameS_len]
        exact Nat.le_of_lt (small (by omega))
      refine ⟨_, rfl, _, rfl, _, rfl, ztl, _, _, rfl, rfl, b, _, k + 6, rfl, by omega, ?_, b6.up (by omega), by omega, fun at_ H7 a0 a1 k7 b7 => ?_⟩
      · rw [nameS_len]
        omega
      obtain ⟨j, rfl⟩ := Int.eq_ofNat_of_zero_le a0
      have hj : j ≤ tl.length := by
        rw [nameS_len] at a1
        omega
      refine ⟨_, rfl, _, rfl, by decide, by decide, fun D2 hD2 => ?_⟩
      have nD2 := b7.ne hD2
      have kk := ((k4.trans k5).trans k6).trans k7
      refine lc_it walk_range (fun i H8 => Same H7 H8 ∧ ∃ nm : List (List Nat), nm.length = i ∧ (∀ x ∈ nm, okName x) ∧ H8 D2 = some (.lst (nm.map fun x => V.str (nameS x)))) ⟨Same.new hD2, [], rfl, (fun d h => by cases h), upd_same⟩ (fun _ _ _ _ => trivial) ?_ ?_
      · rintro i x H8x H8 hi ⟨s8, nm, lnm, onm, e8⟩ ⟨rfl, rfl⟩
        have hi4 : i < 4 := hi
        have c0 : 0 ≤ (y + z * (0 + (i : Int))) % 26 := Int.emod_nonneg _ (by decide)
        have c1 : (y + z * (0 + (i : Int))) % 26 < 26 := Int.emod_lt_of_pos _ (by decide)
        obtain ⟨d, ed⟩ := Int.eq_ofNat_of_zero_le c0
        have d26 : d < 26 := by omega
        have ec := cut_to tl j hj
        have ef := cut_from tl j hj
        have e1 : nameS (tl.take j) ++ (⟨#[d + 97]⟩ : Str) = nameS (tl.take j ++ [d]) := nameS_append _ [d]
        have lt := List.length_take_le j tl
        have ld := List.length_drop (i := j) (l := tl)
        refine ⟨rfl, _, rfl, _, rfl, _, rfl, _, rfl, ztl, _, rfl, _, rfl, _, rfl, _, rfl, _, _, rfl, rfl, .inl ⟨by omega, by omega⟩, _, _, rfl, rfl, _, _, rfl, rfl, (show (0 : Int) < 26 by decide), _, _, d + 97, rfl, rfl, (by decide +kernel), ?_, _, _, rfl, rfl, ?_, _, rfl, _, rfl, _, rfl, _, rfl, ztl, _, _, rfl, rfl, ?_, ?_⟩
        · show atI _ ((y + z * (0 + (i : Int))) % 26) = _
          rw [ed]
          exact letter_at d26
        · rw [ec, nameS_len]
          exact Nat.le_of_lt (small (by show _ + 1 ≤ 100000; omega))
        · rw [ec, e1, ef, nameS_len, nameS_len, List.length_append]
          exact Nat.le_of_lt (small (by show _ + 1 + _ ≤ 100000; omega))
        · rw [ec, e1, ef, nameS_append]
          refine ⟨_, e8, small (by rw [List.length_map]; omega), s8.mut hD2, nm ++ [tl.take j ++ [d] ++ tl.drop j], ?_, ?_, ?_⟩
          · rw [List.length_append, lnm]
            rfl
          · intro u hu
            rcases List.mem_append.mp hu with hu | hu
            · exact onm u hu
            · rw [List.mem_singleton.mp hu]
              refine ⟨?_, ?_, fun c hc => ?_⟩
              · rw [List.length_append, List.length_append, List.length_singleton]
                omega
              · rw [List.length_append, List.length_append, List.length_singleton]
                omega
              · rcases List.mem_append.mp hc with hc | hc
                · rcases List.mem_append.mp hc with hc | hc
                  · exact otl c (List.mem_of_mem_take hc)
                  · rw [List.mem_singleton.mp hc]
                    exact d26
                · exact otl c (List.mem_of_mem_drop hc)
          · rw [upd_same, List.map_append]
            rfl
      · rintro H8 ⟨s8, nm, lnm, onm, e8⟩
        exact q D2 nm H8 (kk.trans (.of s8)) ((b7.same s8).up (by omega)) ⟨.of e8, nD2, by omega, by omega, onm⟩
end
end K21
namespace K21
open PySem PySem.Spec PyProof.Rows L2 TL
theorem stands_loads {n fx : Nat} : ∀ {rs : List Row}, (∀ r ∈ rs, r.w ≤ 1 ∧ r.b < n) → stands (n : Int) (fx : Int) false rs = true ∧ endIn rs = false
  | [], _ => ⟨rfl, rfl⟩
  | r :: rs, h => by
    obtain ⟨h1, h2⟩ := stands_loads (n := n) (fx := fx) (rs := rs) fun q hq => h q (List.mem_cons_of_mem _ hq)
    obtain ⟨w1, rb⟩ := h r (List.mem_cons_self ..)
    have e1 : isEnd r = false := decide_eq_false (by omega)
    have e2 : isBehind r = false := decide_eq_false (by omega)
    have e3 : canStand (n : Int) (fx : Int) false r = true := by
      unfold canStand
      rw [e2, decide_eq_true (show (r.b : Int) < (n : Int) by omega), decide_eq_true (show r.w ≠ 4 by omega)]
      rfl
    constructor
    · show (canStand (n : Int) (fx : Int) false r && stands (n : Int) (fx : Int) (false || isEnd r) rs) = true
      rw [e3, e1]
      exact h1
    · show (isEnd r || endIn rs) = false
      rw [e1, h2]
      rfl
theorem stands_end {n fx : Nat} {rs : List Row} {r : Row} (h : ∀ q ∈ rs, q.w ≤ 1 ∧ q.b < n) (hw : r.w = 2) (hb : r.b < n) : stands (n : Int) (fx : Int) false (rs ++ [r]) = true ∧ endIn (rs ++ [r]) = true := by
  obtain ⟨h1, h2⟩ := stands_loads (fx := fx) h
  have e1 : isEnd r = true := decide_eq_true hw
  have e2 : isBehind r = false := decide_eq_false (by omega)
  have e3 : canStand (n : Int) (fx : Int) false r = true := by
    unfold canStand
    rw [e2, decide_eq_true (show (r.b : Int) < (n : Int) by omega), decide_eq_true (show r.w ≠ 4 by omega)]
    rfl
  constructor
  · rw [stands_append, h1, h2]
    show (canStand (n : Int) (fx : Int) false r && true) = true
    rw [e3]
    rfl
  · unfold endIn
    rw [List.any_append]
    show (_ || (isEnd r || false)) = true
    rw [e1, Bool.true_or, Bool.or_true]
theorem stands_more {n fx : Nat} {rs : List Row} {r : Row} (h1 : stands (n : Int) (fx : Int) false rs = true) (h2 : endIn rs = true) (hw : r.w = 3 ∨ (r.w = 4 ∧ fx ≤ r.b)) (hb : r.b < n) : stands (n : Int) (fx : Int) false (rs ++ [r]) = true ∧ endIn (rs ++ [r]) = true := by
  have e2 : isBehind r = true := decide_eq_true (by omega)
  have e3 : canStand (n : Int) (fx : Int) true r = true := by
    unfold canStand
    rw [e2, decide_eq_true (show (r.b : Int) < (n : Int) by omega)]
    rcases hw with hw | ⟨hw, hf⟩
    · rw [decide_eq_true (show r.w ≠ 4 by omega)]
      rfl
    · rw [decide_eq_true (show (fx : Int) ≤ (r.b : Int) by omega), Bool.or_true]
      rfl
  constructor
  · rw [stands_append, h1, h2]
    show (canStand (n : Int) (fx : Int) true r && true) = true
    rw [e3]
    rfl
  · unfold endIn at h2 ⊢
    rw [List.any_append, h2, Bool.true_or]
section
variable {P : Program} {w : World} {K : PySem.W.Frag} {mg : Str → Option Value} {base : Heap}
/-- rows gathered in the list at D -/
def RowsAt (K : PySem.W.Frag) (H : Hp) (D : Addr) (rs : List Row) : Prop := ∃ acc, H D = some (.lst acc) ∧ DpAll K H acc (rs.map rowD)
theorem RowsAt.ke {H H' : Hp} {b D : Addr} {l : List V} {rs : List Row} (e : Ke b H H') (hb : H b = some (.lst l)) (n : D ≠ b) (h : RowsAt K H D rs) : RowsAt K H' D rs := by
  obtain ⟨acc, e1, d1⟩ := h
  exact ⟨acc, e _ _ e1 n, rows_ke e hb d1⟩
theorem RowsAt.same {H H' : Hp} {D : Addr} {rs : List Row} (e : Same H H') (h : RowsAt K H D rs) : RowsAt K H' D rs := by
  obtain ⟨acc, e1, d1⟩ := h
  exact ⟨acc, e _ _ e1, d1.same e⟩
theorem RowsAt.log {H : Hp} {D : Addr} {rs : List Row} (h : RowsAt K H D rs) : LogAt K H D rs := by
  obtain ⟨acc, e1, d1⟩ := h
  exact .mk (.of e1) d1
theorem RowsAt.push {H : Hp} {D : Addr} {rs : List Row} {v : V} {r : Row} (h : RowsAt K H D rs) (hv : Dp K H v (rowD r)) : ∃ acc, H D = some (.lst acc) ∧ acc.length = rs.length ∧ RowsAt K (upd H D (.lst (acc ++ [v]))) D (rs ++ [r]) := by
  obtain ⟨acc, e1, d1⟩ := h
  refine ⟨acc, e1, rows_len d1, acc ++ [v], upd_same, rows_ke (Ke.set D H _) e1 ?_⟩
  rw [List.map_append]
  exact d1.append (.one hv)
/-! ### _law_log -/
def spLLog (K : PySem.W.Frag) : Sp := fun vs H Q _ => ∃ (b l : Addr) (nm : List (List Nat)) (n fx count k : Nat), vs = [.ref b, .ref l, .int (n : Int), .int (fx : Int), .int (count : Int)] ∧ Box H b k ∧ k < 900000 ∧ NamesAt K H b l nm ∧ 0 < n ∧ n ≤ 8 ∧ fx ≤ n ∧ count ≤ 50 ∧
  ∀ (a : Addr) (rs : List Row) (H' : Hp), Ke b H H' → Box H' b (k + 600) → LogAt K H' a rs → a ≠ b → OkRows rs → rs.length ≤ count → stands (n : Int) (fx : Int) false rs = true → Q (.ref a) H'
theorem sc__law_log : FnScope ["_law_box_here", "_law_names_here", "_law_size", "_law_kept", "_law_count", "_law_rows", "_law_k", "_law_word", "_law_row_here"] ["_law_box_here", "_law_names_here", "_law_size", "_law_kept", "_law_count"] d__law_log.scope := ⟨rfl, rfl, rfl, by decide +kernel, rfl, by decide +kernel, by decide +kernel⟩
theorem ok__law_log (T : Tx K mg) (D : Fd K mg d__law_log) (h__law_take : Ok P w K mg base 1 "_law_take" ["_law_box_here", "_law_size"] spTake) (h__law_row : Ok P w K mg base 3 "_law_row" ["_law_box_here", "_law_names_here", "_law_word", "_law_size"] (spLRow K)) : Ok P w K mg base 4 "_law_log" ["_law_box_here", "_law_names_here", "_law_size", "_law_kept", "_law_count"] (spLLog K) := by
  refine ok_mk D sc__law_log (fun _ _ _ _ _ _ us hl => match us, hl with | [_, _, _, _, _], _ => rfl) (fun vs H Q E h => ?_) (fun f cdv A outer s H vs Q E hr h => ?_)
  · obtain ⟨b, l, nm, n, fx, count, k, rfl, _⟩ := h
    rfl
  · obtain ⟨b, l, nm, n, fx, count, k, rfl, hB, hk, hN, n0, n8, fn, c50, q⟩ := h
    refine ⟨_, 
    (pss_cons
      (ps_setLc (i := 5) rfl sc__law_log.nd rfl rfl (sw_true rfl rfl rfl (by decide +kernel)) (pi_range1 (by rfl) T.range (pa_cons (pe_f h__law_take hr (pa_cons (pv 0) (pa_cons (pe_op op_add (pv 4) pe_int) pa_nil))) pa_nil)) (blkOk_by (N := ["_law_box_here", "_law_names_here", "_law_size", "_law_kept", "_law_count", "_law_rows", "_law_k", "_law_word", "_law_row_here"]) (sc := d__law_log.scope) (own := [("_law_k", 6)]) (by decide +kernel)) (fun _ _ _ _ _ => (pg_name (i := 6) sc__law_log.nd rfl (.inl rfl))) (fun _ _ _ _ _ => pts_nil) (fun _ _ _ _ _ => (pe_f h__law_row hr (pa_cons (pv 0) (pa_cons (pv 1) (pa_cons (pe_ix (r := rIxL K) ix_list (pe_lst (pa_cons pe_str (pa_cons pe_str pa_nil))) (pe_f h__law_take hr (pa_cons (pv 0) (pa_cons pe_int pa_nil))) (fun _ _ => rfl)) (pa_cons (pv 2) pa_nil)))))))
    (pss_cons
      (ps_if (PW.pt (pw_and (pt_cmpR op_lt (pe_callB call_len_seq (by rfl) T.len PySem.boot_len (pa_cons (pv 5) pa_nil)) (pv 4) (nomark _)) (pw_and1 (pt_cmpR op_gt (pe_f h__law_take hr (pa_cons (pv 0) (pa_cons pe_int pa_nil))) pe_int (nomark _)))))
        (pss_cons
          (ps_expr (pe_bm PySem.F.plainAttrs_list PySem.F.slot_list_append PySem.F.type_list_append mt_append (pv 5) (pa_cons (pe_f h__law_row hr (pa_cons (pv 0) (pa_cons (pv 1) (pa_cons pe_str (pa_cons (pv 2) pa_nil))))) pa_nil)))
        (pss_one
          (ps_for PassesOwn.never rfl (pi_range1 (by rfl) T.range (pa_cons (pe_f h__law_take hr (pa_cons (pv 0) (pa_cons (pe_op op_add (pe_op op_sub (pv 4) (pe_callB call_len_seq (by rfl) T.len PySem.boot_len (pa_cons (pv 5) pa_nil))) pe_int) pa_nil))) pa_nil)) (pg_name (i := 6) sc__law_log.nd rfl (.inl rfl))
            (pss_cons
              (ps_set (i := 7) sc__law_log.nd rfl (.inl rfl) (pe_ix (r := rIxL K) ix_list (pe_lst (pa_cons pe_str (pa_cons pe_str pa_nil))) (pe_callTy call_int1 (by rfl) T.int (by decide +kernel) (pa_cons (pe_and (pe_cmpR op_eq (pe_f h__law_take hr (pa_cons (pv 0) (pa_cons pe_int pa_nil))) pe_int (nomark _)) (pe_one (pe_cmpR op_lt (pv 3) (pv 2) (nomark _)))) pa_nil)) (fun _ _ => rfl)))
            (pss_cons
              (ps_set (i := 8) sc__law_log.nd rfl (.inl rfl) (pe_f h__law_row hr (pa_cons (pv 0) (pa_cons (pv 1) (pa_cons (pv 7) (pa_cons (pv 2) pa_nil))))))
            (pss_one
              (ps_expr (pe_bm PySem.F.plainAttrs_list PySem.F.slot_list_append PySem.F.type_list_append mt_append (pv 5) (pa_cons (pe_ifExp (pt_cmpR op_eq (pv 7) pe_str (nomark _)) (pe_op op_catA (pe_tup (pa_cons (pe_op op_add (pv 3) (pe_op op_mod (pe_ix (r := rIxT K) ix_tup (pv 8) pe_int (fun _ _ => rfl)) (pe_op op_sub (pv 2) (pv 3)))) pa_nil)) (pe_slice (r := rSlT K) sl_tup (pv 8) (po_some pe_int) po_none)) (pv 8)) pa_nil)))))))))
        pss_nil)
    (pss_one
      (ps_ret (pv 5)))))
      , ?_⟩
    refine ⟨_, rfl, _, rfl, _, _, rfl, rfl, b, _, k, rfl, by omega, by omega, hB, by omega, fun c H1 c0 c1 k1 b1 => ⟨_, rfl, by omega, by omega, fun D hD => ?_⟩⟩
    have nD := b1.ne hD
    have hN1 := hN.ke k1
    refine lc_it walk_range (fun i H2 => Ke b H1 H2 ∧ Box H2 b (k + 1 + 5 * i) ∧ ∃ rs, RowsAt K H2 D rs ∧ rs.length = i ∧ OkRows rs ∧ ∀ r ∈ rs, r.w ≤ 1 ∧ r.b < n) ⟨.of (Same.new hD), b1.same (Same.new hD), [], ⟨[], upd_same, .nil⟩, rfl, (fun r h => by cases h), (fun r h => by cases h)⟩ (fun _ _ _ _ => trivial) ?_ ?_
    · rintro i x H2x H2 hi ⟨k2, b2, rs, ra, lrs, ors, prs⟩ ⟨rfl, rfl⟩
      have hi50 : i ≤ 50 := by omega
      refine ⟨rfl, _, rfl, _, rfl, Nat.le_of_ble_eq_true rfl, fun p hp => ?_⟩
      have s3 := Same.new (o := .lst [.str "load", .str "set"]) hp
      have b3 := b2.same s3
      have np := b2.ne hp
      obtain ⟨lb3, eb3⟩ := b3.at
      refine ⟨_, rfl, b, 2, _, rfl, by decide, by decide, b3, by omega, fun z H4 z0 z1 k4 b4 => ?_⟩
      have hp4 : SqL K H4 p [.str "load", .str "set"] := k4.seq np (.of upd_same)
      obtain ⟨lb4, eb4⟩ := b4.at
      have kk4 := ((k2.trans (.of s3)).trans k4)
      have hN4 := hN1.ke kk4
      have ra4 := (ra.same s3).ke k4 eb3 nD
      obtain ⟨wd, wd1, ewd⟩ : ∃ wd : Nat, wd ≤ 1 ∧ atI [V.str "load", .str "set"] z = some (.str (wordS wd)) := by
        have : z = 0 ∨ z = 1 := by omega
        rcases this with rfl | rfl
        · exact ⟨0, by decide, at0⟩
        · exact ⟨1, by decide, at1⟩
      refine ⟨p, _, _, _, rfl, rfl, hp4, ewd, _, rfl, b, l, nm, wd, n, _, rfl, b4, by omega, hN4, by omega, n0, n8, fun t r H5 k5 b5 hT okr rw_ rb => ?_⟩
      obtain ⟨acc, e5, l5, ra5⟩ := (ra4.ke k5 eb4 nD).push (row_mk hT)
      refine ⟨acc, e5, small (by omega), (kk4.trans k5).mut hD, (b5.mut nD).up (by omega), rs ++ [r], ra5, ?_, ?_, ?_⟩
      · rw [List.length_append, lrs]
        rfl
      · intro u hu
        rcases List.mem_append.mp hu with hu | hu
        · exact ors u hu
        · rw [List.mem_singleton.mp hu]
          exact okr
      · intro u hu
        rcases List.mem_append.mp hu with hu | hu
        · exact prs u hu
        · rw [List.mem_singleton.mp hu, rw_]
          exact ⟨wd1, rb⟩
    rintro H2 ⟨k2, b2, rs, ra, lrs, ors, prs⟩
    have st : stands (n : Int) (fx : Int) false rs = true ∧ endIn rs = false := stands_loads prs
    have hlen : rs.length ≤ count := by omega
    have kk2 := k1.trans k2
    obtain ⟨acc2, eD2, dp2⟩ := id ra
    have la2 := rows_len dp2
    have out : ∀ (H3 : Hp), Ke b H2 H3 → Box H3 b (k + 252) → RowsAt K H3 D rs → Q (.ref D) H3 := fun H3 k3 b3 ra3 => q D rs H3 (kk2.trans k3) (b3.up (by omega)) ra3.log nD ors hlen st.1
    refine ⟨_, rfl, D, _, rfl, .inl (.of eD2), _, rfl, _, _, rfl, rfl, _, rfl, ite2 (fun c => ?_) (fun c => iteF ⟨_, rfl, out H2 (.refl _ _) (b2.up (by omega)) ra⟩)⟩
    have hlt : rs.length < count := by
      have := of_decide_eq_true c
      omega
    obtain ⟨lb2, eb2⟩ := b2.at
    refine ⟨_, rfl, b, 4, _, rfl, by decide, by decide, b2, by omega, fun z H3 z0 z1 k3 b3 => ⟨_, _, rfl, rfl, _, rfl, ite2 (fun c3 => ?_) (fun c3 => ⟨_, rfl, out H3 k3 (b3.up (by omega)) (ra.ke k3 eb2 nD)⟩)⟩⟩
    have ra3 := ra.ke k3 eb2 nD
    have hN3 := (hN1.ke k2).ke k3
    obtain ⟨lb3, eb3⟩ := b3.at
    obtain ⟨acc3, eD3, _⟩ := id ra3
    refine ⟨_, rfl, .inl ⟨rfl, _, .of eD3⟩, _, rfl, _, rfl, _, rfl, b, l, nm, 2, n, _, rfl, b3, by omega, hN3, by decide, n0, n8, fun t r H4 k4 b4 hT okr rw_ rb => ?_⟩
    obtain ⟨acc4, e4, l4, ra4⟩ := (ra3.ke k4 eb3 nD).push (row_mk hT)
    refine ⟨D, acc4, _, rfl, rfl, e4, small (by omega), ?_⟩
    have b5 := b4.mut (o := .lst (acc4 ++ [.ref t])) nD
    have kk5 : Ke b H1 (upd H4 D (.lst (acc4 ++ [.ref t]))) := ((k2.trans k3).trans k4).mut hD
    generalize upd H4 D (.lst (acc4 ++ [.ref t])) = H5 at *
    obtain ⟨stE, enE⟩ := stands_end (fx := fx) prs rw_ rb
    have okE : OkRows (rs ++ [r]) := fun u hu => by
      rcases List.mem_append.mp hu with hu | hu
      · exact ors u hu
      · rw [List.mem_singleton.mp hu]
        exact okr
    have lenE : (rs ++ [r]).length = rs.length + 1 := by
      rw [List.length_append]
      rfl
    generalize rs ++ [r] = rs1 at *
    obtain ⟨acc5, eD5, dp5⟩ := id ra4
    have la5 := rows_len dp5
    refine ⟨_, rfl, _, rfl, _, rfl, D, _, rfl, .inl (.of eD5), _, _, rfl, rfl, _, _, rfl, rfl, b, _, _, rfl, by omega, by omega, b5, by omega, fun d H6 d0 d1 k6 b6 => ⟨_, rfl, by omega, by omega, ?_⟩⟩
    obtain ⟨lb5, eb5⟩ := b5.at
    have ra6 := ra4.ke k6 eb5 nD
    refine for_it walk_range (fun i σ H7 => Ke b H1 H7 ∧ Box H7 b (k + 2 + 5 * rs.length + 6 + 5 * i) ∧ (∃ rs2, RowsAt K H7 D rs2 ∧ rs2.length = rs1.length + i ∧ OkRows rs2 ∧ stands (n : Int) (fx : Int) false rs2 = true ∧ endIn rs2 = true) ∧
      ∃ z6 z7 z8, σ = [some (.ref b), some (.ref l), some (.int (n : Int)), some (.int (fx : Int)), some (.int (count : Int)), some (.ref D), z6, z7, z8]) ⟨kk5.trans k6, b6.up (by omega), ⟨rs1, ra6, rfl, okE, stE, enE⟩, _, _, _, rfl⟩ (fun _ _ _ _ _ => trivial) ?_ ?_
    · rintro i x σ H7x H7 hi ⟨k7, b7, ⟨rs2, ra7, l7, o7, st7, en7⟩, z6, z7, z8, rfl⟩ ⟨rfl, rfl⟩
      have hi50 : i ≤ 50 := by omega
      refine ⟨Nat.le_of_ble_eq_true rfl, fun p hp => ?_⟩
      have s8 := Same.new (o := .lst [.str "late", .str "reset"]) hp
      have b8 := b7.same s8
      have np := b7.ne hp
      obtain ⟨lb8, eb8⟩ := b8.at
      refine ⟨_, rfl, b, 3, _, rfl, by decide, by decide, b8, by omega, fun y H9 y0 y1 k9 b9 => ⟨rfl, _, rfl, ?_⟩⟩
      have hp9 : SqL K H9 p [.str "late", .str "reset"] := k9.seq np (.of upd_same)
      have kk9 := (k7.trans (.of s8)).trans k9
      have hN9 := hN1.ke kk9
      obtain ⟨lb9, eb9⟩ := b9.at
      have ra9 := (ra7.same s8).ke k9 eb8 nD
      obtain ⟨acc9, eD9, _⟩ := id ra9
      have three : (y = 0 ∧ fx < n) ∨ ¬ (y = 0 ∧ fx < n) := Classical.em _
      rcases three with ⟨cz, cf⟩ | ncz
      · -- reset
        subst cz
        refine iteT ⟨_, rfl, _, rfl, _, _, rfl, rfl, .inr ⟨decide ((fx : Int) < (n : Int)), rfl, ?_⟩⟩
        show rIxL K (.ref p) (.int (if decide ((fx : Int) < (n : Int)) = true then 1 else 0)) _ _
        rw [decide_eq_true (show (fx : Int) < (n : Int) by omega)]
        refine ⟨p, _, _, _, rfl, rfl, hp9, at1, _, rfl, _, rfl, _, rfl, _, rfl, b, l, nm, 4, n, _, rfl, b9, by omega, hN9, by decide, n0, n8, fun t r2 H10 k10 b10 hT2 okr2 rw2 rb2 => ?_⟩
        have ra10 := ra9.ke k10 eb9 nD
        obtain ⟨acc10, e10, _⟩ := id ra10
        have m0 : 0 ≤ (r2.b : Int) % ((n : Int) - (fx : Int)) := Int.emod_nonneg _ (by omega)
        have m1 : (r2.b : Int) % ((n : Int) - (fx : Int)) < (n : Int) - (fx : Int) := Int.emod_lt_of_pos _ (by omega)
        obtain ⟨j, ej⟩ := Int.eq_ofNat_of_zero_le (show 0 ≤ (fx : Int) + (r2.b : Int) % ((n : Int) - (fx : Int)) by omega)
        refine ⟨_, rfl, .inl ⟨rfl, _, .of e10⟩, _, rfl, rfl, _, rfl, iteT ⟨_, rfl, _, rfl, t, _, _, _, rfl, rfl, hT2, at0, _, rfl, _, rfl, _, _, rfl, rfl, _, _, rfl, rfl, (show (0 : Int) < (n : Int) - (fx : Int) by omega), _, _, rfl, rfl, Nat.le_of_ble_eq_true rfl, fun p2 hp2 => ?_⟩⟩
        have s11 := Same.new (o := .tup [.int ((fx : Int) + (r2.b : Int) % ((n : Int) - (fx : Int)))]) hp2
        refine ⟨_, rfl, _, rfl, t, _, rfl, s11.seqT hT2, (fun z => Nat.one_ne_zero z.1), fun p3 hp3 => ?_⟩
        have s12 := Same.new (o := .tup (cutV (rowV r2) (some 1) none)) hp3
        refine ⟨p2, p3, _, _, rfl, rfl, s12.seqT (.of upd_same), .of upd_same, Nat.le_of_ble_eq_true rfl, (fun z => by cases z), (fun _ z => by cases z), fun _ _ p4 hp4 => ?_⟩
        have e13 : ([.int ((fx : Int) + (r2.b : Int) % ((n : Int) - (fx : Int)))] ++ cutV (rowV r2) (some 1) none : List V) = rowV ⟨j, r2.w, r2.n, r2.k⟩ := by
          rw [ej]
          rfl
        rw [e13]
        have s13 := Same.new (o := .tup (rowV ⟨j, r2.w, r2.n, r2.k⟩)) hp4
        have s14 := (s11.trans s12).trans s13
        have rb3 : j < n := by omega
        have okr3 : (⟨j, r2.w, r2.n, r2.k⟩ : Row).Ok := ⟨by show j < 8; omega, okr2.w, okr2.n, okr2.k0, okr2.k1⟩
        obtain ⟨acc15, e15, l15, ra15⟩ := (ra10.same s14).push (row_mk (r := ⟨j, r2.w, r2.n, r2.k⟩) (.of upd_same))
        obtain ⟨st15, en15⟩ := stands_more (r := ⟨j, r2.w, r2.n, r2.k⟩) st7 en7 (.inr ⟨rw2, by show fx ≤ j; omega⟩) rb3
        refine ⟨D, acc15, _, rfl, rfl, e15, small (by omega), ((kk9.trans k10).trans (.of s14)).mut hD, ((b10.same s14).mut nD).up (by omega), ⟨_, ra15, ?_, ?_, st15, en15⟩, _, _, _, rfl⟩
        · rw [List.length_append, l7]
          rfl
        · intro u hu
          rcases List.mem_append.mp hu with hu | hu
          · exact o7 u hu
          · rw [List.mem_singleton.mp hu]
            exact okr3
      · -- late
        refine ite2 (fun c => ⟨_, rfl, _, rfl, _, _, rfl, rfl, .inr ⟨decide ((fx : Int) < (n : Int)), rfl, ?ga⟩⟩) (fun c => .inr ⟨false, rfl, ?gb⟩)
        case' ga =>
          have c0 : y = 0 := V.int.inj (of_decide_eq_true c)
          show rIxL K (.ref p) (.int (if decide ((fx : Int) < (n : Int)) = true then 1 else 0)) _ _
          rw [decide_eq_false (show ¬ (fx : Int) < (n : Int) by omega)]
        all_goals
          refine ⟨p, _, _, _, rfl, rfl, hp9, at0, _, rfl, _, rfl, _, rfl, _, rfl, b, l, nm, 3, n, _, rfl, b9, by omega, hN9, by decide, n0, n8, fun t r2 H10 k10 b10 hT2 okr2 rw2 rb2 => ?_⟩
          obtain ⟨acc15, e15, l15, ra15⟩ := (ra9.ke k10 eb9 nD).push (row_mk hT2)
          obtain ⟨st15, en15⟩ := stands_more (r := r2) st7 en7 (.inl rw2) rb2
          refine ⟨_, rfl, .inl ⟨rfl, _, .of e15⟩, _, rfl, rfl, _, rfl, iteF ⟨_, rfl, D, acc15, _, rfl, rfl, e15, small (by omega), (kk9.trans k10).mut hD, (b10.mut nD).up (by omega), ⟨_, ra15, ?_, ?_, st15, en15⟩, _, _, _, rfl⟩⟩
          · rw [List.length_append, l7]
            rfl
          · intro u hu
            rcases List.mem_append.mp hu with hu | hu
            · exact o7 u hu
            · rw [List.mem_singleton.mp hu]
              exact okr2
    · rintro σ H7 ⟨k7, b7, ⟨rs2, ra7, l7, o7, st7, en7⟩, z6, z7, z8, rfl⟩
      exact ⟨_, rfl, q D rs2 H7 (k1.trans k7) (b7.up (by omega)) ra7.log nD o7 (by omega) st7⟩
end
end K21
namespace K21
open PySem PySem.Spec PyProof.Rows L2 TL
/-- Euclid's turns halve the two numbers' product -/
theorem turn_half {u v : Int} (hv : 0 < v) (h : v ≤ u) : v * (u % v) * 2 ≤ u * v := by
  have m1 := Int.emod_lt_of_pos u hv
  have m0 := Int.emod_nonneg u (show v ≠ 0 by omega)
  have e := Int.emod_add_mul_ediv u v
  have q1 : 1 ≤ u / v := Int.le_ediv_of_mul_le hv (by omega)
  have q2 : v * 1 ≤ v * (u / v) := Int.mul_le_mul_of_nonneg_left q1 (by omega)
  have h2 : u % v * 2 ≤ u := by omega
  have := Int.mul_le_mul_of_nonneg_left h2 (show 0 ≤ v by omega)
  rw [Int.mul_assoc, Int.mul_comm u v]
  exact this
theorem pow_step {i : Nat} (h : i + 1 ≤ 40) : (2 : Int) ^ (40 - i) = 2 ^ (40 - (i + 1)) * 2 := by
  rw [show 40 - i = (40 - (i + 1)) + 1 by omega, Int.pow_succ]
/-- the turns' invariant -/
structure Eu (x f : Int) (i : Nat) (u v h t : Int) : Prop where
  u0 : 0 ≤ u
  u1 : u ≤ 9973
  v0 : 0 ≤ v
  v1 : v ≤ 9973
  g : gcdI u v = 1
  hu : ∃ k, f * h = u + x * k
  ht : ∃ k, f * t = v + x * k
  o : i = 0 ∨ v ≤ u
  p : v = 0 ∨ u * v < 2 ^ (40 - i)
  p0 : i = 0 → u * v < 2 ^ 39
  s : i = 0 → v ≠ 0
theorem Eu.start {x f : Int} (hx : 3 ≤ x) (hx1 : x ≤ 9973) (hf : 1 ≤ f) (hg : gcdI x f = 1) : Eu x f 0 (f % x) x 1 0 := by
  have m0 := Int.emod_nonneg f (show x ≠ 0 by omega)
  have m1 := Int.emod_lt_of_pos f (show 0 < x by omega)
  have b1 : f % x * x ≤ 9973 * 9973 := Int.le_trans (Int.mul_le_mul_of_nonneg_right (show f % x ≤ 9973 by omega) (by omega)) (Int.mul_le_mul_of_nonneg_left hx1 (by omega))
  have b2 : f % x * x < 2 ^ 39 := by omega
  refine ⟨m0, by omega, by omega, hx1, ?_, ⟨f / x, ?_⟩, ⟨-1, by omega⟩, .inl rfl, .inr (by show f % x * x < 2 ^ 40; omega), fun _ => b2, fun _ => by omega⟩
  · have h1 := gcdI_step (show 0 ≤ f by omega) (show 0 ≤ x by omega)
    unfold gcdI at h1 hg ⊢
    rw [Int.gcd_comm (f % x) x, h1, Int.gcd_comm f x, hg]
  · have := Int.emod_add_mul_ediv f x
    omega
theorem Eu.step {x f u v h t : Int} {i : Nat} (e : Eu x f i u v h t) (hv : v ≠ 0) : Eu x f (i + 1) v (u - u / v * v) t (h - u / v * t) := by
  have v0 : 0 < v := by
    have := e.v0
    omega
  have em : u - u / v * v = u % v := by
    have := Int.emod_add_mul_ediv u v
    rw [Int.mul_comm (u / v) v]
    omega
  have m0 := Int.emod_nonneg u hv
  have m1 := Int.emod_lt_of_pos u v0
  obtain ⟨k1, e1⟩ := e.hu
  obtain ⟨k2, e2⟩ := e.ht
  rw [em]
  refine ⟨e.v0, e.v1, m0, ?_, ?_, ⟨k2, e2⟩, ⟨k1 - u / v * k2, ?_⟩, .inr (by omega), ?_, (fun z => by cases z), fun z => by cases z⟩
  · have := e.v1
    omega
  · rw [gcdI_step e.u0 e.v0]
    exact e.g
  · rw [Int.mul_sub, e1, Int.mul_left_comm, e2, Int.mul_add, Int.mul_sub, ← em, Int.mul_left_comm (u / v) x k2]
    omega
  · rcases e.o with rfl | o
    · right
      have p := e.p0 rfl
      by_cases c : v ≤ u
      · have := turn_half v0 c
        have q : 0 ≤ v * (u % v) := Int.mul_nonneg e.v0 m0
        show v * (u % v) < 2 ^ 39
        omega
      · rw [Int.emod_eq_of_lt e.u0 (by omega), Int.mul_comm]
        exact p
    · have p : u * v < 2 ^ (40 - i) := by
        rcases e.p with z | z
        · exact absurd z hv
        · exact z
      have := turn_half v0 o
      by_cases c : i + 1 ≤ 40
      · right
        rw [pow_step c] at p
        omega
      · left
        rw [show 40 - i = 0 by omega] at p
        have q : 0 ≤ v * (u % v) := Int.mul_nonneg e.v0 m0
        have p1 : u * v < 1 := p
        have q2 : 1 * 1 ≤ u * v := Int.mul_le_mul (by omega) (by omega) (by decide) e.u0
        omega
theorem Eu.done {x f u v h t : Int} {i : Nat} (hi : 40 ≤ i) (e : Eu x f i u v h t) : v = 0 := by
  rcases e.p with z | z
  · exact z
  · rw [show 40 - i = 0 by omega] at z
    have z1 : u * v < 1 := z
    rcases e.o with o | o
    · omega
    · by_cases c : v = 0
      · exact c
      · have v0 := e.v0
        have q2 : 1 * 1 ≤ u * v := Int.mul_le_mul (by omega) (by omega) (by decide) e.u0
        omega
theorem Eu.still {x f u h t : Int} {i : Nat} (e : Eu x f i u 0 h t) (hi : i ≠ 0) : Eu x f (i + 1) u 0 h t := ⟨e.u0, e.u1, e.v0, e.v1, e.g, e.hu, e.ht, .inr e.u0, .inl rfl, (fun z => by cases z), fun z => by cases z⟩
section
variable {P : Program} {w : World} {K : PySem.W.Frag} {mg : Str → Option Value} {base : Heap}
/-! ### _law_turned -/
def spLTurned : Sp := fun vs H Q _ => ∃ f x : Int, vs = [.int f, .int x] ∧ 1 ≤ f ∧ 3 ≤ x ∧ x ≤ 9973 ∧ gcdI x f = 1 ∧ ∀ (t : Int) (H' : Hp), 0 ≤ t → t < x → (f * t) % x = 1 → Same H H' → Q (.int t) H'
theorem sc__law_turned : FnScope ["_law_one", "_law_width", "_law_front", "_law_back", "_law_here", "_law_there", "_law_turn", "_law_times"] ["_law_one", "_law_width"] d__law_turned.scope := ⟨rfl, rfl, rfl, by decide +kernel, rfl, by decide +kernel, by decide +kernel⟩
theorem ok__law_turned (T : Tx K mg) (D : Fd K mg d__law_turned) : Ok P w K mg base 1 "_law_turned" ["_law_one", "_law_width"] spLTurned := by
  refine ok_mk D sc__law_turned (fun _ _ _ _ _ _ us hl => match us, hl with | [_, _], _ => rfl) (fun vs H Q E h => ?_) (fun f cdv A outer s H vs Q E hr h => ?_)
  · obtain ⟨a, x, rfl, _⟩ := h
    rfl
  · obtain ⟨a, x, rfl, f0, x0, x1, hg, q⟩ := h
    refine ⟨_, 
    (pss_cons
      (ps_asg (pe_tup (pa_cons (pe_op op_mod (pv 0) (pv 1)) (pa_cons (pv 1) (pa_cons pe_int (pa_cons pe_int pa_nil))))) (pg_tup rfl (pgs_cons (pg_name (i := 2) sc__law_turned.nd rfl (.inl rfl)) (pgs_cons (pg_name (i := 3) sc__law_turned.nd rfl (.inl rfl)) (pgs_cons (pg_name (i := 4) sc__law_turned.nd rfl (.inl rfl)) (pgs_cons (pg_name (i := 5) sc__law_turned.nd rfl (.inl rfl)) pgs_nil))))))
    (pss_cons
      (ps_for PassesOwn.never rfl (pi_range1 (by rfl) T.range (pa_cons pe_int pa_nil)) (pg_name (i := 6) sc__law_turned.nd rfl (.inl rfl))
        (pss_one
          (ps_if (pt_cmpR op_ne (pv 3) pe_int (nomark _))
            (pss_cons
              (ps_set (i := 7) sc__law_turned.nd rfl (.inl rfl) (pe_op op_fdiv (pv 2) (pv 3)))
            (pss_cons
              (ps_par (i := 2) (j := 3) (by rfl) sc__law_turned.nd rfl rfl (by decide) rfl rfl (pa_cons (pv 3) (pa_cons (pe_op op_sub (pv 2) (pe_op op_mul (pv 7) (pv 3))) pa_nil)) (by rfl))
            (pss_one
              (ps_par (i := 4) (j := 5) (by rfl) sc__law_turned.nd rfl rfl (by decide) rfl rfl (pa_cons (pv 5) (pa_cons (pe_op op_sub (pv 4) (pe_op op_mul (pv 7) (pv 5))) pa_nil)) (by rfl)))))
            pss_nil)))
    (pss_one
      (ps_ret (pe_op op_mod (pv 4) (pv 1))))))
      , ?_⟩
    refine ⟨_, rfl, _, rfl, _, _, rfl, rfl, (show (0 : Int) < x by omega), _, rfl, Nat.le_of_ble_eq_true rfl, fun p hp => ⟨p, _, rfl, .of upd_same, rfl, _, _, rfl, _, _, rfl, _, _, rfl, _, _, rfl, rfl, ?_⟩⟩
    have s1 := Same.new (o := .tup [.int (a % x), .int x, .int 1, .int 0]) hp
    refine ⟨_, rfl, by decide, by decide, for_it walk_range (fun i σ H1 => Same H H1 ∧ ∃ (u v h t : Int) (z6 z7 : Option V), σ = [some (.int a), some (.int x), some (.int u), some (.int v), some (.int h), some (.int t), z6, z7] ∧ Eu x a i u v h t) ⟨s1, _, _, _, _, none, none, rfl, Eu.start x0 x1 f0 hg⟩ (fun _ _ _ _ _ => trivial) ?_ ?_⟩
    · rintro i y σ H1x H1 hi ⟨s2, u, v, h, t, z6, z7, rfl, e⟩ ⟨rfl, rfl⟩
      refine ⟨_, rfl, rfl, _, rfl, ?_⟩
      by_cases c : v = 0
      · refine iteNS (by rw [c]) ⟨s2, u, v, h, t, _, _, rfl, ?_⟩
        subst c
        refine e.still fun z => ?_
        exact e.s z rfl
      · rw [decide_eq_false (fun z => c (V.int.inj z))]
        have v0 := e.v0
        have v1 := e.v1
        have u0 := e.u0
        have u1 := e.u1
        have q0 : 0 ≤ u / v := Int.ediv_nonneg u0 v0
        have q1 : u / v ≤ u := Int.ediv_le_self v u0
        refine iteT ⟨_, rfl, _, rfl, _, _, rfl, rfl, ⟨by omega, by omega⟩, _, rfl, _, rfl, _, rfl, _, rfl, _, _, rfl, rfl, .inl ⟨by omega, by omega⟩, _, _, rfl, rfl, _, _, rfl, _, rfl, _, rfl, _, rfl, _, rfl, _, _, rfl, rfl, .inl ⟨by omega, by omega⟩, _, _, rfl, rfl, _, _, rfl, s2, _, _, _, _, _, _, rfl, e.step c⟩
    · rintro σ H1 ⟨s2, u, v, h, t, z6, z7, rfl, e⟩
      have v0 := e.done (by decide)
      subst v0
      have eg := e.g
      rw [gcdI_zero e.u0] at eg
      subst eg
      obtain ⟨k, ek⟩ := e.hu
      refine ⟨_, rfl, _, rfl, _, _, rfl, rfl, (show (0 : Int) < x by omega), ?_⟩
      refine q (h % x) H1 (Int.emod_nonneg _ (by omega)) (Int.emod_lt_of_pos _ (by omega)) ?_ s2
      rw [Int.mul_emod, Int.emod_emod_of_dvd _ (Int.dvd_refl x), ← Int.mul_emod, ek, Int.add_mul_emod_self_left]
      exact Int.emod_eq_of_lt (by decide) (by omega)
end
end K21
namespace K21
open PySem PySem.Spec PyProof.Rows L2 TL
theorem backGoal_pre {w f t : Int} {b : Nat} {ys : List Row} {g : Int} (h : backGoal w f t b ys g = none) : ∀ xs : List Row, backGoal w f t b (xs ++ ys) g = none
  | [] => h
  | r :: xs => by
    show (match backGoal w f t b (xs ++ ys) g with
      | none => none
      | some h => if r.b = b then (if r.w = 4 then none else some ((h - (rowNum r + 1)) * t % w)) else some h) = none
    rw [backGoal_pre h xs]
theorem backGoal_cons {w f t : Int} {b : Nat} {ys : List Row} {r : Row} {g h : Int} (e : backGoal w f t b ys g = some h) : backGoal w f t b (r :: ys) g = if r.b = b then (if r.w = 4 then none else some ((h - (rowNum r + 1)) * t % w)) else some h := by
  rw [backGoal, e]
theorem cutV_to (vs : List V) (f : Nat) (h : f ≤ vs.length) : cutV vs none (some (f : Int)) = vs.take f := by
  have e1 : HT.sIx vs.length vs.length (some (f : Int)) = f := by
    rw [HT.sIx_nat]
    omega
  show (vs.drop 0).take (HT.sIx vs.length vs.length (some (f : Int)) - 0) = _
  rw [e1]
  rfl
def optV : Option Int → V
  | none => .non
  | some z => .int z
section
variable {P : Program} {w : World} {K : PySem.W.Frag} {mg : Str → Option Value} {base : Heap}
theorem HowAt.eq {H : Hp} {h : Addr} {m : Mix} {x : Int} (a : HowAt K H h m x) : m = narrow x m.f := by
  have e := a.wd
  cases m with
  | mk wd f =>
    cases e
    rfl
/-! ### _law_note_due -/
def spDue (K : PySem.W.Frag) : Sp := fun vs H Q _ => ∃ (h a ra : Addr) (m : Mix) (x g : Int) (rs : List Row) (at_ : Nat) (r : Row), vs = [.ref h, .ref a, .int (at_ : Int), .ref ra, .int g] ∧ HowAt K H h m x ∧ OkRows rs ∧ LogAt K H a rs ∧ at_ ≤ rs.length ∧ SqT K H ra (rowV r) ∧ r.Ok ∧ r.k = 0 ∧ 0 ≤ g ∧ g < x ∧
  ∀ (t : Int) (H' : Hp), (m.f * t) % x = 1 → Same H H' → Q (optV (noteDue x m.f t (rs.take at_) (rs.drop at_) r g)) H'
theorem sc__law_note_due : FnScope ["_law_how_here", "_law_rows", "_law_at", "_law_row_here", "_law_goal", "_law_ahead", "_law_by", "_law_other"] ["_law_how_here", "_law_rows", "_law_at", "_law_row_here", "_law_goal"] d__law_note_due.scope := ⟨rfl, rfl, rfl, by decide +kernel, rfl, by decide +kernel, by decide +kernel⟩
theorem ok__law_note_due (T : Tx K mg) (D : Fd K mg d__law_note_due) (h__law_replay : Ok P w K mg base 4 "_law_replay" ["_law_how_here", "_law_rows", "_law_size"] (spLReplay K)) (h__law_turned : Ok P w K mg base 1 "_law_turned" ["_law_one", "_law_width"] spLTurned)
    (h__law_row_number : Ok P w K mg base 2 "_law_row_number" ["_law_row_here"] (spLRowNum K)) (h__law_mixed : Ok P w K mg base 3 "_law_mixed" ["_law_how_here", "_law_value", "_law_row_here"] (spLMixed K)) :
    Ok P w K mg base 5 "_law_note_due" ["_law_how_here", "_law_rows", "_law_at", "_law_row_here", "_law_goal"] (spDue K) := by
  refine ok_mk D sc__law_note_due (fun _ _ _ _ _ _ us hl => match us, hl with | [_, _, _, _, _], _ => rfl) (fun vs H Q E h => ?_) (fun f cdv A outer s H vs Q E hr h => ?_)
  · obtain ⟨h, a, ra, m, x, g, rs, at_, r, rfl, _⟩ := h
    rfl
  · obtain ⟨h, a, ra, m, x, g, rs, at_, r, rfl, hH, ok, hL, hat, hT, okr, k0, g0, g1, q⟩ := h
    refine ⟨_, 
    (pss_cons
      (ps_par (i := 5) (j := 6) (by rfl) sc__law_note_due.nd rfl rfl (by decide) rfl rfl (pa_cons (pe_ix (r := rIxL K) ix_list (pe_f h__law_replay hr (pa_cons (pv 0) (pa_cons (pe_slice (r := rSlL K) sl_list (pv 1) po_none (po_some (pv 2))) (pa_cons pe_int pa_nil)))) (pe_ix (r := rIxT K) ix_tup (pv 3) pe_int (fun _ _ => rfl)) (fun _ _ => rfl)) (pa_cons (pe_f h__law_turned hr (pa_cons (pe_ix (r := rIxT K) ix_tup (pv 0) pe_int (fun _ _ => rfl)) (pa_cons (pe_ix (r := rIxT K) ix_tup (pv 0) pe_int (fun _ _ => rfl)) pa_nil))) pa_nil)) (by rfl))
    (pss_cons
      (ps_for PassesOwn.never rfl (pi_list (pe_revL (pe_slice (r := rSlL K) sl_list (pv 1) (po_some (pv 2)) po_none))) (pg_name (i := 7) sc__law_note_due.nd rfl (.inl rfl))
        (pss_cons
          (ps_if (PW.pt (pw_and (pt_cmpR op_eq (pe_ix (r := rIxT K) ix_tup (pv 7) pe_int (fun _ _ => rfl)) (pe_ix (r := rIxT K) ix_tup (pv 3) pe_int (fun _ _ => rfl)) (nomark _)) (pw_and1 (pt_cmpR op_eq (pe_ix (r := rIxT K) ix_tup (pv 7) pe_int (fun _ _ => rfl)) pe_str (nomark _)))))
            (pss_one
              (ps_ret pe_non))
            pss_nil)
        (pss_one
          (ps_if (pt_cmpR op_eq (pe_ix (r := rIxT K) ix_tup (pv 7) pe_int (fun _ _ => rfl)) (pe_ix (r := rIxT K) ix_tup (pv 3) pe_int (fun _ _ => rfl)) (nomark _))
            (pss_one
              (ps_set (i := 4) sc__law_note_due.nd rfl (.inl rfl) (pe_op op_mod (pe_op op_mul (pe_op op_sub (pe_op op_sub (pv 4) (pe_f h__law_row_number hr (pa_cons (pv 7) pa_nil))) pe_int) (pv 6)) (pe_ix (r := rIxT K) ix_tup (pv 0) pe_int (fun _ _ => rfl)))))
            pss_nil))))
    (pss_one
      (ps_ret (pe_op op_mod (pe_op op_sub (pv 4) (pe_f h__law_mixed hr (pa_cons (pv 0) (pa_cons (pv 5) (pa_cons (pv 3) pa_nil))))) (pe_ix (r := rIxT K) ix_tup (pv 0) pe_int (fun _ _ => rfl)))))))
      , ?_⟩
    obtain ⟨vs, hS, hR⟩ := hL.inv
    have hle := rows_len hR
    have x0 := hH.x0
    have x1 := hH.x1
    have em := hH.eq
    have w2 : 2 < x := by omega
    refine ⟨_, rfl, _, rfl, _, rfl, _, rfl, a, vs, rfl, hS, fun p hp => ?_⟩
    rw [cutV_to vs at_ (by omega)]
    have s1 := Same.new (o := .lst (vs.take at_)) hp
    have hR1 : DpAll K (upd H p (.lst (vs.take at_))) (vs.take at_) ((rs.take at_).map rowD) := by
      rw [List.map_take]
      exact (hR.same s1).take at_
    refine ⟨h, p, m, x, rs.take at_, 8, rfl, hH.same s1, fun u hu => ok u (List.mem_of_mem_take hu), .mk (.of upd_same) hR1, by decide, fun u hu => (ok u (List.mem_of_mem_take hu)).b, fun q1 H2 s2 hq1 e2 => ?_⟩
    have s12 := s1.trans s2
    have T2 := s12.seqT hT
    have ea : ((replayF m 8 (rs.take at_)).map V.int)[r.b]? = some (.int (valOf (narrow x m.f) r.b 1 (rs.take at_))) := by
      rw [List.getElem?_map, replayF_get m 8 _ r.b okr.b, ← em]
      rfl
    have la := valOf_low (f := m.f) w2 (b := r.b) (rs.take at_) 1 ⟨by omega, by omega⟩
    refine ⟨_, rfl, ra, _, _, _, rfl, rfl, T2, at0, q1, _, _, _, rfl, rfl, .of e2, atI_nat ea, ?_⟩
    have hH2 := hH.same s12
    refine ⟨_, rfl, h, _, _, _, rfl, rfl, hH2.t, at1, _, rfl, h, _, _, _, rfl, rfl, hH2.t, at0, m.f, x, rfl, hH.ok.f1, x0, x1, (hH.ok.w x hH.wd).2.2, fun t H3 t0 t1 ht s3 => ⟨_, _, rfl, ?_⟩⟩
    have s13 := s12.trans s3
    have hH3 := hH.same s13
    have T3 := s13.seqT hT
    refine ⟨_, rfl, _, rfl, _, rfl, a, vs, rfl, s13.seq hS, fun p4 hp4 => ?_⟩
    rw [cutV_from vs at_ (by omega)]
    have s4 := Same.new (o := .lst (vs.drop at_)) hp4
    refine ⟨p4, _, rfl, .of upd_same, fun p5 hp5 => ?_⟩
    have s5 := Same.new (o := .lst (vs.drop at_).reverse) hp5
    have s15 := (s13.trans s4).trans s5
    have hR5 : DpAll K (upd (upd H3 p4 (.lst (vs.drop at_))) p5 (.lst (vs.drop at_).reverse)) (vs.drop at_).reverse ((rs.drop at_).reverse.map rowD) := by
      rw [List.map_reverse, List.map_drop]
      exact ((hR.same s15).drop at_).rev
    have okz : OkRows (rs.drop at_).reverse := fun u hu => ok u (List.mem_of_mem_drop (List.mem_reverse.mp hu))
    have ezz : (rs.drop at_).reverse.reverse = rs.drop at_ := List.reverse_reverse _
    have hl5 : SqL K (upd (upd H3 p4 (.lst (vs.drop at_))) p5 (.lst (vs.drop at_).reverse)) p5 (vs.drop at_).reverse := .of upd_same
    have lz := rows_len hR5
    generalize upd (upd H3 p4 (.lst (vs.drop at_))) p5 (.lst (vs.drop at_).reverse) = H5 at *
    generalize (vs.drop at_).reverse = us at *
    generalize (rs.drop at_).reverse = zs at *
    rw [← ezz] at q
    refine ⟨p5, rfl, ⟨_, hl5⟩, for_it (walk_list (xs := us)) (fun i σ H6 => Same H5 H6 ∧ ∃ (gi : Int) (z : Option V), σ = [some (.ref h), some (.ref a), some (.int (at_ : Int)), some (.ref ra), some (.int gi), some (.int (valOf (narrow x m.f) r.b 1 (rs.take at_))), some (.int t), z] ∧
      backGoal x m.f t r.b (zs.take i).reverse g = some gi ∧ 0 ≤ gi ∧ gi < x) ⟨fun _ _ e => e, g, none, rfl, rfl, g0, g1⟩ (fun i σ H6 _ e => e.1.seq hl5) ?_ ?_⟩
    · rintro i y σ H6x H6 hi ⟨s6, gi, z, rfl, eb, b0, b1⟩ ⟨rfl, hy⟩
      obtain ⟨r2, er, hr2⟩ := rows_get (hR5.same s6) hy
      have okr2 := okz r2 (List.mem_of_getElem? er)
      obtain ⟨ra2, rfl, hT2⟩ := row_inv hr2
      have s16 := s15.trans s6
      have T6 := s16.seqT hT
      have hH6 := hH.same s16
      have tk : (zs.take (i + 1)).reverse = r2 :: (zs.take i).reverse := by
        rw [List.take_add_one, er, List.reverse_append]
        rfl
      rw [tk]
      have ec := backGoal_cons (r := r2) eb
      refine ⟨_, rfl, ra2, _, _, _, rfl, rfl, hT2, at0, _, rfl, ra, _, _, _, rfl, rfl, T6, at0, rfl, _, rfl, ?_⟩
      by_cases eqb : r2.b = r.b
      · rw [if_pos eqb] at ec
        rw [decide_eq_true (show V.int (r2.b : Int) = V.int (r.b : Int) by rw [eqb])]
        refine iteT ⟨_, rfl, ra2, _, _, _, rfl, rfl, hT2, at1, rfl, _, rfl, ?_⟩
        rw [word_reset okr2.w]
        by_cases c4 : r2.w = 4
        · rw [if_pos c4] at ec
          rw [decide_eq_true c4]
          have en : backGoal x m.f t r.b zs.reverse g = none := by
            have e1 : zs.reverse = (zs.drop (i + 1)).reverse ++ (r2 :: (zs.take i).reverse) := by
              rw [← tk, ← List.reverse_append, List.take_append_drop]
            rw [e1]
            exact backGoal_pre ec _
          have qq := q t H6 ht s16
          unfold noteDue at qq
          rw [en] at qq
          exact iteT qq
        · rw [if_neg c4] at ec
          rw [decide_eq_false c4]
          refine iteF ⟨_, rfl, ra2, _, _, _, rfl, rfl, hT2, at0, _, rfl, ra, _, _, _, rfl, rfl, T6, at0, rfl, _, rfl, ?_⟩
          rw [decide_eq_true (show V.int (r2.b : Int) = V.int (r.b : Int) by rw [eqb])]
          refine iteT ⟨_, rfl, _, rfl, _, r2, rfl, okr2, hr2, fun H7 s7 => ⟨_, _, rfl, rfl, _, _, rfl, rfl, _, rfl, _, _, rfl, rfl, .inr ⟨by omega, by omega⟩, _, rfl, h, _, _, _, rfl, rfl, s7.seqT hH6.t, at0, _, _, rfl, rfl, (show (0 : Int) < x by omega), s6.trans s7, _, _, rfl, ?_, Int.emod_nonneg _ (by omega), Int.emod_lt_of_pos _ (by omega)⟩⟩
          rw [ec, Int.sub_sub]
      · rw [if_neg eqb] at ec
        have dn : decide (V.int (r2.b : Int) = V.int (r.b : Int)) = false := decide_eq_false (fun z => eqb (by have := V.int.inj z; omega))
        rw [dn]
        refine iteF (iteF ⟨_, rfl, ra2, _, _, _, rfl, rfl, hT2, at0, _, rfl, ra, _, _, _, rfl, rfl, T6, at0, rfl, _, rfl, ?_⟩)
        rw [dn]
        exact iteF ⟨s6, gi, _, rfl, ec, b0, b1⟩
    · rintro σ H6 ⟨s6, gi, z, rfl, eb, b0, b1⟩
      rw [lz, List.take_length] at eb
      have s16 := s15.trans s6
      refine ⟨_, rfl, _, rfl, _, rfl, _, rfl, h, m, x, _, _, r, rfl, hH.same s16, okr, row_mk (s16.seqT hT), by omega, by omega, fun H7 s7 => ⟨_, _, rfl, rfl, _, rfl, h, _, _, _, rfl, rfl, (hH.same (s16.trans s7)).t, at0, _, _, rfl, rfl, (show (0 : Int) < x by omega), ?_⟩⟩
      have qq := q t H7 ht (s16.trans s7)
      unfold noteDue at qq
      rw [eb] at qq
      have ek : ({ r with k := 0 } : Row) = r := by
        cases r
        cases k0
        rfl
      simp only [ek] at qq
      rw [← em] at qq
      have em2 : mixed m (valOf (narrow x m.f) r.b 1 (rs.take at_)) r = mixed m (valOf m r.b 1 (rs.take at_)) r := by rw [← em]
      show Q (.int ((gi - mixed m (valOf (narrow x m.f) r.b 1 (rs.take at_)) r) % x)) H7
      rw [em2]
      exact qq
end
end K21
namespace K21
open PySem PySem.Spec PyProof.Rows L2 TL
section
variable {P : Program} {w : World} {K : PySem.W.Frag} {mg : Str → Option Value} {base : Heap}
/-! ### _law_shown_there -/
def spThere (K : PySem.W.Frag) : Sp := fun vs H Q _ => ∃ (a : Addr) (rs : List Row) (B : Nat), vs = [.ref a, .int (B : Int)] ∧ OkRows rs ∧ LogAt K H a rs ∧ rs.length ≤ 100 ∧
  ∀ (t l : Addr) (xs : List V) (H' : Hp), Same H H' → SqT K H' t [.bl (shownF B rs).1, .ref l] → SqL K H' l xs → DpAll K H' xs ((shownF B rs).2.map tripD) → Q (.ref t) H'
theorem sc__law_shown_there : FnScope ["_law_rows", "_law_board", "_law_was_reset", "_law_found", "_law_row_here"] ["_law_rows", "_law_board"] d__law_shown_there.scope := ⟨rfl, rfl, rfl, by decide +kernel, rfl, by decide +kernel, by decide +kernel⟩
theorem ok__law_shown_there (T : Tx K mg) (D : Fd K mg d__law_shown_there) : Ok P w K mg base 1 "_law_shown_there" ["_law_rows", "_law_board"] (spThere K) := by
  refine ok_mk D sc__law_shown_there (fun _ _ _ _ _ _ us hl => match us, hl with | [_, _], _ => rfl) (fun vs H Q E h => ?_) (fun f cdv A outer s H vs Q E hr h => ?_)
  · obtain ⟨a, rs, B, rfl, _⟩ := h
    rfl
  · obtain ⟨a, rs, B, rfl, ok, hL, l100, q⟩ := h
    refine ⟨_, 
    (pss_cons
      (ps_par (i := 2) (j := 3) (by rfl) sc__law_shown_there.nd rfl rfl (by decide) rfl rfl (pa_cons pe_bl (pa_cons (pe_lst pa_nil) pa_nil)) (by rfl))
    (pss_cons
      (ps_for PassesOwn.never rfl (pi_list (pv 0)) (pg_name (i := 4) sc__law_shown_there.nd rfl (.inl rfl))
        (pss_one
          (ps_if (PW.pt (pw_and (pt_cmpR op_eq (pe_ix (r := rIxT K) ix_tup (pv 4) pe_int (fun _ _ => rfl)) (pv 1) (nomark _)) (pw_and1 (pt_cmpR op_eq (pe_ix (r := rIxT K) ix_tup (pv 4) pe_int (fun _ _ => rfl)) pe_str (nomark _)))))
            (pss_one
              (ps_par (i := 2) (j := 3) (by rfl) sc__law_shown_there.nd rfl rfl (by decide) rfl rfl (pa_cons pe_bl (pa_cons (pe_lst pa_nil) pa_nil)) (by rfl)))
            (pss_one
              (ps_if (pt_cmpR op_eq (pe_ix (r := rIxT K) ix_tup (pv 4) pe_int (fun _ _ => rfl)) (pv 1) (nomark _))
                (pss_one
                  (ps_expr (pe_bm PySem.F.plainAttrs_list PySem.F.slot_list_append PySem.F.type_list_append mt_append (pv 3) (pa_cons (pe_slice (r := rSlT K) sl_tup (pv 4) (po_some pe_int) po_none) pa_nil))))
                pss_nil)))))
    (pss_one
      (ps_ret (pe_tup (pa_cons (pv 2) (pa_cons (pv 3) pa_nil)))))))
      , ?_⟩
    obtain ⟨vs, hS, hR⟩ := hL.inv
    have hl := rows_len hR
    refine ⟨Nat.le_of_ble_eq_true rfl, fun l0 hl0 => ⟨_, _, rfl, ?_⟩⟩
    have s1 := Same.new (o := .lst []) hl0
    refine ⟨_, rfl, a, rfl, ⟨_, s1.seq hS⟩, for_it (walk_list (xs := vs)) (fun i σ H3 => Same H H3 ∧ ∃ (l : Addr) (acc : List V) (z : Option V), σ = [some (.ref a), some (.int (B : Int)), some (.bl (shownF B (rs.take i)).1), some (.ref l), z] ∧ H l = none ∧ H3 l = some (.lst acc) ∧ acc.length ≤ i ∧ DpAll K H3 acc ((shownF B (rs.take i)).2.map tripD))
      ⟨s1, l0, [], none, rfl, hl0, upd_same, Nat.le_refl _, .nil⟩ (fun i σ H3 _ e => e.1.seq hS) ?_ ?_⟩
    · rintro i y σ H3x H3 hi ⟨s3, l, acc, z, rfl, hlH, ea, la, da⟩ ⟨rfl, hy⟩
      obtain ⟨r, er, hr2⟩ := rows_get (hR.same s3) hy
      have okr := ok r (List.mem_of_getElem? er)
      obtain ⟨ra, rfl, hT⟩ := row_inv hr2
      rw [take_snoc er, shownF_snoc]
      unfold shownStep
      refine ⟨_, rfl, ra, _, _, _, rfl, rfl, hT, at0, _, rfl, rfl, _, rfl, ?_⟩
      by_cases hb : r.b = B
      · rw [decide_eq_true (show V.int (r.b : Int) = V.int (B : Int) by rw [hb]), if_pos hb]
        refine iteT ⟨_, rfl, ra, _, _, _, rfl, rfl, hT, at1, rfl, _, rfl, ?_⟩
        rw [word_reset okr.w]
        by_cases c4 : r.w = 4
        · rw [decide_eq_true c4, if_pos c4]
          refine iteT ⟨Nat.le_of_ble_eq_true rfl, fun l2 hl2 => ⟨_, _, rfl, s3.add hl2, l2, [], _, rfl, s3.free hl2, upd_same, Nat.zero_le _, .nil⟩⟩
        · rw [decide_eq_false c4, if_neg c4]
          refine iteF ⟨_, rfl, ra, _, _, _, rfl, rfl, hT, at0, _, rfl, rfl, _, rfl, ?_⟩
          rw [decide_eq_true (show V.int (r.b : Int) = V.int (B : Int) by rw [hb])]
          refine iteT ⟨_, rfl, .inl ⟨rfl, _, .of ea⟩, _, rfl, _, rfl, ra, _, rfl, hT, (fun z => Nat.one_ne_zero z.1), fun t ht => ?_⟩
          have nl := ne_of_none ea ht
          refine ⟨l, acc, _, rfl, rfl, (upd_ne nl).trans ea, small (by omega), (s3.add ht).mut hlH, l, acc ++ [.ref t], _, rfl, hlH, upd_same, ?_, ?_⟩
          · rw [List.length_append]
            exact Nat.add_le_add_right la 1
          · rw [List.map_append]
            have d2 := ((da.same (Same.new (o := .tup (cutV (rowV r) (some 1) none)) ht)).append (.one (trip_mk (r := r) (.of upd_same))))
            exact dpAllKeepT (fun a xs h => (Ke.set l _ _).seqT ((upd_ne nl).trans ea) h) (trips_noL' _) d2
      · have dn : decide (V.int (r.b : Int) = V.int (B : Int)) = false := decide_eq_false (fun z => hb (by have := V.int.inj z; omega))
        rw [dn, if_neg hb]
        refine iteF (iteF ⟨_, rfl, ra, _, _, _, rfl, rfl, hT, at0, _, rfl, rfl, _, rfl, ?_⟩)
        rw [dn]
        exact iteF ⟨s3, l, acc, _, rfl, hlH, ea, Nat.le_succ_of_le la, da⟩
    · rintro σ H3 ⟨s3, l, acc, z, rfl, hlH, ea, la, da⟩
      rw [hl, List.take_length] at da
      rw [hl, List.take_length]
      refine ⟨_, rfl, _, rfl, Nat.le_of_ble_eq_true rfl, fun t ht => ?_⟩
      have s4 := Same.new (o := .tup [.bl (shownF B rs).1, .ref l]) ht
      exact q t l acc _ (s3.trans s4) (.of upd_same) (s4.seq (.of ea)) (da.same s4)
end
end K21
namespace K21
open PySem PySem.Spec PyProof.Rows L2 TL
/-- the first that is not alike -/
theorem ahead_at : ∀ (ds es : List PyData), (List.zipWith PyData.eqv ds es ++ [false])[aheadN ds es]? = some false ∧ ∀ m, m < aheadN ds es → (List.zipWith PyData.eqv ds es ++ [false])[m]? = some true
  | [], es => ⟨rfl, fun m h => absurd h (Nat.not_lt_zero _)⟩
  | d :: ds, [] => ⟨rfl, fun m h => absurd h (Nat.not_lt_zero _)⟩
  | d :: ds, e :: es => by
    obtain ⟨h1, h2⟩ := ahead_at ds es
    rw [aheadN]
    show ((PyData.eqv d e :: (List.zipWith PyData.eqv ds es ++ [false]))[_]? = some false) ∧ ∀ m, m < _ → (PyData.eqv d e :: (List.zipWith PyData.eqv ds es ++ [false]))[m]? = some true
    cases c : PyData.eqv d e with
    | true =>
      rw [if_pos rfl]
      refine ⟨h1, fun m hm => ?_⟩
      cases m with
      | zero => rfl
      | succ m => exact h2 m (by omega)
    | false =>
      rw [if_neg Bool.false_ne_true]
      exact ⟨rfl, fun m h => absurd h (Nat.not_lt_zero _)⟩
theorem zip_snoc {ds es : List PyData} {i : Nat} {d e : PyData} (h1 : ds[i]? = some d) (h2 : es[i]? = some e) : (List.zipWith PyData.eqv ds es).take (i + 1) = (List.zipWith PyData.eqv ds es).take i ++ [PyData.eqv d e] := by
  have h : (List.zipWith PyData.eqv ds es)[i]? = some (PyData.eqv d e) := by
    rw [List.getElem?_zipWith, h1, h2]
  rw [List.take_add_one, h]
  rfl
theorem eqv_two {f1 f2 : Bool} {xs ys : List PyData} : PyData.eqv (.tuple [.bool f1, .list xs]) (.tuple [.bool f2, .list ys]) = ((f1 == f2) && PyData.eqv (.list xs) (.list ys)) := by
  simp only [PyData.eqv, PyData.eqvAll, Bool.and_true]
section
variable {P : Program} {w : World} {K : PySem.W.Frag} {mg : Str → Option Value} {base : Heap}
/-! ### _law_parted_due -/
def spPart (K : PySem.W.Frag) : Sp := fun vs H Q _ => ∃ (a c : Addr) (rs lg : List Row) (B : Nat), vs = [.ref a, .ref c, .int (B : Int)] ∧ OkRows rs ∧ OkRows lg ∧ LogAt K H a rs ∧ LogAt K H c lg ∧ rs.length ≤ 100 ∧ lg.length ≤ 100 ∧ (shownF B rs).1 = (shownF B lg).1 ∧
  (tripsEq (shownF B rs).2 (shownF B lg).2 = true → ∀ H', Same H H' → Q .non H') ∧
  (tripsEq (shownF B rs).2 (shownF B lg).2 = false → ∀ (t : Addr) (H' : Hp), Same H H' → SqT K H' t [.int (B : Int), .int (aheadR (shownF B rs).2 (shownF B lg).2 : Nat)] → Q (.ref t) H')
theorem sc__law_parted_due : FnScope ["_law_rows", "_law_longer", "_law_board", "_law_one", "_law_other", "_law_alike", "_law_mine", "_law_its"] ["_law_rows", "_law_longer", "_law_board"] d__law_parted_due.scope := ⟨rfl, rfl, rfl, by decide +kernel, rfl, by decide +kernel, by decide +kernel⟩
theorem ok__law_parted_due (T : Tx K mg) (D : Fd K mg d__law_parted_due) (h__law_shown_there : Ok P w K mg base 1 "_law_shown_there" ["_law_rows", "_law_board"] (spThere K)) : Ok P w K mg base 2 "_law_parted_due" ["_law_rows", "_law_longer", "_law_board"] (spPart K) := by
  refine ok_mk D sc__law_parted_due (fun _ _ _ _ _ _ us hl => match us, hl with | [_, _, _], _ => rfl) (fun vs H Q E h => ?_) (fun f cdv A outer s H vs Q E hr h => ?_)
  · obtain ⟨a, c, rs, lg, B, rfl, _⟩ := h
    rfl
  · obtain ⟨a, c, rs, lg, B, rfl, okr, okl, hA, hC, lr, ll, flg, q1, q2⟩ := h
    refine ⟨_, 
    (pss_cons
      (ps_par (i := 3) (j := 4) (by rfl) sc__law_parted_due.nd rfl rfl (by decide) rfl rfl (pa_cons (pe_f h__law_shown_there hr (pa_cons (pv 0) (pa_cons (pv 2) pa_nil))) (pa_cons (pe_f h__law_shown_there hr (pa_cons (pv 1) (pa_cons (pv 2) pa_nil))) pa_nil)) (by rfl))
    (pss_cons
      (ps_if (pt_cmpR (op_eqD hr.units) (pv 3) (pv 4) (nomark _))
        (pss_one
          (ps_ret pe_non))
        pss_nil)
    (pss_cons
      (ps_set (i := 5) sc__law_parted_due.nd rfl (.inl rfl) (pe_op op_cat (pe_lc rfl sc__law_parted_due.nd (pi_zip (by rfl) T.zip (pa_cons (pe_ix (r := rIxT K) ix_tup (pv 3) pe_int (fun _ _ => rfl)) (pa_cons (pe_ix (r := rIxT K) ix_tup (pv 4) pe_int (fun _ _ => rfl)) pa_nil))) (blkOk_by (N := ["_law_rows", "_law_longer", "_law_board", "_law_one", "_law_other", "_law_alike", "_law_mine", "_law_its"]) (sc := d__law_parted_due.scope) (own := [("_law_mine", 6), ("_law_its", 7)]) (by decide +kernel)) (fun _ _ _ _ _ => (show PG _ _ (gTup K 2 _) from pg_tup rfl (pgs_cons (pg_name (i := 6) sc__law_parted_due.nd rfl (.inl rfl)) (pgs_cons (pg_name (i := 7) sc__law_parted_due.nd rfl (.inl rfl)) pgs_nil)))) (fun _ _ _ _ _ => pts_nil) (fun _ _ _ _ _ => (pe_cmpR (show OpR _ _ (rEqD K) from op_eqD hr.units) (pv 6) (pv 7) (nomark _)))) (pe_lst (pa_cons pe_bl pa_nil))))
    (pss_one
      (ps_ret (pe_tup (pa_cons (pv 2) (pa_cons (pe_bm PySem.F.plainAttrs_list PySem.F.slot_list_index PySem.F.type_list_index mt_index (pv 5) (pa_cons pe_bl pa_nil)) pa_nil))))))))
      , ?_⟩
    refine ⟨_, rfl, _, rfl, a, rs, B, rfl, okr, hA, lr, fun t1 l1 xs1 H1 s1 hT1 hL1 dA1 => ⟨_, rfl, _, rfl, c, lg, B, rfl, okl, hC.same s1, ll, fun t2 l2 xs2 H2 s2 hT2 hL2 dA2 => ⟨_, _, rfl, ?_⟩⟩⟩
    have hT1' := s2.seqT hT1
    have hL1' := s2.seq hL1
    have dA1' := dA1.same s2
    have s12 := s1.trans s2
    have sh1 := trips_sh (shown_rows_ok (b := B) okr)
    have sh2 := trips_sh (shown_rows_ok (b := B) okl)
    have shT : ∀ {f : Bool} {d : PyData}, Sh 2 d → Sh 3 (.tuple [.bool f, d]) := fun {f d} h => Sh.tuple fun e he => by
      rcases List.mem_cons.mp he with rfl | he
      · exact Sh.bool 2 f
      · rw [List.mem_singleton.mp he]
        exact h
    refine ⟨_, rfl, _, rfl, _, _, .tup hT1' (.cons (.bl _) (.cons (.lst hL1' dA1') .nil)), .tup hT2 (.cons (.bl _) (.cons (.lst hL2 dA2) .nil)), (shT sh1).ok, (shT sh2).ok, _, rfl, ?_⟩
    rw [eqv_two, flg, beq_self_eq_true, Bool.true_and]
    show (if tripsEq (shownF B rs).2 (shownF B lg).2 = true then _ else _)
    cases te : tripsEq (shownF B rs).2 (shownF B lg).2 with
    | true => exact iteT (q1 te H2 s12)
    | false =>
      refine iteF ⟨_, rfl, t1, _, _, _, rfl, rfl, hT1', at1, _, rfl, t2, _, _, _, rfl, rfl, hT2, at1, l1, l2, xs1, xs2, rfl, hL1', hL2, fun C hC0 => ?_⟩
      have n1 := dA1'.length
      have n2 := dA2.length
      have lz : (List.zipWith PyData.eqv ((shownF B rs).2.map tripD) ((shownF B lg).2.map tripD)).length = min xs1.length xs2.length := by
        rw [List.length_zipWith, n1, n2]
      have l1' := shownF_len B rs
      rw [List.length_map] at n1
      refine lc_it (walk_zip rfl) (fun i H3 => Same H2 H3 ∧ H3 C = some (.lst (((List.zipWith PyData.eqv ((shownF B rs).2.map tripD) ((shownF B lg).2.map tripD)).take i).map V.bl))) ⟨Same.new hC0, upd_same⟩ (fun i H3 _ h => ⟨h.1.seq hL1', h.1.seq hL2⟩) ?_ ?_
      · rintro i x H3 H4 hi ⟨s3, ec⟩ ⟨t, u, v, rfl, ht, rfl, eu, ev⟩
        have s4 := s3.add (o := .tup [u, v]) ht
        obtain ⟨d, ed, du⟩ := (dA1'.same s4).get i u eu
        obtain ⟨e, ee, dv⟩ := (dA2.same s4).get i v ev
        refine ⟨t, _, rfl, .of upd_same, rfl, _, _, rfl, _, _, rfl, rfl, rfl, _, rfl, _, rfl, d, e, du, dv, trips_shaped (shown_rows_ok okr) d (List.mem_of_getElem? ed), trips_shaped (shown_rows_ok okl) e (List.mem_of_getElem? ee), _, (upd_ne (ne_of_none ec ht)).trans ec, ?_, s4.mut hC0, ?_⟩
        · rw [List.length_map, List.length_take]
          exact small (by omega)
        · rw [upd_same, zip_snoc ed ee, List.map_append]
          rfl
      · rintro H3 ⟨s3, ec⟩
        rw [← lz, List.take_length] at ec
        obtain ⟨a1, a2⟩ := ahead_at ((shownF B rs).2.map tripD) ((shownF B lg).2.map tripD)
        refine ⟨Nat.le_of_ble_eq_true rfl, fun p hp => ⟨C, p, _, _, rfl, rfl, (upd_ne (ne_of_none ec hp)).trans ec, upd_same, ?_, fun p2 hp2 => ?_⟩⟩
        · rw [List.length_map, lz]
          exact Nat.le_of_lt (small (by show _ + 1 ≤ 100000; omega))
        have s5 := (s3.add hp).add hp2 (o := .lst ((List.zipWith PyData.eqv ((shownF B rs).2.map tripD) ((shownF B lg).2.map tripD)).map V.bl ++ [.bl false]))
        refine ⟨_, rfl, _, rfl, .inl ⟨rfl, _, .of upd_same⟩, p2, _, _, aheadN ((shownF B rs).2.map tripD) ((shownF B lg).2.map tripD), .bl false, rfl, rfl, .of upd_same, rfl, ?_, ?_, rfl, ?_, Nat.le_of_ble_eq_true rfl, fun t3 ht3 => ?_⟩
        · refine List.all_eq_true.mpr fun z hz => ?_
          rcases List.mem_append.mp hz with hz | hz
          · obtain ⟨k, _, rfl⟩ := List.mem_map.mp hz
            rfl
          · rw [List.mem_singleton.mp hz]
            rfl
        · have : (List.zipWith PyData.eqv ((shownF B rs).2.map tripD) ((shownF B lg).2.map tripD)).map V.bl ++ [.bl false] = (List.zipWith PyData.eqv ((shownF B rs).2.map tripD) ((shownF B lg).2.map tripD) ++ [false]).map V.bl := by
            rw [List.map_append]
            rfl
          rw [this, List.getElem?_map, a1]
          rfl
        · intro m z hm hz
          have : (List.zipWith PyData.eqv ((shownF B rs).2.map tripD) ((shownF B lg).2.map tripD)).map V.bl ++ [.bl false] = (List.zipWith PyData.eqv ((shownF B rs).2.map tripD) ((shownF B lg).2.map tripD) ++ [false]).map V.bl := by
            rw [List.map_append]
            rfl
          rw [this, List.getElem?_map, a2 m hm] at hz
          cases Option.some.inj hz
          rfl
        · exact q2 te t3 _ ((s12.trans s5).add ht3) (.of upd_same)
end
end K21
namespace K21
open PySem PySem.Spec PyProof.Rows L2 TL
theorem kit_LT {K : PySem.W.Frag} {S : String} {b1 b2 r : Bool} (h1 : kitB S "list" = some b1) (h2 : kitB S "tuple" = some b2) (hr : (b1 || b2) = r) : PySem.W.kitAny K (.type S) [.type "list", .type "tuple"] = some r := by
  subst hr
  refine kitAny_cons (kit_ty h1) (fun e => ?_) (fun e => ?_)
  · subst e
    exact kitAny_cons (kit_ty h2) (fun e => by rw [e]; rfl) (fun e => by rw [e]; rfl)
  · rw [e]
    rfl
section
variable {P : Program} {w : World} {K : PySem.W.Frag} {mg : Str → Option Value} {base : Heap}
/-! ### _law_same, flat -/
def spSame1 : Sp := fun vs H Q _ => ∃ x y : V, vs = [x, y] ∧ ((x = .non ∧ y = .non) ∨ ∃ i : Int, x = .int i ∧ y = .int i) ∧ ∀ H', Same H H' → Q (.bl true) H'
theorem pe_void {X : Cx} {e : Expr} : PE X e (fun _ _ _ => False) := ⟨fun _ _ _ _ _ _ h => h.elim⟩
theorem sc__law_same : FnScope ["_law_found", "_law_due", "_law_one", "_law_two"] ["_law_found", "_law_due"] d__law_same.scope := ⟨rfl, rfl, rfl, by decide +kernel, rfl, by decide +kernel, by decide +kernel⟩
theorem ok__law_same1 (T : Tx K mg) (D : Fd K mg d__law_same) : Ok P w K mg base 1 "_law_same" ["_law_found", "_law_due"] spSame1 := by
  refine ok_mk D sc__law_same (fun _ _ _ _ _ _ us hl => match us, hl with | [_, _], _ => rfl) (fun vs H Q E h => ?_) (fun f cdv A outer s H vs Q E hr h => ?_)
  · obtain ⟨x, y, rfl, _⟩ := h
    rfl
  · obtain ⟨x, y, rfl, hxy, q⟩ := h
    refine ⟨_, 
    (pss_cons
      (ps_if (pt_val (pe_callB call_isiT (by rfl) T.isinstance (by decide +kernel) (pa_cons (pv 1) (pa_cons (pe_tup (pa_cons (pe_bt "list" T.list) (pa_cons (pe_bt "tuple" T.tuple) pa_nil))) pa_nil))))
        (pss_cons ps_never (pss_cons ps_never (pss_one ps_never)))
        pss_nil)
    (pss_cons
      (ps_if (PW.pt (pw_or (pt_cmpR op_isN (pv 1) pe_non (nomark _)) (pw_or1 (pt_val (pe_callB call_isB (by rfl) T.isinstance (by decide +kernel) (pa_cons (pv 1) (pa_cons (pe_bt "str" T.str) pa_nil)))))))
        (pss_one
          (ps_ret (pe_and (pe_cmpR (op_eqD hr.units) (pv 0) (pv 1) (nomark _)) (pe_one (pe_cmpR op_eq (pe_callB call_isB (by rfl) T.isinstance (by decide +kernel) (pa_cons (pv 0) (pa_cons (pe_bt "str" T.str) pa_nil))) (pe_callB call_isB (by rfl) T.isinstance (by decide +kernel) (pa_cons (pv 1) (pa_cons (pe_bt "str" T.str) pa_nil))) (nomark _))))))
        pss_nil)
    (pss_one
      (ps_ret (pe_and (pe_callB call_isB (by rfl) T.isinstance (by decide +kernel) (pa_cons (pv 0) (pa_cons (pe_bt "int" T.int) pa_nil))) (pe_and (pe_cmpR op_eq (pe_callB call_isB (by rfl) T.isinstance (by decide +kernel) (pa_cons (pv 0) (pa_cons (pe_bt "bool" T.bool) pa_nil))) (pe_callB call_isB (by rfl) T.isinstance (by decide +kernel) (pa_cons (pv 1) (pa_cons (pe_bt "bool" T.bool) pa_nil))) (nomark _)) (pe_one (pe_cmpR (op_eqD hr.units) (pv 0) (pv 1) (nomark _)))))))))
      , ?_⟩
    refine ⟨_, rfl, Nat.le_of_ble_eq_true rfl, fun p hp => ?_⟩
    have s1 := Same.new (o := .tup [.ty "list", .ty "tuple"]) hp
    rcases hxy with ⟨rfl, rfl⟩ | ⟨i, rfl, rfl⟩
    · refine ⟨_, p, _, _, _, false, rfl, upd_same, .cons (.ty _) (.cons (.ty _) .nil), tyx_non, kit_LT (b1 := false) (b2 := false) (by decide +kernel) (by decide +kernel) rfl, _, rfl, iteF ?_⟩
      refine ⟨_, rfl, rfl, _, rfl, iteT ⟨_, rfl, _, rfl, .none, .none, .non, .non, (Sh.none 0).ok, (Sh.none 0).ok, ?_⟩⟩
      rw [eqv_self (Sh.none 0)]
      refine ⟨_, rfl, iteT ⟨_, rfl, _, "NoneType", "str", false, rfl, tyx_non, by decide +kernel, _, rfl, _, "NoneType", "str", false, rfl, tyx_non, by decide +kernel, rfl, ?_⟩⟩
      exact q _ s1
    · refine ⟨_, p, _, _, _, false, rfl, upd_same, .cons (.ty _) (.cons (.ty _) .nil), tyx_int i, kit_LT (b1 := false) (b2 := false) (by decide +kernel) (by decide +kernel) rfl, _, rfl, iteF ?_⟩
      refine ⟨_, rfl, rfl, _, rfl, iteF ⟨_, rfl, _, "int", "str", false, rfl, tyx_int i, by decide +kernel, _, rfl, iteF ?_⟩⟩
      refine ⟨_, rfl, _, "int", "int", true, rfl, tyx_int i, by decide +kernel, _, rfl, iteT ⟨_, rfl, _, "int", "bool", false, rfl, tyx_int i, by decide +kernel, _, rfl, _, "int", "bool", false, rfl, tyx_int i, by decide +kernel, rfl, _, rfl, iteT ⟨_, rfl, _, rfl, .int i, .int i, .int i, .int i, (Sh.int 0 i).ok, (Sh.int 0 i).ok, ?_⟩⟩⟩
      rw [eqv_self (Sh.int 0 i)]
      exact q _ s1
end
end K21
namespace K21
open PySem PySem.Spec PyProof.Rows L2 TL
theorem walk_pairT {K : PySem.W.Frag} {a b : Addr} {xs ys : List V} {n : Nat} (e1 : xs.length = n) (e2 : ys.length = n) : Walk (RZ.ItzT K a b) n (fun H => SqT K H a xs ∧ SqT K H b ys) (YPair (fun i => xs[i]?) (fun i => ys[i]?)) where
  goes i H hi g := ⟨xs, ys, xs[i]'(by omega), ys[i]'(by omega), g.1, g.2, List.getElem?_eq_getElem _, List.getElem?_eq_getElem _⟩
  stops H g := ⟨xs, ys, g.1, g.2, .inl (by omega)⟩
  yields i H v H' hi g y := by
    obtain ⟨t, u, z, y1, y2, y3, y4, y5⟩ := y
    exact ⟨t, u, z, y1, y2, y3, y4 xs g.1, y5 ys g.2⟩
section
variable {P : Program} {w : World} {K : PySem.W.Frag} {mg : Str → Option Value} {base : Heap}
/-! ### _law_same, lists and tuples of numbers -/
def spSame2 (K : PySem.W.Frag) : Sp := fun vs H Q _ => ∃ x y : V, vs = [x, y] ∧ ((x = .non ∧ y = .non) ∨ ∃ (a b : Addr) (ns : List Int), x = .ref a ∧ y = .ref b ∧ ns.length ≤ 100 ∧ ((SqL K H a (ns.map V.int) ∧ SqL K H b (ns.map V.int)) ∨ (SqT K H a (ns.map V.int) ∧ SqT K H b (ns.map V.int)))) ∧
  ∀ H', Same H H' → Q (.bl true) H'
theorem ok__law_same2 (T : Tx K mg) (D : Fd K mg d__law_same) (h__law_same : Ok P w K mg base 1 "_law_same" ["_law_found", "_law_due"] spSame1) : Ok P w K mg base 2 "_law_same" ["_law_found", "_law_due"] (spSame2 K) := by
  refine ok_mk D sc__law_same (fun _ _ _ _ _ _ us hl => match us, hl with | [_, _], _ => rfl) (fun vs H Q E h => ?_) (fun f cdv A outer s H vs Q E hr h => ?_)
  · obtain ⟨x, y, rfl, _⟩ := h
    rfl
  · obtain ⟨x, y, rfl, hxy, q⟩ := h
    refine ⟨_, 
    (pss_cons
      (ps_if (pt_val (pe_callB call_isiT (by rfl) T.isinstance (by decide +kernel) (pa_cons (pv 1) (pa_cons (pe_tup (pa_cons (pe_bt "list" T.list) (pa_cons (pe_bt "tuple" T.tuple) pa_nil))) pa_nil))))
        (pss_cons
          (ps_if (PW.pt (pw_or (pt_cmpR op_ne (pe_callB call_isB (by rfl) T.isinstance (by decide +kernel) (pa_cons (pv 0) (pa_cons (pe_bt "list" T.list) pa_nil))) (pe_callB call_isB (by rfl) T.isinstance (by decide +kernel) (pa_cons (pv 1) (pa_cons (pe_bt "list" T.list) pa_nil))) (nomark _)) (pw_or1 (pt_cmpR op_ne (pe_callB call_isB (by rfl) T.isinstance (by decide +kernel) (pa_cons (pv 0) (pa_cons (pe_bt "tuple" T.tuple) pa_nil))) (pe_callB call_isB (by rfl) T.isinstance (by decide +kernel) (pa_cons (pv 1) (pa_cons (pe_bt "tuple" T.tuple) pa_nil))) (nomark _)))))
            (pss_one (ps_ret pe_bl))
            pss_nil)
        (pss_cons
          (ps_if (pt_cmpR op_ne (pe_callB call_len_seq (by rfl) T.len PySem.boot_len (pa_cons (pv 0) pa_nil)) (pe_callB call_len_seq (by rfl) T.len PySem.boot_len (pa_cons (pv 1) pa_nil)) (nomark _))
            (pss_one (ps_ret pe_bl))
            pss_nil)
        (pss_one
          (ps_ret (pe_callB (cr_all rfl) (by rfl) T.all (by decide +kernel) (pa_cons (pe_lc rfl sc__law_same.nd (RZ.pi_zipA (by rfl) T.zip (pa_cons (pv 0) (pa_cons (pv 1) pa_nil))) (blkOk_by (N := ["_law_found", "_law_due", "_law_one", "_law_two"]) (sc := d__law_same.scope) (own := [("_law_one", 2), ("_law_two", 3)]) (by decide +kernel)) (fun _ _ _ _ _ => (show PG _ _ (gTup K 2 _) from pg_tup rfl (pgs_cons (pg_name (i := 2) sc__law_same.nd rfl (.inl rfl)) (pgs_cons (pg_name (i := 3) sc__law_same.nd rfl (.inl rfl)) pgs_nil)))) (fun _ _ _ _ _ => pts_nil) (fun _ _ _ _ _ => (pe_f h__law_same hr (pa_cons (pv 2) (pa_cons (pv 3) pa_nil))))) pa_nil))))))
        pss_nil)
    (pss_cons
      (ps_if (PW.pt (pw_or (pt_cmpR op_isN (pv 1) pe_non (nomark _)) (pw_or1 (pt_val (pe_callB call_isB (by rfl) T.isinstance (by decide +kernel) (pa_cons (pv 1) (pa_cons (pe_bt "str" T.str) pa_nil)))))))
        (pss_one
          (ps_ret (pe_and (pe_cmpR (op_eqD hr.units) (pv 0) (pv 1) (nomark _)) (pe_one (pe_cmpR op_eq (pe_callB call_isB (by rfl) T.isinstance (by decide +kernel) (pa_cons (pv 0) (pa_cons (pe_bt "str" T.str) pa_nil))) (pe_callB call_isB (by rfl) T.isinstance (by decide +kernel) (pa_cons (pv 1) (pa_cons (pe_bt "str" T.str) pa_nil))) (nomark _))))))
        pss_nil)
    (pss_one ps_never)))
      , ?_⟩
    refine ⟨_, rfl, Nat.le_of_ble_eq_true rfl, fun p hp => ?_⟩
    have s1 := Same.new (o := .tup [.ty "list", .ty "tuple"]) hp
    rcases hxy with ⟨rfl, rfl⟩ | ⟨a, b, ns, rfl, rfl, l100, hk⟩
    · refine ⟨_, p, _, _, _, false, rfl, upd_same, .cons (.ty _) (.cons (.ty _) .nil), tyx_non, kit_LT (b1 := false) (b2 := false) (by decide +kernel) (by decide +kernel) rfl, _, rfl, iteF ?_⟩
      refine ⟨_, rfl, rfl, _, rfl, iteT ⟨_, rfl, _, rfl, .none, .none, .non, .non, (Sh.none 0).ok, (Sh.none 0).ok, ?_⟩⟩
      rw [eqv_self (Sh.none 0)]
      refine ⟨_, rfl, iteT ⟨_, rfl, _, "NoneType", "str", false, rfl, tyx_non, by decide +kernel, _, rfl, _, "NoneType", "str", false, rfl, tyx_non, by decide +kernel, rfl, ?_⟩⟩
      exact q _ s1
    · have all1 : ∀ n : Nat, (List.replicate n true).all id = true := fun n => by
        rw [List.all_eq_true]
        intro b hb
        rw [List.eq_of_mem_replicate hb]
        rfl
      rcases hk with ⟨hA, hB⟩ | ⟨hA, hB⟩
      · have hA1 := s1.seq hA
        have hB1 := s1.seq hB
        refine ⟨_, p, _, _, _, true, rfl, upd_same, .cons (.ty _) (.cons (.ty _) .nil), tyx_L hB1, kit_LT (b1 := true) (b2 := false) (by decide +kernel) (by decide +kernel) rfl, _, rfl, iteT ?_⟩
        refine ⟨_, rfl, _, "list", "list", true, rfl, tyx_L hA1, by decide +kernel, _, rfl, _, "list", "list", true, rfl, tyx_L hB1, by decide +kernel, rfl, _, rfl, iteNS rfl ⟨_, rfl, _, "list", "tuple", false, rfl, tyx_L hA1, by decide +kernel, _, rfl, _, "list", "tuple", false, rfl, tyx_L hB1, by decide +kernel, rfl, _, rfl, iteNS rfl ?_⟩⟩
        refine ⟨_, rfl, a, _, rfl, .inl hA1, _, rfl, b, _, rfl, .inl hB1, rfl, _, rfl, iteNS rfl ⟨_, rfl, _, rfl, a, b, _, _, rfl, .inl ⟨hA1, hB1, fun C hC => ?_⟩⟩⟩
        refine lc_it (walk_zip (n := ns.length) (by rw [List.length_map]; omega)) (fun i H3 => Same H H3 ∧ H3 C = some (.lst ((List.replicate i true).map V.bl))) ⟨s1.add hC, upd_same⟩ (fun i H3 _ h => ⟨h.1.seq hA, h.1.seq hB⟩) ?_ ?_
        · rintro i x H3 H4 hi ⟨s3, ec⟩ ⟨t, u, v, rfl, ht, rfl, eu, ev⟩
          have s4 := s3.add (o := .tup [u, v]) ht
          rw [eu] at ev
          cases Option.some.inj ev
          have eu : (ns.map V.int)[i]? = some u := eu
          rw [List.getElem?_map, List.getElem?_eq_getElem hi] at eu
          cases Option.some.inj eu
          refine ⟨t, _, rfl, .of upd_same, rfl, _, _, rfl, _, _, rfl, rfl, rfl, _, rfl, _, rfl, _, _, rfl, .inr ⟨_, rfl, rfl⟩, fun H5 s5 => ⟨_, s5 _ _ ((upd_ne (ne_of_none ec ht)).trans ec), ?_, (s4.trans s5).mut (s1.free hC), ?_⟩⟩
          · rw [List.length_map, List.length_replicate]
            exact small (by omega)
          · rw [upd_same, List.replicate_succ', List.map_append]
            rfl
        · rintro H3 ⟨s3, ec⟩
          refine ⟨C, _, rfl, .of ec, ?_⟩
          rw [all1]
          exact q H3 s3
      · have hA1 := s1.seqT hA
        have hB1 := s1.seqT hB
        refine ⟨_, p, _, _, _, true, rfl, upd_same, .cons (.ty _) (.cons (.ty _) .nil), tyx_T hB1, kit_LT (b1 := false) (b2 := true) (by decide +kernel) (by decide +kernel) rfl, _, rfl, iteT ?_⟩
        refine ⟨_, rfl, _, "tuple", "list", false, rfl, tyx_T hA1, by decide +kernel, _, rfl, _, "tuple", "list", false, rfl, tyx_T hB1, by decide +kernel, rfl, _, rfl, iteNS rfl ⟨_, rfl, _, "tuple", "tuple", true, rfl, tyx_T hA1, by decide +kernel, _, rfl, _, "tuple", "tuple", true, rfl, tyx_T hB1, by decide +kernel, rfl, _, rfl, iteNS rfl ?_⟩⟩
        refine ⟨_, rfl, a, _, rfl, .inr hA1, _, rfl, b, _, rfl, .inr hB1, rfl, _, rfl, iteNS rfl ⟨_, rfl, _, rfl, a, b, _, _, rfl, .inr ⟨hA1, hB1, fun C hC => ?_⟩⟩⟩
        refine lc_it (walk_pairT (n := ns.length) (List.length_map _) (List.length_map _)) (fun i H3 => Same H H3 ∧ H3 C = some (.lst ((List.replicate i true).map V.bl))) ⟨s1.add hC, upd_same⟩ (fun i H3 _ h => ⟨h.1.seqT hA, h.1.seqT hB⟩) ?_ ?_
        · rintro i x H3 H4 hi ⟨s3, ec⟩ ⟨t, u, v, rfl, ht, rfl, eu, ev⟩
          have s4 := s3.add (o := .tup [u, v]) ht
          rw [eu] at ev
          cases Option.some.inj ev
          have eu : (ns.map V.int)[i]? = some u := eu
          rw [List.getElem?_map, List.getElem?_eq_getElem hi] at eu
          cases Option.some.inj eu
          refine ⟨t, _, rfl, .of upd_same, rfl, _, _, rfl, _, _, rfl, rfl, rfl, _, rfl, _, rfl, _, _, rfl, .inr ⟨_, rfl, rfl⟩, fun H5 s5 => ⟨_, s5 _ _ ((upd_ne (ne_of_none ec ht)).trans ec), ?_, (s4.trans s5).mut (s1.free hC), ?_⟩⟩
          · rw [List.length_map, List.length_replicate]
            exact small (by omega)
          · rw [upd_same, List.replicate_succ', List.map_append]
            rfl
        · rintro H3 ⟨s3, ec⟩
          refine ⟨C, _, rfl, .of ec, ?_⟩
          rw [all1]
          exact q H3 s3
end
end K21
namespace K21
open PySem PySem.Spec PyProof.Rows L2 TL
/-- the first end -/
theorem first_end : ∀ {rs : List Row}, endIn rs = true → ∃ (j : Nat) (r : Row), rs[j]? = some r ∧ r.w = 2 ∧ (∀ (m : Nat) (q : Row), m < j → rs[m]? = some q → q.w ≠ 2) ∧ ∀ i, endIn (rs.take i) = decide (j < i)
  | [], h => by cases h
  | r :: rs, h => by
    by_cases c : r.w = 2
    · refine ⟨0, r, rfl, c, fun m q hm => absurd hm (Nat.not_lt_zero _), fun i => ?_⟩
      cases i with
      | zero => rfl
      | succ i =>
        show (isEnd r || _) = _
        unfold isEnd
        rw [decide_eq_true c, decide_eq_true (Nat.succ_pos i)]
        rfl
    · have e : isEnd r = false := decide_eq_false c
      have h2 : endIn rs = true := by
        have h3 : (isEnd r || endIn rs) = true := h
        rw [e] at h3
        exact h3
      obtain ⟨j, r2, h4, h5, h6, h7⟩ := first_end h2
      refine ⟨j + 1, r2, h4, h5, fun m q hm hq => ?_, fun i => ?_⟩
      · cases m with
        | zero =>
          cases Option.some.inj hq
          exact c
        | succ m => exact h6 m q (by omega) hq
      · cases i with
        | zero => exact (decide_eq_false (Nat.not_lt_zero _)).symm
        | succ i =>
          show (isEnd r || endIn (rs.take i)) = _
          rw [e, Bool.false_or, h7 i]
          exact decide_eq_decide.mpr (by omega)
theorem endIn_take {rs : List Row} (h : endIn rs = false) (i : Nat) : endIn (rs.take i) = false := by
  unfold endIn at h ⊢
  rw [List.any_eq_false] at h ⊢
  exact fun q hq => h q (List.mem_of_mem_take hq)
theorem eqV_end {w : Nat} (h : w < 5) : eqV (.str (wordS w)) (.str "end") = decide (w = 2) := by
  have key : ∀ w : Fin 5, eqV (.str (wordS w.1)) (.str "end") = decide (w.1 = 2) := by decide +kernel
  exact key ⟨w, h⟩
theorem in_end : ∀ {rs : List Row}, OkRows rs → inV (.str "end") (rs.map fun r => V.str (wordS r.w)) = endIn rs
  | [], _ => rfl
  | r :: rs, h => by
    show (eqV (.str (wordS r.w)) (.str "end") || inV (.str "end") (rs.map fun r => V.str (wordS r.w))) = (isEnd r || endIn rs)
    rw [eqV_end (h r (List.mem_cons_self ..)).w, in_end fun q hq => h q (List.mem_cons_of_mem _ hq)]
    rfl
/-- a word that may stand at a place -/
def wordAt (rs : List Row) (i w : Nat) : Prop := if endIn (rs.take i) = true then w = 3 else w = 0 ∨ w = 1
theorem flat_words (rs : List Row) : (rs.map fun r => V.str (wordS r.w)).all flatV = true := List.all_eq_true.mpr fun z hz => by
  obtain ⟨r, _, rfl⟩ := List.mem_map.mp hz
  rfl
section
variable {P : Program} {w : World} {K : PySem.W.Frag} {mg : Str → Option Value} {base : Heap}
/-! ### _law_words -/
def spWords (K : PySem.W.Frag) : Sp := fun vs H Q _ => ∃ (a : Addr) (rs : List Row) (i : Nat), vs = [.ref a, .int (i : Int)] ∧ OkRows rs ∧ LogAt K H a rs ∧ rs.length ≤ 100 ∧
  ∀ (p : Addr) (ws : List Nat) (H' : Hp), Same H H' → H p = none → SqL K H' p (ws.map fun u => V.str (wordS u)) → 0 < ws.length → ws.length ≤ 2 → (∀ u ∈ ws, wordAt rs i u) → Q (.ref p) H'
theorem sc__law_words : FnScope ["_law_rows", "_law_at", "_law_words_here", "_law_row_here"] ["_law_rows", "_law_at"] d__law_words.scope := ⟨rfl, rfl, rfl, by decide +kernel, rfl, by decide +kernel, by decide +kernel⟩
theorem ok__law_words (T : Tx K mg) (D : Fd K mg d__law_words) : Ok P w K mg base 1 "_law_words" ["_law_rows", "_law_at"] (spWords K) := by
  refine ok_mk D sc__law_words (fun _ _ _ _ _ _ us hl => match us, hl with | [_, _], _ => rfl) (fun vs H Q E h => ?_) (fun f cdv A outer s H vs Q E hr h => ?_)
  · obtain ⟨a, rs, i, rfl, _⟩ := h
    rfl
  · obtain ⟨a, rs, i, rfl, ok, hL, l100, q⟩ := h
    refine ⟨_, 
    (pss_cons
      (ps_setLc (i := 2) rfl sc__law_words.nd rfl rfl (sw_true rfl rfl rfl (by decide +kernel)) (pi_list (pv 0)) (blkOk_by (N := ["_law_rows", "_law_at", "_law_words_here", "_law_row_here"]) (sc := d__law_words.scope) (own := [("_law_row_here", 3)]) (by decide +kernel)) (fun _ _ _ _ _ => (pg_name (i := 3) sc__law_words.nd rfl (.inl rfl))) (fun _ _ _ _ _ => pts_nil) (fun _ _ _ _ _ => (pe_ix (r := rIxT K) ix_tup (pv 3) pe_int (fun _ _ => rfl))))
    (pss_one
      (ps_ret (pe_ifExp (PW.pt (pw_and (pt_cmpR op_in2 pe_str (pv 2) rfl) (pw_and1 (pt_cmpR op_gt (pv 1) (pe_bm PySem.F.plainAttrs_list PySem.F.slot_list_index PySem.F.type_list_index mt_index (pv 2) (pa_cons pe_str pa_nil)) (nomark _))))) (pe_lst (pa_cons pe_str pa_nil)) (pe_lst (pa_cons pe_str (pa_cons pe_str pa_nil)))))))
      , ?_⟩
    obtain ⟨vs, hS, hR⟩ := hL.inv
    have hl := rows_len hR
    refine ⟨_, rfl, a, rfl, ⟨_, hS⟩, fun D hD => ?_⟩
    refine lc_it (walk_list (xs := vs)) (fun j H3 => Same H H3 ∧ H3 D = some (.lst ((rs.take j).map fun r => V.str (wordS r.w)))) ⟨Same.new hD, upd_same⟩ (fun j H3 _ h => h.1.seq hS) ?_ ?_
    · rintro j x H3x H3 hj ⟨s3, ec⟩ ⟨rfl, hx⟩
      obtain ⟨r, er, hr2⟩ := rows_get (hR.same s3) hx
      obtain ⟨ra, rfl, hT⟩ := row_inv hr2
      refine ⟨rfl, _, rfl, ra, _, _, _, rfl, rfl, hT, at1, _, ec, ?_, s3.mut hD, ?_⟩
      · rw [List.length_map, List.length_take]
        exact small (by omega)
      · rw [upd_same, take_snoc er, List.map_append]
        rfl
    rintro H3 ⟨s3, ec⟩
    rw [hl, List.take_length] at ec
    have late : endIn (rs.take i) = true → ∀ (p : Addr), H3 p = none → Q (.ref p) (upd H3 p (.lst [.str "late"])) := fun e p hp =>
      q p [3] _ (s3.add hp) (s3.free hp) (.of upd_same) (by decide) (by decide) fun u hu => by
        rw [List.mem_singleton.mp hu]
        unfold wordAt
        rw [if_pos e]
    have early : endIn (rs.take i) = false → ∀ (p : Addr), H3 p = none → Q (.ref p) (upd H3 p (.lst [.str "load", .str "set"])) := fun e p hp =>
      q p [0, 1] _ (s3.add hp) (s3.free hp) (.of upd_same) (by decide) (by decide) fun u hu => by
        unfold wordAt
        rw [if_neg (by rw [e]; exact Bool.false_ne_true)]
        rcases List.mem_cons.mp hu with rfl | hu
        · exact .inl rfl
        · exact .inr (List.mem_singleton.mp hu)
    refine ⟨_, rfl, D, _, rfl, .inl (.of ec), rfl, flat_words rs, _, rfl, ?_⟩
    rw [in_end ok]
    cases ee : endIn rs with
    | false => exact iteF (iteF ⟨Nat.le_of_ble_eq_true rfl, early (endIn_take ee i)⟩)
    | true =>
      obtain ⟨j, r, ej, wj, nj, tk⟩ := first_end ee
      have okr := ok r (List.mem_of_getElem? ej)
      refine iteT ⟨_, rfl, _, rfl, .inl ⟨rfl, _, .of ec⟩, D, _, _, j, .str (wordS r.w), rfl, rfl, .of ec, rfl, flat_words rs, ?_, ?_, fun m z hm hz => ?_, _, _, rfl, rfl, _, rfl, ?_⟩
      · rw [List.getElem?_map, ej]
        rfl
      · rw [eqV_end okr.w, decide_eq_true wj]
      · rw [List.getElem?_map] at hz
        cases em : rs[m]? with
        | none =>
          rw [em] at hz
          cases hz
        | some q0 =>
          rw [em] at hz
          cases Option.some.inj hz
          rw [eqV_end (ok q0 (List.mem_of_getElem? em)).w, decide_eq_false (nj m q0 hm em)]
      · by_cases c : j < i
        · rw [decide_eq_true (show (j : Int) < (i : Int) by omega)]
          exact iteT ⟨Nat.le_of_ble_eq_true rfl, late (by rw [tk i, decide_eq_true c])⟩
        · rw [decide_eq_false (show ¬ (j : Int) < (i : Int) by omega)]
          exact iteF ⟨Nat.le_of_ble_eq_true rfl, early (by rw [tk i, decide_eq_false c])⟩
end
end K21
namespace K21
open PySem PySem.Spec PyProof.Rows L2 TL
theorem wide_ok : MixOk wide := ⟨by decide, by decide, fun x e => by cases e⟩
section
variable {P : Program} {w : World} {K : PySem.W.Frag} {mg : Str → Option Value} {base : Heap}
/-! ### _law_wide_right -/
def spWideR (K : PySem.W.Frag) : Sp := fun vs H Q _ => ∃ (a c : Addr) (rs lg : List Row) (B n fx : Nat), vs = [.ref a, .ref c, .int (B : Int), .int (n : Int), .int (fx : Int)] ∧ OkRows rs ∧ OkRows lg ∧ rs.length ≤ 60 ∧ lg.length ≤ 60 ∧ LogAt K H a rs ∧ LogAt K H c lg ∧ n ≤ 8 ∧
  stands (n : Int) (fx : Int) false rs = true ∧ stands (n : Int) (fx : Int) false lg = true ∧ B < n ∧ (∀ b, b ≠ B → shownF b rs = shownF b lg) ∧ (shownF B rs).1 = (shownF B lg).1 ∧ ∀ H', Same H H' → Q (.bl true) H'
theorem sc__law_wide_right : FnScope ["_law_rows", "_law_longer", "_law_board", "_law_size", "_law_kept", "_law_wide", "_law_told"] ["_law_rows", "_law_longer", "_law_board", "_law_size", "_law_kept"] d__law_wide_right.scope := ⟨rfl, rfl, rfl, by decide +kernel, rfl, by decide +kernel, by decide +kernel⟩
theorem ok__law_wide_right (T : Tx K mg) (D : Fd K mg d__law_wide_right) (mk : OkMake P w K mg base) (h_first_parted_mf : OkK P w K mg base 8 "first_parted" ["mixing", "log", "values", "many", "fixed"] (spFirst K) 3 ["many", "fixed"] (fun vs zs => vs ++ zs))
    (h_replay_fm : OkK P w K mg base 8 "replay" ["mixing", "log", "many", "fixed"] (spReplay K) 2 ["fixed", "many"] (fun vs zs => vs ++ zs.reverse)) (h__law_same : Ok P w K mg base 2 "_law_same" ["_law_found", "_law_due"] (spSame2 K))
    (h__law_parted_due : Ok P w K mg base 2 "_law_parted_due" ["_law_rows", "_law_longer", "_law_board"] (spPart K)) : Ok P w K mg base 9 "_law_wide_right" ["_law_rows", "_law_longer", "_law_board", "_law_size", "_law_kept"] (spWideR K) := by
  refine ok_mk D sc__law_wide_right (fun _ _ _ _ _ _ us hl => match us, hl with | [_, _, _, _, _], _ => rfl) (fun vs H Q E h => ?_) (fun f cdv A outer s H vs Q E hr h => ?_)
  · obtain ⟨a, c, rs, lg, B, n, fx, rfl, _⟩ := h
    rfl
  · obtain ⟨a, c, rs, lg, B, n, fx, rfl, okr, okl, lr, ll, hA, hC, n8, st, stl, hB, oth, flg, q⟩ := h
    refine ⟨_, 
    (pss_cons
      (ps_set (i := 5) sc__law_wide_right.nd rfl (.inl rfl) (pe_mkW mk T.mix hr))
    (pss_cons
      (ps_set (i := 6) sc__law_wide_right.nd rfl (.inl rfl) (pe_fk h_first_parted_mf hr (pa_cons (pv 5) (pa_cons (pv 1) (pa_cons (pe_fk h_replay_fm hr (pa_cons (pv 5) (pa_cons (pv 0) pa_nil)) (pk_cons (pv 4) (pk_cons (pv 3) pk_nil))) pa_nil))) (pk_cons (pv 3) (pk_cons (pv 4) pk_nil))))
    (pss_one
      (ps_ret (pe_f h__law_same hr (pa_cons (pv 6) (pa_cons (pe_f h__law_parted_due hr (pa_cons (pv 0) (pa_cons (pv 1) (pa_cons (pv 2) pa_nil)))) pa_nil)))))))
      , ?_⟩
    refine fun x dx hx hdx nx => ⟨x, dx, wide, rfl, wide_ok, upd_same, fun H2 k2 hM => ⟨rfl, ?_⟩⟩
    have s2 : Same H H2 := fun b o hb => by
      have nbx := ne_of_none hb hx
      refine k2 b o ?_ nbx
      rw [upd_ne nbx, upd_ne (ne_of_none hb hdx)]
      exact hb
    refine ⟨_, rfl, _, rfl, _, rfl, _, rfl, _, rfl, _, rfl, rfl, rfl, x, a, wide, rs, n, (fx : Int), rfl, wide_ok, hM, okr, lr, (hA.same s2).a, n8, st, fun v H3 s3 e3 => ?_⟩
    have s13 := s2.trans s3
    refine ⟨_, rfl, _, rfl, rfl, rfl, x, c, v, rs, lg, n, B, (fx : Int), rfl, okr, okl, lr, ll, hC.same s13, n8, stl, .of e3, hB, oth, flg, fun te H4 s4 => ?_, fun te t H4 s4 hT => ?_⟩
    · have s14 := s13.trans s4
      refine ⟨_, rfl, _, rfl, _, rfl, _, rfl, a, c, rs, lg, B, rfl, okr, okl, hA.same s14, hC.same s14, by omega, by omega, flg, fun te2 H5 s5 => ?_, fun te2 => ?_⟩
      · exact ⟨_, _, rfl, .inl ⟨rfl, rfl⟩, fun H6 s6 => q H6 ((s14.trans s5).trans s6)⟩
      · rw [te] at te2
        cases te2
    · have s14 := s13.trans s4
      refine ⟨_, rfl, _, rfl, _, rfl, _, rfl, a, c, rs, lg, B, rfl, okr, okl, hA.same s14, hC.same s14, by omega, by omega, flg, fun te2 => ?_, fun te2 t2 H5 s5 hT2 => ?_⟩
      · rw [te] at te2
        cases te2
      · exact ⟨_, _, rfl, .inr ⟨t, t2, [(B : Int), (aheadR (shownF B rs).2 (shownF B lg).2 : Nat)], rfl, rfl, Nat.le_of_ble_eq_true rfl, .inr ⟨s5.seqT hT, hT2⟩⟩, fun H6 s6 => q H6 ((s14.trans s5).trans s6)⟩
end
end K21
namespace K21
/-- the rows with one more, its note given -/
def putK (rs : List Row) (i : Nat) (r : Row) (k : Int) : List Row := rs.take i ++ [{ r with k := k }] ++ rs.drop i
theorem put_cons (rs : List Row) (i : Nat) (r : Row) (k : Int) : putK rs i r k = rs.take i ++ { r with k := k } :: rs.drop i := by
  unfold putK
  rw [List.append_assoc]
  rfl
theorem putK_len {rs : List Row} {i : Nat} {r : Row} {k : Int} (h : i ≤ rs.length) : (putK rs i r k).length = rs.length + 1 := by
  unfold putK
  rw [List.length_append, List.length_append, List.length_take, List.length_drop, List.length_singleton]
  omega
theorem putK_stands {rs : List Row} {i n fx : Nat} {r : Row} {k : Int} (st : stands (n : Int) (fx : Int) false rs = true) (hB : r.b < n) (hw : wordAt rs i r.w) : stands (n : Int) (fx : Int) false (putK rs i r k) = true := by
  rw [put_cons]
  unfold wordAt at hw
  refine stands_put (by rw [List.take_append_drop]; exact st) ?_ ?_
  · unfold canStand
    rw [decide_eq_true (show (r.b : Int) < (n : Int) by omega)]
    cases e : endIn (rs.take i) with
    | true =>
      rw [if_pos e] at hw
      rw [show isBehind { r with k := k } = true from decide_eq_true (.inl hw), decide_eq_true (show ({ r with k := k } : Row).w ≠ 4 by show r.w ≠ 4; omega)]
      rfl
    | false =>
      rw [if_neg (by rw [e]; exact Bool.false_ne_true)] at hw
      rw [show isBehind { r with k := k } = false from decide_eq_false (by show ¬ (r.w = 3 ∨ r.w = 4); omega), decide_eq_true (show ({ r with k := k } : Row).w ≠ 4 by show r.w ≠ 4; omega)]
      rfl
  · refine decide_eq_false ?_
    show ¬ r.w = 2
    split at hw <;> omega
theorem wordAt_no4 {rs : List Row} {i w : Nat} (hw : wordAt rs i w) : w ≠ 4 ∧ w < 5 ∧ w ≠ 2 := by
  unfold wordAt at hw
  split at hw <;> omega
/-- the boards that are due -/
def dueL (m : Mix) (n : Nat) (rs : List Row) (B : Nat) (g : Int) : Option Int → List Int
  | none => replayF m n rs
  | some _ => (replayF m n rs).set B g
def dueB (x k : Int) : Option Int → Bool
  | none => true
  | some k0 => decide (k % x = k0)
theorem lead_put {rs : List Row} {i n fx : Nat} {r : Row} {k x f t g : Int} {nd : Option Int} (hx : 2 < x) (ht : (f * t) % x = 1) (st : stands (n : Int) (fx : Int) false rs = true) (hB : r.b < n) (hw : wordAt rs i r.w) (hg : 0 ≤ g ∧ g < x)
    (e : noteDue x f t (rs.take i) (rs.drop i) r g = nd) : leadsTo (narrow x f) n (fx : Int) (putK rs i r k) (dueL (narrow x f) n rs r.b g nd) = dueB x k nd := by
  unfold leadsTo
  rw [putK_stands st hB hw, Bool.true_and, put_cons]
  have er : rs.take i ++ rs.drop i = rs := List.take_append_drop i rs
  have oth : ∀ b, b ≠ r.b → valOf (narrow x f) b 1 (rs.take i ++ { r with k := k } :: rs.drop i) = valOf (narrow x f) b 1 rs := fun b hb => by
    rw [valOf_other (r := { r with k := k }) (fun z => hb z.symm), er]
  cases nd with
  | none =>
    refine decide_eq_true (replayF_ext fun b hb => ?_)
    by_cases c : b = r.b
    · subst c
      rw [due_none (r := { r with k := k }) (t := t) (g := g) e, er]
    · exact oth b c
  | some k0 =>
    refine decide_eq_decide.mpr ?_
    have iff := due_iff (k := k) hx ht (wordAt_no4 hw).1 hg e
    rw [← iff]
    constructor
    · intro q
      have h1 := replayF_get (narrow x f) n (rs.take i ++ { r with k := k } :: rs.drop i) r.b hB
      have h2 : ((replayF (narrow x f) n rs).set r.b g)[r.b]? = some g := List.getElem?_set_self (by rw [replayF_len]; exact hB)
      rw [q] at h1
      exact (Option.some.inj (h1.symm.trans h2))
    · intro q
      show replayF (narrow x f) n (rs.take i ++ { r with k := k } :: rs.drop i) = (replayF (narrow x f) n rs).set r.b g
      refine List.ext_getElem? fun b => ?_
      by_cases hb : b < n
      · rw [replayF_get _ _ _ _ hb]
        by_cases c : b = r.b
        · subst c
          rw [List.getElem?_set_self (by rw [replayF_len]; exact hB), q]
        · rw [List.getElem?_set_ne (fun z => c z.symm), replayF_get _ _ _ _ hb, oth b c]
      · rw [List.getElem?_eq_none (by rw [replayF_len]; omega), List.getElem?_eq_none (by rw [List.length_set, replayF_len]; omega)]
theorem rowNum_sub (r : Row) (k k' : Int) : rowNum { r with k := k } - rowNum { r with k := k' } = k - k' := by
  rw [rowNum_k r k, rowNum_k r k']
  omega
theorem put_shown {rs : List Row} {i : Nat} {r : Row} {k : Int} {b : Nat} (h : b ≠ r.b) : shownF b rs = shownF b (putK rs i r k) := by
  rw [put_cons, shown_other (r := { r with k := k }) (fun z => h z.symm), List.take_append_drop]
theorem put_flag {rs : List Row} {i : Nat} {r : Row} {k : Int} (h4 : r.w ≠ 4) : (shownF r.b rs).1 = (shownF r.b (putK rs i r k)).1 := by
  rw [put_cons]
  have e : shownF r.b rs = shownF r.b (rs.take i ++ rs.drop i) := by rw [List.take_append_drop]
  rw [e]
  unfold shownF
  rw [List.foldl_append, List.foldl_append, List.foldl_cons]
  refine shown_flag r.b _ _ _ ?_
  unfold shownStep
  rw [if_pos rfl, if_neg h4]
theorem putK_ok {rs : List Row} {i : Nat} {r : Row} {k : Int} (ok : OkRows rs) (h : ({ r with k := k } : Row).Ok) : OkRows (putK rs i r k) := fun q hq => by
  rw [put_cons] at hq
  rcases List.mem_append.mp hq with hq | hq
  · exact ok q (List.mem_of_mem_take hq)
  · rcases List.mem_cons.mp hq with rfl | hq
    · exact h
    · exact ok q (List.mem_of_mem_drop hq)
end K21
namespace K21
open PySem PySem.Spec PyProof.Rows L2 TL
theorem Stp.sh {s : Stp} {rs : List Row} (h : s.Ok rs) : Sh 2 (stpD s) := by
  have hw : PyData.strOk s.wd = true := by
    cases s with
    | out i => exact (show PyData.strOk "out" = true by decide +kernel)
    | put i r => exact (show PyData.strOk "put" = true by decide +kernel)
    | turn i r => exact (show PyData.strOk "turn" = true by decide +kernel)
    | move i j => exact (show PyData.strOk "move" = true by decide +kernel)
  refine Sh.tuple fun d hd => ?_
  rcases List.mem_cons.mp hd with rfl | hd
  · exact .str _ hw
  rcases List.mem_cons.mp hd with rfl | hd
  · exact .int _ _
  cases s with
  | out i => cases hd
  | put i r =>
    rw [List.mem_singleton.mp hd]
    exact rowD_sh h.2
  | turn i r =>
    rw [List.mem_singleton.mp hd]
    exact rowD_sh h.1
  | move i j =>
    rw [List.mem_singleton.mp hd]
    exact .int _ _
theorem units65 {k : Nat} {A : Around} (r : Room k A) : A.units + 65 < cLine := by
  have := r.un
  omega
/-- what is known of a place and the row put there -/
structure PlF (rs : List Row) (i : Nat) (r : Row) (n fx : Nat) (x f g : Int) (nd : Option Int) (k1 : Int) : Prop where
  ok : OkRows rs
  l50 : rs.length ≤ 50
  hi : i ≤ rs.length
  okr : ∀ k, 0 ≤ k → k < 9973 → ({ r with k := k } : Row).Ok
  hB : r.b < n
  n8 : n ≤ 8
  hw : wordAt rs i r.w
  st : stands (n : Int) (fx : Int) false rs = true
  x0 : 3 ≤ x
  x1 : x ≤ 9973
  t : ∃ t, (f * t) % x = 1 ∧ noteDue x f t (rs.take i) (rs.drop i) r g = nd
  g0 : 0 ≤ g
  g1 : g < x
  k0 : 0 ≤ k1
  k9 : k1 < 9973
  hk : ∀ z, nd = some z → k1 = z
  mo : MixOk (narrow x f)
theorem PlF.nd {rs : List Row} {i : Nat} {r : Row} {n fx : Nat} {x f g k1 z : Int} (h : PlF rs i r n fx x f g (some z) k1) : 0 ≤ z ∧ z < x := by
  obtain ⟨t, _, e⟩ := h.t
  have := h.x0
  exact due_low (by omega) e
theorem PlF.lead {rs : List Row} {i : Nat} {r : Row} {n fx : Nat} {x f g k1 : Int} {nd : Option Int} (h : PlF rs i r n fx x f g nd k1) (k : Int) :
    leadsTo (narrow x f) n (fx : Int) (putK rs i r k) (dueL (narrow x f) n rs r.b g nd) = dueB x k nd := by
  obtain ⟨t, ht, e⟩ := h.t
  have := h.x0
  exact lead_put (by omega) ht h.st h.hB h.hw ⟨h.g0, h.g1⟩ e
theorem PlF.made {rs : List Row} {i : Nat} {r : Row} {n fx : Nat} {x f g k1 : Int} {nd : Option Int} (h : PlF rs i r n fx x f g nd k1) : dueB x k1 nd = true := by
  cases nd with
  | none => rfl
  | some z =>
    rw [h.hk z rfl]
    exact decide_eq_true (Int.emod_eq_of_lt h.nd.1 h.nd.2)
section
variable {P : Program} {w : World} {K : PySem.W.Frag} {mg : Str → Option Value} {base : Heap}
/-- where it stands in the heap -/
structure PlH (K : PySem.W.Frag) (rs : List Row) (i : Nat) (r : Row) (n : Nat) (x f g : Int) (nd : Option Int) (k1 : Int) (b h p a t1 v t2 : Addr) (kk : Nat) (H : Hp) : Prop where
  box : Box H b kk
  how : HowAt K H h (narrow x f) x
  mix : MixAt K H p (narrow x f)
  log : LogAt K H a rs
  na : a ≠ b
  due : SqL K H v ((dueL (narrow x f) n rs r.b g nd).map V.int)
  nv : v ≠ b
  one : SqT K H t1 (rowV { r with k := 0 })
  made : SqT K H t2 (rowV { r with k := k1 })
theorem PlH.same {rs : List Row} {i : Nat} {r : Row} {n : Nat} {x f g k1 : Int} {nd : Option Int} {b h p a t1 v t2 : Addr} {kk : Nat} {H H' : Hp} (e : Same H H') (q : PlH K rs i r n x f g nd k1 b h p a t1 v t2 kk H) : PlH K rs i r n x f g nd k1 b h p a t1 v t2 kk H' :=
  ⟨q.box.same e, q.how.same e, q.mix.same e, q.log.same e, q.na, e.seq q.due, q.nv, e.seqT q.one, e.seqT q.made⟩
theorem PlH.ke {rs : List Row} {i : Nat} {r : Row} {n : Nat} {x f g k1 : Int} {nd : Option Int} {b h p a t1 v t2 : Addr} {kk k2 : Nat} {H H' : Hp} (e : Ke b H H') (hb : Box H' b k2) (q : PlH K rs i r n x f g nd k1 b h p a t1 v t2 kk H) : PlH K rs i r n x f g nd k1 b h p a t1 v t2 k2 H' := by
  obtain ⟨l, el⟩ := q.box.at
  exact ⟨hb, q.how.ke e el, q.mix.ke e el, q.log.ke e el q.na, q.na, e.seq q.nv q.due, q.nv, e.seqT el q.one, e.seqT el q.made⟩
/-- rows[:i] + [row] + rows[i:] -/
theorem cat_at {σ : L2.St} {H : Hp} {Q : VK} {a t : Addr} {rs : List Row} {i j : Nat} {r : Row} (e3 : σ[3]? = some (some (.ref a))) (e7 : σ[7]? = some (some (.int (i : Int)))) (ej : σ[j]? = some (some (.ref t))) (hL : LogAt K H a rs) (hi : i ≤ rs.length) (l50 : rs.length ≤ 50) (hT : SqT K H t (rowV r))
    (q : ∀ (c : Addr) (H' : Hp), Same H H' → LogAt K H' c (rs.take i ++ [r] ++ rs.drop i) → Q (.ref c) H') :
    tOp rCat (tOp rCat (tSl (rSlL K) (tVar 3) tNoPart (tPart (tVar 7))) (tLst (tCons (tVar j) tNil))) (tSl (rSlL K) (tVar 3) (tPart (tVar 7)) tNoPart) σ H Q := by
  obtain ⟨vs, hS, hR⟩ := hL.inv
  have hl := rows_len hR
  refine ⟨_, e3, _, e7, _, rfl, a, vs, rfl, hS, fun p1 h1 => ?_⟩
  rw [cutV_to vs i (by omega)]
  have s1 := Same.new (o := .lst (vs.take i)) h1
  refine ⟨_, ej, Nat.le_of_ble_eq_true rfl, fun p2 h2 => ?_⟩
  have s2 := s1.add (o := .lst [.ref t]) h2
  refine ⟨p1, p2, vs.take i, [.ref t], rfl, rfl, (upd_ne (ne_of_none upd_same h2)).trans upd_same, upd_same, ?_, fun p3 h3 => ?_⟩
  · rw [List.length_take]
    exact Nat.le_of_lt (small (by show min i vs.length + 1 ≤ 100000; omega))
  have s3 := s2.add (o := .lst (vs.take i ++ [.ref t])) h3
  refine ⟨_, e3, _, e7, _, rfl, a, vs, rfl, s3.seq hS, fun p4 h4 => ?_⟩
  rw [cutV_from vs i (by omega)]
  have s4 := s3.add (o := .lst (vs.drop i)) h4
  refine ⟨p3, p4, vs.take i ++ [.ref t], vs.drop i, rfl, rfl, (upd_ne (ne_of_none upd_same h4)).trans upd_same, upd_same, ?_, fun p5 h5 => ?_⟩
  · rw [List.length_append, List.length_take, List.length_drop]
    exact Nat.le_of_lt (small (by show min i vs.length + 1 + (vs.length - i) ≤ 100000; omega))
  have s5 := s4.add (o := .lst (vs.take i ++ [.ref t] ++ vs.drop i)) h5
  refine q p5 _ s5 (.mk (.of upd_same) ?_)
  rw [List.map_append, List.map_append, List.map_take, List.map_drop]
  exact (((hR.same s5).take i).append (.one (row_mk (s5.seqT hT)))).append ((hR.same s5).drop i)
/-- one[:3] + (note,) -/
theorem row_cat {H : Hp} {Q : VK} {s1 t3 : Addr} {r : Row} {k : Int} (h1 : SqT K H s1 (cutV (rowV { r with k := 0 }) none (some 3))) (h2 : SqT K H t3 [.int k]) (q : ∀ (p : Addr) (H' : Hp), Same H H' → SqT K H' p (rowV { r with k := k }) → Q (.ref p) H') : rCatA K (.ref s1) (.ref t3) H Q :=
  ⟨s1, t3, _, _, rfl, rfl, h1, h2, Nat.le_of_ble_eq_true rfl, (fun z => by cases z), (fun _ z => by cases z), fun _ _ p hp => q p _ (Same.new hp) (.of upd_same)⟩
abbrev NPR : List Str := ["_law_box_here", "_law_how_here", "_law_own", "_law_rows", "_law_names_here", "_law_size", "_law_kept", "_law_at", "_law_board", "_law_goal", "_law_one", "_law_note_here", "_law_due", "_law_made", "_law_longer", "_law_wrong", "_law_found", "_law_again", "_law_told", "_law_step", "_law_way"]
theorem sc__law_place_right : FnScope NPR ["_law_box_here", "_law_how_here", "_law_own", "_law_rows", "_law_names_here", "_law_size", "_law_kept"] d__law_place_right.scope := ⟨rfl, rfl, rfl, by decide +kernel, rfl, by decide +kernel, by decide +kernel⟩
section
variable {f0 : Addr} {cdv : Value} {A : Around} {outer : List Env} {s : Shared} {H : Hp} {E : XK} {Q : VK}
/-- from «if len(rows) > 7» on -/
theorem place_C (T : Tx K mg) (h_mends_mf : OkK P w K mg base 10 "mends" ["mixing", "log", "values", "some", "many", "fixed"] (spMends K) 4 ["many", "fixed"] (fun vs zs => vs ++ zs)) (h_mended : Ok P w K mg base 6 "mended" ["log", "step"] (spMended K))
    (h_leads_to_mf : OkK P w K mg base 9 "leads_to" ["mixing", "log", "values", "many", "fixed"] (spLeads K) 3 ["many", "fixed"] (fun vs zs => vs ++ zs))
    (hr : Room 10 (A.deeper (envOfC d__law_place_right.qual d__law_place_right.scope s.heap.objs.size f0 cdv))) :
    ∃ t, PSs (cxOf CX0 P w K mg base NPR d__law_place_right.qual d__law_place_right.scope f0 cdv A outer s H E).nox (d__law_place_right.body.drop 12) t ∧
      ∀ (rs : List Row) (i : Nat) (r : Row) (n fx : Nat) (x f g : Int) (nd : Option Int) (k1 : Int) (b h p a t1 v t2 l : Addr) (kk : Nat) (H1 : Hp) (z14 z15 z16 z17 z18 z19 z20 : Option V), PlF rs i r n fx x f g nd k1 → PlH K rs i r n x f g nd k1 b h p a t1 v t2 kk H1 → (∀ H', Same H1 H' → Q (.bl true) H') →
        t { nx := fun _ H' => Q .non H', rt := Q } [some (.ref b), some (.ref h), some (.ref p), some (.ref a), some (.ref l), some (.int (n : Int)), some (.int (fx : Int)), some (.int (i : Int)), some (.int (r.b : Int)), some (.int g), some (.ref t1), some (optV nd), some (.ref v), some (.ref t2), z14, z15, z16, z17, z18, z19, z20] H1 := by
  refine ⟨_, 
    (pss_cons
      (ps_if (pt_cmpR op_gt (pe_callB call_len_seq (by rfl) T.len PySem.boot_len (pa_cons (pv 3) pa_nil)) pe_int (nomark _))
        (pss_one
          (ps_ret pe_bl))
        pss_nil)
    (pss_cons
      (ps_par (i := 18) (j := 19) (by rfl) sc__law_place_right.nd rfl rfl (by decide) rfl rfl (pa_cons (pe_fk h_mends_mf hr (pa_cons (pv 2) (pa_cons (pv 3) (pa_cons (pv 12) (pa_cons (pe_lst (pa_cons (pv 13) pa_nil)) pa_nil)))) (pk_cons (pv 5) (pk_cons (pv 6) pk_nil))) (pa_cons (pe_tup (pa_cons pe_str (pa_cons (pv 7) (pa_cons (pv 13) pa_nil)))) pa_nil)) (by rfl))
    (pss_cons
      (ps_for PassesOwn.never rfl (pi_list (pv 18)) (pg_name (i := 20) sc__law_place_right.nd rfl (.inl rfl))
        (pss_one
          (ps_if (pt_not (pt_val (pe_fk h_leads_to_mf hr (pa_cons (pv 2) (pa_cons (pe_f h_mended hr (pa_cons (pv 3) (pa_cons (pv 20) pa_nil))) (pa_cons (pv 12) pa_nil))) (pk_cons (pv 5) (pk_cons (pv 6) pk_nil)))))
            (pss_one
              (ps_ret pe_bl))
            pss_nil)))
    (pss_one
      (ps_ret (pe_cmpR (op_inD (units65 hr)) (pv 19) (pv 18) rfl))))))
      , ?_⟩
  intro rs i r n fx x f g nd k1 b h p a t1 v t2 l kk H1 z14 z15 z16 z17 z18 z19 z20 F G q
  obtain ⟨vs, hS, hR⟩ := G.log.inv
  have hl := rows_len hR
  refine ⟨_, rfl, a, _, rfl, .inl hS, _, _, rfl, rfl, _, rfl, ite2 (fun _ => q H1 fun _ _ e => e) (fun c => ?_)⟩
  have l7 : rs.length ≤ 7 := by
    have : ¬ (7 : Int) < (vs.length : Int) := fun z => c (decide_eq_true z)
    omega
  have okm := F.okr k1 F.k0 F.k9
  refine ⟨_, rfl, _, rfl, _, rfl, _, rfl, Nat.le_of_ble_eq_true rfl, fun pl hpl => ?_⟩
  have s2 := Same.new (o := .lst [.ref t2]) hpl
  have G2 := G.same s2
  refine ⟨_, rfl, _, rfl, rfl, rfl, p, a, v, pl, .ref t2, narrow x f, rs, dueL (narrow x f) n rs r.b g nd, { r with k := k1 }, n, (fx : Int), rfl, F.mo, G2.mix, F.ok, l7, G2.log, F.n8, .inl G2.due, .of upd_same, row_mk G2.made, okm, fun d H3 ss s3 ac leads puts => ?_⟩
  refine ⟨_, rfl, _, rfl, Nat.le_of_ble_eq_true rfl, fun t3 ht3 => ⟨_, _, rfl, ?_⟩⟩
  have s4 := Same.new (o := .tup [.str "put", .int (i : Int), .ref t2]) ht3
  have G4 := (G2.same s3).same s4
  have ac4 := ac.same s4
  have T4 : SqT K (upd H3 t3 (.tup [.str "put", .int (i : Int), .ref t2])) t3 [.str "put", .int (i : Int), .ref t2] := .of upd_same
  have s14 := (s2.trans s3).trans s4
  generalize upd H3 t3 (.tup [.str "put", .int (i : Int), .ref t2]) = H4 at *
  obtain ⟨ac0, ed, la, da, oks⟩ := ac4
  refine ⟨_, rfl, d, rfl, ⟨_, .of ed⟩, for_it (walk_list (xs := ac0)) (fun j σ H5 => Same H4 H5 ∧ ∃ z20, σ = [some (.ref b), some (.ref h), some (.ref p), some (.ref a), some (.ref l), some (.int (n : Int)), some (.int (fx : Int)), some (.int (i : Int)), some (.int (r.b : Int)), some (.int g), some (.ref t1), some (optV nd), some (.ref v), some (.ref t2), z14, z15, z16, z17, some (.ref d), some (.ref t3), z20])
    ⟨fun _ _ e => e, z20, rfl⟩ (fun j σ H5 _ e => .of (e.1 _ _ ed)) ?_ ?_⟩
  · rintro j y σ H5x H5 hj ⟨s5, z20, rfl⟩ ⟨rfl, hy⟩
    have G5 := G4.same s5
    obtain ⟨e, ee, hyd⟩ := (da.same s5).get j y hy
    obtain ⟨st, hst, rfl⟩ := List.mem_map.mp (List.mem_of_getElem? ee)
    have okS := oks st hst
    have onl := Stp.on_len okS
    refine ⟨_, rfl, _, rfl, _, rfl, a, y, rs, st, rfl, F.ok, G5.log, hyd, okS, by omega, fun b4 H6 s6 hb4 => ?_⟩
    have G6 := G5.same s6
    refine ⟨_, rfl, _, rfl, _, rfl, rfl, rfl, p, b4, v, narrow x f, st.on rs, dueL (narrow x f) n rs r.b g nd, n, (fx : Int), rfl, F.mo, G6.mix, Stp.on_ok F.ok okS, by omega, hb4.a, F.n8, .inl G6.due, fun H7 s7 => ?_⟩
    rw [leads st hst]
    exact ⟨_, rfl, iteF ⟨s5.trans (s6.trans s7), _, rfl⟩⟩
  · rintro σ H5 ⟨s5, z20, rfl⟩
    have G5 := G4.same s5
    have mem : Stp.put i { r with k := k1 } ∈ ss := puts i F.hi (by
      show leadsTo (narrow x f) n (fx : Int) (putK rs i r k1) _ = true
      rw [F.lead, F.made])
    have okp := oks _ mem
    refine ⟨_, rfl, _, rfl, stpD (.put i { r with k := k1 }), ss.map stpD, .tup (s5.seqT T4) (.cons (.str _) (.cons (.int _) (.cons (row_mk G5.made) .nil))), .lst (.of (s5 _ _ ed)) (da.same s5), (Stp.sh okp).ok, (Sh.list (n := 2) fun e he => ?_).ok, ?_⟩
    · obtain ⟨st, hst, rfl⟩ := List.mem_map.mp he
      exact Stp.sh (oks st hst)
    · have any : ((ss.map stpD).any fun z => PyData.eqv z (stpD (.put i { r with k := k1 }))) = true := List.any_eq_true.mpr ⟨_, List.mem_map.mpr ⟨_, mem, rfl⟩, eqv_self (Stp.sh okp)⟩
      rw [any]
      exact q H5 (s14.trans s5)
end
end
end K21
namespace K21
open PySem PySem.Spec PyProof.Rows L2 TL
theorem PlF.wrong {rs : List Row} {i : Nat} {r : Row} {n fx : Nat} {x f g k1 d : Int} {nd : Option Int} (h : PlF rs i r n fx x f g nd k1) (d0 : 0 ≤ d) (d1 : d < x - 1) : (k1 + 1 + d) % x ≠ k1 % x := by
  have x0 := h.x0
  intro e
  have e2 : (k1 + 1 + d - k1) % x = 0 := Int.emod_eq_emod_iff_emod_sub_eq_zero.mp e
  rw [show k1 + 1 + d - k1 = 1 + d by omega, Int.emod_eq_of_lt (by omega) (by omega)] at e2
  omega
theorem PlF.wrongB {rs : List Row} {i : Nat} {r : Row} {n fx : Nat} {x f g k1 d : Int} {nd : Option Int} (h : PlF rs i r n fx x f g nd k1) (d0 : 0 ≤ d) (d1 : d < x - 1) : dueB x ((k1 + 1 + d) % x) nd = decide (optV nd = V.non) := by
  cases nd with
  | none => rfl
  | some z =>
    have w1 := h.wrong d0 d1
    have z1 := h.nd
    have ez := h.hk z rfl
    subst ez
    rw [Int.emod_eq_of_lt z1.1 z1.2] at w1
    have x0 := h.x0
    have e1 : dueB x ((k1 + 1 + d) % x) (some k1) = false := by
      refine decide_eq_false fun e => w1 ?_
      rw [Int.emod_eq_of_lt (Int.emod_nonneg _ (by omega)) (Int.emod_lt_of_pos _ (by omega))] at e
      exact e
    rw [e1]
    exact (decide_eq_false (fun e => by cases e)).symm
section
variable {P : Program} {w : World} {K : PySem.W.Frag} {mg : Str → Option Value} {base : Heap}
variable {f0 : Addr} {cdv : Value} {A : Around} {outer : List Env} {s : Shared} {H : Hp} {E : XK} {Q : VK}
/-- from «longer = mended(..)» on -/
theorem place_B (T : Tx K mg) (h_mends_mf : OkK P w K mg base 10 "mends" ["mixing", "log", "values", "some", "many", "fixed"] (spMends K) 4 ["many", "fixed"] (fun vs zs => vs ++ zs)) (h_mended : Ok P w K mg base 6 "mended" ["log", "step"] (spMended K))
    (h_leads_to_mf : OkK P w K mg base 9 "leads_to" ["mixing", "log", "values", "many", "fixed"] (spLeads K) 3 ["many", "fixed"] (fun vs zs => vs ++ zs))
    (h_leads_to_vlmfm : OkK P w K mg base 9 "leads_to" ["mixing", "log", "values", "many", "fixed"] (spLeads K) 0 ["values", "log", "mixing", "fixed", "many"] (fun vs zs => (zs.take 3).reverse ++ (zs.drop 3).reverse))
    (h__law_wide_right : Ok P w K mg base 9 "_law_wide_right" ["_law_rows", "_law_longer", "_law_board", "_law_size", "_law_kept"] (spWideR K)) (h__law_take : Ok P w K mg base 1 "_law_take" ["_law_box_here", "_law_size"] spTake)
    (m_alike : OkM P w K mg base (mixC K) 3 "alike" ["self", "row", "other"] [] (spAlike K))
    (hr : Room 10 (A.deeper (envOfC d__law_place_right.qual d__law_place_right.scope s.heap.objs.size f0 cdv))) :
    ∃ t, PSs (cxOf CX0 P w K mg base NPR d__law_place_right.qual d__law_place_right.scope f0 cdv A outer s H E).nox (d__law_place_right.body.drop 5) t ∧
      ∀ (rs : List Row) (i : Nat) (r : Row) (n fx : Nat) (x f g : Int) (nd : Option Int) (k1 : Int) (b h p a t1 v t2 l : Addr) (kk : Nat) (H1 : Hp) (z14 z15 z16 z17 z18 z19 z20 : Option V), PlF rs i r n fx x f g nd k1 → PlH K rs i r n x f g nd k1 b h p a t1 v t2 kk H1 → kk < 1000000 → (∀ H', Ke b H1 H' → Box H' b (kk + 1) → Q (.bl true) H') →
        t { nx := fun _ H' => Q .non H', rt := Q } [some (.ref b), some (.ref h), some (.ref p), some (.ref a), some (.ref l), some (.int (n : Int)), some (.int (fx : Int)), some (.int (i : Int)), some (.int (r.b : Int)), some (.int g), some (.ref t1), some (optV nd), some (.ref v), some (.ref t2), z14, z15, z16, z17, z18, z19, z20] H1 := by
  obtain ⟨tC, pC, qC⟩ := place_C (Q := Q) (s := s) (H := H) (E := E) (outer := outer) T h_mends_mf h_mended h_leads_to_mf hr
  refine ⟨_, 
    (pss_cons
      (ps_set (i := 14) sc__law_place_right.nd rfl (.inl rfl) (pe_f h_mended hr (pa_cons (pv 3) (pa_cons (pe_tup (pa_cons pe_str (pa_cons (pv 7) (pa_cons (pv 13) pa_nil)))) pa_nil))))
    (pss_cons
      (ps_if (PW.pt (pw_or (pt_cmpR (op_neD hr.units) (pv 14) (pe_op op_cat (pe_op op_cat (pe_slice (r := rSlL K) sl_list (pv 3) po_none (po_some (pv 7))) (pe_lst (pa_cons (pv 13) pa_nil))) (pe_slice (r := rSlL K) sl_list (pv 3) (po_some (pv 7)) po_none)) (nomark _)) (pw_or1 (pt_not (pt_val (pe_fk h_leads_to_mf hr (pa_cons (pv 2) (pa_cons (pv 14) (pa_cons (pv 12) pa_nil))) (pk_cons (pv 5) (pk_cons (pv 6) pk_nil))))))))
        (pss_one
          (ps_ret pe_bl))
        pss_nil)
    (pss_cons
      (ps_if (pt_not (pt_val (pe_f h__law_wide_right hr (pa_cons (pv 3) (pa_cons (pv 14) (pa_cons (pv 8) (pa_cons (pv 5) (pa_cons (pv 6) pa_nil))))))))
        (pss_one
          (ps_ret pe_bl))
        pss_nil)
    (pss_cons
      (ps_set (i := 15) sc__law_place_right.nd rfl (.inl rfl) (pe_op op_catA (pe_slice (r := rSlT K) sl_tup (pv 10) po_none (po_some pe_int)) (pe_tup (pa_cons (pe_op op_mod (pe_op op_add (pe_op op_add (pe_ix (r := rIxT K) ix_tup (pv 13) pe_int (fun _ _ => rfl)) pe_int) (pe_f h__law_take hr (pa_cons (pv 0) (pa_cons (pe_op op_sub (pe_ix (r := rIxT K) ix_tup (pv 1) pe_int (fun _ _ => rfl)) pe_int) pa_nil)))) (pe_ix (r := rIxT K) ix_tup (pv 1) pe_int (fun _ _ => rfl))) pa_nil))))
    (pss_cons
      (ps_set (i := 16) sc__law_place_right.nd rfl (.inl rfl) (pe_fk0 h_leads_to_vlmfm hr (pk_cons (pv 12) (pk_cons (pe_op op_cat (pe_op op_cat (pe_slice (r := rSlL K) sl_list (pv 3) po_none (po_some (pv 7))) (pe_lst (pa_cons (pv 15) pa_nil))) (pe_slice (r := rSlL K) sl_list (pv 3) (po_some (pv 7)) po_none)) (pk_cons (pv 2) (pk_cons (pv 6) (pk_cons (pv 5) pk_nil)))))))
    (pss_cons
      (ps_if (PW.pt (pw_or (pt_cmpR op_ne (pv 16) (pe_cmpR op_isN (pv 11) pe_non (nomark _)) (nomark _)) (pw_or1 (pt_cmpR op_ne (pe_m m_alike T.cl hr (pv 2) (pa_cons (pv 13) (pa_cons (pv 15) pa_nil))) (pe_cmpR op_eq (pe_op op_mod (pe_ix (r := rIxT K) ix_tup (pv 13) pe_int (fun _ _ => rfl)) (pe_ix (r := rIxT K) ix_tup (pv 1) pe_int (fun _ _ => rfl))) (pe_ix (r := rIxT K) ix_tup (pv 15) pe_int (fun _ _ => rfl)) (nomark _)) (nomark _)))))
        (pss_one
          (ps_ret pe_bl))
        pss_nil)
    (pss_cons
      (ps_if (pt_cmpR op_notN (pv 11) pe_non (nomark _))
        (pss_cons
          (ps_set (i := 17) sc__law_place_right.nd rfl (.inl rfl) (pe_op op_catA (pe_slice (r := rSlT K) sl_tup (pv 10) po_none (po_some pe_int)) (pe_tup (pa_cons (pe_op op_add (pv 11) (pe_op op_mul (pe_ix (r := rIxT K) ix_tup (pv 1) pe_int (fun _ _ => rfl)) (pe_op op_fdiv (pe_op op_sub pe_int (pv 11)) (pe_ix (r := rIxT K) ix_tup (pv 1) pe_int (fun _ _ => rfl))))) pa_nil))))
        (pss_cons
          (ps_set (i := 14) sc__law_place_right.nd rfl (.inl rfl) (pe_op op_cat (pe_op op_cat (pe_slice (r := rSlL K) sl_list (pv 3) po_none (po_some (pv 7))) (pe_lst (pa_cons (pv 17) pa_nil))) (pe_slice (r := rSlL K) sl_list (pv 3) (po_some (pv 7)) po_none)))
        (pss_one
          (ps_if (PW.pt (pw_or (pt_not (pt_val (pe_m m_alike T.cl hr (pv 2) (pa_cons (pv 13) (pa_cons (pv 17) pa_nil))))) (pw_or1 (pt_not (pt_val (pe_fk h_leads_to_mf hr (pa_cons (pv 2) (pa_cons (pv 14) (pa_cons (pv 12) pa_nil))) (pk_cons (pv 5) (pk_cons (pv 6) pk_nil))))))))
            (pss_one
              (ps_ret pe_bl))
            pss_nil))))
        pss_nil)
    pC)))))))
      , ?_⟩
  intro rs i r n fx x f g nd k1 b h p a t1 v t2 l kk H1 z14 z15 z16 z17 z18 z19 z20 F G hkk q
  have okm := F.okr k1 F.k0 F.k9
  have x0 := F.x0
  have x1 := F.x1
  have l50 := F.l50
  have ok1 := putK_ok (i := i) F.ok okm
  have len1 := putK_len (r := r) (k := k1) F.hi
  refine ⟨_, rfl, _, rfl, _, rfl, Nat.le_of_ble_eq_true rfl, fun t3 ht3 => ?_⟩
  have s2 := Same.new (o := .tup [.str "put", .int (i : Int), .ref t2]) ht3
  have G2 := G.same s2
  refine ⟨a, .ref t3, rs, .put i { r with k := k1 }, rfl, F.ok, G2.log, .tup (.of upd_same) (.cons (.str _) (.cons (.int _) (.cons (row_mk G2.made) .nil))), ⟨F.hi, okm⟩, by omega, fun c H3 s3 hc => ?_⟩
  have hc : LogAt K H3 c (putK rs i r k1) := hc
  have G3 := G2.same s3
  have s13 := s2.trans s3
  refine ⟨_, rfl, ?_⟩
  refine cat_at (j := 13) rfl rfl rfl G3.log F.hi F.l50 G3.made fun c2 H4 s4 hc2 => ?_
  have hc2 : LogAt K H4 c2 (putK rs i r k1) := hc2
  have G4 := G3.same s4
  have shL := logD_sh ok1
  refine ⟨_, _, hc.same s4, hc2, shL.ok, shL.ok, _, rfl, ?_⟩
  rw [eqv_self shL]
  refine iteF ⟨_, rfl, _, rfl, _, rfl, _, rfl, _, rfl, rfl, rfl, p, c, v, narrow x f, putK rs i r k1, dueL (narrow x f) n rs r.b g nd, n, (fx : Int), rfl, F.mo, G4.mix, ok1, by omega, (hc.same s4).a, F.n8, .inl G4.due, fun H5 s5 => ?_⟩
  rw [F.lead, F.made]
  refine ⟨_, rfl, iteF ?_⟩
  have G5 := G4.same s5
  refine ⟨_, rfl, _, rfl, _, rfl, _, rfl, _, rfl, a, c, rs, putK rs i r k1, r.b, n, fx, rfl, F.ok, ok1, by omega, by omega, G5.log, hc.same (s4.trans s5), F.n8, F.st, putK_stands F.st F.hB F.hw, F.hB, fun b hb => put_shown hb, put_flag (wordAt_no4 F.hw).1, fun H6 s6 => ⟨_, rfl, iteF ?_⟩⟩
  have G6 := G5.same s6
  have s16 := s13.trans (s4.trans (s5.trans s6))
  refine ⟨_, rfl, _, rfl, t1, _, rfl, G6.one, (fun z => by cases z.2), fun p7 hp7 => ?_⟩
  have s7 := Same.new (o := .tup (cutV (rowV { r with k := 0 }) none (some 3))) hp7
  have G7 := G6.same s7
  refine ⟨_, rfl, t2, _, _, _, rfl, rfl, G7.made, at3, _, _, rfl, rfl, _, rfl, _, rfl, h, _, _, _, rfl, rfl, G7.how.t, at0, _, _, rfl, rfl, b, x - 1, kk, rfl, by omega, by omega, G7.box, by omega, fun d H8 d0 d1 k8 b8 => ⟨_, _, rfl, rfl, ?_⟩⟩
  have G8 := G7.ke k8 b8
  refine ⟨_, rfl, h, _, _, _, rfl, rfl, G8.how.t, at0, _, _, rfl, rfl, (show (0 : Int) < x by omega), Nat.le_of_ble_eq_true rfl, fun t9 ht9 => ?_⟩
  have s9 := Same.new (o := .tup [.int ((k1 + 1 + d) % x)]) ht9
  obtain ⟨l7, e7⟩ := G7.box.at
  have c8 : SqT K H8 p7 (cutV (rowV { r with k := 0 }) none (some 3)) := k8.seqT e7 (.of upd_same)
  refine row_cat (r := r) (s9.seqT c8) (.of upd_same) fun t10 H10 s10 hT10 => ?_
  have kw0 : 0 ≤ (k1 + 1 + d) % x := Int.emod_nonneg _ (by omega)
  have kw1 : (k1 + 1 + d) % x < x := Int.emod_lt_of_pos _ (by omega)
  have okw := F.okr _ kw0 (by omega)
  have G10 := G8.same (s9.trans s10)
  have k1X : Ke b H1 H10 := ((Ke.of s16).trans ((Ke.of s7).trans k8)).trans (.of (s9.trans s10))
  have wr := F.wrong d0 d1
  have wrB := F.wrongB d0 d1
  have F2 := F.lead ((k1 + 1 + d) % x)
  rw [wrB] at F2
  generalize (k1 + 1 + d) % x = kW at *
  have okw1 := putK_ok (i := i) F.ok okw
  have lenw := putK_len (r := r) (k := kW) F.hi
  refine ⟨_, rfl, ?_⟩
  refine cat_at (j := 15) rfl rfl rfl G10.log F.hi F.l50 hT10 fun c3 H11 s11 hc3 => ?_
  have hc3 : LogAt K H11 c3 (putK rs i r kW) := hc3
  have G11 := G10.same s11
  refine ⟨_, rfl, _, rfl, _, rfl, rfl, p, c3, v, narrow x f, putK rs i r kW, dueL (narrow x f) n rs r.b g nd, n, (fx : Int), rfl, F.mo, G11.mix, okw1, by omega, hc3.a, F.n8, .inl G11.due, fun H12 s12 => ?_⟩
  rw [F2]
  have G12 := G11.same s12
  have hT12 := (s11.trans s12).seqT hT10
  refine ⟨_, rfl, _, rfl, rfl, rfl, _, rfl, iteNS rfl ?_⟩
  obtain ⟨dx, hp⟩ := G12.mix
  refine ⟨_, rfl, p, dx, _, rfl, hp, mixFs_no _ (by decide +kernel) (by decide +kernel), _, rfl, _, rfl, p, narrow x f, x, _, _, { r with k := k1 }, { r with k := kW }, rfl, F.mo, ⟨dx, hp⟩, rfl, okm, okw, row_mk G12.made, row_mk hT12, ?_⟩
  rw [rowNum_sub]
  have ea : decide ((k1 - kW) % x = 0) = false := decide_eq_false fun z => wr (by
    have z2 : k1 % x = kW % x := Int.emod_eq_emod_iff_emod_sub_eq_zero.mpr z
    rw [z2, Int.emod_eq_of_lt kw0 kw1])
  have eb : decide (V.int (k1 % x) = V.int kW) = false := decide_eq_false fun z => wr (V.int.inj z).symm
  rw [ea]
  refine ⟨_, rfl, t2, _, _, _, rfl, rfl, G12.made, at3, _, rfl, h, _, _, _, rfl, rfl, G12.how.t, at0, _, _, rfl, rfl, (show (0 : Int) < x by omega), _, rfl, t10, _, _, _, rfl, rfl, hT12, at3, rfl, rfl, _, rfl, iteNS (by show V.bl false = V.bl (decide (V.int (k1 % x) = V.int kW)); rw [eb]) ?_⟩
  have k1Y : Ke b H1 H12 := k1X.trans (.of (s11.trans s12))
  cases nd with
  | none => exact ⟨_, rfl, rfl, _, rfl, iteF (qC rs i r n fx x f g none k1 b h p a t1 v t2 l (kk + 1) H12 _ _ _ _ _ _ _ F G12 fun H' s' => q H' (k1Y.trans (.of s')) (G12.box.same s'))⟩
  | some z =>
    obtain ⟨zn0, zn1⟩ := F.nd
    have ez := F.hk z rfl
    subst ez
    refine ⟨_, rfl, rfl, _, rfl, iteT ?_⟩
    have dv0 : 0 ≤ (9972 - k1) / x := Int.ediv_nonneg (by omega) (by omega)
    have dv1 : x * ((9972 - k1) / x) ≤ 9972 - k1 := Int.mul_ediv_self_le (by omega)
    have dv2 : 0 ≤ x * ((9972 - k1) / x) := Int.mul_nonneg (by omega) dv0
    refine ⟨_, rfl, _, rfl, t1, _, rfl, G12.one, (fun z => by cases z.2), fun p13 hp13 => ?_⟩
    have s13' := Same.new (o := .tup (cutV (rowV { r with k := 0 }) none (some 3))) hp13
    have G13 := G12.same s13'
    refine ⟨_, rfl, _, rfl, h, _, _, _, rfl, rfl, G13.how.t, at0, _, rfl, _, _, rfl, rfl, _, rfl, h, _, _, _, rfl, rfl, G13.how.t, at0, _, _, rfl, rfl, ⟨by omega, by omega⟩, _, _, rfl, rfl, .inl ⟨by omega, by omega⟩, _, _, rfl, rfl, Nat.le_of_ble_eq_true rfl, fun t14 ht14 => ?_⟩
    have s14 := Same.new (o := .tup [.int (k1 + x * ((9972 - k1) / x))]) ht14
    refine row_cat (r := r) (s14.seqT (.of upd_same)) (.of upd_same) fun t15 H15 s15 hT15 => ?_
    have okA := F.okr (k1 + x * ((9972 - k1) / x)) (by omega) (by omega)
    have FA := F.lead (k1 + x * ((9972 - k1) / x))
    have eA : (k1 + x * ((9972 - k1) / x)) % x = k1 := by
      rw [Int.add_mul_emod_self_left, Int.emod_eq_of_lt zn0 zn1]
    have eB : dueB x (k1 + x * ((9972 - k1) / x)) (some k1) = true := decide_eq_true eA
    have eC : (k1 - (k1 + x * ((9972 - k1) / x))) % x = 0 := by
      rw [show k1 - (k1 + x * ((9972 - k1) / x)) = x * (-((9972 - k1) / x)) by rw [Int.mul_neg]; omega]
      exact Int.mul_emod_right _ _
    rw [eB] at FA
    have s135 := s13'.trans (s14.trans s15)
    have G15 := G12.same s135
    clear s15
    generalize k1 + x * ((9972 - k1) / x) = kA at *
    have okA1 := putK_ok (i := i) F.ok okA
    have lenA := putK_len (r := r) (k := kA) F.hi
    refine cat_at (j := 17) rfl rfl rfl G15.log F.hi F.l50 hT15 fun c4 H16 s16' hc4 => ?_
    have hc4 : LogAt K H16 c4 (putK rs i r kA) := hc4
    have G16 := G15.same s16'
    have hT16 := s16'.seqT hT15
    obtain ⟨dx2, hp2⟩ := G16.mix
    refine ⟨_, rfl, p, dx2, _, rfl, hp2, mixFs_no _ (by decide +kernel) (by decide +kernel), _, rfl, _, rfl, p, narrow x f, x, _, _, { r with k := k1 }, { r with k := kA }, rfl, F.mo, ⟨dx2, hp2⟩, rfl, okm, okA, row_mk G16.made, row_mk hT16, ?_⟩
    rw [rowNum_sub, decide_eq_true eC]
    refine ⟨_, rfl, iteF ⟨_, rfl, _, rfl, _, rfl, _, rfl, _, rfl, rfl, rfl, p, c4, v, narrow x f, putK rs i r kA, dueL (narrow x f) n rs r.b g (some k1), n, (fx : Int), rfl, F.mo, G16.mix, okA1, by omega, hc4.a, F.n8, .inl G16.due, fun H17 s17 => ?_⟩⟩
    rw [FA]
    refine ⟨_, rfl, iteF ?_⟩
    have s18 := s135.trans (s16'.trans s17)
    exact qC rs i r n fx x f g (some k1) k1 b h p a t1 v t2 l (kk + 1) H17 _ _ _ _ _ _ _ F (G16.same s17) fun H' s' => q H' (k1Y.trans (.of (s18.trans s'))) ((G16.same s17).box.same s')
end
end K21
namespace K21
open PySem PySem.Spec PyProof.Rows L2 TL
section
variable {P : Program} {w : World} {K : PySem.W.Frag} {mg : Str → Option Value} {base : Heap}
/-- what stands when a turn's rows are drawn -/
structure Turn0 (K : PySem.W.Frag) (b h p a l : Addr) (m : Mix) (x : Int) (rs : List Row) (nm : List (List Nat)) (n fx kk : Nat) (H : Hp) : Prop where
  box : Box H b kk
  how : HowAt K H h m x
  mix : MixAt K H p m
  log : LogAt K H a rs
  na : a ≠ b
  nms : NamesAt K H b l nm
theorem Turn0.same {b h p a l : Addr} {m : Mix} {x : Int} {rs : List Row} {nm : List (List Nat)} {n fx kk : Nat} {H H' : Hp} (e : Same H H') (q : Turn0 K b h p a l m x rs nm n fx kk H) : Turn0 K b h p a l m x rs nm n fx kk H' :=
  ⟨q.box.same e, q.how.same e, q.mix.same e, q.log.same e, q.na, q.nms.ke (.of e)⟩
theorem Turn0.ke {b h p a l : Addr} {m : Mix} {x : Int} {rs : List Row} {nm : List (List Nat)} {n fx kk k2 : Nat} {H H' : Hp} (e : Ke b H H') (hb : Box H' b k2) (q : Turn0 K b h p a l m x rs nm n fx kk H) : Turn0 K b h p a l m x rs nm n fx k2 H' := by
  obtain ⟨lb, el⟩ := q.box.at
  exact ⟨hb, q.how.ke e el, q.mix.ke e el, q.log.ke e el q.na, q.na, q.nms.ke e⟩
/-! ### _law_place_right -/
def spPlace (K : PySem.W.Frag) : Sp := fun vs H Q _ => ∃ (b h p a l : Addr) (m : Mix) (x : Int) (rs : List Row) (nm : List (List Nat)) (n fx k : Nat), vs = [.ref b, .ref h, .ref p, .ref a, .ref l, .int (n : Int), .int (fx : Int)] ∧ Turn0 K b h p a l m x rs nm n fx k H ∧ k < 900000 ∧ OkRows rs ∧ rs.length ≤ 50 ∧ 0 < n ∧ n ≤ 8 ∧
  stands (n : Int) (fx : Int) false rs = true ∧ ∀ H', Ke b H H' → Box H' b (k + 20) → Q (.bl true) H'
theorem ok__law_place_right (T : Tx K mg) (D : Fd K mg d__law_place_right) (h_mends_mf : OkK P w K mg base 10 "mends" ["mixing", "log", "values", "some", "many", "fixed"] (spMends K) 4 ["many", "fixed"] (fun vs zs => vs ++ zs)) (h_mended : Ok P w K mg base 6 "mended" ["log", "step"] (spMended K))
    (h_leads_to_mf : OkK P w K mg base 9 "leads_to" ["mixing", "log", "values", "many", "fixed"] (spLeads K) 3 ["many", "fixed"] (fun vs zs => vs ++ zs))
    (h_leads_to_vlmfm : OkK P w K mg base 9 "leads_to" ["mixing", "log", "values", "many", "fixed"] (spLeads K) 0 ["values", "log", "mixing", "fixed", "many"] (fun vs zs => (zs.take 3).reverse ++ (zs.drop 3).reverse))
    (h__law_wide_right : Ok P w K mg base 9 "_law_wide_right" ["_law_rows", "_law_longer", "_law_board", "_law_size", "_law_kept"] (spWideR K)) (h__law_take : Ok P w K mg base 1 "_law_take" ["_law_box_here", "_law_size"] spTake)
    (m_alike : OkM P w K mg base (mixC K) 3 "alike" ["self", "row", "other"] [] (spAlike K)) (h__law_pick : Ok P w K mg base 2 "_law_pick" ["_law_box_here", "_law_things"] (spPick K)) (h__law_words : Ok P w K mg base 1 "_law_words" ["_law_rows", "_law_at"] (spWords K))
    (h__law_note_due : Ok P w K mg base 5 "_law_note_due" ["_law_how_here", "_law_rows", "_law_at", "_law_row_here", "_law_goal"] (spDue K)) (h__law_replay : Ok P w K mg base 4 "_law_replay" ["_law_how_here", "_law_rows", "_law_size"] (spLReplay K)) :
    Ok P w K mg base 11 "_law_place_right" ["_law_box_here", "_law_how_here", "_law_own", "_law_rows", "_law_names_here", "_law_size", "_law_kept"] (spPlace K) := by
  refine ok_mk D sc__law_place_right (fun _ _ _ _ _ _ us hl => match us, hl with | [_, _, _, _, _, _, _], _ => rfl) (fun vs H Q E h => ?_) (fun f0 cdv A outer s H vs Q E hr h => ?_)
  · obtain ⟨b, h, p, a, l, m, x, rs, nm, n, fx, k, rfl, _⟩ := h
    rfl
  · obtain ⟨b, h, p, a, l, m, x, rs, nm, n, fx, k, rfl, T0, hk, ok, l50, n0, n8, st, q⟩ := h
    obtain ⟨tB, pB, qB⟩ := place_B (Q := Q) (s := s) (H := H) (E := E) (outer := outer) T h_mends_mf h_mended h_leads_to_mf h_leads_to_vlmfm h__law_wide_right h__law_take m_alike hr
    refine ⟨_, 
    (pss_cons
      (ps_par3 (i := 7) (j := 8) (l := 9) (by rfl) sc__law_place_right.nd rfl rfl rfl (by decide) (by decide) (by decide) rfl rfl rfl (pa_cons (pe_f h__law_take hr (pa_cons (pv 0) (pa_cons (pe_op op_add (pe_callB call_len_seq (by rfl) T.len PySem.boot_len (pa_cons (pv 3) pa_nil)) pe_int) pa_nil))) (pa_cons (pe_f h__law_take hr (pa_cons (pv 0) (pa_cons (pv 5) pa_nil))) (pa_cons (pe_f h__law_take hr (pa_cons (pv 0) (pa_cons (pe_ix (r := rIxT K) ix_tup (pv 1) pe_int (fun _ _ => rfl)) pa_nil))) pa_nil))) (by rfl))
    (pss_cons
      (ps_set (i := 10) sc__law_place_right.nd rfl (.inl rfl) (pe_tup (pa_cons (pv 8) (pa_cons (pe_f h__law_pick hr (pa_cons (pv 0) (pa_cons (pe_f h__law_words hr (pa_cons (pv 3) (pa_cons (pv 7) pa_nil))) pa_nil))) (pa_cons (pe_f h__law_pick hr (pa_cons (pv 0) (pa_cons (pv 4) pa_nil))) (pa_cons pe_int pa_nil))))))
    (pss_cons
      (ps_par (i := 11) (j := 12) (by rfl) sc__law_place_right.nd rfl rfl (by decide) rfl rfl (pa_cons (pe_f h__law_note_due hr (pa_cons (pv 1) (pa_cons (pv 3) (pa_cons (pv 7) (pa_cons (pv 10) (pa_cons (pv 9) pa_nil)))))) (pa_cons (pe_f h__law_replay hr (pa_cons (pv 1) (pa_cons (pv 3) (pa_cons (pv 5) pa_nil)))) pa_nil)) (by rfl))
    (pss_cons
      (ps_if (pt_cmpR op_notN (pv 11) pe_non (nomark _))
        (pss_one
          (ps_asg (pv 9) (pg_sub (pv 12) (pv 8) set_list)))
        pss_nil)
    (pss_cons
      (ps_set (i := 13) sc__law_place_right.nd rfl (.inl rfl) (pe_op op_catA (pe_slice (r := rSlT K) sl_tup (pv 10) po_none (po_some pe_int)) (pe_tup (pa_cons (pe_ifExp (pt_cmpR op_isN (pv 11) pe_non (nomark _)) (pe_f h__law_take hr (pa_cons (pv 0) (pa_cons pe_int pa_nil))) (pv 11)) pa_nil))))
    pB)))))
      , ?_⟩
    obtain ⟨wd, f⟩ := m
    have ewd : wd = some x := T0.how.wd
    subst ewd
    obtain ⟨vs, hS, hR⟩ := T0.log.inv
    have hl := rows_len hR
    have x0 := T0.how.x0
    have x1 := T0.how.x1
    refine ⟨_, rfl, _, rfl, a, _, rfl, .inl hS, _, _, rfl, rfl, b, _, k, rfl, by omega, by omega, T0.box, by omega, fun i0 H1 i1 i2 k1 b1 => ?_⟩
    have T1 := T0.ke k1 b1
    refine ⟨_, rfl, _, rfl, b, _, k + 1, rfl, by omega, by omega, T1.box, by omega, fun B0 H2 B1 B2 k2 b2 => ?_⟩
    have T2 := T1.ke k2 b2
    refine ⟨_, rfl, _, rfl, h, _, _, _, rfl, rfl, T2.how.t, at0, b, x, k + 2, rfl, by omega, by omega, T2.box, by omega, fun g H3 g0 g1 k3 b3 => ⟨_, _, _, rfl, ?_⟩⟩
    have T3 := T2.ke k3 b3
    obtain ⟨i, rfl⟩ := Int.eq_ofNat_of_zero_le i1
    obtain ⟨B, rfl⟩ := Int.eq_ofNat_of_zero_le B1
    have hi : i ≤ rs.length := by omega
    have hB : B < n := by omega
    refine ⟨_, rfl, _, rfl, _, rfl, _, rfl, a, rs, i, rfl, ok, T3.log, by omega, fun pw ws H4 s4 hpw hws w0 w2 ww => ?_⟩
    have T4 := T3.same s4
    refine ⟨b, pw, _, k + 3, rfl, hws, T3.box.ne hpw, by rw [List.length_map]; exact w0, by rw [List.length_map]; omega, T4.box, by omega, fun v5 H5 hv5 k5 b5 => ?_⟩
    have T5 := T4.ke k5 b5
    obtain ⟨u, hu, rfl⟩ := List.mem_map.mp hv5
    have hw := ww u hu
    refine ⟨_, rfl, _, rfl, b, l, _, k + 4, rfl, T5.nms.s, T5.nms.n, by rw [List.length_map]; exact T5.nms.l0, by rw [List.length_map]; exact T5.nms.l1, T5.box, by omega, fun v6 H6 hv6 k6 b6 => ⟨Nat.le_of_ble_eq_true rfl, fun t1 ht1 => ?_⟩⟩
    have T6 := T5.ke k6 b6
    obtain ⟨nn, hnn, rfl⟩ := List.mem_map.mp hv6
    have okn := T6.nms.ok nn hnn
    have s7 := Same.new (o := .tup [.int (B : Int), .str (wordS u), .str (nameS nn), .int 0]) ht1
    have T7 := T6.same s7
    have O7 : SqT K (upd H6 t1 (.tup [.int (B : Int), .str (wordS u), .str (nameS nn), .int 0])) t1 (rowV ⟨B, u, nn, 0⟩) := .of upd_same
    have kk7 : Ke b H (upd H6 t1 (.tup [.int (B : Int), .str (wordS u), .str (nameS nn), .int 0])) := (((((k1.trans k2).trans k3).trans (.of s4)).trans k5).trans k6).trans (.of s7)
    generalize upd H6 t1 (.tup [.int (B : Int), .str (wordS u), .str (nameS nn), .int 0]) = H7 at *
    have okr : ∀ z : Int, 0 ≤ z → z < 9973 → (⟨B, u, nn, z⟩ : Row).Ok := fun z z0 z1 => by
      have w4 := wordAt_no4 hw
      refine ⟨by show B < 8; omega, w4.2.1, okn, z0, ?_⟩
      show z < noteTop u
      unfold noteTop
      rw [if_neg (by omega)]
      exact z1
    refine ⟨_, rfl, _, rfl, _, rfl, _, rfl, _, rfl, h, a, t1, ⟨some x, f⟩, x, g, rs, i, ⟨B, u, nn, 0⟩, rfl, T7.how, ok, T7.log, hi, O7, okr 0 (by decide) (by decide), rfl, g0, g1, fun t H8 ht s8 => ?_⟩
    have T8 := T7.same s8
    refine ⟨_, rfl, _, rfl, _, rfl, h, a, ⟨some x, f⟩, x, rs, n, rfl, T8.how, ok, T8.log, n8, fun r hr => Int.ofNat_lt.mp (stands_board st r hr), fun v H9 s9 hv ev => ⟨_, _, rfl, ?_⟩⟩
    have T9 := T8.same s9
    have nv := T8.box.ne hv
    have kk9 := kk7.trans (.of (s8.trans s9))
    have O9 := (s8.trans s9).seqT O7
    refine ⟨_, rfl, rfl, _, rfl, ?_⟩
    have mkF : ∀ (nd : Option Int) (k1 : Int), noteDue x f t (rs.take i) (rs.drop i) ⟨B, u, nn, 0⟩ g = nd → 0 ≤ k1 → k1 < 9973 → (∀ z, nd = some z → k1 = z) → PlF rs i ⟨B, u, nn, 0⟩ n fx x f g nd k1 := fun nd k1 e z0 z1 hz =>
      ⟨ok, l50, hi, okr, hB, n8, hw, st, x0, x1, ⟨t, ht, e⟩, g0, g1, z0, z1, hz, T0.how.ok⟩
    cases hnd : noteDue x f t (rs.take i) (rs.drop i) ⟨B, u, nn, 0⟩ g with
    | none =>
      refine iteF ⟨_, rfl, _, rfl, t1, _, rfl, O9, (fun z => by cases z.2), fun p10 hp10 => ?_⟩
      have s10 := Same.new (o := .tup (cutV (rowV ⟨B, u, nn, 0⟩) none (some 3))) hp10
      have T10 := T9.same s10
      refine ⟨_, rfl, rfl, _, rfl, iteT ⟨_, rfl, b, 9973, k + 5, rfl, by decide, by decide, T10.box, by omega, fun k1 H11 z0 z1 k11 b11 => ⟨Nat.le_of_ble_eq_true rfl, fun t12 ht12 => ?_⟩⟩⟩
      obtain ⟨l10, e10⟩ := T10.box.at
      have T11 := T10.ke k11 b11
      have s12 := Same.new (o := .tup [.int k1]) ht12
      refine row_cat (r := ⟨B, u, nn, 0⟩) (s12.seqT (k11.seqT e10 (.of upd_same))) (.of upd_same) fun t2 H13 s13 hT2 => ?_
      have T13 := (T11.same s12).same s13
      have k13 := ((Ke.of s10).trans k11).trans ((Ke.of s12).trans (.of s13))
      obtain ⟨l9, e9⟩ := T9.box.at
      refine qB rs i ⟨B, u, nn, 0⟩ n fx x f g none k1 b h p a t1 v t2 l (k + 6) H13 _ _ _ _ _ _ _ (mkF none k1 hnd z0 z1 (fun z hz => by cases hz)) ⟨T13.box, T13.how, T13.mix, T13.log, T13.na, k13.seq nv (.of ev), nv, k13.seqT e9 O9, hT2⟩ (by omega) fun H' k' b' => ?_
      exact q H' ((kk9.trans k13).trans k') (b'.up (by omega))
    | some k1 =>
      have lw := due_low (show 2 < x by omega) hnd
      have lv : B < ((replayF ⟨some x, f⟩ n rs).map V.int).length := by
        rw [List.length_map, replayF_len]
        exact hB
      refine iteT ⟨_, rfl, _, rfl, _, rfl, v, _, _, B, rfl, rfl, ev, ixN_nat lv, ?_⟩
      have sU : Same H8 (upd H9 v (.lst (((replayF ⟨some x, f⟩ n rs).map V.int).set B (.int g)))) := s9.mut hv
      have TU := T8.same sU
      have OU := sU.seqT (s8.seqT O7)
      have kkU := (kk7.trans (.of s8)).trans (.of sU)
      have eU : (upd H9 v (.lst (((replayF ⟨some x, f⟩ n rs).map V.int).set B (.int g)))) v = some (.lst ((dueL (narrow x f) n rs B g (some k1)).map V.int)) := by
        rw [upd_same]
        show _ = some (HO.lst (((replayF ⟨some x, f⟩ n rs).set B g).map V.int))
        rw [List.map_set]
      generalize upd H9 v (.lst (((replayF ⟨some x, f⟩ n rs).map V.int).set B (.int g))) = HU at *
      refine ⟨_, rfl, _, rfl, t1, _, rfl, OU, (fun z => by cases z.2), fun p10 hp10 => ?_⟩
      have s10 := Same.new (o := .tup (cutV (rowV ⟨B, u, nn, 0⟩) none (some 3))) hp10
      refine ⟨_, rfl, rfl, _, rfl, iteF ⟨_, rfl, Nat.le_of_ble_eq_true rfl, fun t12 ht12 => ?_⟩⟩
      have s12 := Same.new (o := .tup [.int k1]) ht12
      refine row_cat (r := ⟨B, u, nn, 0⟩) (s12.seqT (.of upd_same)) (.of upd_same) fun t2 H13 s13 hT2 => ?_
      have sX := s10.trans (s12.trans s13)
      have T13 := TU.same sX
      refine qB rs i ⟨B, u, nn, 0⟩ n fx x f g (some k1) k1 b h p a t1 v t2 l (k + 5) H13 _ _ _ _ _ _ _ (mkF (some k1) k1 hnd lw.1 (by omega) (fun z hz => Option.some.inj hz)) ⟨T13.box, T13.how, T13.mix, T13.log, T13.na, sX.seq (.of eU), nv, sX.seqT OU, hT2⟩ (by omega) fun H' k' b' => ?_
      exact q H' ((kkU.trans (.of sX)).trans k') (b'.up (by omega))
end
end K21
namespace K21
/-- rows behind a log, one a board, each at its board's goal -/
structure AllF (rs L : List Row) (n fx : Nat) (x f : Int) (gs : List Int) (j : Nat) : Prop where
  ok : OkRows L
  len : L.length = rs.length + j
  st : stands (n : Int) (fx : Int) false L = true
  en : endIn L = endIn rs
  done : ∀ b, b < j → gs[b]? = some (valOf (narrow x f) b 1 L)
  todo : ∀ b, j ≤ b → valOf (narrow x f) b 1 L = valOf (narrow x f) b 1 rs
theorem AllF.start {rs : List Row} {n fx : Nat} {x f : Int} {gs : List Int} (ok : OkRows rs) (st : stands (n : Int) (fx : Int) false rs = true) : AllF rs rs n fx x f gs 0 :=
  ⟨ok, rfl, st, rfl, fun b h => absurd h (Nat.not_lt_zero _), fun b _ => rfl⟩
theorem valOf_snoc (m : Mix) (b : Nat) (v : Int) (L : List Row) (r : Row) : valOf m b v (L ++ [r]) = stepV m b (valOf m b v L) r := by
  rw [valOf_append]
  rfl
theorem AllF.step {rs L : List Row} {n fx : Nat} {x f t : Int} {gs : List Int} {j u : Nat} {nn : List Nat} {g k : Int} (h : AllF rs L n fx x f gs j) (hx : 2 < x) (ht : (f * t) % x = 1) (hj : j < n) (hw : wordAt rs rs.length u) (hg : gs[j]? = some g) (g0 : 0 ≤ g ∧ g < x)
    (e : noteDue x f t (rs.take rs.length) (rs.drop rs.length) ⟨j, u, nn, 0⟩ g = some k) (okr : (⟨j, u, nn, k⟩ : Row).Ok) : AllF rs (L ++ [⟨j, u, nn, k⟩]) n fx x f gs (j + 1) := by
  have w4 := wordAt_no4 hw
  have lw := due_low hx e
  have iff := (due_iff (k := k) hx ht w4.1 g0 e).mpr (Int.emod_eq_of_lt lw.1 lw.2)
  rw [List.take_length, List.drop_length] at iff
  have val : stepV (narrow x f) j (valOf (narrow x f) j 1 L) ⟨j, u, nn, k⟩ = g := by
    rw [h.todo j (Nat.le_refl _)]
    have e2 : valOf (narrow x f) j 1 (rs ++ [⟨j, u, nn, k⟩]) = g := iff
    rw [valOf_snoc] at e2
    exact e2
  have hend : isEnd ⟨j, u, nn, k⟩ = false := decide_eq_false w4.2.2
  refine ⟨fun q hq => ?_, ?_, ?_, ?_, fun b hb => ?_, fun b hb => ?_⟩
  · rcases List.mem_append.mp hq with hq | hq
    · exact h.ok q hq
    · rw [List.mem_singleton.mp hq]
      exact okr
  · rw [List.length_append, h.len]
    rfl
  · rw [stands_append, h.st, Bool.true_and, Bool.false_or, h.en]
    unfold wordAt at hw
    rw [List.take_length] at hw
    show (canStand (n : Int) (fx : Int) (endIn rs) ⟨j, u, nn, k⟩ && true) = true
    unfold canStand
    rw [decide_eq_true (show ((⟨j, u, nn, k⟩ : Row).b : Int) < (n : Int) from Int.ofNat_lt.mpr hj), decide_eq_true (show (⟨j, u, nn, k⟩ : Row).w ≠ 4 from w4.1)]
    cases ee : endIn rs with
    | true =>
      rw [if_pos ee] at hw
      rw [show isBehind ⟨j, u, nn, k⟩ = true from decide_eq_true (.inl hw)]
      rfl
    | false =>
      rw [if_neg (by rw [ee]; exact Bool.false_ne_true)] at hw
      rw [show isBehind ⟨j, u, nn, k⟩ = false from decide_eq_false (by show ¬ (u = 3 ∨ u = 4); omega)]
      rfl
  · rw [← h.en]
    unfold endIn
    rw [List.any_append]
    show (L.any isEnd || (isEnd ⟨j, u, nn, k⟩ || false)) = _
    rw [hend, Bool.or_false, Bool.or_false]
  · rw [valOf_snoc]
    by_cases c : b = j
    · subst c
      rw [val]
      exact hg
    · have : stepV (narrow x f) b (valOf (narrow x f) b 1 L) ⟨j, u, nn, k⟩ = valOf (narrow x f) b 1 L := by
        unfold stepV
        rw [if_neg (fun z => c z.symm)]
      rw [this]
      exact h.done b (by omega)
  · rw [valOf_snoc]
    have : stepV (narrow x f) b (valOf (narrow x f) b 1 L) ⟨j, u, nn, k⟩ = valOf (narrow x f) b 1 L := by
      unfold stepV
      rw [if_neg (show ¬ j = b by omega)]
    rw [this]
    exact h.todo b (by omega)
theorem AllF.goals {rs L : List Row} {n fx : Nat} {x f : Int} {gs : List Int} (h : AllF rs L n fx x f gs n) (hl : gs.length = n) : replayF (narrow x f) n L = gs := by
  refine List.ext_getElem? fun b => ?_
  by_cases hb : b < n
  · rw [replayF_get _ _ _ _ hb, h.done b hb]
  · rw [List.getElem?_eq_none (by rw [replayF_len]; omega), List.getElem?_eq_none (by omega)]
theorem AllF.leads {rs L : List Row} {n fx : Nat} {x f : Int} {gs : List Int} (h : AllF rs L n fx x f gs n) (hl : gs.length = n) : leadsTo (narrow x f) n (fx : Int) L gs = true := by
  unfold leadsTo
  rw [h.st, h.goals hl, decide_eq_true rfl]
  rfl
theorem due_end {x f t : Int} {rs : List Row} {r : Row} {g : Int} : ∃ k, noteDue x f t (rs.take rs.length) (rs.drop rs.length) r g = some k := by
  rw [List.drop_length]
  exact ⟨_, rfl⟩
end K21
namespace K21
open PySem PySem.Spec PyProof.Rows L2 TL
section
variable {P : Program} {w : World} {K : PySem.W.Frag} {mg : Str → Option Value} {base : Heap}
/-! ### _law_all_right -/
def spAllR (K : PySem.W.Frag) : Sp := fun vs H Q _ => ∃ (b h p a l : Addr) (m : Mix) (x : Int) (rs : List Row) (nm : List (List Nat)) (n fx k : Nat), vs = [.ref b, .ref h, .ref p, .ref a, .ref l, .int (n : Int), .int (fx : Int)] ∧ Turn0 K b h p a l m x rs nm n fx k H ∧ k < 900000 ∧ OkRows rs ∧ rs.length ≤ 50 ∧ 0 < n ∧ n ≤ 8 ∧
  stands (n : Int) (fx : Int) false rs = true ∧ ∀ H', Ke b H H' → Box H' b (k + 20) → Q (.bl true) H'
theorem sc__law_all_right : FnScope ["_law_box_here", "_law_how_here", "_law_own", "_law_rows", "_law_names_here", "_law_size", "_law_kept", "_law_goals", "_law_longer", "_law_board", "_law_goal", "_law_one", "_law_found"] ["_law_box_here", "_law_how_here", "_law_own", "_law_rows", "_law_names_here", "_law_size", "_law_kept"] d__law_all_right.scope := ⟨rfl, rfl, rfl, by decide +kernel, rfl, by decide +kernel, by decide +kernel⟩
theorem ok__law_all_right (T : Tx K mg) (D : Fd K mg d__law_all_right)
    (h_leads_to_mf : OkK P w K mg base 9 "leads_to" ["mixing", "log", "values", "many", "fixed"] (spLeads K) 3 ["many", "fixed"] (fun vs zs => vs ++ zs))
    (h_replay_lmfm : OkK P w K mg base 8 "replay" ["mixing", "log", "many", "fixed"] (spReplay K) 0 ["log", "mixing", "fixed", "many"] (fun vs zs => (zs.take 2).reverse ++ (zs.drop 2).reverse))
    (h__law_take : Ok P w K mg base 1 "_law_take" ["_law_box_here", "_law_size"] spTake)
    (h__law_pick : Ok P w K mg base 2 "_law_pick" ["_law_box_here", "_law_things"] (spPick K)) (h__law_words : Ok P w K mg base 1 "_law_words" ["_law_rows", "_law_at"] (spWords K))
    (h__law_note_due : Ok P w K mg base 5 "_law_note_due" ["_law_how_here", "_law_rows", "_law_at", "_law_row_here", "_law_goal"] (spDue K)) (h__law_same : Ok P w K mg base 2 "_law_same" ["_law_found", "_law_due"] (spSame2 K)) :
    Ok P w K mg base 10 "_law_all_right" ["_law_box_here", "_law_how_here", "_law_own", "_law_rows", "_law_names_here", "_law_size", "_law_kept"] (spAllR K) := by
  refine ok_mk D sc__law_all_right (fun _ _ _ _ _ _ us hl => match us, hl with | [_, _, _, _, _, _, _], _ => rfl) (fun vs H Q E h => ?_) (fun f0 cdv A outer s H vs Q E hr h => ?_)
  · obtain ⟨b, h, p, a, l, m, x, rs, nm, n, fx, k, rfl, _⟩ := h
    rfl
  · obtain ⟨b, h, p, a, l, m, x, rs, nm, n, fx, k, rfl, T0, hk, ok, l50, n0, n8, st, q⟩ := h
    refine ⟨_, 
    (pss_cons
      (ps_par (i := 7) (j := 8) (by rfl) sc__law_all_right.nd rfl rfl (by decide) rfl rfl (pa_cons (pe_lc rfl sc__law_all_right.nd (pi_range1 (by rfl) T.range (pa_cons (pv 5) pa_nil)) (blkOk_by (N := ["_law_box_here", "_law_how_here", "_law_own", "_law_rows", "_law_names_here", "_law_size", "_law_kept", "_law_goals", "_law_longer", "_law_board", "_law_goal", "_law_one", "_law_found"]) (sc := d__law_all_right.scope) (own := [("_law_board", 9)]) (by decide +kernel)) (fun _ _ _ _ _ => (pg_name (i := 9) sc__law_all_right.nd rfl (.inl rfl))) (fun _ _ _ _ _ => pts_nil) (fun _ _ _ _ _ => (pe_f h__law_take hr (pa_cons (pv 0) (pa_cons (pe_ix (r := rIxT K) ix_tup (pv 1) pe_int (fun _ _ => rfl)) pa_nil))))) (pa_cons (pe_callTy call_list_of (by rfl) T.list (by decide +kernel) (pa_cons (pv 3) pa_nil)) pa_nil)) (by rfl))
    (pss_cons
      (ps_for PassesOwn.never rfl (pi_enum (by rfl) T.enumerate (pa_cons (pv 7) pa_nil)) (pg_tup rfl (pgs_cons (pg_name (i := 9) sc__law_all_right.nd rfl (.inl rfl)) (pgs_cons (pg_name (i := 10) sc__law_all_right.nd rfl (.inl rfl)) pgs_nil)))
        (pss_cons
          (ps_set (i := 11) sc__law_all_right.nd rfl (.inl rfl) (pe_tup (pa_cons (pv 9) (pa_cons (pe_ix (r := rIxL K) ix_list (pe_f h__law_words hr (pa_cons (pv 3) (pa_cons (pe_callB call_len_seq (by rfl) T.len PySem.boot_len (pa_cons (pv 3) pa_nil)) pa_nil))) pe_int (fun _ _ => rfl)) (pa_cons (pe_f h__law_pick hr (pa_cons (pv 0) (pa_cons (pv 4) pa_nil))) (pa_cons pe_int pa_nil))))))
        (pss_one
          (ps_expr (pe_bm PySem.F.plainAttrs_list PySem.F.slot_list_append PySem.F.type_list_append mt_append (pv 8) (pa_cons (pe_op op_catA (pe_slice (r := rSlT K) sl_tup (pv 11) po_none (po_some pe_int)) (pe_tup (pa_cons (pe_f h__law_note_due hr (pa_cons (pv 1) (pa_cons (pv 3) (pa_cons (pe_callB call_len_seq (by rfl) T.len PySem.boot_len (pa_cons (pv 3) pa_nil)) (pa_cons (pv 11) (pa_cons (pv 10) pa_nil)))))) pa_nil))) pa_nil))))))
    (pss_cons
      (ps_set (i := 12) sc__law_all_right.nd rfl (.inl rfl) (pe_fk0 h_replay_lmfm hr (pk_cons (pv 8) (pk_cons (pv 2) (pk_cons (pv 6) (pk_cons (pv 5) pk_nil))))))
    (pss_one
      (ps_ret (pe_and (pe_f h__law_same hr (pa_cons (pv 12) (pa_cons (pv 7) pa_nil))) (pe_one (pe_cmpR op_is_bl (pe_fk h_leads_to_mf hr (pa_cons (pv 2) (pa_cons (pe_callTy call_tuple_of (by rfl) T.tuple (by decide +kernel) (pa_cons (pv 8) pa_nil)) (pa_cons (pe_callTy call_tuple_of (by rfl) T.tuple (by decide +kernel) (pa_cons (pv 7) pa_nil)) pa_nil))) (pk_cons (pv 5) (pk_cons (pv 6) pk_nil))) pe_bl (nomark _)))))))))
      , ?_⟩
    obtain ⟨wd, f⟩ := m
    have ewd : wd = some x := T0.how.wd
    subst ewd
    have x0 := T0.how.x0
    have x1 := T0.how.x1
    have mo := T0.how.ok
    refine ⟨_, rfl, _, rfl, by omega, by omega, fun C hC => ?_⟩
    have nC := T0.box.ne hC
    refine lc_it walk_range (fun i H2 => Ke b H H2 ∧ Box H2 b (k + i) ∧ ∃ gs : List Int, gs.length = i ∧ (∀ g ∈ gs, 0 ≤ g ∧ g < x) ∧ H2 C = some (.lst (gs.map V.int))) ⟨.of (Same.new hC), T0.box.same (Same.new hC), [], rfl, (fun g h => by cases h), upd_same⟩ (fun _ _ _ _ => trivial) ?_ ?_
    · rintro i y H2x H2 hi ⟨k2, b2, gs, lg, og, eC⟩ ⟨rfl, rfl⟩
      have T2 := T0.ke k2 b2
      refine ⟨rfl, _, rfl, _, rfl, h, _, _, _, rfl, rfl, T2.how.t, at0, b, x, k + i, rfl, by omega, by omega, b2, by omega, fun g H3 g0 g1 k3 b3 => ⟨_, k3 _ _ eC nC, ?_, (k2.trans k3).mut hC, b3.mut nC, gs ++ [g], ?_, ?_, ?_⟩⟩
      · rw [List.length_map]
        exact small (by omega)
      · rw [List.length_append, lg]
        rfl
      · intro u hu
        rcases List.mem_append.mp hu with hu | hu
        · exact og u hu
        · rw [List.mem_singleton.mp hu]
          exact ⟨g0, g1⟩
      · rw [upd_same, List.map_append]
        rfl
    rintro H2 ⟨k2, b2, gs, lg, og, eC⟩
    have lg : gs.length = n := by omega
    have b2 : Box H2 b (k + 8) := b2.up (by omega)
    have T2 := T0.ke k2 b2
    obtain ⟨vs, hS, hR⟩ := T2.log.inv
    have hl := rows_len hR
    refine ⟨_, rfl, a, vs, rfl, .inl hS, fun D0 hD => ⟨_, _, rfl, ?_⟩⟩
    have nD := b2.ne hD
    have sD := Same.new (o := .lst vs) hD
    have b3 := b2.same sD
    have kD : Ke b H2 (upd H2 D0 (.lst vs)) := .of sD
    have rD : RowsAt K (upd H2 D0 (.lst vs)) D0 rs := ⟨vs, upd_same, hR.same sD⟩
    generalize upd H2 D0 (.lst vs) = H3 at *
    obtain ⟨lb2, eb2⟩ := b2.at
    refine ⟨_, rfl, C, gs.map V.int, rfl, .of (kD _ _ eC nC), for_it walk_enum (fun j σ H4 => Ke b H2 H4 ∧ Box H4 b (k + 8 + j) ∧ (∃ L, RowsAt K H4 D0 L ∧ AllF rs L n fx x f gs j) ∧ ∃ z9 z10 z11, σ = [some (.ref b), some (.ref h), some (.ref p), some (.ref a), some (.ref l), some (.int (n : Int)), some (.int (fx : Int)), some (.ref C), some (.ref D0), z9, z10, z11, none])
      ⟨kD, b3.up (by omega), ⟨rs, rD, AllF.start ok st⟩, none, none, none, rfl⟩ (fun j σ H4 _ e => .of (e.1 _ _ eC nC)) ?_ ?_⟩
    · rintro j y σ H4 H5 hj ⟨k4, b4, ⟨L, rL, F⟩, z9, z10, z11, rfl⟩ ⟨t, u1, u2, rfl, ht, rfl, e1, e2⟩
      have hjn : j < n := by
        rw [List.length_map] at hj
        omega
      cases Option.some.inj e1
      have e2 : (gs.map V.int)[j]? = some u2 := e2
      have eg : gs[j]? = some (gs[j]'(by omega)) := List.getElem?_eq_getElem _
      rw [List.getElem?_map, eg] at e2
      cases Option.some.inj e2
      obtain ⟨g0, g1⟩ := og _ (List.getElem_mem (show j < gs.length by omega))
      generalize gs[j]'(by omega) = g at *
      have T4 := T2.ke k4 b4
      have s5 := Same.new (o := .tup [.int (j : Int), .int g]) ht
      have T5 := T4.same s5
      have rL5 := rL.same s5
      have k5 := k4.trans (.of s5)
      refine ⟨t, _, rfl, .of upd_same, rfl, _, _, rfl, _, _, rfl, rfl, ?_⟩
      generalize upd H4 t (.tup [.int (j : Int), .int g]) = H5 at *
      obtain ⟨vs5, hS5, hR5⟩ := T5.log.inv
      have hl5 := rows_len hR5
      refine ⟨_, rfl, _, rfl, _, rfl, a, _, rfl, .inl hS5, a, rs, rs.length, by rw [hl5]; rfl, ok, T5.log, by omega, fun pw ws H6 s6 hpw hws w0 w2 ww => ?_⟩
      have T6 := T5.same s6
      obtain ⟨u, hu⟩ : ∃ u, ws[0]? = some u := ⟨ws[0], List.getElem?_eq_getElem w0⟩
      have hw := ww u (List.mem_of_getElem? hu)
      have ew : (ws.map fun u => V.str (wordS u))[0]? = some (.str (wordS u)) := by
        rw [List.getElem?_map, hu]
        rfl
      refine ⟨pw, _, _, _, rfl, rfl, hws, atI_nat (j := 0) ew, ?_⟩
      refine ⟨_, rfl, _, rfl, b, l, _, k + 8 + j, rfl, T6.nms.s, T6.nms.n, by rw [List.length_map]; exact T6.nms.l0, by rw [List.length_map]; exact T6.nms.l1, T6.box, by omega, fun v7 H7 hv7 k7 b7 => ⟨Nat.le_of_ble_eq_true rfl, fun t1 ht1 => ?_⟩⟩
      have T7 := T6.ke k7 b7
      obtain ⟨lb6, eb6⟩ := T6.box.at
      have rL7 := (rL5.same s6).ke k7 eb6 nD
      obtain ⟨nn, hnn, rfl⟩ := List.mem_map.mp hv7
      have okn := T7.nms.ok nn hnn
      have s8 := Same.new (o := .tup [.int (j : Int), .str (wordS u), .str (nameS nn), .int 0]) ht1
      have T8 := T7.same s8
      have rL8 := rL7.same s8
      have O8 : SqT K (upd H7 t1 (.tup [.int (j : Int), .str (wordS u), .str (nameS nn), .int 0])) t1 (rowV ⟨j, u, nn, 0⟩) := .of upd_same
      have k8 := ((k5.trans (.of s6)).trans k7).trans (.of s8)
      generalize upd H7 t1 (.tup [.int (j : Int), .str (wordS u), .str (nameS nn), .int 0]) = H8 at *
      have okr : ∀ z : Int, 0 ≤ z → z < 9973 → (⟨j, u, nn, z⟩ : Row).Ok := fun z z0 z1 => by
        have w4 := wordAt_no4 hw
        refine ⟨by show j < 8; omega, w4.2.1, okn, z0, ?_⟩
        show z < noteTop u
        unfold noteTop
        rw [if_neg (by omega)]
        exact z1
      obtain ⟨acc8, e8, dp8⟩ := id rL8
      refine ⟨_, rfl, .inl ⟨rfl, _, .of e8⟩, _, rfl, _, rfl, t1, _, rfl, O8, (fun z => by cases z.2), fun p9 hp9 => ?_⟩
      have s9 := Same.new (o := .tup (cutV (rowV ⟨j, u, nn, 0⟩) none (some 3))) hp9
      have T9 := T8.same s9
      obtain ⟨vs9, hS9, hR9⟩ := T9.log.inv
      have hl9 := rows_len hR9
      refine ⟨_, rfl, _, rfl, _, rfl, a, _, rfl, .inl hS9, _, rfl, _, rfl, h, a, t1, ⟨some x, f⟩, x, g, rs, rs.length, ⟨j, u, nn, 0⟩, by rw [hl9]; rfl, T9.how, ok, T9.log, Nat.le_refl _, s9.seqT O8, okr 0 (by decide) (by decide), rfl, g0, g1, fun tt H10 htt s10 => ?_⟩
      obtain ⟨k1, ek⟩ := due_end (x := x) (f := f) (t := tt) (rs := rs) (r := ⟨j, u, nn, 0⟩) (g := g)
      rw [ek]
      have lw := due_low (show 2 < x by omega) ek
      refine ⟨Nat.le_of_ble_eq_true rfl, fun t11 ht11 => ?_⟩
      have s11 := Same.new (o := .tup [optV (some k1)]) ht11
      refine row_cat (r := ⟨j, u, nn, 0⟩) (k := k1) (s11.seqT (s10.seqT (.of upd_same))) (.of upd_same) fun t2 H12 s12 hT2 => ?_
      have s812 := s9.trans (s10.trans (s11.trans s12))
      have rL12 := rL8.same s812
      obtain ⟨acc, eA, lA, rA⟩ := rL12.push (row_mk hT2)
      have ok1 := okr k1 lw.1 (by omega)
      have F2 := F.step (t := tt) (show 2 < x by omega) htt hjn hw eg ⟨g0, g1⟩ ek ok1
      have FL := F.len
      refine ⟨D0, acc, _, rfl, rfl, eA, small (by omega), (k8.trans (.of s812)).mut hD, ((T8.box.same s812).mut nD).up (by omega), ⟨_, rA, F2⟩, _, _, _, rfl⟩
    · rintro σ H4 ⟨k4, b4, ⟨L, rL, F⟩, z9, z10, z11, rfl⟩
      rw [List.length_map, lg] at F b4
      have T4 := T2.ke k4 b4
      have eC4 := k4 _ _ eC nC
      have FL := F.len
      have Fg := F.goals lg
      have Fl := F.leads lg
      refine ⟨_, rfl, _, rfl, _, rfl, _, rfl, rfl, p, D0, ⟨some x, f⟩, L, n, (fx : Int), rfl, mo, T4.mix, F.ok, by omega, rL.log.a, n8, F.st, fun fb H5 s5 e5 => ?_⟩
      have T5 := T4.same s5
      have e5 : H5 fb = some (.lst (gs.map V.int)) := by
        rw [← Fg]
        exact e5
      refine ⟨_, rfl, _, rfl, _, _, rfl, .inr ⟨fb, C, gs, rfl, rfl, by omega, .inl ⟨.of e5, .of (s5 _ _ eC4)⟩⟩, fun H6 s6 => ⟨_, rfl, iteT ?_⟩⟩
      have T6 := T5.same s6
      obtain ⟨acc6, eD6, dp6⟩ := (rL.same s5).same s6
      refine ⟨_, rfl, _, rfl, D0, _, rfl, .inl ⟨.of eD6, fun tp htp => ?_⟩⟩
      have s7 := Same.new (o := .tup acc6) htp
      refine ⟨_, rfl, C, _, rfl, .inl ⟨.of ((s5.trans (s6.trans s7)) _ _ eC4), fun tq htq => ?_⟩⟩
      have s8 := Same.new (o := .tup (gs.map V.int)) htq
      have T8 := (T6.same s7).same s8
      refine ⟨_, rfl, _, rfl, rfl, rfl, p, tp, tq, ⟨some x, f⟩, L, gs, n, (fx : Int), rfl, mo, T8.mix, F.ok, by omega, ⟨acc6, .inr (s8.seqT (.of upd_same)), (dp6.same s7).same s8⟩, n8, .inr (.of upd_same), fun H9 s9 => ?_⟩
      have Fl2 : leadsTo ⟨some x, f⟩ n (fx : Int) L gs = true := Fl
      rw [Fl2]
      refine ⟨_, _, rfl, rfl, ?_⟩
      have sX := s5.trans (s6.trans (s7.trans (s8.trans s9)))
      exact q H9 ((k2.trans k4).trans (.of sX)) ((b4.same sX).up (by omega))
end
end K21
namespace K21
open PySem PySem.Spec PyProof.Rows L2 TL
theorem pick_most (u : Nat) (e : Bool) : atI [V.int 12, V.int (u : Int)] (if e = true then 1 else 0) = some (.int ((if e = true then u else 12 : Nat) : Int)) := by
  cases e
  · exact at0
  · exact at1
theorem Ke.back {b : Addr} {H Hb H' : Hp} (s : Same H Hb) (hb : H b = none) (k : Ke b Hb H') : Same H H' := fun c o h => k c o (s c o h) (ne_of_none h hb)
section
variable {P : Program} {w : World} {K : PySem.W.Frag} {mg : Str → Option Value} {base : Heap}
/-! ### law -/
def spLaw (K : PySem.W.Frag) : Sp := fun vs H Q _ => ∃ (a : Addr) (ns : List Int), vs = [.ref a] ∧ SqL K H a (ns.map V.int) ∧ ∀ H', Q (.bl true) H'
theorem sc_law : FnScope ["_law_script", "_law_k", "_law_box_here", "_law_turn", "_law_names_here", "_law_size", "_law_kept", "_law_how_here", "_law_most", "_law_rows", "_law_own", "_law_again"] ["_law_script"] d_law.scope := ⟨rfl, rfl, rfl, by decide +kernel, rfl, by decide +kernel, by decide +kernel⟩
theorem fn_law (T : Tx K mg) {f0 : Addr} {fd : FuncData} (F : FunD K d_law.name d_law.qual d_law.params d_law.body d_law.scope (d_law.dvs K) (d_law.kws K) f0 fd) (mk : OkMake P w K mg base) (h__law_box : Ok P w K mg base 1 "_law_box" ["_law_script", "_law_k"] (spBox K)) (h__law_names : Ok P w K mg base 2 "_law_names" ["_law_box_here", "_law_size"] (spNames K))
    (h__law_sizes : Ok P w K mg base 2 "_law_sizes" ["_law_box_here"] (spSizes K)) (h__law_how : Ok P w K mg base 2 "_law_how" ["_law_box_here"] (spHow K)) (h__law_take : Ok P w K mg base 1 "_law_take" ["_law_box_here", "_law_size"] spTake)
    (h__law_log : Ok P w K mg base 4 "_law_log" ["_law_box_here", "_law_names_here", "_law_size", "_law_kept", "_law_count"] (spLLog K))
    (h__law_place_right : Ok P w K mg base 11 "_law_place_right" ["_law_box_here", "_law_how_here", "_law_own", "_law_rows", "_law_names_here", "_law_size", "_law_kept"] (spPlace K))
    (h__law_all_right : Ok P w K mg base 10 "_law_all_right" ["_law_box_here", "_law_how_here", "_law_own", "_law_rows", "_law_names_here", "_law_size", "_law_kept"] (spAllR K)) : FnOk P w K mg base CX0 12 f0 fd ["_law_script"] (spLaw K) := by
  refine body_ok F sc_law (fun vs H Q E h => ?_) (fun cdv A outer s H vs Q E hr h => ?_)
  · obtain ⟨a, ns, rfl, _⟩ := h
    rfl
  · obtain ⟨a0, ns, rfl, hS, q⟩ := h
    refine ⟨_, 
    (pss_cons
      (ps_for PassesOwn.never rfl (pi_range1 (by rfl) T.range (pa_cons (pe_callB (call_max2 rfl) (by rfl) T.max (by decide +kernel) (pa_cons pe_int (pa_cons (pe_callB (call_min2 rfl) (by rfl) T.min (by decide +kernel) (pa_cons pe_int (pa_cons (pe_callB call_len_seq (by rfl) T.len PySem.boot_len (pa_cons (pv 0) pa_nil)) pa_nil))) pa_nil))) pa_nil)) (pg_name (i := 1) sc_law.nd rfl (.inl rfl))
        (pss_cons
          (ps_set (i := 2) sc_law.nd rfl (.inr rfl) (pe_f h__law_box hr (pa_cons (pv 0) (pa_cons (pv 1) pa_nil))))
        (pss_one
          (ps_for PassesOwn.never rfl (pi_range1 (by rfl) T.range (pa_cons pe_int pa_nil)) (pg_name (i := 3) sc_law.nd rfl (.inl rfl))
            (pss_cons
              (ps_asg (pe_tup (pa_cons (pe_f h__law_names hr (pa_cons (pv 2) (pa_cons pe_int pa_nil))) (pa_cons (pe_f h__law_sizes hr (pa_cons (pv 2) pa_nil)) (pa_cons (pe_f h__law_how hr (pa_cons (pv 2) pa_nil)) pa_nil)))) (pg_tup rfl (pgs_cons (pg_name (i := 4) sc_law.nd rfl (.inr rfl)) (pgs_cons (pg_tup rfl (pgs_cons (pg_name (i := 5) sc_law.nd rfl (.inr rfl)) (pgs_cons (pg_name (i := 6) sc_law.nd rfl (.inr rfl)) pgs_nil))) (pgs_cons (pg_name (i := 7) sc_law.nd rfl (.inr rfl)) pgs_nil)))))
            (pss_cons
              (ps_set (i := 8) sc_law.nd rfl (.inl rfl) (pe_ix (r := rIxL K) ix_list (pe_lst (pa_cons pe_int (pa_cons (pe_ix (r := rIxL K) ix_list (pe_lst (pa_cons pe_int (pa_cons pe_int pa_nil))) (pe_f h__law_take hr (pa_cons (pv 2) (pa_cons pe_int pa_nil))) (fun _ _ => rfl)) pa_nil))) (pe_callTy call_int1 (by rfl) T.int (by decide +kernel) (pa_cons (pe_and (pe_cmpR op_eq (pv 1) pe_int (nomark _)) (pe_one (pe_cmpR op_eq (pv 3) pe_int (nomark _)))) pa_nil)) (fun _ _ => rfl)))
            (pss_cons
              (ps_asg (pe_tup (pa_cons (pe_f h__law_log hr (pa_cons (pv 2) (pa_cons (pv 4) (pa_cons (pv 5) (pa_cons (pv 6) (pa_cons (pv 8) pa_nil)))))) (pa_cons (pe_mkN mk T.mix hr (pa_cons (pe_ix (r := rIxT K) ix_tup (pv 7) pe_int (fun _ _ => rfl)) pa_nil) (pk_cons (pe_ix (r := rIxT K) ix_tup (pv 7) pe_int (fun _ _ => rfl)) pk_nil)) pa_nil))) (pg_tup rfl (pgs_cons (pg_name (i := 9) sc_law.nd rfl (.inr rfl)) (pgs_cons (pg_name (i := 10) sc_law.nd rfl (.inr rfl)) pgs_nil))))
            (pss_cons
              (ps_if (pt_not (pt_val (pe_callB (cr_all rfl) (by rfl) T.all (by decide +kernel) (pa_cons (pe_lc rfl sc_law.nd (pi_range1 (by rfl) T.range (pa_cons pe_int pa_nil)) (blkOk_by (N := ["_law_script", "_law_k", "_law_box_here", "_law_turn", "_law_names_here", "_law_size", "_law_kept", "_law_how_here", "_law_most", "_law_rows", "_law_own", "_law_again"]) (sc := d_law.scope) (own := [("_law_again", 11)]) (by decide +kernel)) (fun _ _ _ _ _ => (pg_name (i := 11) sc_law.nd rfl (.inl rfl))) (fun _ _ _ _ _ => pts_nil) (fun _ _ _ _ _ => (pe_f h__law_place_right hr (pa_cons (pv 2) (pa_cons (pv 7) (pa_cons (pv 10) (pa_cons (pv 9) (pa_cons (pv 4) (pa_cons (pv 5) (pa_cons (pv 6) pa_nil)))))))))) pa_nil))))
                (pss_one
                  (ps_ret pe_bl))
                pss_nil)
            (pss_one
              (ps_if (pt_not (pt_val (pe_f h__law_all_right hr (pa_cons (pv 2) (pa_cons (pv 7) (pa_cons (pv 10) (pa_cons (pv 9) (pa_cons (pv 4) (pa_cons (pv 5) (pa_cons (pv 6) pa_nil))))))))))
                (pss_one
                  (ps_ret pe_bl))
                pss_nil))))))))))
    (pss_one
      (ps_ret pe_bl)))
      , ?_⟩
    refine ⟨_, rfl, a0, _, rfl, .inl hS, _, _, rfl, _, _, rfl, _, rfl, ?_, ?_, for_it walk_range (fun i σ H1 => Same H H1 ∧ ∃ z1 z2 z3 z4 z5 z6 z7 z8 z9 z10, σ = [some (.ref a0), z1, z2, z3, z4, z5, z6, z7, z8, z9, z10, none]) ⟨fun _ _ e => e, _, _, _, _, _, _, _, _, _, _, rfl⟩ (fun _ _ _ _ _ => trivial) ?_ ?_⟩
    · split <;> (try split) <;> omega
    · split <;> (try split) <;> omega
    · rintro k y σ H1x H1 hk ⟨s1, z1, z2, z3, z4, z5, z6, z7, z8, z9, z10, rfl⟩ ⟨rfl, rfl⟩
      have k3 : k ≤ 3 := by
        revert hk
        split <;> (try split) <;> omega
      have e0 : V.int ((0 : Int) + (k : Nat)) = V.int ((k : Nat) : Int) := by
        congr 1
        omega
      show gName 1 (V.int (0 + (k : Nat))) _ _ _
      rw [e0]
      refine ⟨_, rfl, _, rfl, a0, ns, k, rfl, s1.seq hS, k3, fun b Hb sb hb0 bb => ?_⟩
      have hbH := s1.free hb0
      have s1b := s1.trans sb
      refine ⟨_, rfl, by decide, by decide, for_it walk_range (fun j σ H2 => Ke b Hb H2 ∧ Box H2 b (1000 * j) ∧ ∃ z3 z4 z5 z6 z7 z8 z9 z10, σ = [some (.ref a0), some (.int (k : Int)), some (.ref b), z3, z4, z5, z6, z7, z8, z9, z10, none]) ⟨.refl _ _, bb, _, _, _, _, _, _, _, _, rfl⟩ (fun _ _ _ _ _ => trivial) ?_ ?_⟩
      · rintro j y σ H2x H2 hj ⟨k2, b2, z3, z4, z5, z6, z7, z8, z9, z10, rfl⟩ ⟨rfl, rfl⟩
        have j1 : j ≤ 1 := by
          have : j < (2 : Int).toNat := hj
          have e : (2 : Int).toNat = 2 := rfl
          omega
        refine ⟨_, rfl, b, 1000 * j, rfl, b2, by omega, fun l nm H3 k3' b3 N3 => ⟨_, rfl, b, _, rfl, b3, by omega, fun ts n fx H4 k4 b4 hT4 n0 n8 fn => ⟨_, rfl, b, _, rfl, b4, by omega, fun h m x H5 k5 b5 W5 => ⟨Nat.le_of_ble_eq_true rfl, fun t ht => ?_⟩⟩⟩⟩
        have s6 := Same.new (o := .tup [.ref l, .ref ts, .ref h]) ht
        obtain ⟨lb3, eb3⟩ := b3.at
        obtain ⟨lb4, eb4⟩ := b4.at
        have hT6 := s6.seqT (k5.seqT eb4 hT4)
        have N6 := ((N3.ke k4).ke k5).ke (.of s6)
        have W6 := W5.same s6
        have b6 := b5.same s6
        have k6 := (((k2.trans k3').trans k4).trans k5).trans (.of s6)
        refine ⟨t, _, rfl, .of upd_same, rfl, _, _, rfl, _, _, rfl, ts, _, rfl, hT6, rfl, _, _, rfl, _, _, rfl, rfl, _, _, rfl, rfl, ?_⟩
        generalize upd H5 t (.tup [.ref l, .ref ts, .ref h]) = H6 at *
        refine ⟨Nat.le_of_ble_eq_true rfl, fun p7 hp7 => ?_⟩
        have s7 := Same.new (o := .lst [.int 12, .int 50]) hp7
        have n7 := b6.ne hp7
        refine ⟨_, rfl, b, 2, _, rfl, by decide, by decide, b6.same s7, by omega, fun z H8 z0 z1 k8 b8 => ?_⟩
        have hp8 : SqL K H8 p7 [.int 12, .int 50] := k8.seq n7 (.of upd_same)
        obtain ⟨lb7, eb7⟩ := (b6.same s7).at
        obtain ⟨u, u50, eu⟩ : ∃ u : Nat, u ≤ 50 ∧ atI [V.int 12, V.int 50] z = some (.int (u : Int)) := by
          have : z = 0 ∨ z = 1 := by omega
          rcases this with rfl | rfl
          · exact ⟨12, by decide, at0⟩
          · exact ⟨50, by decide, at1⟩
        have W8 := (W6.same s7).ke k8 eb7
        have N8 := (N6.ke (.of s7)).ke k8
        have k8' := (k6.trans (.of s7)).trans k8
        refine ⟨p7, _, _, _, rfl, rfl, hp8, eu, Nat.le_of_ble_eq_true rfl, fun p9 hp9 => ?_⟩
        have s9 := Same.new (o := .lst [.int 12, .int (u : Int)]) hp9
        have W9 := W8.same s9
        have N9 := N8.ke (.of s9)
        have b9 := b8.same s9
        have k9 := k8'.trans (.of s9)
        have hp9' : SqL K (upd H8 p9 (.lst [.int 12, .int (u : Int)])) p9 [.int 12, .int (u : Int)] := .of upd_same
        generalize upd H8 p9 (.lst [.int 12, .int (u : Int)]) = H9 at *
        refine ⟨_, rfl, rfl, _, rfl, ite2 (fun c => ⟨_, rfl, rfl, .inr ⟨_, rfl, ?ga⟩⟩) (fun c => .inr ⟨false, rfl, ?gb⟩)⟩
        all_goals
          refine ⟨p9, _, _, _, rfl, rfl, hp9', pick_most u _, ?_⟩
          refine ⟨_, rfl, _, rfl, _, rfl, _, rfl, _, rfl, b, l, nm, n, fx, _, _, rfl, b9, by omega, N9, n0, n8, fn, by split <;> omega, fun a rs H10 k10 b10 hL na ok len st => ?_⟩
          have len50 : rs.length ≤ 50 := by
            refine Nat.le_trans len ?_
            split <;> omega
          obtain ⟨lb9, eb9⟩ := b9.at
          have W10 := W9.ke k10 eb9
          have N10 := N9.ke k10
          refine ⟨_, rfl, h, _, _, _, rfl, rfl, W10.t, at0, _, rfl, h, _, _, _, rfl, rfl, W10.t, at1, rfl, rfl, fun p dx hp hdx nx => ?_⟩
          refine ⟨p, dx, m, by rw [W10.wd]; rfl, W10.ok, upd_same, fun H11 k11 hM => ⟨rfl, Nat.le_of_ble_eq_true rfl, fun t12 ht12 => ?_⟩⟩
          have s11 : Same H10 H11 := fun c o hc => by
            have nc := ne_of_none hc hp
            refine k11 c o ?_ nc
            rw [upd_ne nc, upd_ne (ne_of_none hc hdx)]
            exact hc
          have s12 := Same.new (o := .tup [.ref a, .ref p]) ht12
          have T12 : Turn0 K b h p a l m x rs nm n fx (1000 * j + 617) (upd H11 t12 (.tup [.ref a, .ref p])) := ⟨((b10.same s11).same s12).up (by omega), (W10.same s11).same s12, hM.same s12, (hL.same s11).same s12, na, (N10.ke (.of s11)).ke (.of s12)⟩
          have k12 := (k9.trans k10).trans ((Ke.of s11).trans (.of s12))
          refine ⟨t12, _, rfl, .of upd_same, rfl, _, _, rfl, _, _, rfl, rfl, ?_⟩
          generalize upd H11 t12 (.tup [.ref a, .ref p]) = H12 at *
          refine ⟨_, rfl, by decide, by decide, fun C hC => ?_⟩
          have nC := T12.box.ne hC
          refine lc_it walk_range (fun i H13 => Ke b H12 H13 ∧ Box H13 b (1000 * j + 617 + 20 * i) ∧ H13 C = some (.lst ((List.replicate i true).map V.bl))) ⟨.of (Same.new hC), T12.box.same (Same.new hC), upd_same⟩ (fun _ _ _ _ => trivial) ?_ ?_
          · rintro i y H13x H13 hi ⟨k13, b13, e13⟩ ⟨rfl, rfl⟩
            have i3 : i ≤ 3 := by
              have : i < (4 : Int).toNat := hi
              have e : (4 : Int).toNat = 4 := rfl
              omega
            refine ⟨rfl, _, rfl, _, rfl, _, rfl, _, rfl, _, rfl, _, rfl, _, rfl, b, h, p, a, l, m, x, rs, nm, n, fx, 1000 * j + 617 + 20 * i, rfl, T12.ke k13 b13, by omega, ok, len50, n0, n8, st, fun H14 k14 b14 => ⟨_, k14 _ _ e13 nC, ?_, (k13.trans k14).mut hC, b14.mut nC, ?_⟩⟩
            · rw [List.length_map, List.length_replicate]
              exact small (by omega)
            · rw [upd_same, List.replicate_succ', List.map_append]
              rfl
          · rintro H13 ⟨k13, b13, e13⟩
            have T13 := T12.ke k13 b13
            refine ⟨C, List.replicate 4 true, rfl, .of e13, _, rfl, iteF ?_⟩
            refine ⟨_, rfl, _, rfl, _, rfl, _, rfl, _, rfl, _, rfl, _, rfl, b, h, p, a, l, m, x, rs, nm, n, fx, 1000 * j + 617 + 20 * 4, rfl, T13, by omega, ok, len50, n0, n8, st, fun H14 k14 b14 => ⟨_, rfl, iteF ⟨(k12.trans k13).trans k14, b14.up (by omega), _, _, _, _, _, _, _, _, rfl⟩⟩⟩
      · rintro σ H2 ⟨k2, b2, z3, z4, z5, z6, z7, z8, z9, z10, rfl⟩
        exact ⟨k2.back s1b hbH, _, _, _, _, _, _, _, _, _, _, rfl⟩
    · rintro σ H1 ⟨s1, z1, z2, z3, z4, z5, z6, z7, z8, z9, z10, rfl⟩
      exact q H1
end
end K21
namespace K21
open PySem PySem.Spec PyProof.Rows L2 TL
section
variable {P : Program} {w : World} {K : PySem.W.Frag} {mg : Str → Option Value} {h : Heap}
theorem tup_is {x : Str} (e : tupN K x = true) : ∃ o, K.lookup (He.ga K x) = some o ∧ o.cls = .type "tuple" ∧ o.dict = none := by
  unfold tupN at e
  split at e
  · rename_i c _ _ q
    have e2 := of_decide_eq_true e
    subst e2
    exact ⟨_, q, rfl, rfl⟩
  · cases e
theorem tx_of (X : K.In h) (G : h.Ns mainGlobals mg) (c : He.SaysD faL fnL K) (more : exB K = true) : Tx K mg := by
  unfold exB at more
  rw [Bool.and_eq_true, Bool.and_eq_true, Bool.and_eq_true] at more
  obtain ⟨⟨⟨m1, m2⟩, m3⟩, m4⟩ := more
  exact {
    LONGEST := He.int_ok X G (c.fact 55 (f := .int "LONGEST" 4) rfl)
    BASE := He.int_ok X G (c.fact 56 (f := .int "BASE" 27) rfl)
    NOTES := He.int_ok X G (c.fact 57 (f := .int "NOTES" 9973) rfl)
    SPAN := He.int_ok X G (c.fact 58 (f := .int "SPAN" 26500305465) rfl)
    MOST_BOARDS := He.int_ok X G (c.fact 62 (f := .int "MOST_BOARDS" 8) rfl)
    LEAST_WIDTH := He.int_ok X G (c.fact 63 (f := .int "LEAST_WIDTH" 3) rfl)
    MOST := He.int_ok X G (c.fact 64 (f := .int "MOST" 1000000) rfl)
    PLAIN_BEGIN := He.int_ok X G (c.fact 65 (f := .int "PLAIN_BEGIN" 1) rfl)
    RESET_BEGIN := He.int_ok X G (c.fact 66 (f := .int "RESET_BEGIN" 2) rfl)
    LETTERS := He.str_ok X G (c.fact 67 (f := .str "LETTERS" "abcdefghijklmnopqrstuvwxyz") rfl)
    RESET_reading := He.str_ok X G (c.fact 68 (f := .str "RESET_reading" "reset") rfl)
    END := He.str_ok X G (c.fact 69 (f := .str "END" "end") rfl)
    RESET_logs := He.str_ok X G (c.fact 70 (f := .str "RESET_logs" "reset") rfl)
    WORDS := ⟨He.glo_ok X G (c.fact 71 (f := .glo "WORDS") rfl), fun H => He.tupB_ok m1 H⟩
    BARE_WORDS := ⟨He.glo_ok X G (c.fact 72 (f := .glo "BARE_WORDS") rfl), fun H => He.tupB_ok m2 H⟩
    BEHIND_END := ⟨He.glo_ok X G (c.fact 73 (f := .glo "BEHIND_END") rfl), fun H => He.tupB_ok m3 H⟩
    WORDSo := tup_is m4
    len := He.free_ok X G (c.fact 74 (f := .free "len") rfl)
    range := He.free_ok X G (c.fact 75 (f := .free "range") rfl)
    isinstance := He.free_ok X G (c.fact 76 (f := .free "isinstance") rfl)
    all := He.free_ok X G (c.fact 77 (f := .free "all") rfl)
    zip := He.free_ok X G (c.fact 78 (f := .free "zip") rfl)
    enumerate := He.free_ok X G (c.fact 79 (f := .free "enumerate") rfl)
    divmod := He.free_ok X G (c.fact 80 (f := .free "divmod") rfl)
    max := He.free_ok X G (c.fact 81 (f := .free "max") rfl)
    min := He.free_ok X G (c.fact 82 (f := .free "min") rfl)
    int := He.free_ok X G (c.fact 83 (f := .free "int") rfl)
    bool := He.free_ok X G (c.fact 84 (f := .free "bool") rfl)
    str := He.free_ok X G (c.fact 85 (f := .free "str") rfl)
    abs := He.free_ok X G (c.fact 86 (f := .free "abs") rfl)
    list := He.free_ok X G (c.fact 87 (f := .free "list") rfl)
    tuple := He.free_ok X G (c.fact 88 (f := .free "tuple") rfl)
    mix := He.glo_ok X G (c.fact 54 (f := .glo "Mixing") rfl)
    cl := He.cls_ok (c.fact 89 (f := .cls "Mixing") rfl)
    nW := He.noat_ok (c.fact 90 (f := .noat "Mixing" "width") rfl)
    nF := He.noat_ok (c.fact 91 (f := .noat "Mixing" "factor") rfl)
    mkr := He.mkr_ok (c.fact 92 (f := .mkr "Mixing") rfl)
    mBegin := He.meth_ok (c.fact 93 (f := .meth "Mixing" "begin") rfl)
    mMixed := He.meth_ok (c.fact 94 (f := .meth "Mixing" "mixed") rfl)
    mAlike := He.meth_ok (c.fact 95 (f := .meth "Mixing" "alike") rfl) }
theorem fd_is_name (X : K.In h) (G : h.Ns mainGlobals mg) (c : He.SaysD faL fnL K) : Fd K mg d_is_name := ⟨c.def_ 0 (d := d_is_name) rfl, He.glo_ok X G (c.fact 0 (f := .glo "is_name") rfl)⟩
theorem fd_name_number (X : K.In h) (G : h.Ns mainGlobals mg) (c : He.SaysD faL fnL K) : Fd K mg d_name_number := ⟨c.def_ 1 (d := d_name_number) rfl, He.glo_ok X G (c.fact 1 (f := .glo "name_number") rfl)⟩
theorem fd_name_of (X : K.In h) (G : h.Ns mainGlobals mg) (c : He.SaysD faL fnL K) : Fd K mg d_name_of := ⟨c.def_ 2 (d := d_name_of) rfl, He.glo_ok X G (c.fact 2 (f := .glo "name_of") rfl)⟩
theorem fd_is_from (X : K.In h) (G : h.Ns mainGlobals mg) (c : He.SaysD faL fnL K) : Fd K mg d_is_from := ⟨c.def_ 3 (d := d_is_from) rfl, He.glo_ok X G (c.fact 3 (f := .glo "is_from") rfl)⟩
theorem fd_is_noted (X : K.In h) (G : h.Ns mainGlobals mg) (c : He.SaysD faL fnL K) : Fd K mg d_is_noted := ⟨c.def_ 4 (d := d_is_noted) rfl, He.glo_ok X G (c.fact 4 (f := .glo "is_noted") rfl)⟩
theorem fd_is_row (X : K.In h) (G : h.Ns mainGlobals mg) (c : He.SaysD faL fnL K) : Fd K mg d_is_row := ⟨c.def_ 5 (d := d_is_row) rfl, He.glo_ok X G (c.fact 5 (f := .glo "is_row") rfl)⟩
theorem fd_row_number (X : K.In h) (G : h.Ns mainGlobals mg) (c : He.SaysD faL fnL K) : Fd K mg d_row_number := ⟨c.def_ 6 (d := d_row_number) rfl, He.glo_ok X G (c.fact 6 (f := .glo "row_number") rfl)⟩
theorem fd_row_with (X : K.In h) (G : h.Ns mainGlobals mg) (c : He.SaysD faL fnL K) : Fd K mg d_row_with := ⟨c.def_ 7 (d := d_row_with) rfl, He.glo_ok X G (c.fact 7 (f := .glo "row_with") rfl)⟩
theorem fd_is_between (X : K.In h) (G : h.Ns mainGlobals mg) (c : He.SaysD faL fnL K) : Fd K mg d_is_between := ⟨c.def_ 8 (d := d_is_between) rfl, He.glo_ok X G (c.fact 8 (f := .glo "is_between") rfl)⟩
theorem fd_divisor_of (X : K.In h) (G : h.Ns mainGlobals mg) (c : He.SaysD faL fnL K) : Fd K mg d_divisor_of := ⟨c.def_ 9 (d := d_divisor_of) rfl, He.glo_ok X G (c.fact 9 (f := .glo "divisor_of") rfl)⟩
theorem fd_figures_of (X : K.In h) (G : h.Ns mainGlobals mg) (c : He.SaysD faL fnL K) : Fd K mg d_figures_of := ⟨c.def_ 14 (d := d_figures_of) rfl, He.glo_ok X G (c.fact 10 (f := .glo "figures_of") rfl)⟩
theorem fd_row_behind_reading (X : K.In h) (G : h.Ns mainGlobals mg) (c : He.SaysD faL fnL K) : Fd K mg d_row_behind_reading := ⟨c.def_ 15 (d := d_row_behind_reading) rfl, He.glo_ok X G (c.fact 11 (f := .glo "row_behind_reading") rfl)⟩
theorem fd_read (X : K.In h) (G : h.Ns mainGlobals mg) (c : He.SaysD faL fnL K) : Fd K mg d_read := ⟨c.def_ 16 (d := d_read) rfl, He.glo_ok X G (c.fact 12 (f := .glo "read") rfl)⟩
theorem fd_can_stand (X : K.In h) (G : h.Ns mainGlobals mg) (c : He.SaysD faL fnL K) : Fd K mg d_can_stand := ⟨c.def_ 17 (d := d_can_stand) rfl, He.glo_ok X G (c.fact 13 (f := .glo "can_stand") rfl)⟩
theorem fd_fault (X : K.In h) (G : h.Ns mainGlobals mg) (c : He.SaysD faL fnL K) : Fd K mg d_fault := ⟨c.def_ 18 (d := d_fault) rfl, He.glo_ok X G (c.fact 14 (f := .glo "fault") rfl)⟩
theorem fd_look_log (X : K.In h) (G : h.Ns mainGlobals mg) (c : He.SaysD faL fnL K) : Fd K mg d_look_log := ⟨c.def_ 19 (d := d_look_log) rfl, He.glo_ok X G (c.fact 15 (f := .glo "look_log") rfl)⟩
theorem fd_row_behind_replays (X : K.In h) (G : h.Ns mainGlobals mg) (c : He.SaysD faL fnL K) : Fd K mg d_row_behind_replays := ⟨c.def_ 20 (d := d_row_behind_replays) rfl, He.glo_ok X G (c.fact 16 (f := .glo "row_behind_replays") rfl)⟩
theorem fd_replays (X : K.In h) (G : h.Ns mainGlobals mg) (c : He.SaysD faL fnL K) : Fd K mg d_replays := ⟨c.def_ 21 (d := d_replays) rfl, He.glo_ok X G (c.fact 17 (f := .glo "replays") rfl)⟩
theorem fd_replay (X : K.In h) (G : h.Ns mainGlobals mg) (c : He.SaysD faL fnL K) : Fd K mg d_replay := ⟨c.def_ 22 (d := d_replay) rfl, He.glo_ok X G (c.fact 18 (f := .glo "replay") rfl)⟩
theorem fd_leads_to (X : K.In h) (G : h.Ns mainGlobals mg) (c : He.SaysD faL fnL K) : Fd K mg d_leads_to := ⟨c.def_ 23 (d := d_leads_to) rfl, He.glo_ok X G (c.fact 19 (f := .glo "leads_to") rfl)⟩
theorem fd_shown_rows (X : K.In h) (G : h.Ns mainGlobals mg) (c : He.SaysD faL fnL K) : Fd K mg d_shown_rows := ⟨c.def_ 24 (d := d_shown_rows) rfl, He.glo_ok X G (c.fact 20 (f := .glo "shown_rows") rfl)⟩
theorem fd_is_turned (X : K.In h) (G : h.Ns mainGlobals mg) (c : He.SaysD faL fnL K) : Fd K mg d_is_turned := ⟨c.def_ 25 (d := d_is_turned) rfl, He.glo_ok X G (c.fact 21 (f := .glo "is_turned") rfl)⟩
theorem fd_is_moved (X : K.In h) (G : h.Ns mainGlobals mg) (c : He.SaysD faL fnL K) : Fd K mg d_is_moved := ⟨c.def_ 26 (d := d_is_moved) rfl, He.glo_ok X G (c.fact 22 (f := .glo "is_moved") rfl)⟩
theorem fd_is_step (X : K.In h) (G : h.Ns mainGlobals mg) (c : He.SaysD faL fnL K) : Fd K mg d_is_step := ⟨c.def_ 27 (d := d_is_step) rfl, He.glo_ok X G (c.fact 23 (f := .glo "is_step") rfl)⟩
theorem fd_behind_step (X : K.In h) (G : h.Ns mainGlobals mg) (c : He.SaysD faL fnL K) : Fd K mg d_behind_step := ⟨c.def_ 28 (d := d_behind_step) rfl, He.glo_ok X G (c.fact 24 (f := .glo "behind_step") rfl)⟩
theorem fd_mended (X : K.In h) (G : h.Ns mainGlobals mg) (c : He.SaysD faL fnL K) : Fd K mg d_mended := ⟨c.def_ 29 (d := d_mended) rfl, He.glo_ok X G (c.fact 25 (f := .glo "mended") rfl)⟩
theorem fd_all_steps (X : K.In h) (G : h.Ns mainGlobals mg) (c : He.SaysD faL fnL K) : Fd K mg d_all_steps := ⟨c.def_ 30 (d := d_all_steps) rfl, He.glo_ok X G (c.fact 26 (f := .glo "all_steps") rfl)⟩
theorem fd_mends (X : K.In h) (G : h.Ns mainGlobals mg) (c : He.SaysD faL fnL K) : Fd K mg d_mends := ⟨c.def_ 31 (d := d_mends) rfl, He.glo_ok X G (c.fact 27 (f := .glo "mends") rfl)⟩
theorem fd_alike_ahead (X : K.In h) (G : h.Ns mainGlobals mg) (c : He.SaysD faL fnL K) : Fd K mg d_alike_ahead := ⟨c.def_ 32 (d := d_alike_ahead) rfl, He.glo_ok X G (c.fact 28 (f := .glo "alike_ahead") rfl)⟩
theorem fd_first_parted (X : K.In h) (G : h.Ns mainGlobals mg) (c : He.SaysD faL fnL K) : Fd K mg d_first_parted := ⟨c.def_ 33 (d := d_first_parted) rfl, He.glo_ok X G (c.fact 29 (f := .glo "first_parted") rfl)⟩
theorem fd__law_box (X : K.In h) (G : h.Ns mainGlobals mg) (c : He.SaysD faL fnL K) : Fd K mg d__law_box := ⟨c.def_ 34 (d := d__law_box) rfl, He.glo_ok X G (c.fact 30 (f := .glo "_law_box") rfl)⟩
theorem fd__law_take (X : K.In h) (G : h.Ns mainGlobals mg) (c : He.SaysD faL fnL K) : Fd K mg d__law_take := ⟨c.def_ 35 (d := d__law_take) rfl, He.glo_ok X G (c.fact 31 (f := .glo "_law_take") rfl)⟩
theorem fd__law_pick (X : K.In h) (G : h.Ns mainGlobals mg) (c : He.SaysD faL fnL K) : Fd K mg d__law_pick := ⟨c.def_ 36 (d := d__law_pick) rfl, He.glo_ok X G (c.fact 32 (f := .glo "_law_pick") rfl)⟩
theorem fd__law_names (X : K.In h) (G : h.Ns mainGlobals mg) (c : He.SaysD faL fnL K) : Fd K mg d__law_names := ⟨c.def_ 37 (d := d__law_names) rfl, He.glo_ok X G (c.fact 33 (f := .glo "_law_names") rfl)⟩
theorem fd__law_same (X : K.In h) (G : h.Ns mainGlobals mg) (c : He.SaysD faL fnL K) : Fd K mg d__law_same := ⟨c.def_ 38 (d := d__law_same) rfl, He.glo_ok X G (c.fact 34 (f := .glo "_law_same") rfl)⟩
theorem fd__law_name_number (X : K.In h) (G : h.Ns mainGlobals mg) (c : He.SaysD faL fnL K) : Fd K mg d__law_name_number := ⟨c.def_ 39 (d := d__law_name_number) rfl, He.glo_ok X G (c.fact 35 (f := .glo "_law_name_number") rfl)⟩
theorem fd__law_row_number (X : K.In h) (G : h.Ns mainGlobals mg) (c : He.SaysD faL fnL K) : Fd K mg d__law_row_number := ⟨c.def_ 40 (d := d__law_row_number) rfl, He.glo_ok X G (c.fact 36 (f := .glo "_law_row_number") rfl)⟩
theorem fd__law_shares (X : K.In h) (G : h.Ns mainGlobals mg) (c : He.SaysD faL fnL K) : Fd K mg d__law_shares := ⟨c.def_ 41 (d := d__law_shares) rfl, He.glo_ok X G (c.fact 37 (f := .glo "_law_shares") rfl)⟩
theorem fd__law_how (X : K.In h) (G : h.Ns mainGlobals mg) (c : He.SaysD faL fnL K) : Fd K mg d__law_how := ⟨c.def_ 42 (d := d__law_how) rfl, He.glo_ok X G (c.fact 38 (f := .glo "_law_how") rfl)⟩
theorem fd__law_mixed (X : K.In h) (G : h.Ns mainGlobals mg) (c : He.SaysD faL fnL K) : Fd K mg d__law_mixed := ⟨c.def_ 43 (d := d__law_mixed) rfl, He.glo_ok X G (c.fact 39 (f := .glo "_law_mixed") rfl)⟩
theorem fd__law_replay (X : K.In h) (G : h.Ns mainGlobals mg) (c : He.SaysD faL fnL K) : Fd K mg d__law_replay := ⟨c.def_ 44 (d := d__law_replay) rfl, He.glo_ok X G (c.fact 40 (f := .glo "_law_replay") rfl)⟩
theorem fd__law_note (X : K.In h) (G : h.Ns mainGlobals mg) (c : He.SaysD faL fnL K) : Fd K mg d__law_note := ⟨c.def_ 45 (d := d__law_note) rfl, He.glo_ok X G (c.fact 41 (f := .glo "_law_note") rfl)⟩
theorem fd__law_row (X : K.In h) (G : h.Ns mainGlobals mg) (c : He.SaysD faL fnL K) : Fd K mg d__law_row := ⟨c.def_ 46 (d := d__law_row) rfl, He.glo_ok X G (c.fact 42 (f := .glo "_law_row") rfl)⟩
theorem fd__law_log (X : K.In h) (G : h.Ns mainGlobals mg) (c : He.SaysD faL fnL K) : Fd K mg d__law_log := ⟨c.def_ 47 (d := d__law_log) rfl, He.glo_ok X G (c.fact 43 (f := .glo "_law_log") rfl)⟩
theorem fd__law_sizes (X : K.In h) (G : h.Ns mainGlobals mg) (c : He.SaysD faL fnL K) : Fd K mg d__law_sizes := ⟨c.def_ 48 (d := d__law_sizes) rfl, He.glo_ok X G (c.fact 44 (f := .glo "_law_sizes") rfl)⟩
theorem fd__law_turned (X : K.In h) (G : h.Ns mainGlobals mg) (c : He.SaysD faL fnL K) : Fd K mg d__law_turned := ⟨c.def_ 49 (d := d__law_turned) rfl, He.glo_ok X G (c.fact 45 (f := .glo "_law_turned") rfl)⟩
theorem fd__law_note_due (X : K.In h) (G : h.Ns mainGlobals mg) (c : He.SaysD faL fnL K) : Fd K mg d__law_note_due := ⟨c.def_ 50 (d := d__law_note_due) rfl, He.glo_ok X G (c.fact 46 (f := .glo "_law_note_due") rfl)⟩
theorem fd__law_shown_there (X : K.In h) (G : h.Ns mainGlobals mg) (c : He.SaysD faL fnL K) : Fd K mg d__law_shown_there := ⟨c.def_ 51 (d := d__law_shown_there) rfl, He.glo_ok X G (c.fact 47 (f := .glo "_law_shown_there") rfl)⟩
theorem fd__law_parted_due (X : K.In h) (G : h.Ns mainGlobals mg) (c : He.SaysD faL fnL K) : Fd K mg d__law_parted_due := ⟨c.def_ 52 (d := d__law_parted_due) rfl, He.glo_ok X G (c.fact 48 (f := .glo "_law_parted_due") rfl)⟩
theorem fd__law_words (X : K.In h) (G : h.Ns mainGlobals mg) (c : He.SaysD faL fnL K) : Fd K mg d__law_words := ⟨c.def_ 53 (d := d__law_words) rfl, He.glo_ok X G (c.fact 49 (f := .glo "_law_words") rfl)⟩
theorem fd__law_wide_right (X : K.In h) (G : h.Ns mainGlobals mg) (c : He.SaysD faL fnL K) : Fd K mg d__law_wide_right := ⟨c.def_ 54 (d := d__law_wide_right) rfl, He.glo_ok X G (c.fact 50 (f := .glo "_law_wide_right") rfl)⟩
theorem fd__law_place_right (X : K.In h) (G : h.Ns mainGlobals mg) (c : He.SaysD faL fnL K) : Fd K mg d__law_place_right := ⟨c.def_ 55 (d := d__law_place_right) rfl, He.glo_ok X G (c.fact 51 (f := .glo "_law_place_right") rfl)⟩
theorem fd__law_all_right (X : K.In h) (G : h.Ns mainGlobals mg) (c : He.SaysD faL fnL K) : Fd K mg d__law_all_right := ⟨c.def_ 56 (d := d__law_all_right) rfl, He.glo_ok X G (c.fact 52 (f := .glo "_law_all_right") rfl)⟩
theorem fd_law (X : K.In h) (G : h.Ns mainGlobals mg) (c : He.SaysD faL fnL K) : Fd K mg d_law := ⟨c.def_ 57 (d := d_law) rfl, He.glo_ok X G (c.fact 53 (f := .glo "law") rfl)⟩
theorem facts (X : K.In h) (G : h.Ns mainGlobals mg) (c : He.SaysX faL fnL [] [] exB w h K) {f : Addr} (hf : mg ("law" : Str) = some (.ref f)) :
    ∃ fd : FuncData, (∀ (s : Shared) (v : Value), BindsTo s fd ⟨[v], []⟩ [("_law_script", v)]) ∧ ∀ base : Heap, FnOk P w K mg base CX0 12 f fd ["_law_script"] (spLaw K) := by
  have T := tx_of X G c.t.d c.more
  obtain ⟨fdL, FL⟩ := c.t.d.def_ 57 (d := d_law) rfl
  have eL := hf.symm.trans (He.glo_ok X G (c.t.d.fact 53 (f := .glo "law") rfl))
  cases eL
  have bL := FunD.bindsA (ps := ["_law_script"]) FL fun _ _ _ _ _ _ us hl => match us, hl with | [_], _ => rfl
  refine ⟨fdL, fun s v => bL s [v] rfl, fun base => ?_⟩
  have h_is_from : Ok P w K mg base 1 "is_from" ["thing", "least", "top"] spFrom := ok_is_from T (fd_is_from X G c.t.d)
  have h_is_noted : Ok P w K mg base 2 "is_noted" ["word", "note"] spNoted := ok_is_noted T (fd_is_noted X G c.t.d) h_is_from
  have h_is_name : Ok P w K mg base 1 "is_name" ["thing"] spName := ok_is_name T (fd_is_name X G c.t.d)
  have h_is_row : Ok P w K mg base 3 "is_row" ["thing"] (spRow K) := ok_is_row T (fd_is_row X G c.t.d) h_is_from h_is_name h_is_noted
  have h_name_number : Ok P w K mg base 1 "name_number" ["name"] spNameNum := ok_name_number T (fd_name_number X G c.t.d)
  have h_row_number : Ok P w K mg base 2 "row_number" ["row"] (spRowNum K) := ok_row_number T (fd_row_number X G c.t.d) h_name_number
  have h_is_between : Ok P w K mg base 1 "is_between" ["thing", "least", "most"] spBetween := ok_is_between T (fd_is_between X G c.t.d)
  have h_divisor_of : Ok P w K mg base 1 "divisor_of" ["one", "other"] spDiv := ok_divisor_of T (fd_divisor_of X G c.t.d)
  obtain ⟨fd_fn_init, F_fn_init⟩ := c.t.d.def_ 10 (d := d_Mixing_init) rfl
  have G_fn_init : FnOk P w K mg base CX0 2 (He.ma K (mixC K) "__init__") fd_fn_init ["self", "width", "factor"] (spInit K) := fn_init T F_fn_init h_is_between h_divisor_of
  have mk : OkMake P w K mg base := okMake_of T F_fn_init G_fn_init
  obtain ⟨fd_fn_begin, F_fn_begin⟩ := c.t.d.def_ 11 (d := d_Mixing_begin) rfl
  have G_fn_begin : FnOk P w K mg base CX0 1 (He.ma K (mixC K) "begin") fd_fn_begin ["self", "reset"] (spBegin K) := fn_begin T F_fn_begin 
  have m_beginK : OkMK P w K mg base (mixC K) 1 "begin" ["self", "reset"] (spBegin K) ["reset"] (fun vs zs => vs ++ zs) := by
    obtain ⟨mv, B⟩ := FunD.kbinds0 (ps := ["self", "reset"]) F_fn_begin 1 ["reset"] [] (fun us _ ws => us ++ ws) (by intro z; cases z) (fun q hq => by cases hq) (fun r1 _ r3 => r1.append r3) (fun D doc pm an cdv ct us mv ws l1 l2 l3 => match us, mv, ws, l1, l2, l3 with | [_], [], [_], _, _, _ => rfl)
    exact ⟨_, fd_fn_begin, _, G_fn_begin, B, T.mBegin⟩
  have m_begin0 : OkM P w K mg base (mixC K) 1 "begin" ["self", "reset"] [.bl false] (spBegin K) := by
    obtain ⟨ds, V, B⟩ := FunD.binds0 (ps := ["self", "reset"]) F_fn_begin 1 (by intro z; cases z) rfl (fun D doc pm an cdv ct us ks l1 l2 => match us, ks, l1, l2 with | [_], [_], _, _ => ⟨_, _, _, _, _, _, rfl, rfl, rfl⟩)
    exact ⟨_, fd_fn_begin, ds, G_fn_begin, B, V, T.mBegin⟩
  obtain ⟨fd_fn_mixed, F_fn_mixed⟩ := c.t.d.def_ 12 (d := d_Mixing_mixed) rfl
  have G_fn_mixed : FnOk P w K mg base CX0 3 (He.ma K (mixC K) "mixed") fd_fn_mixed ["self", "value", "row"] (spMixed K) := fn_mixed T F_fn_mixed h_row_number
  have m_mixed : OkM P w K mg base (mixC K) 3 "mixed" ["self", "value", "row"] [] (spMixed K) := ⟨_, fd_fn_mixed, [], G_fn_mixed, FunD.bindsN (ps := ["self", "value", "row"]) F_fn_mixed (fun _ _ _ _ _ _ us hl => match us, hl with | [_, _, _], _ => rfl), .nil, T.mMixed⟩
  obtain ⟨fd_fn_alike, F_fn_alike⟩ := c.t.d.def_ 13 (d := d_Mixing_alike) rfl
  have G_fn_alike : FnOk P w K mg base CX0 3 (He.ma K (mixC K) "alike") fd_fn_alike ["self", "row", "other"] (spAlike K) := fn_alike T F_fn_alike h_row_number
  have m_alike : OkM P w K mg base (mixC K) 3 "alike" ["self", "row", "other"] [] (spAlike K) := ⟨_, fd_fn_alike, [], G_fn_alike, FunD.bindsN (ps := ["self", "row", "other"]) F_fn_alike (fun _ _ _ _ _ _ us hl => match us, hl with | [_, _, _], _ => rfl), .nil, T.mAlike⟩
  have h_name_of : Ok P w K mg base 1 "name_of" ["number"] spNameOf := ok_name_of T (fd_name_of X G c.t.d)
  have h_row_with : Ok P w K mg base 3 "row_with" ["number", "board"] (spRowWith K) := ok_row_with T (fd_row_with X G c.t.d) h_is_noted h_name_of
  have h_figures_of : Ok P w K mg base 1 "figures_of" ["value"] (spFigures K) := ok_figures_of T (fd_figures_of X G c.t.d)
  have h_row_behind_reading : Ok P w K mg base 4 "row_behind_reading" ["value", "figure"] (spBehindR K) := ok_row_behind_reading T (fd_row_behind_reading X G c.t.d) h_row_with
  have h_read : Ok P w K mg base 5 "read" ["value"] (spRead K) := ok_read T (fd_read X G c.t.d) h_figures_of h_row_behind_reading
  have h_can_stand : Ok P w K mg base 4 "can_stand" ["row", "ended", "many", "fixed"] (spCanStand K) := ok_can_stand T (fd_can_stand X G c.t.d) h_is_row
  have r_fault : OkD P w K mg base 5 d_fault ["log", "many", "fixed"] (spFault K) := ok_fault T (fd_fault X G c.t.d) h_can_stand
  have h_fault_mf := OkD.k r_fault 1 ["many", "fixed"] (fun vs zs => vs ++ zs) (fun r1 r2 => r1.append r2) (fun D doc pm an cdv ct us ws l1 l2 => match us, ws, l1, l2 with | [_], [_, _], _, _ => rfl)
  have h_look_log : Ok P w K mg base 6 "look_log" ["log", "many", "fixed"] (spLook K) := ok_look_log T (fd_look_log X G c.t.d) h_fault_mf
  have h_row_behind_replays : Ok P w K mg base 4 "row_behind_replays" ["mixing", "boards", "row"] (spBehind K) := ok_row_behind_replays T (fd_row_behind_replays X G c.t.d) m_beginK m_mixed
  have r_replays : OkD P w K mg base 7 d_replays ["mixing", "log", "many", "fixed"] (spReplays K) := ok_replays T (fd_replays X G c.t.d) h_look_log m_begin0 h_row_behind_replays
  have h_replays_mf := OkD.k r_replays 2 ["many", "fixed"] (fun vs zs => vs ++ zs) (fun r1 r2 => r1.append r2) (fun D doc pm an cdv ct us ws l1 l2 => match us, ws, l1, l2 with | [_, _], [_, _], _, _ => rfl)
  have r_replay : OkD P w K mg base 8 d_replay ["mixing", "log", "many", "fixed"] (spReplay K) := ok_replay T (fd_replay X G c.t.d) h_replays_mf
  have h_replay_mf := OkD.k r_replay 2 ["many", "fixed"] (fun vs zs => vs ++ zs) (fun r1 r2 => r1.append r2) (fun D doc pm an cdv ct us ws l1 l2 => match us, ws, l1, l2 with | [_, _], [_, _], _, _ => rfl)
  have h_replay_fm := OkD.k r_replay 2 ["fixed", "many"] (fun vs zs => vs ++ zs.reverse) (fun r1 r2 => r1.append (vals_rev r2)) (fun D doc pm an cdv ct us ws l1 l2 => match us, ws, l1, l2 with | [_, _], [_, _], _, _ => rfl)
  have h_replay_lmfm := OkD.k r_replay 0 ["log", "mixing", "fixed", "many"] (fun vs zs => (zs.take 2).reverse ++ (zs.drop 2).reverse) (fun r1 r2 => (vals_rev (r2.take 2)).append (vals_rev (r2.drop 2))) (fun D doc pm an cdv ct us ws l1 l2 => match us, ws, l1, l2 with | [], [_, _, _, _], _, _ => rfl)
  have r_leads_to : OkD P w K mg base 9 d_leads_to ["mixing", "log", "values", "many", "fixed"] (spLeads K) := ok_leads_to T (fd_leads_to X G c.t.d) h_fault_mf h_replay_mf
  have h_leads_to_mf := OkD.k r_leads_to 3 ["many", "fixed"] (fun vs zs => vs ++ zs) (fun r1 r2 => r1.append r2) (fun D doc pm an cdv ct us ws l1 l2 => match us, ws, l1, l2 with | [_, _, _], [_, _], _, _ => rfl)
  have h_leads_to_vlmfm := OkD.k r_leads_to 0 ["values", "log", "mixing", "fixed", "many"] (fun vs zs => (zs.take 3).reverse ++ (zs.drop 3).reverse) (fun r1 r2 => (vals_rev (r2.take 3)).append (vals_rev (r2.drop 3))) (fun D doc pm an cdv ct us ws l1 l2 => match us, ws, l1, l2 with | [], [_, _, _, _, _], _, _ => rfl)
  have r_shown_rows : OkD P w K mg base 7 d_shown_rows ["log", "many", "fixed"] (spShown K) := ok_shown_rows T (fd_shown_rows X G c.t.d) h_look_log
  have h_shown_rows_mf := OkD.k r_shown_rows 1 ["many", "fixed"] (fun vs zs => vs ++ zs) (fun r1 r2 => r1.append r2) (fun D doc pm an cdv ct us ws l1 l2 => match us, ws, l1, l2 with | [_], [_, _], _, _ => rfl)
  have h_alike_ahead : Ok P w K mg base 1 "alike_ahead" ["rows", "others"] (spAhead K) := ok_alike_ahead T (fd_alike_ahead X G c.t.d)
  have r_first_parted : OkD P w K mg base 8 d_first_parted ["mixing", "log", "values", "many", "fixed"] (spFirst K) := ok_first_parted T (fd_first_parted X G c.t.d) h_read h_shown_rows_mf h_alike_ahead
  have h_first_parted_mf := OkD.k r_first_parted 3 ["many", "fixed"] (fun vs zs => vs ++ zs) (fun r1 r2 => r1.append r2) (fun D doc pm an cdv ct us ws l1 l2 => match us, ws, l1, l2 with | [_, _, _], [_, _], _, _ => rfl)
  have h_is_turned : Ok P w K mg base 4 "is_turned" ["log", "place", "rest"] (spTurned K) := ok_is_turned T (fd_is_turned X G c.t.d) h_is_from h_is_row
  have h_is_moved : Ok P w K mg base 2 "is_moved" ["log", "place", "rest"] (spMoved K) := ok_is_moved T (fd_is_moved X G c.t.d) h_is_from
  have h_is_step : Ok P w K mg base 5 "is_step" ["log", "thing"] (spStep K) := ok_is_step T (fd_is_step X G c.t.d) h_is_from h_is_row h_is_turned h_is_moved
  have h_behind_step : Ok P w K mg base 1 "behind_step" ["log", "step"] (spBehindStep K) := ok_behind_step T (fd_behind_step X G c.t.d)
  have h_mended : Ok P w K mg base 6 "mended" ["log", "step"] (spMended K) := ok_mended T (fd_mended X G c.t.d) h_is_step h_behind_step
  have h_all_steps : Ok P w K mg base 1 "all_steps" ["log", "some"] (spAll K) := ok_all_steps T (fd_all_steps X G c.t.d)
  have r_mends : OkD P w K mg base 10 d_mends ["mixing", "log", "values", "some", "many", "fixed"] (spMends K) := ok_mends T (fd_mends X G c.t.d) h_all_steps h_behind_step h_leads_to_mf
  have h_mends_mf := OkD.k r_mends 4 ["many", "fixed"] (fun vs zs => vs ++ zs) (fun r1 r2 => r1.append r2) (fun D doc pm an cdv ct us ws l1 l2 => match us, ws, l1, l2 with | [_, _, _, _], [_, _], _, _ => rfl)
  have h__law_box : Ok P w K mg base 1 "_law_box" ["_law_script", "_law_k"] (spBox K) := ok__law_box T (fd__law_box X G c.t.d)
  have h__law_take : Ok P w K mg base 1 "_law_take" ["_law_box_here", "_law_size"] spTake := ok__law_take T (fd__law_take X G c.t.d)
  have h__law_pick : Ok P w K mg base 2 "_law_pick" ["_law_box_here", "_law_things"] (spPick K) := ok__law_pick T (fd__law_pick X G c.t.d) h__law_take
  have h__law_name_number : Ok P w K mg base 1 "_law_name_number" ["_law_name"] spNameNum := ok__law_name_number T (fd__law_name_number X G c.t.d)
  have h__law_row_number : Ok P w K mg base 2 "_law_row_number" ["_law_row_here"] (spLRowNum K) := ok__law_row_number T (fd__law_row_number X G c.t.d) h__law_name_number
  have h__law_shares : Ok P w K mg base 1 "_law_shares" ["_law_one", "_law_two"] spShares := ok__law_shares T (fd__law_shares X G c.t.d)
  have h__law_how : Ok P w K mg base 2 "_law_how" ["_law_box_here"] (spHow K) := ok__law_how T (fd__law_how X G c.t.d) h__law_take h__law_shares
  have h__law_mixed : Ok P w K mg base 3 "_law_mixed" ["_law_how_here", "_law_value", "_law_row_here"] (spLMixed K) := ok__law_mixed T (fd__law_mixed X G c.t.d) h__law_row_number
  have h__law_replay : Ok P w K mg base 4 "_law_replay" ["_law_how_here", "_law_rows", "_law_size"] (spLReplay K) := ok__law_replay T (fd__law_replay X G c.t.d) h__law_mixed
  have h__law_note : Ok P w K mg base 2 "_law_note" ["_law_box_here"] spNote := ok__law_note T (fd__law_note X G c.t.d) h__law_take
  have h__law_row : Ok P w K mg base 3 "_law_row" ["_law_box_here", "_law_names_here", "_law_word", "_law_size"] (spLRow K) := ok__law_row T (fd__law_row X G c.t.d) h__law_take h__law_pick h__law_note
  have h__law_sizes : Ok P w K mg base 2 "_law_sizes" ["_law_box_here"] (spSizes K) := ok__law_sizes T (fd__law_sizes X G c.t.d) h__law_take
  have h__law_names : Ok P w K mg base 2 "_law_names" ["_law_box_here", "_law_size"] (spNames K) := ok__law_names T (fd__law_names X G c.t.d) h__law_take
  have h__law_log : Ok P w K mg base 4 "_law_log" ["_law_box_here", "_law_names_here", "_law_size", "_law_kept", "_law_count"] (spLLog K) := ok__law_log T (fd__law_log X G c.t.d) h__law_take h__law_row
  have h__law_turned : Ok P w K mg base 1 "_law_turned" ["_law_one", "_law_width"] spLTurned := ok__law_turned T (fd__law_turned X G c.t.d)
  have h__law_note_due : Ok P w K mg base 5 "_law_note_due" ["_law_how_here", "_law_rows", "_law_at", "_law_row_here", "_law_goal"] (spDue K) := ok__law_note_due T (fd__law_note_due X G c.t.d) h__law_replay h__law_turned h__law_row_number h__law_mixed
  have h__law_shown_there : Ok P w K mg base 1 "_law_shown_there" ["_law_rows", "_law_board"] (spThere K) := ok__law_shown_there T (fd__law_shown_there X G c.t.d)
  have h__law_parted_due : Ok P w K mg base 2 "_law_parted_due" ["_law_rows", "_law_longer", "_law_board"] (spPart K) := ok__law_parted_due T (fd__law_parted_due X G c.t.d) h__law_shown_there
  have h__law_same1 : Ok P w K mg base 1 "_law_same" ["_law_found", "_law_due"] spSame1 := ok__law_same1 T (fd__law_same X G c.t.d)
  have h__law_same : Ok P w K mg base 2 "_law_same" ["_law_found", "_law_due"] (spSame2 K) := ok__law_same2 T (fd__law_same X G c.t.d) h__law_same1
  have h__law_words : Ok P w K mg base 1 "_law_words" ["_law_rows", "_law_at"] (spWords K) := ok__law_words T (fd__law_words X G c.t.d)
  have h__law_wide_right : Ok P w K mg base 9 "_law_wide_right" ["_law_rows", "_law_longer", "_law_board", "_law_size", "_law_kept"] (spWideR K) := ok__law_wide_right T (fd__law_wide_right X G c.t.d) mk h_first_parted_mf h_replay_fm h__law_same h__law_parted_due
  have h__law_place_right : Ok P w K mg base 11 "_law_place_right" ["_law_box_here", "_law_how_here", "_law_own", "_law_rows", "_law_names_here", "_law_size", "_law_kept"] (spPlace K) := ok__law_place_right T (fd__law_place_right X G c.t.d) h_mends_mf h_mended h_leads_to_mf h_leads_to_vlmfm h__law_wide_right h__law_take m_alike h__law_pick h__law_words h__law_note_due h__law_replay
  have h__law_all_right : Ok P w K mg base 10 "_law_all_right" ["_law_box_here", "_law_how_here", "_law_own", "_law_rows", "_law_names_here", "_law_size", "_law_kept"] (spAllR K) := ok__law_all_right T (fd__law_all_right X G c.t.d) h_leads_to_mf h_replay_lmfm h__law_take h__law_pick h__law_words h__law_note_due h__law_same
  exact fn_law T FL mk h__law_box h__law_names h__law_sizes h__law_how h__law_take h__law_log h__law_place_right h__law_all_right
end
end K21
open PySem PySem.W PySem.Calls PyProof.Rows
theorem PySem.Challenge.cw_startlog_k21_whole_one_row_leads_anywher_holds : PySem.Challenge.rw_startlog_k21_whole_one_row_leads_anywher.Holds := by
  w_on; o_law
  refine HandSHeadRun.head_any (r := OpenLaw.row PySem.Challenge.rw_startlog_k21_whole_one_row_leads_anywher) (q := view (OpenLaw.row PySem.Challenge.rw_startlog_k21_whole_one_row_leads_anywher).prog [93]) (H := K21.hk) (ob := K21.ob) (M := 20000) (loose := K21.looseL) (d := HandSHeadRun.topDef (OpenLaw.row PySem.Challenge.rw_startlog_k21_whole_one_row_leads_anywher).prog 93) (kwd := []) K21.ob_eq
    (by kernel_rfl) (fun s => by kernel_rfl) K21.run (by kernel_rfl) (by kernel_rfl) (by kernel_rfl) (by rfl) (by first | assumption | decide +kernel) (by decide +kernel) ⟨rfl, rfl, rfl, rfl, rfl, by decide +kernel⟩ ?hw ?hc
  case hw => w_witness2
  case hc =>
    refine L2.walk_ofE (l := PySem.Challenge.rw_startlog_k21_whole_one_row_leads_anywher) (n := 63) (k := 12) (x := "_law_script") (CX := L2.CX0) rfl (by decide) (by kernel_rfl) ⟨rfl, by decide, by decide⟩ ?F (fun _ _ _ _ z => z)
    intro w mg fa h Y G hmg0
    obtain ⟨K, KX, c⟩ := Y
    have hmg : mg ("law" : PySem.Str) = some (.ref fa) := by
      have e : (HandSHeadRun.topDef (OpenLaw.row PySem.Challenge.rw_startlog_k21_whole_one_row_leads_anywher).prog 93).name = ("law" : PySem.Str) := by kernel_rfl
      rw [← e]
      exact hmg0
    obtain ⟨fd, hb, hF⟩ := K21.facts (P := (PySem.Challenge.rw_startlog_k21_whole_one_row_leads_anywher).prog) (w := w) KX G c hmg
    exact ⟨K, fd, K21.spLaw K, KX, hb, fun H a ns hl _ hS => ⟨a, ns, rfl, hS, fun _ => rfl⟩, fun base _ _ => hF base⟩
