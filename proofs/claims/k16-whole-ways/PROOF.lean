import PyProof.Rows.All
import Wide.All
import OpenK.AllK
import Wide.FinOn
import HandS.ForMost
import HandS.Gcd
import HandS.Sort
import HandS.Deep
import HandS.Style
import HandS.Defaults
import HandS.Walk
import KE.GoesEnum
import PySem.Challenge.RW_cushioned_k16_whole_ways
set_option Elab.async false
set_option linter.all false
set_option maxRecDepth 100000
set_option maxHeartbeats 8000000
/-! The plain law: counts over small tables, with no program in sight. -/
namespace Cw

/-- f 0 + f 1 + .. + f (n - 1) -/
def sumTo : Nat → (Nat → Nat) → Nat
  | 0, _ => 0
  | n + 1, f => sumTo n f + f n

theorem sumTo_congr : ∀ {n : Nat} {f g : Nat → Nat}, (∀ i, i < n → f i = g i) → sumTo n f = sumTo n g
  | 0, _, _, _ => rfl
  | n + 1, f, g, h => by
    unfold sumTo
    rw [sumTo_congr (n := n) fun i hi => h i (by omega), h n (by omega)]

/-! ### what the program reckons, as plain functions -/
def phase (s p d : Int) : Int := if d = 1 then p else (-p) % (2 * s)
/-- the remainders of the minutes at which a part is at a place -/
def cls (s p d g : Int) : List Int :=
  if d = 0 then (if p = g then [0] else [])
  else if (g - phase s p d) % (2 * s) = (-g - phase s p d) % (2 * s) then [(g - phase s p d) % (2 * s)]
  else [(g - phase s p d) % (2 * s), (-g - phase s p d) % (2 * s)]
/-- their modulus -/
def md (s d : Int) : Int := if d = 0 then 1 else 2 * s
def agr (a m b n : Int) : Bool := (b - a) % (Int.gcd m n : Int) == 0
def cnt (m n : Int) (as bs : List Int) : Nat := (as.map fun a => bs.countP fun b => agr a m b n).sum
/-- the number of classes at a point -/
def hit (w h x y dx dy gx gy : Int) : Nat := cnt (md w dx) (md h dy) (cls w x dx gx) (cls h y dy gy)
def per (w h dx dy : Int) : Int :=
  if dx = 0 then 2 * h else if dy = 0 then 2 * w else 2 * w / (Int.gcd (2 * w) (2 * h) : Int) * (2 * h)
/-- a slanting ball comes to a corner -/
def crn (w h x y dx dy : Int) : Bool := agr ((-phase w x dx) % w) w ((-phase h y dy) % h) h
def pcf (w h : Int) (c : Bool) : Int :=
  let g : Int := (Int.gcd w h : Int)
  if c then g * (w / g) * (h / g) + 1 - (w / g - 1) * (h / g - 1) / 2
  else 2 * g * (w / g) * (h / g) - 2 * (w / g) * (h / g) + w / g + h / g
def pcount (w h x y dx dy : Int) : Int :=
  if dx = 0 then 1 + h else if dy = 0 then 1 + w else pcf w h (crn w h x y dx dy)

/-! ### by what differs alone -/
def sides (s g : Int) : List Int := if g = 0 ∨ g = s then [g] else [g, -g]
def hitC (w h c gx gy : Int) : Nat :=
  ((sides w gx).map fun a => (sides h gy).countP fun b => (b - a + c) % (Int.gcd (2 * w) (2 * h) : Int) == 0).sum

theorem same_iff {s g k : Int} (h1 : 1 ≤ s) (h9 : s ≤ 9) (g0 : 0 ≤ g) (gs : g ≤ s) : (g - k) % (2 * s) = (-g - k) % (2 * s) ↔ (g = 0 ∨ g = s) := by
  have e : s = 1 ∨ s = 2 ∨ s = 3 ∨ s = 4 ∨ s = 5 ∨ s = 6 ∨ s = 7 ∨ s = 8 ∨ s = 9 := by omega
  rcases e with rfl | rfl | rfl | rfl | rfl | rfl | rfl | rfl | rfl <;> omega

theorem cls_sides {s p d g : Int} (h1 : 1 ≤ s) (h9 : s ≤ 9) (g0 : 0 ≤ g) (gs : g ≤ s) (hd : d ≠ 0) :
    cls s p d g = (sides s g).map fun a => (a - phase s p d) % (2 * s) := by
  unfold cls sides
  rw [if_neg hd]
  by_cases h : g = 0 ∨ g = s
  · rw [if_pos h, if_pos ((same_iff h1 h9 g0 gs).mpr h)]
    rfl
  · rw [if_neg h, if_neg (fun z => h ((same_iff h1 h9 g0 gs).mp z))]
    rfl

theorem agr_mod {a b p q m n : Int} : agr ((a - p) % m) m ((b - q) % n) n = ((b - a + (p - q)) % (Int.gcd m n : Int) == 0) := by
  unfold agr
  have d1 : (Int.gcd m n : Int) ∣ m := Int.gcd_dvd_left ..
  have d2 : (Int.gcd m n : Int) ∣ n := Int.gcd_dvd_right ..
  have e : ((b - q) % n - (a - p) % m) % (Int.gcd m n : Int) = (b - a + (p - q)) % (Int.gcd m n : Int) := by
    rw [Int.sub_emod, Int.emod_emod_of_dvd _ d1, Int.emod_emod_of_dvd _ d2, ← Int.sub_emod]
    congr 1
    omega
  rw [e]

theorem countP_map' {α β : Type} (f : α → β) (p : β → Bool) : ∀ l : List α, (l.map f).countP p = l.countP fun x => p (f x)
  | [] => rfl
  | x :: l => by
    rw [List.map_cons, List.countP_cons, List.countP_cons, countP_map' f p l]

theorem hit_C {w h x y dx dy gx gy : Int} (w1 : 1 ≤ w) (w9 : w ≤ 9) (h1 : 1 ≤ h) (h9 : h ≤ 9) (x0 : 0 ≤ gx) (xw : gx ≤ w) (y0 : 0 ≤ gy) (yh : gy ≤ h) (hx : dx ≠ 0) (hy : dy ≠ 0) :
    hit w h x y dx dy gx gy = hitC w h (phase w x dx - phase h y dy) gx gy := by
  unfold hit hitC cnt
  rw [cls_sides w1 w9 x0 xw hx, cls_sides h1 h9 y0 yh hy, List.map_map]
  congr 1
  refine List.map_congr_left fun a _ => ?_
  show (List.countP _ _) = _
  rw [countP_map']
  unfold md
  rw [if_neg hx, if_neg hy]
  congr 1
  funext b
  exact agr_mod

theorem hitC_mod {w h c gx gy : Int} : hitC w h c gx gy = hitC w h (c % (Int.gcd (2 * w) (2 * h) : Int)) gx gy := by
  unfold hitC
  congr 1
  refine List.map_congr_left fun a _ => ?_
  congr 1
  funext b
  have e : (b - a + c) % (Int.gcd (2 * w) (2 * h) : Int) = (b - a + c % (Int.gcd (2 * w) (2 * h) : Int)) % (Int.gcd (2 * w) (2 * h) : Int) := by
    rw [Int.add_emod_emod]
  rw [e]

theorem crn_c {w h x y dx dy : Int} : crn w h x y dx dy = ((phase w x dx - phase h y dy) % (Int.gcd w h : Int) == 0) := by
  unfold crn
  have e := agr_mod (a := 0) (b := 0) (p := phase w x dx) (q := phase h y dy) (m := w) (n := h)
  rw [Int.zero_sub, Int.zero_sub] at e
  rw [e]
  congr 2
  omega

/-! ### the finite look: every table, every difference -/
def lookS (w h c : Nat) : Bool :=
  let g := 2 * Nat.gcd w h
  sumTo (w + 1) (fun x => sumTo (h + 1) fun y => hitC w h c x y) == 2 * w / g * (2 * h) &&
  ((sumTo (w + 1) (fun x => sumTo (h + 1) fun y => if 0 < hitC w h c x y then 1 else 0) : Nat) : Int) == pcf w h ((c : Int) % (Int.gcd w h : Int) == 0) &&
  (List.range (w + 1)).all (fun x => (List.range (h + 1)).all fun y => hitC w h c x y == hitC w h ((-(c : Int)) % (g : Int)) x y)
def lookAll : Bool := (List.range 9).all fun w => (List.range 9).all fun h => (List.range (2 * Nat.gcd (w + 1) (h + 1))).all fun c => lookS (w + 1) (h + 1) c
theorem looked : lookAll = true := by decide +kernel

theorem look_of {w h c : Nat} (w1 : 1 ≤ w) (w9 : w ≤ 9) (h1 : 1 ≤ h) (h9 : h ≤ 9) (hc : c < 2 * Nat.gcd w h) : lookS w h c = true := by
  have a := List.all_eq_true.mp looked (w - 1) (List.mem_range.mpr (by omega))
  have b := List.all_eq_true.mp a (h - 1) (List.mem_range.mpr (by omega))
  have ew : w - 1 + 1 = w := by omega
  have eh : h - 1 + 1 = h := by omega
  rw [ew, eh] at b
  exact List.all_eq_true.mp b c (List.mem_range.mpr hc)

theorem gcd2 (w h : Nat) : Int.gcd (2 * (w : Int)) (2 * (h : Int)) = 2 * Nat.gcd w h := by
  have e := Nat.gcd_mul_left 2 w h
  rw [← e]
  show Nat.gcd (2 * (w : Int)).natAbs (2 * (h : Int)).natAbs = _
  congr 1 <;> omega

structure Facts (w h : Nat) (x y dx dy : Int) : Prop where
  visits : ((sumTo (w + 1) fun i => sumTo (h + 1) fun j => hit w h x y dx dy i j : Nat) : Int) = per w h dx dy
  passed : ((sumTo (w + 1) fun i => sumTo (h + 1) fun j => if 0 < hit w h x y dx dy i j then 1 else 0 : Nat) : Int) = pcount w h x y dx dy
  other : ∀ i j : Nat, i ≤ w → j ≤ h → (0 < hit w h x y (-dx) (-dy) i j ↔ 0 < hit w h x y dx dy i j)
  back : pcount w h x y (-dx) (-dy) = pcount w h x y dx dy

def sg (d p : Int) : Int := if d = 1 then p else -p
theorem phase_sg {s p d m : Int} (hm : m ∣ 2 * s) : phase s p d % m = sg d p % m := by
  unfold phase sg
  by_cases e : d = 1
  · rw [if_pos e, if_pos e]
  · rw [if_neg e, if_neg e, Int.emod_emod_of_dvd _ hm]
theorem sg_back {p d : Int} (hd : d = 1 ∨ d = -1) : sg (-d) p = -sg d p := by
  unfold sg
  rcases hd with rfl | rfl
  · rw [if_neg (by decide), if_pos rfl]
  · rw [if_pos (by decide), if_neg (by decide)]
    omega
theorem diff_sg {w h x y dx dy m : Int} (h1 : m ∣ 2 * w) (h2 : m ∣ 2 * h) : (phase w x dx - phase h y dy) % m = (sg dx x - sg dy y) % m := by
  rw [Int.sub_emod, phase_sg h1, phase_sg h2, ← Int.sub_emod]

/-- a slanting ball, by the difference c of its phases -/
theorem slant {w h : Nat} {x y dx dy : Int} (w1 : 1 ≤ w) (w9 : w ≤ 9) (h1 : 1 ≤ h) (h9 : h ≤ 9) (hx : dx ≠ 0) (hy : dy ≠ 0) {i j : Nat} (hi : i ≤ w) (hj : j ≤ h) :
    hit w h x y dx dy i j = hitC w h ((sg dx x - sg dy y) % ((2 * Nat.gcd w h : Nat) : Int)) i j := by
  have g2 : (Int.gcd (2 * (w : Int)) (2 * (h : Int)) : Int) = ((2 * Nat.gcd w h : Nat) : Int) := by rw [gcd2]
  rw [hit_C (by omega) (by omega) (by omega) (by omega) (by omega) (by omega) (by omega) (by omega) hx hy, hitC_mod, ← g2, diff_sg (Int.gcd_dvd_left ..) (Int.gcd_dvd_right ..)]
theorem crn_sg {w h : Nat} {x y dx dy : Int} : crn w h x y dx dy = ((sg dx x - sg dy y) % (Int.gcd w h : Int) == 0) := by
  have d1 : (Int.gcd (w : Int) h : Int) ∣ 2 * w := Int.dvd_trans (Int.gcd_dvd_left ..) (Int.dvd_mul_left ..)
  have d2 : (Int.gcd (w : Int) h : Int) ∣ 2 * h := Int.dvd_trans (Int.gcd_dvd_right ..) (Int.dvd_mul_left ..)
  rw [crn_c, diff_sg d1 d2]

theorem facts_slant {w h : Nat} {x y dx dy : Int} (w1 : 1 ≤ w) (w9 : w ≤ 9) (h1 : 1 ≤ h) (h9 : h ≤ 9) (hx : dx = 1 ∨ dx = -1) (hy : dy = 1 ∨ dy = -1) : Facts w h x y dx dy := by
  have hx0 : dx ≠ 0 := by omega
  have hy0 : dy ≠ 0 := by omega
  have g0 : 0 < Nat.gcd w h := Nat.gcd_pos_of_pos_left _ (by omega)
  obtain ⟨c, hc⟩ : ∃ c : Nat, (sg dx x - sg dy y) % ((2 * Nat.gcd w h : Nat) : Int) = (c : Int) :=
    ⟨((sg dx x - sg dy y) % ((2 * Nat.gcd w h : Nat) : Int)).toNat, (Int.toNat_of_nonneg (Int.emod_nonneg _ (by omega))).symm⟩
  have clt : c < 2 * Nat.gcd w h := by
    have := Int.emod_lt_of_pos (sg dx x - sg dy y) (b := ((2 * Nat.gcd w h : Nat) : Int)) (by omega)
    omega
  have L := look_of w1 w9 h1 h9 clt
  unfold lookS at L
  simp only [Bool.and_eq_true, beq_iff_eq, List.all_eq_true, List.mem_range] at L
  obtain ⟨⟨L1, L2⟩, L3⟩ := L
  have hit1 : ∀ i j : Nat, i < w + 1 → j < h + 1 → hit w h x y dx dy i j = hitC w h c i j := fun i j hi hj => by
    rw [slant w1 w9 h1 h9 hx0 hy0 (by omega) (by omega), hc]
  have eb : (sg (-dx) x - sg (-dy) y) = -(sg dx x - sg dy y) := by
    rw [sg_back hx, sg_back hy]
    omega
  have ec : (-(sg dx x - sg dy y)) % ((2 * Nat.gcd w h : Nat) : Int) = (-(c : Int)) % ((2 * Nat.gcd w h : Nat) : Int) := by
    rw [← hc, ← Int.zero_sub, ← Int.zero_sub, Int.sub_emod_emod]
  have hit2 : ∀ i j : Nat, i < w + 1 → j < h + 1 → hit w h x y (-dx) (-dy) i j = hitC w h c i j := fun i j hi hj => by
    rw [slant w1 w9 h1 h9 (by omega) (by omega) (by omega) (by omega), eb, ec]
    exact (L3 i hi j hj).symm
  have dv : (Int.gcd (w : Int) h : Int) ∣ ((2 * Nat.gcd w h : Nat) : Int) := ⟨2, by show ((2 * Nat.gcd w h : Nat) : Int) = ((Nat.gcd w h : Nat) : Int) * 2; omega⟩
  have cr : crn w h x y dx dy = ((c : Int) % (Int.gcd w h : Int) == 0) := by
    rw [crn_sg, ← hc, Int.emod_emod_of_dvd _ dv]
  have cr2 : crn w h x y (-dx) (-dy) = crn w h x y dx dy := by
    rw [crn_sg, crn_sg, eb]
    have q : ∀ a m : Int, (-a % m == 0) = (a % m == 0) := fun a m => by
      rw [Bool.eq_iff_iff, beq_iff_eq, beq_iff_eq, ← Int.dvd_iff_emod_eq_zero, ← Int.dvd_iff_emod_eq_zero, Int.dvd_neg]
    exact q _ _
  refine ⟨?_, ?_, fun i j hi hj => ?_, ?_⟩
  · rw [sumTo_congr fun i hi => sumTo_congr fun j hj => hit1 i j hi hj, L1]
    unfold per
    rw [if_neg hx0, if_neg hy0, gcd2, Int.natCast_mul, Int.natCast_ediv, Int.natCast_mul 2 w, Int.natCast_mul 2 h]
    rfl
  · rw [sumTo_congr fun i hi => sumTo_congr fun j hj => by rw [hit1 i j hi hj], L2]
    unfold pcount
    rw [if_neg hx0, if_neg hy0, cr]
  · rw [hit1 i j (by omega) (by omega), hit2 i j (by omega) (by omega)]
  · unfold pcount
    rw [if_neg hx0, if_neg hy0, if_neg (by omega), if_neg (by omega), cr2]

/-! ### a ball along one side -/
def lookH (w h y : Nat) : Bool :=
  sumTo (w + 1) (fun i => sumTo (h + 1) fun j => if y = j then (sides w i).length else 0) == 2 * w &&
  sumTo (w + 1) (fun i => sumTo (h + 1) fun j => if 0 < (if y = j then (sides w i).length else 0) then 1 else 0) == 1 + w
def lookV (w h x : Nat) : Bool :=
  sumTo (w + 1) (fun i => sumTo (h + 1) fun j => if x = i then (sides h j).length else 0) == 2 * h &&
  sumTo (w + 1) (fun i => sumTo (h + 1) fun j => if 0 < (if x = i then (sides h j).length else 0) then 1 else 0) == 1 + h
theorem lookedH : ((List.range 9).all fun w => (List.range 9).all fun h => (List.range (h + 2)).all fun y => lookH (w + 1) (h + 1) y) = true := by decide +kernel
theorem lookedV : ((List.range 9).all fun w => (List.range 9).all fun h => (List.range (w + 2)).all fun x => lookV (w + 1) (h + 1) x) = true := by decide +kernel
theorem lookH_of {w h y : Nat} (w1 : 1 ≤ w) (w9 : w ≤ 9) (h1 : 1 ≤ h) (h9 : h ≤ 9) (hy : y ≤ h) : lookH w h y = true := by
  have a := List.all_eq_true.mp lookedH (w - 1) (List.mem_range.mpr (by omega))
  have b := List.all_eq_true.mp a (h - 1) (List.mem_range.mpr (by omega))
  have c := List.all_eq_true.mp b y (List.mem_range.mpr (by omega))
  have ew : w - 1 + 1 = w := by omega
  have eh : h - 1 + 1 = h := by omega
  rw [ew, eh] at c
  exact c
theorem lookV_of {w h x : Nat} (w1 : 1 ≤ w) (w9 : w ≤ 9) (h1 : 1 ≤ h) (h9 : h ≤ 9) (hx : x ≤ w) : lookV w h x = true := by
  have a := List.all_eq_true.mp lookedV (w - 1) (List.mem_range.mpr (by omega))
  have b := List.all_eq_true.mp a (h - 1) (List.mem_range.mpr (by omega))
  have c := List.all_eq_true.mp b x (List.mem_range.mpr (by omega))
  have ew : w - 1 + 1 = w := by omega
  have eh : h - 1 + 1 = h := by omega
  rw [ew, eh] at c
  exact c
theorem agr_one {a m b : Int} : agr a m b 1 = true ∧ agr b 1 a m = true := by
  unfold agr
  have e1 : Int.gcd m 1 = 1 := by
    show Nat.gcd m.natAbs 1 = 1
    exact Nat.gcd_one_right _
  have e2 : Int.gcd 1 m = 1 := by
    show Nat.gcd 1 m.natAbs = 1
    exact Nat.gcd_one_left _
  rw [e1, e2]
  exact ⟨by rw [beq_iff_eq]; omega, by rw [beq_iff_eq]; omega⟩
theorem sum_one {α : Type} : ∀ (l : List α), (l.map fun _ => 1).sum = l.length
  | [] => rfl
  | _ :: l => by
    rw [List.map_cons, List.sum_cons, sum_one l, List.length_cons]
    omega
theorem sum_zero {α : Type} : ∀ (l : List α), (l.map fun _ => 0).sum = 0
  | [] => rfl
  | _ :: l => by
    rw [List.map_cons, List.sum_cons, sum_zero l]
theorem hit_H {w h y : Nat} {x dx : Int} (w1 : 1 ≤ w) (w9 : w ≤ 9) (hx : dx ≠ 0) {i j : Nat} (hi : i ≤ w) : hit w h x y dx 0 i j = if y = j then (sides w i).length else 0 := by
  unfold hit cnt
  rw [cls_sides (by omega) (by omega) (by omega) (by omega) hx]
  unfold cls md
  rw [if_pos rfl, if_pos rfl, if_neg hx]
  by_cases e : y = j
  · rw [if_pos (by omega), if_pos e, List.map_map]
    have q : ((fun a => List.countP (fun b => agr a (2 * (w : Int)) b 1) [0]) ∘ fun a => (a - phase (w : Int) x dx) % (2 * (w : Int))) = fun _ => 1 := by
      funext a
      show List.countP _ [0] = 1
      rw [List.countP_cons, agr_one.1]
      rfl
    rw [q, sum_one]
  · rw [if_neg (by omega), if_neg e, List.map_map]
    have q : ((fun a => List.countP (fun b => agr a (2 * (w : Int)) b 1) []) ∘ fun a => (a - phase (w : Int) x dx) % (2 * (w : Int))) = fun _ => 0 := by
      funext a
      rfl
    rw [q, sum_zero]
theorem hit_V {w h x : Nat} {y dy : Int} (h1 : 1 ≤ h) (h9 : h ≤ 9) (hy : dy ≠ 0) {i j : Nat} (hj : j ≤ h) : hit w h x y 0 dy i j = if x = i then (sides h j).length else 0 := by
  unfold hit cnt
  rw [cls_sides (s := (h : Int)) (by omega) (by omega) (by omega) (by omega) hy]
  unfold cls md
  rw [if_pos rfl, if_pos rfl, if_neg hy]
  by_cases e : x = i
  · rw [if_pos (by omega), if_pos e]
    rw [List.map_cons, List.map_nil, List.sum_cons, List.sum_nil, countP_map']
    have q : (fun a => agr 0 1 ((a - phase (h : Int) y dy) % (2 * (h : Int))) (2 * (h : Int))) = fun _ => true := by
      funext a
      exact agr_one.2
    rw [q, List.countP_true]
    rfl
  · rw [if_neg (by omega), if_neg e]
    rfl
theorem facts_H {w h y : Nat} {x dx : Int} (w1 : 1 ≤ w) (w9 : w ≤ 9) (h1 : 1 ≤ h) (h9 : h ≤ 9) (hy : y ≤ h) (hx : dx = 1 ∨ dx = -1) : Facts w h x y dx 0 := by
  have hx0 : dx ≠ 0 := by omega
  have hx1 : -dx ≠ 0 := by omega
  have L := lookH_of w1 w9 h1 h9 hy
  unfold lookH at L
  rw [Bool.and_eq_true, beq_iff_eq, beq_iff_eq] at L
  refine ⟨?_, ?_, fun i j hi hj => ?_, ?_⟩
  · rw [sumTo_congr fun i hi => sumTo_congr fun j hj => hit_H w1 w9 hx0 (by omega), L.1]
    unfold per
    rw [if_neg hx0, if_pos rfl]
    omega
  · rw [sumTo_congr fun i hi => sumTo_congr fun j hj => by rw [hit_H w1 w9 hx0 (by omega)], L.2]
    unfold pcount
    rw [if_neg hx0, if_pos rfl]
    omega
  · have z : (-0 : Int) = 0 := rfl
    rw [z, hit_H w1 w9 hx0 hi, hit_H w1 w9 hx1 hi]
  · unfold pcount
    rw [if_neg hx0, if_neg hx1, if_pos rfl, if_pos (by rfl)]
theorem facts_V {w h x : Nat} {y dy : Int} (w1 : 1 ≤ w) (w9 : w ≤ 9) (h1 : 1 ≤ h) (h9 : h ≤ 9) (hx : x ≤ w) (hy : dy = 1 ∨ dy = -1) : Facts w h x y 0 dy := by
  have hy0 : dy ≠ 0 := by omega
  have hy1 : -dy ≠ 0 := by omega
  have L := lookV_of w1 w9 h1 h9 hx
  unfold lookV at L
  rw [Bool.and_eq_true, beq_iff_eq, beq_iff_eq] at L
  refine ⟨?_, ?_, fun i j hi hj => ?_, ?_⟩
  · rw [sumTo_congr fun i hi => sumTo_congr fun j hj => hit_V h1 h9 hy0 (by omega), L.1]
    unfold per
    rw [if_pos rfl]
    omega
  · rw [sumTo_congr fun i hi => sumTo_congr fun j hj => by rw [hit_V h1 h9 hy0 (by omega)], L.2]
    unfold pcount
    rw [if_pos rfl]
    omega
  · have z : (-0 : Int) = 0 := rfl
    rw [z, hit_V h1 h9 hy0 hj, hit_V h1 h9 hy1 hj]
  · unfold pcount
    rw [if_pos (by rfl), if_pos rfl]

/-- ALL that the law asks of the counts -/
theorem facts {w h x y : Nat} {dx dy : Int} (w1 : 1 ≤ w) (w9 : w ≤ 9) (h1 : 1 ≤ h) (h9 : h ≤ 9) (hx : x ≤ w) (hy : y ≤ h) (dx1 : dx = 1 ∨ dx = -1 ∨ dx = 0) (dy1 : dy = 1 ∨ dy = -1 ∨ dy = 0) (d0 : dx ≠ 0 ∨ dy ≠ 0) : Facts w h x y dx dy := by
  by_cases ex : dx = 0
  · subst ex
    exact facts_V w1 w9 h1 h9 hx (by omega)
  · by_cases ey : dy = 0
    · subst ey
      exact facts_H w1 w9 h1 h9 hy (by omega)
    · exact facts_slant w1 w9 h1 h9 (by omega) (by omega)
end Cw

namespace Cw
open PySem L2
/-! ### the text by places -/
def top (i : Nat) : Stmt := PySem.Challenge.pw_cushioned_k16_whole_ways.main.body.getD i (.Pass ⟨0, 0, 0, 0⟩)
abbrev sRequire : Stmt := top 10
abbrev sInit : Stmt := inClass (top 11) 0
abbrev sIsPoint : Stmt := inClass (top 11) 1
abbrev sCheckPoint : Stmt := inClass (top 11) 2
abbrev sIsName : Stmt := top 15
abbrev sIsBall : Stmt := top 16
abbrev sCheckBall : Stmt := top 17
abbrev sBack : Stmt := top 18
abbrev sPhase : Stmt := top 20
abbrev sParts : Stmt := top 21
abbrev sInverse : Stmt := top 22
abbrev sAgreed : Stmt := top 23
abbrev sPeriod : Stmt := top 24
abbrev sEdge : Stmt := top 25
abbrev sCorner : Stmt := top 26
abbrev sSlant : Stmt := top 27
abbrev sGoes : Stmt := top 28
abbrev sCount : Stmt := top 29
abbrev sClasses : Stmt := top 30
abbrev sMinutes : Stmt := top 31
abbrev sPassed : Stmt := top 32
abbrev sRow : Stmt := top 34
abbrev sNumbers : Stmt := top 35
abbrev sSize : Stmt := top 36
abbrev sBall : Stmt := top 37
abbrev sLaw : Stmt := top 38

/-! ### heaps -/
theorem same_new {H : Hp} {p : Addr} {o : HO} (h : H p = none) : Same H (upd H p o) := fun b x e => (upd_ne (ne_of_none e h)).trans e
theorem same_tup {K : PySem.W.Frag} {H H' : Hp} {a : Addr} {xs : List V} (e : Same H H') (h : SqT K H a xs) : SqT K H' a xs := by
  rcases h with (h | ⟨o, h⟩) | h
  · exact .inl (.inl (e _ _ h))
  · exact .inl (.inr ⟨o, e _ _ h⟩)
  · exact .inr h

/-! ### the data -/
/-- a table's attributes, in the order in which they are stored -/
def tflds (w h : Nat) (p : Addr) : List (Str × V) := [("width", .int w), ("height", .int h), ("pockets", .ref p)]
theorem tf_width (w h : Nat) (p : Addr) : (tflds w h p).lookup ("width" : Str) = some (.int w) := by rfl
theorem tf_height (w h : Nat) (p : Addr) : (tflds w h p).lookup ("height" : Str) = some (.int h) := by
  show (match ("height" : Str) == ("width" : Str) with | true => some (V.int w) | false => List.lookup ("height" : Str) [("height", V.int h), ("pockets", V.ref p)]) = _
  rw [show (("height" : Str) == ("width" : Str)) = false by decide +kernel]
  rfl
/-- a table stands at t -/
def TabAt (C : Addr) (H : Hp) (t : Addr) (w h : Nat) : Prop := ∃ dx p, H t = some (.ins C dx (tflds w h p))
theorem TabAt.same {C : Addr} {H H' : Hp} {t : Addr} {w h : Nat} (T : TabAt C H t w h) (e : Same H H') : TabAt C H' t w h := by
  obtain ⟨dx, p, q⟩ := T
  exact ⟨dx, p, e _ _ q⟩
/-- the parts of a ball -/
def ballL (x y : Nat) (dx dy : Int) (m : Nat) : List V := [.str "b", .int x, .int y, .int dx, .int dy, .int m]
/-- a ball on a table -/
structure Good (w h x y : Nat) (dx dy : Int) (m : Nat) : Prop where
  w1 : 1 ≤ w
  w9 : w ≤ 9
  h1 : 1 ≤ h
  h9 : h ≤ 9
  xw : x ≤ w
  yh : y ≤ h
  dx1 : dx = 1 ∨ dx = -1 ∨ dx = 0
  dy1 : dy = 1 ∨ dy = -1 ∨ dy = 0
  d0 : dx ≠ 0 ∨ dy ≠ 0
  m9 : m ≤ 9
theorem Good.back {w h x y : Nat} {dx dy : Int} {m : Nat} (g : Good w h x y dx dy m) : Good w h x y (-dx) (-dy) m := by
  obtain ⟨h1, h2, h3, h4, h5, h6, h7, h8, h9, h10⟩ := g
  exact ⟨h1, h2, h3, h4, h5, h6, by omega, by omega, by omega, h10⟩
/-- the table at t and a ball of it at b -/
structure Sit (C : Addr) (H : Hp) (t b : Addr) (w h x y : Nat) (dx dy : Int) (m : Nat) : Prop where
  tab : TabAt C H t w h
  ball : H b = some (.tup (ballL x y dx dy m))
  good : Good w h x y dx dy m
theorem Sit.same {C : Addr} {H H' : Hp} {t b : Addr} {w h x y : Nat} {dx dy : Int} {m : Nat} (S : Sit C H t b w h x y dx dy m) (e : Same H H') : Sit C H' t b w h x y dx dy m :=
  ⟨S.tab.same e, e _ _ S.ball, S.good⟩
/-- what the walk asks of the top -/
structure Txt (K : PySem.W.Frag) (mg : Str → Option Value) (C : Addr) : Prop where
  cl : Cls K C
  nW : NoAttr K C "width"
  nH : NoAttr K C "height"
  nP : NoAttr K C "pockets"
  mgC : mg "Table" = some (.ref C)
  most : ∃ t, mg "MOST" = some (.int (10 ^ 30) t)
  pock : ∃ t, mg "MOST_POCKETS" = some (.int 12 t)
  chars : ∃ t, mg "NAME_CHARS" = some (.str "abcdefghijklmnopqrstuvwxyz0123456789" t)
  nchar : ∃ t, mg "MOST_NAME_CHARS" = some (.int 12 t)
  gcd : mg "gcd" = some (.builtin "math.gcd")
  len : mg "len" = none
  all : mg "all" = none
  tuple : mg "tuple" = none
  enum : mg "enumerate" = none
  sorted : mg "sorted" = none
  abs : mg "abs" = none
  int : mg "int" = none
  range : mg "range" = none
  max : mg "max" = none
/-- an expression that is never come to -/
def tNo : TE := fun _ _ _ => False
theorem pe_no {X : Cx} {e : Expr} : PE X e tNo := ⟨fun _ _ _ _ _ _ h => h.elim⟩
end Cw

namespace Cw
open PySem L2
section
variable {P : Program} {w : World} {K : PySem.W.Frag} {mg : Str → Option Value} {base : Heap}
theorem iteD {c A B : Prop} [Decidable c] (hc : c) (q : A) : if decide c = true then A else B := by
  rw [decide_eq_true hc]
  exact iteT q
/-! ### require -/
def spRequire : Sp := fun vs H Q _ => vs = [.bl true] ∧ Q .non H
theorem scRequire : FnScope ["holds"] ["holds"] (defScope sRequire) := ⟨rfl, rfl, rfl, by decide +kernel, rfl, by decide +kernel, by decide +kernel⟩
theorem ok_require {f : Addr} {fd : FuncData} (F : Fun K "require" "require" sRequire f fd) : FnOk P w K mg base CX0 1 f fd ["holds"] spRequire := by
  refine F.ok scRequire (fun vs H Q E h => ?_) (fun cdv A outer s H vs Q E hr h => ?_)
  · obtain ⟨rfl, _⟩ := h
    rfl
  · obtain ⟨rfl, q⟩ := h
    refine ⟨_, pss_one (ps_if (pt_not (pt_val (pv 0))) pss_never pss_nil), ?_⟩
    exact ⟨_, rfl, true, rfl, iteF q⟩
/-! ### is_point, check_point -/
def spIsPoint (K : PySem.W.Frag) (C : Addr) : Sp := fun vs H Q _ => ∃ (t p : Addr) (w h a b : Nat), vs = [.ref t, .ref p] ∧ TabAt C H t w h ∧ SqT K H p [.int a, .int b] ∧ a ≤ w ∧ b ≤ h ∧ Q (.bl true) H
theorem scIsPoint : FnScope ["self", "point"] ["self", "point"] (defScope sIsPoint) := ⟨rfl, rfl, rfl, by decide +kernel, rfl, by decide +kernel, by decide +kernel⟩
theorem ok_isPoint {f C : Addr} {fd : FuncData} (F : Fun K "is_point" "Table.is_point" sIsPoint f fd) (T : Txt K mg C) : FnOk P w K mg base CX0 1 f fd ["self", "point"] (spIsPoint K C) := by
  refine F.ok scIsPoint (fun vs H Q E h => ?_) (fun cdv A outer s H vs Q E hr h => ?_)
  · obtain ⟨t, p, w, h, a, b, rfl, _⟩ := h
    rfl
  · obtain ⟨t, p, w, h, a, b, rfl, ⟨dx, pp, ht⟩, hp, ha, hb, q⟩ := h
    refine ⟨_, pss_one (ps_ret (pe_and (pe_chain op_le op_le pe_int (pe_ix ix_tup (pv 1) pe_int (fun _ _ => rfl)) (pe_fld (pv 0) rfl))
      (pe_one (pe_chain op_le op_le pe_int (pe_ix ix_tup (pv 1) pe_int (fun _ _ => rfl)) (pe_fld (pv 0) rfl))))), ?_⟩
    refine ⟨_, rfl, p, _, _, _, rfl, rfl, hp, atI_nat (j := 0) rfl, _, _, rfl, rfl, _, rfl, iteD (by omega) ?_⟩
    refine ⟨_, rfl, t, C, dx, _, _, rfl, ht, T.cl, T.nW, tf_width _ _ _, _, _, rfl, rfl, _, rfl, iteD (by omega) ?_⟩
    refine ⟨_, rfl, p, _, _, _, rfl, rfl, hp, atI_nat (j := 1) rfl, _, _, rfl, rfl, _, rfl, iteD (by omega) ?_⟩
    refine ⟨_, rfl, t, C, dx, _, _, rfl, ht, T.cl, T.nH, tf_height _ _ _, _, _, rfl, rfl, ?_⟩
    show Q (.bl (decide ((b : Int) ≤ (h : Int)))) H
    rw [decide_eq_true (show (b : Int) ≤ (h : Int) by omega)]
    exact q
def spCheckPoint (K : PySem.W.Frag) (C : Addr) : Sp := fun vs H Q _ => ∃ (t p : Addr) (w h a b : Nat), vs = [.ref t, .ref p] ∧ TabAt C H t w h ∧ SqT K H p [.int a, .int b] ∧ a ≤ w ∧ b ≤ h ∧ Q .non H
theorem scCheckPoint : FnScope ["self", "point"] ["self", "point"] (defScope sCheckPoint) := ⟨rfl, rfl, rfl, by decide +kernel, rfl, by decide +kernel, by decide +kernel⟩
theorem tf_no (w h : Nat) (p : Addr) {m : Str} (h1 : ¬ m = "width") (h2 : ¬ m = "height") (h3 : ¬ m = "pockets") : (tflds w h p).lookup m = none := by
  unfold tflds
  simp only [List.lookup, beq_eq_false_iff_ne.mpr h1, beq_eq_false_iff_ne.mpr h2, beq_eq_false_iff_ne.mpr h3]
theorem ok_checkPoint {f g C : Addr} {fd gd : FuncData} (F : Fun K "check_point" "Table.check_point" sCheckPoint f fd) (T : Txt K mg C) (G : FnOk P w K mg base CX0 1 g gd ["self", "point"] (spIsPoint K C)) (bG : Binds K gd ["self", "point"] []) (mG : Meth K C "is_point" g) :
    FnOk P w K mg base CX0 2 f fd ["self", "point"] (spCheckPoint K C) := by
  refine F.ok scCheckPoint (fun vs H Q E h => ?_) (fun cdv A outer s H vs Q E hr h => ?_)
  · obtain ⟨t, p, w, h, a, b, rfl, _⟩ := h
    rfl
  · obtain ⟨t, p, w, h, a, b, rfl, ht, hp, ha, hb, q⟩ := h
    refine ⟨_, pss_one (ps_if (pt_not (pt_val (pe_meth (pv 0) T.cl mG G hr bG .nil pass0 (pa_cons (pv 1) pa_nil)))) pss_never pss_nil), ?_⟩
    obtain ⟨dx, pp, e⟩ := id ht
    exact ⟨_, rfl, t, dx, _, rfl, e, tf_no _ _ _ (by decide +kernel) (by decide +kernel) (by decide +kernel), _, rfl, t, p, w, h, a, b, rfl, ht, hp, ha, hb, true, rfl, iteF q⟩
end
end Cw

namespace Cw
open PySem L2
section
variable {P : Program} {w : World} {K : PySem.W.Frag} {mg : Str → Option Value} {base : Heap}
/-! ### is_name, of the one name that the law gives -/
def spIsName : Sp := fun vs H Q _ => vs = [.str "b"] ∧ ∀ H', Same H H' → Q (.bl true) H'
theorem scIsName : FnScope ["text", "char"] ["text"] (defScope sIsName) := ⟨rfl, rfl, rfl, by decide +kernel, rfl, by decide +kernel, by decide +kernel⟩
theorem b_len : ("b" : Str).length = 1 := by decide +kernel
theorem b_no_digit : ¬ (98 : Nat) ∈ ("0123456789" : Str).cps.toList := by decide +kernel
theorem b_char : (98 : Nat) ∈ ("abcdefghijklmnopqrstuvwxyz0123456789" : Str).cps.toList := by decide +kernel
theorem b_at : ("b" : Str).cps[0]? = some 98 := by decide +kernel
theorem b_size : ("b" : Str).cps.size = 1 := by decide +kernel
theorem ok_isName {f C : Addr} {fd : FuncData} (F : Fun K "is_name" "is_name" sIsName f fd) (T : Txt K mg C) : FnOk P w K mg base CX0 1 f fd ["text"] spIsName := by
  obtain ⟨t1, hN⟩ := T.nchar
  obtain ⟨t2, hC⟩ := T.chars
  refine F.ok scIsName (fun vs H Q E h => ?_) (fun cdv A outer s H vs Q E hr h => ?_)
  · obtain ⟨rfl, _⟩ := h
    rfl
  · obtain ⟨rfl, q⟩ := h
    refine ⟨_, pss_cons (ps_if (PW.pt (pw_or (pt_not (pt_chain op_le op_le pe_int (pe_callB call_len_str (by rfl) T.len PySem.boot_len (pa_cons (pv 0) pa_nil)) (pe_glob (v := .int 12) (by rfl) hN ⟨_, rfl⟩)))
        (pw_or1 (pt_cmpR op_in_sign (pe_item_str (pv 0) pe_int (fun _ _ => rfl)) pe_str (by rfl))))) pss_never pss_nil)
      (pss_one (ps_ret (pe_callB (cr_all rfl) (by rfl) T.all (by decide +kernel) (pa_cons (pe_lc (own := [("char", 1)]) (g := gName 1) (tt := tYes) rfl scIsName.nd (pi_str (pv 0))
        (blkOk_by (N := ["text", "char"]) (sc := defScope sIsName) (by decide +kernel)) (fun _ _ _ _ _ => pg_name (i := 1) scIsName.nd rfl (Or.inl rfl)) (fun _ _ _ _ _ => pts_nil)
        (fun _ _ _ _ _ => pe_cmpR op_in_sign (pv 1) (pe_glob (v := .str "abcdefghijklmnopqrstuvwxyz0123456789") (by rfl) hC ⟨_, rfl⟩) (by rfl))) pa_nil)))), ?_⟩
    refine ⟨.str "b", rfl, "b", rfl, (by rw [b_len]; decide), _, _, rfl, rfl, _, rfl, iteD (by rw [b_len]; decide) ?_⟩
    refine ⟨_, _, rfl, rfl, _, rfl, ?_⟩
    rw [show decide (((("b" : Str).length : Nat) : Int) ≤ (12 : Int)) = true by rw [b_len]; decide]
    refine iteF ?_
    refine ⟨.str "b", rfl, "b", 0, 98, rfl, rfl, by decide, by decide, by rw [b_len]; decide, b_at, 98, _, rfl, rfl, _, rfl, ?_⟩
    rw [decide_eq_false b_no_digit]
    refine iteF ?_
    refine ⟨.str "b", rfl, "b", rfl, fun D hD => ?_⟩
    refine lc_it walk_str (fun i H' => Same H H' ∧ H' D = some (.lst ((List.replicate i true).map V.bl))) ⟨same_new hD, upd_same⟩ (fun _ _ _ _ => trivial) ?_ ?_
    · rintro i x H1 H2 hi ⟨s1, e1⟩ ⟨rfl, c, hc, rfl⟩
      rw [b_size] at hi
      obtain rfl : i = 0 := by omega
      obtain rfl : 98 = c := Option.some.inj (b_at.symm.trans hc)
      refine ⟨rfl, ?_⟩
      refine ⟨_, rfl, 98, _, rfl, rfl, _, e1, by decide, ?_⟩
      refine ⟨fun b o e => (upd_ne (ne_of_none e hD)).trans (s1 b o e), ?_⟩
      · rw [upd_same, decide_eq_true b_char]
        rfl
    · rintro H1 ⟨s1, e1⟩
      rw [b_size] at e1
      refine ⟨D, [true], rfl, .of e1, ?_⟩
      exact q H1 s1
end
end Cw

namespace Cw
open PySem L2
section
variable {P : Program} {w : World} {K : PySem.W.Frag} {mg : Str → Option Value} {base : Heap}
theorem le2 : 2 ≤ sizeLine := by decide
theorem le3 : 3 ≤ sizeLine := by decide
/-! ### is_ball -/
def spIsBall (C : Addr) : Sp := fun vs H Q _ => ∃ (t b : Addr) (w h x y : Nat) (dx dy : Int) (m : Nat), vs = [.ref t, .ref b] ∧ Sit C H t b w h x y dx dy m ∧ ∀ H', Same H H' → Q (.bl true) H'
abbrev nIsBall : List Str := ["table", "ball", "_", "x", "y", "dx", "dy", "minute"]
theorem scIsBall : FnScope nIsBall ["table", "ball"] (defScope sIsBall) := ⟨rfl, rfl, rfl, by decide +kernel, rfl, by decide +kernel, by decide +kernel⟩
theorem in3 {d : Int} (hd : d = 1 ∨ d = -1 ∨ d = 0) : inV (.int d) [.int (-1), .int 0, .int 1] = true := by
  rcases hd with rfl | rfl | rfl <;> decide
theorem pair_ne {dx dy : Int} (h : dx ≠ 0 ∨ dy ≠ 0) : (!PyData.eqv (.tuple [.int dx, .int dy]) (.tuple [.int 0, .int 0])) = true := by
  show (!((dx == 0) && ((dy == 0) && true))) = true
  rcases h with h | h
  · rw [beq_eq_false_iff_ne.mpr h]
    rfl
  · rw [beq_eq_false_iff_ne.mpr h, Bool.false_and, Bool.and_false]
    rfl
theorem pair_shaped (a b : Int) : SeqAt.shaped (.tuple [.int a, .int b]) = true := by rfl
theorem dp_pair {H : Hp} {p : Addr} {a b : Int} (h : SqT K H p [.int a, .int b]) : Dp K H (.ref p) (.tuple [.int a, .int b]) := .tup h (.cons (.int _) (.cons (.int _) .nil))
theorem ok_isBall {f gn gp C : Addr} {fd fn fp : FuncData} (F : Fun K "is_ball" "is_ball" sIsBall f fd) (T : Txt K mg C)
    (GN : FnOk P w K mg base CX0 1 gn fn ["text"] spIsName) (bN : Binds K fn ["text"] []) (mN : mg "is_name" = some (.ref gn)) (kN : PySem.W.keepIn K (.ref gn) = true)
    (GP : FnOk P w K mg base CX0 1 gp fp ["self", "point"] (spIsPoint K C)) (bP : Binds K fp ["self", "point"] []) (mP : Meth K C "is_point" gp) :
    FnOk P w K mg base CX0 2 f fd ["table", "ball"] (spIsBall C) := by
  obtain ⟨t1, hM⟩ := T.most
  have nd := scIsBall.nd
  refine F.ok scIsBall (fun vs H Q E h => ?_) (fun cdv A outer s H vs Q E hr h => ?_)
  · obtain ⟨t, b, w, h, x, y, dx, dy, m, rfl, _⟩ := h
    rfl
  · obtain ⟨t, b, w, h, x, y, dx, dy, m, rfl, S, q⟩ := h
    refine ⟨_, pss_cons (ps_if (PW.pt (pw_or (pt_cmpR op_ne (pe_callB call_len_seq (by rfl) T.len PySem.boot_len (pa_cons (pv 1) pa_nil)) pe_int (nomark _))
        (pw_or1 (pt_not (pt_val (pe_call GN hr (by rfl) mN kN bN .nil pass0 (pa_cons (pe_ix ix_tup (pv 1) pe_int (fun _ _ => rfl)) pa_nil))))))) pss_never pss_nil)
      (pss_cons (ps_asg (pv 1) (pg_tup (by rfl) (pgs_cons (pg_name (i := 2) nd rfl (.inl rfl)) (pgs_cons (pg_name (i := 3) nd rfl (.inl rfl)) (pgs_cons (pg_name (i := 4) nd rfl (.inl rfl))
        (pgs_cons (pg_name (i := 5) nd rfl (.inl rfl)) (pgs_cons (pg_name (i := 6) nd rfl (.inl rfl)) (pgs_cons (pg_name (i := 7) nd rfl (.inl rfl)) pgs_nil))))))))
      (pss_cons (ps_if (PW.pt (pw_or (pt_not (pt_val (pe_meth (pv 0) T.cl mP GP hr bP .nil pass0 (pa_cons (pe_tup (pa_cons (pv 3) (pa_cons (pv 4) pa_nil))) pa_nil))))
        (pw_or1 (pt_not (pt_chain op_le op_le pe_int (pv 7) (pe_glob (v := .int (10 ^ 30)) (by rfl) hM ⟨_, rfl⟩)))))) pss_never pss_nil)
      (pss_one (ps_ret (pe_and (pe_cmpR op_in_seq (pv 5) (pe_tup (pa_cons (pe_un un_neg pe_int) (pa_cons pe_int (pa_cons pe_int pa_nil)))) (by rfl))
        (pe_and (pe_cmpR op_in_seq (pv 6) (pe_tup (pa_cons (pe_un un_neg pe_int) (pa_cons pe_int (pa_cons pe_int pa_nil)))) (by rfl))
        (pe_one (pe_cmpR (op_neD hr.units) (pe_tup (pa_cons (pv 5) (pa_cons (pv 6) pa_nil))) (pe_tup (pa_cons pe_int (pa_cons pe_int pa_nil))) (nomark _))))))))), ?_⟩
    have g := S.good
    have hb : SqT K H b (ballL x y dx dy m) := .of S.ball
    -- len(ball) != 6, is_name(ball[0])
    refine ⟨.ref b, rfl, b, _, rfl, .inr hb, rfl, _, rfl, iteNS rfl ?_⟩
    refine ⟨.ref b, rfl, b, _, _, _, rfl, rfl, hb, atI_nat (j := 0) rfl, rfl, fun H1 s1 => ⟨true, rfl, iteF ?_⟩⟩
    have S1 := S.same s1
    have hb1 : SqT K H1 b (ballL x y dx dy m) := .of S1.ball
    -- the six parts
    refine ⟨.ref b, rfl, b, _, rfl, hb1, rfl, _, _, rfl, _, _, rfl, _, _, rfl, _, _, rfl, _, _, rfl, _, _, rfl, rfl, ?_⟩
    -- is_point((x, y))
    obtain ⟨tx, pp, e⟩ := id S1.tab
    refine ⟨.ref t, rfl, t, tx, _, rfl, e, tf_no _ _ _ (by decide +kernel) (by decide +kernel) (by decide +kernel), _, rfl, _, rfl, le2, fun p hp => ?_⟩
    have s2 : Same H1 (upd H1 p (.tup [.int x, .int y])) := same_new hp
    refine ⟨t, p, w, h, x, y, rfl, S1.tab.same s2, .of upd_same, g.xw, g.yh, true, rfl, iteF ?_⟩
    -- 0 <= minute <= MOST
    refine ⟨_, rfl, _, _, rfl, rfl, _, rfl, iteD (by omega) ?_⟩
    refine ⟨_, _, rfl, rfl, _, rfl, ?_⟩
    have m9 := g.m9
    rw [decide_eq_true (show (m : Int) ≤ (10 ^ 30 : Int) by omega)]
    refine iteF ?_
    -- dx in (-1, 0, 1), dy in (-1, 0, 1)
    refine ⟨_, rfl, _, rfl, le3, fun p1 h1 => ⟨p1, _, rfl, .inr (.of upd_same), rfl, rfl, true, congrArg V.bl (in3 g.dx1), ?_⟩⟩
    refine ⟨_, rfl, _, rfl, le3, fun p2 h2 => ⟨p2, _, rfl, .inr (.of upd_same), rfl, rfl, true, congrArg V.bl (in3 g.dy1), ?_⟩⟩
    -- (dx, dy) != (0, 0)
    refine ⟨_, rfl, _, rfl, le2, fun p3 h3 => ?_⟩
    refine ⟨le2, fun p4 h4 => ?_⟩
    have n34 : p3 ≠ p4 := ne_of_none upd_same h4
    refine ⟨_, _, dp_pair (.of ((upd_ne n34).trans upd_same)), dp_pair (.of upd_same), pair_shaped _ _, pair_shaped _ _, ?_⟩
    rw [pair_ne g.d0]
    exact q _ (s1.trans (s2.trans ((same_new h1).trans ((same_new h2).trans ((same_new h3).trans (same_new h4))))))
end
end Cw

namespace Cw
open PySem L2
section
variable {P : Program} {w : World} {K : PySem.W.Frag} {mg : Str → Option Value} {base : Heap}
/-! ### check_ball, back -/
def spCheckBall (C : Addr) : Sp := fun vs H Q _ => ∃ (t b : Addr) (w h x y : Nat) (dx dy : Int) (m : Nat), vs = [.ref t, .ref b] ∧ Sit C H t b w h x y dx dy m ∧ ∀ H', Same H H' → Q .non H'
theorem scCheckBall : FnScope ["table", "ball"] ["table", "ball"] (defScope sCheckBall) := ⟨rfl, rfl, rfl, by decide +kernel, rfl, by decide +kernel, by decide +kernel⟩
theorem ok_checkBall {f g C : Addr} {fd gd : FuncData} (F : Fun K "check_ball" "check_ball" sCheckBall f fd)
    (G : FnOk P w K mg base CX0 2 g gd ["table", "ball"] (spIsBall C)) (bG : Binds K gd ["table", "ball"] []) (mG : mg "is_ball" = some (.ref g)) (kG : PySem.W.keepIn K (.ref g) = true) :
    FnOk P w K mg base CX0 3 f fd ["table", "ball"] (spCheckBall C) := by
  refine F.ok scCheckBall (fun vs H Q E h => ?_) (fun cdv A outer s H vs Q E hr h => ?_)
  · obtain ⟨t, b, w, h, x, y, dx, dy, m, rfl, _⟩ := h
    rfl
  · obtain ⟨t, b, w, h, x, y, dx, dy, m, rfl, S, q⟩ := h
    refine ⟨_, pss_one (ps_if (pt_not (pt_val (pe_call G hr (by rfl) mG kG bG .nil pass0 (pa_cons (pv 0) (pa_cons (pv 1) pa_nil))))) pss_never pss_nil), ?_⟩
    exact ⟨_, rfl, _, rfl, t, b, w, h, x, y, dx, dy, m, rfl, S, fun H1 s1 => ⟨true, rfl, iteF (q H1 s1)⟩⟩
def spBack (C : Addr) : Sp := fun vs H Q _ => ∃ (t b : Addr) (w h x y : Nat) (dx dy : Int) (m : Nat), vs = [.ref t, .ref b] ∧ Sit C H t b w h x y dx dy m ∧
  ∀ H' p, Same H H' → H' p = some (.tup (ballL x y (-dx) (-dy) m)) → Q (.ref p) H'
abbrev nBack : List Str := ["table", "ball", "name", "x", "y", "dx", "dy", "minute"]
theorem scBack : FnScope nBack ["table", "ball"] (defScope sBack) := ⟨rfl, rfl, rfl, by decide +kernel, rfl, by decide +kernel, by decide +kernel⟩
theorem le6 : 6 ≤ sizeLine := by decide
theorem ok_back {f g C : Addr} {fd gd : FuncData} (F : Fun K "back" "back" sBack f fd)
    (G : FnOk P w K mg base CX0 3 g gd ["table", "ball"] (spCheckBall C)) (bG : Binds K gd ["table", "ball"] []) (mG : mg "check_ball" = some (.ref g)) (kG : PySem.W.keepIn K (.ref g) = true) :
    FnOk P w K mg base CX0 4 f fd ["table", "ball"] (spBack C) := by
  have nd := scBack.nd
  refine F.ok scBack (fun vs H Q E h => ?_) (fun cdv A outer s H vs Q E hr h => ?_)
  · obtain ⟨t, b, w, h, x, y, dx, dy, m, rfl, _⟩ := h
    rfl
  · obtain ⟨t, b, w, h, x, y, dx, dy, m, rfl, S, q⟩ := h
    refine ⟨_, pss_cons (ps_expr (pe_call G hr (by rfl) mG kG bG .nil pass0 (pa_cons (pv 0) (pa_cons (pv 1) pa_nil))))
      (pss_cons (ps_asg (pv 1) (pg_tup (by rfl) (pgs_cons (pg_name (i := 2) nd rfl (.inl rfl)) (pgs_cons (pg_name (i := 3) nd rfl (.inl rfl)) (pgs_cons (pg_name (i := 4) nd rfl (.inl rfl))
        (pgs_cons (pg_name (i := 5) nd rfl (.inl rfl)) (pgs_cons (pg_name (i := 6) nd rfl (.inl rfl)) (pgs_cons (pg_name (i := 7) nd rfl (.inl rfl)) pgs_nil))))))))
      (pss_one (ps_ret (pe_tup (pa_cons (pv 2) (pa_cons (pv 3) (pa_cons (pv 4) (pa_cons (pe_un un_neg (pv 5)) (pa_cons (pe_un un_neg (pv 6)) (pa_cons (pv 7) pa_nil)))))))))), ?_⟩
    refine ⟨_, rfl, _, rfl, t, b, w, h, x, y, dx, dy, m, rfl, S, fun H1 s1 => ?_⟩
    refine ⟨.ref b, rfl, b, _, rfl, .of (S.same s1).ball, rfl, _, _, rfl, _, _, rfl, _, _, rfl, _, _, rfl, _, _, rfl, _, _, rfl, rfl, ?_⟩
    refine ⟨_, rfl, _, rfl, _, rfl, _, rfl, _, rfl, _, rfl, _, rfl, _, rfl, le6, fun p hp => ?_⟩
    exact q _ p (s1.trans (same_new hp)) upd_same
/-! ### phase_of, parts_of, is_slanting -/
def spPhase : Sp := fun vs H Q _ => ∃ (s p d : Int), vs = [.int s, .int p, .int d] ∧ 0 < s ∧ s < 1000 ∧ Q (.int (phase s p d)) H
theorem scPhase : FnScope ["size", "place", "step"] ["size", "place", "step"] (defScope sPhase) := ⟨rfl, rfl, rfl, by decide +kernel, rfl, by decide +kernel, by decide +kernel⟩
theorem ok_phase {f : Addr} {fd : FuncData} (F : Fun K "phase_of" "phase_of" sPhase f fd) : FnOk P w K mg base CX0 1 f fd ["size", "place", "step"] spPhase := by
  refine F.ok scPhase (fun vs H Q E h => ?_) (fun cdv A outer s H vs Q E hr h => ?_)
  · obtain ⟨s, p, d, rfl, _⟩ := h
    rfl
  · obtain ⟨s, p, d, rfl, h0, h1, q⟩ := h
    refine ⟨_, pss_one (ps_ret (pe_ifExp (pt_cmpR op_eq (pv 2) pe_int (nomark _)) (pv 1) (pe_op op_mod (pe_un un_neg (pv 1)) (pe_op op_mul pe_int (pv 0))))), ?_⟩
    refine ⟨_, rfl, rfl, _, rfl, ?_⟩
    by_cases e : d = 1
    · subst e
      refine iteD rfl ?_
      exact ⟨_, rfl, q⟩
    · have ne : ¬ (V.int d = V.int 1) := fun z => e (V.int.inj z)
      rw [decide_eq_false ne]
      refine iteF ?_
      refine ⟨_, rfl, _, rfl, _, rfl, _, _, rfl, rfl, .inl ⟨by decide, by decide⟩, _, _, rfl, rfl, (by show (0 : Int) < 2 * s; omega), ?_⟩
      unfold phase at q
      rw [if_neg e] at q
      exact q
def spParts (K : PySem.W.Frag) (C : Addr) : Sp := fun vs H Q _ => ∃ (t b : Addr) (w h x y : Nat) (dx dy : Int) (m : Nat), vs = [.ref t, .ref b] ∧ TabAt C H t w h ∧ SqT K H b (ballL x y dx dy m) ∧
  ∀ H' p p1 p2, Same H H' → H' p = some (.tup [.ref p1, .ref p2]) → H' p1 = some (.tup [.int w, .int x, .int dx]) → H' p2 = some (.tup [.int h, .int y, .int dy]) → Q (.ref p) H'
theorem scParts : FnScope ["table", "ball"] ["table", "ball"] (defScope sParts) := ⟨rfl, rfl, rfl, by decide +kernel, rfl, by decide +kernel, by decide +kernel⟩
theorem ok_parts {f C : Addr} {fd : FuncData} (F : Fun K "parts_of" "parts_of" sParts f fd) (T : Txt K mg C) : FnOk P w K mg base CX0 1 f fd ["table", "ball"] (spParts K C) := by
  refine F.ok scParts (fun vs H Q E h => ?_) (fun cdv A outer s H vs Q E hr h => ?_)
  · obtain ⟨t, b, w, h, x, y, dx, dy, m, rfl, _⟩ := h
    rfl
  · obtain ⟨t, b, w, h, x, y, dx, dy, m, rfl, hT, hb, q⟩ := h
    refine ⟨_, pss_one (ps_ret (pe_tup (pa_cons (pe_tup (pa_cons (pe_fld (pv 0) rfl) (pa_cons (pe_ix ix_tup (pv 1) pe_int (fun _ _ => rfl)) (pa_cons (pe_ix ix_tup (pv 1) pe_int (fun _ _ => rfl)) pa_nil))))
      (pa_cons (pe_tup (pa_cons (pe_fld (pv 0) rfl) (pa_cons (pe_ix ix_tup (pv 1) pe_int (fun _ _ => rfl)) (pa_cons (pe_ix ix_tup (pv 1) pe_int (fun _ _ => rfl)) pa_nil)))) pa_nil)))), ?_⟩
    obtain ⟨tx, pp, e⟩ := id hT
    refine ⟨_, rfl, t, C, tx, _, _, rfl, e, T.cl, T.nW, tf_width _ _ _, ?_⟩
    refine ⟨_, rfl, b, _, _, _, rfl, rfl, hb, atI_nat (j := 1) rfl, ?_⟩
    refine ⟨_, rfl, b, _, _, _, rfl, rfl, hb, atI_nat (j := 3) rfl, le3, fun p1 n1 => ?_⟩
    have s1 : Same H (upd H p1 (.tup [.int w, .int x, .int dx])) := same_new n1
    have hb1 := same_tup s1 hb
    refine ⟨_, rfl, t, C, tx, _, _, rfl, s1 _ _ e, T.cl, T.nH, tf_height _ _ _, ?_⟩
    refine ⟨_, rfl, b, _, _, _, rfl, rfl, hb1, atI_nat (j := 2) rfl, ?_⟩
    refine ⟨_, rfl, b, _, _, _, rfl, rfl, hb1, atI_nat (j := 4) rfl, le3, fun p2 n2 => ?_⟩
    have n12 : p1 ≠ p2 := ne_of_none upd_same n2
    refine ⟨le2, fun p np => ?_⟩
    have n1p : p1 ≠ p := ne_of_none ((upd_ne n12).trans upd_same) np
    have n2p : p2 ≠ p := ne_of_none upd_same np
    exact q _ p p1 p2 (s1.trans ((same_new n2).trans (same_new np))) upd_same ((upd_ne n1p).trans ((upd_ne n12).trans upd_same)) ((upd_ne n2p).trans upd_same)
def spSlant (K : PySem.W.Frag) : Sp := fun vs H Q _ => ∃ (b : Addr) (x y : Nat) (dx dy : Int) (m : Nat), vs = [.ref b] ∧ SqT K H b (ballL x y dx dy m) ∧ Q (.bl (decide (dx ≠ 0 ∧ dy ≠ 0))) H
theorem scSlant : FnScope ["ball"] ["ball"] (defScope sSlant) := ⟨rfl, rfl, rfl, by decide +kernel, rfl, by decide +kernel, by decide +kernel⟩
theorem ok_slant {f : Addr} {fd : FuncData} (F : Fun K "is_slanting" "is_slanting" sSlant f fd) : FnOk P w K mg base CX0 1 f fd ["ball"] (spSlant K) := by
  refine F.ok scSlant (fun vs H Q E h => ?_) (fun cdv A outer s H vs Q E hr h => ?_)
  · obtain ⟨b, x, y, dx, dy, m, rfl, _⟩ := h
    rfl
  · obtain ⟨b, x, y, dx, dy, m, rfl, hb, q⟩ := h
    refine ⟨_, pss_one (ps_ret (pe_and (pe_cmpR op_ne (pe_ix ix_tup (pv 0) pe_int (fun _ _ => rfl)) pe_int (nomark _)) (pe_one (pe_cmpR op_ne (pe_ix ix_tup (pv 0) pe_int (fun _ _ => rfl)) pe_int (nomark _))))), ?_⟩
    refine ⟨_, rfl, b, _, _, _, rfl, rfl, hb, atI_nat (j := 3) rfl, rfl, _, rfl, ?_⟩
    by_cases ex : dx = 0
    · subst ex
      refine iteNS rfl ?_
      rw [decide_eq_false (fun z => z.1 rfl)] at q
      exact q
    · have nx : ¬ (V.int dx = V.int 0) := fun z => ex (V.int.inj z)
      rw [decide_eq_false nx]
      refine ⟨_, rfl, b, _, _, _, rfl, rfl, hb, atI_nat (j := 4) rfl, rfl, ?_⟩
      by_cases ey : dy = 0
      · subst ey
        rw [decide_eq_false (fun z => z.2 rfl)] at q
        exact q
      · have ny : ¬ (V.int dy = V.int 0) := fun z => ey (V.int.inj z)
        rw [decide_eq_true (show dx ≠ 0 ∧ dy ≠ 0 from ⟨ex, ey⟩)] at q
        show Q (.bl (!decide (V.int dy = V.int 0))) H
        rw [decide_eq_false ny]
        exact q
end
end Cw

namespace Cw
open PySem L2
section
variable {P : Program} {w : World} {K : PySem.W.Frag} {mg : Str → Option Value} {base : Heap}
theorem iteDF {c A B : Prop} [Decidable c] (hc : ¬ c) (q : B) : if decide c = true then A else B := by
  rw [decide_eq_false hc]
  exact iteF q
theorem hu65 {k : Nat} {A : Around} (hr : Room k A) : A.units + 65 < cLine := by
  have := hr.un
  omega
/-! ### inverse: that it ends, and within what bounds its answer lies -/
def spInverse : Sp := fun vs H Q _ => ∃ (a : Int) (m : Nat), vs = [.int a, .int m] ∧ 0 < m ∧ m < 1000 ∧ ∀ (r : Int) (H' : Hp), Same H H' → 0 ≤ r → r < m → Q (.int r) H'
abbrev nInverse : List Str := ["number", "modulus", "high", "low", "last", "now", "times"]
theorem scInverse : FnScope nInverse ["number", "modulus"] (defScope sInverse) := ⟨rfl, rfl, rfl, by decide +kernel, rfl, by decide +kernel, by decide +kernel⟩
theorem step_mod {hi lo : Nat} : (hi : Int) - (hi : Int) / (lo : Int) * (lo : Int) = ((hi % lo : Nat) : Int) := by
  rw [Int.natCast_emod, Int.emod_def, Int.mul_comm]
theorem ok_inverse {f : Addr} {fd : FuncData} (F : Fun K "inverse" "inverse" sInverse f fd) : FnOk P w K mg base CX0 1 f fd ["number", "modulus"] spInverse := by
  have nd := scInverse.nd
  refine F.ok scInverse (fun vs H Q E h => ?_) (fun cdv A outer s H vs Q E hr h => ?_)
  · obtain ⟨a, m, rfl, _⟩ := h
    rfl
  · obtain ⟨a, m, rfl, m0, m1, q⟩ := h
    refine ⟨_, pss_cons (ps_par (i := 2) (j := 3) (by rfl) nd rfl rfl (by decide) rfl rfl (pa_cons (pv 1) (pa_cons (pe_op op_mod (pv 0) (pv 1)) pa_nil)) (by rfl))
      (pss_cons (ps_asg (pe_tup (pa_cons pe_int (pa_cons pe_int pa_nil))) (pg_tup (by rfl) (pgs_cons (pg_name (i := 4) nd rfl (.inl rfl)) (pgs_cons (pg_name (i := 5) nd rfl (.inl rfl)) pgs_nil))))
      (pss_cons (ps_while PassesOwn.never (pt_truth (pv 3) (by intro _; rfl))
        (pss_cons (ps_set (i := 6) nd rfl (.inl rfl) (pe_op op_fdiv (pv 2) (pv 3)))
        (pss_cons (ps_par (i := 2) (j := 3) (by rfl) nd rfl rfl (by decide) rfl rfl (pa_cons (pv 3) (pa_cons (pe_op op_sub (pv 2) (pe_op op_mul (pv 6) (pv 3))) pa_nil)) (by rfl))
        (pss_one (ps_par (i := 4) (j := 5) (by rfl) nd rfl rfl (by decide) rfl rfl (pa_cons (pv 5) (pa_cons (pe_op op_sub (pv 4) (pe_op op_mul (pv 6) (pv 5))) pa_nil)) (by rfl))))))
      (pss_one (ps_ret (pe_op op_mod (pv 4) (pv 1)))))), ?_⟩
    -- high, low = modulus, number % modulus
    refine ⟨_, rfl, _, rfl, _, rfl, _, _, rfl, rfl, (by show (0 : Int) < (m : Int); omega), _, _, rfl, ?_⟩
    -- last, now = 0, 1
    refine ⟨le2, fun p hp => ⟨p, _, rfl, .of upd_same, rfl, _, _, rfl, _, _, rfl, rfl, ?_⟩⟩
    -- the loop
    refine ⟨fun lo σ H' => ∃ (hi : Nat) (la no : Int) (tm : Option V), σ = [some (.int a), some (.int m), some (.int hi), some (.int lo), some (.int la), some (.int no), tm] ∧ H' = upd H p (.tup [.int 0, .int 1]) ∧ lo < 1000 ∧ hi < 1000, ⟨(a % (m : Int)).toNat, m, 0, 1, none, ?_, rfl, ?_, m1⟩, fun lo σ H' hW => ?_⟩
    · have e : a % (m : Int) = (((a % (m : Int)).toNat : Nat) : Int) := (Int.toNat_of_nonneg (Int.emod_nonneg _ (by omega))).symm
      show [some (V.int a), some (V.int m), some (V.int m), some (V.int (a % (m : Int))), some (V.int 0), some (V.int 1), none] = _
      rw [← e]
    · have := Int.emod_lt_of_pos a (b := (m : Int)) (by omega)
      omega
    · obtain ⟨hi, la, no, tm, rfl, rfl, lo1, hi1⟩ := hW
      refine ⟨_, rfl, _, rfl, ?_⟩
      by_cases z : lo = 0
      · subst z
        refine iteF ?_
        refine ⟨_, rfl, _, rfl, _, _, rfl, rfl, (by show (0 : Int) < (m : Int); omega), ?_⟩
        exact q _ _ (same_new hp) (Int.emod_nonneg _ (by omega)) (Int.emod_lt_of_pos _ (by omega))
      · have nz : ((lo : Int) != 0) = true := by
          rw [bne_iff_ne]
          omega
        rw [nz]
        have d1 : (hi : Int) / (lo : Int) ≤ hi := Int.ediv_le_self _ (by omega)
        have d0 : 0 ≤ (hi : Int) / (lo : Int) := Int.ediv_nonneg (by omega) (by omega)
        refine iteT ?_
        refine ⟨fun σ' H2 => ∃ (la no : Int) (tm : Option V), σ' = [some (.int a), some (.int m), some (.int lo), some (.int ((hi % lo : Nat) : Int)), some (.int la), some (.int no), tm] ∧ H2 = upd H p (.tup [.int 0, .int 1]), fun σ' H2 hN => ?_, ?_⟩
        · obtain ⟨la', no', tm', e1, e2⟩ := hN
          have l := Nat.mod_lt hi (Nat.pos_of_ne_zero z)
          exact ⟨hi % lo, l, lo, la', no', tm', e1, e2, by omega, lo1⟩
        · -- times = high // low
          refine ⟨_, rfl, _, rfl, _, _, rfl, rfl, ⟨by omega, by omega⟩, ?_⟩
          refine ⟨_, rfl, _, rfl, _, rfl, _, rfl, _, _, rfl, rfl, .inl ⟨by omega, by omega⟩, _, _, rfl, rfl, _, _, rfl, ?_⟩
          refine ⟨_, rfl, _, rfl, _, rfl, _, rfl, _, _, rfl, rfl, .inl ⟨by omega, by omega⟩, _, _, rfl, rfl, _, _, rfl, ?_⟩
          refine ⟨no, la - (hi : Int) / (lo : Int) * no, some (.int ((hi : Int) / (lo : Int))), ?_, rfl⟩
          rw [← step_mod]
          rfl
end
end Cw

namespace Cw
open PySem L2
section
variable {P : Program} {w : World} {K : PySem.W.Frag} {mg : Str → Option Value} {base : Heap}
/-! ### agreed -/
def spAgreed (K : PySem.W.Frag) : Sp := fun vs H Q _ => ∃ (o1 o2 : Addr) (a m b n : Int), vs = [.ref o1, .ref o2] ∧ SqT K H o1 [.int a, .int m] ∧ SqT K H o2 [.int b, .int n] ∧ 0 < m ∧ m < 1000 ∧ 0 < n ∧ n < 1000 ∧
  (agr a m b n = false → Q .non H) ∧ (agr a m b n = true → ∀ H' p r, Same H H' → H' p = some (.tup [.int r, .int (m * (n / (Int.gcd m n : Int)))]) → Q (.ref p) H')
abbrev nAgreed : List Str := ["one", "other", "first", "modulus", "second", "by", "common", "rounds", "whole"]
theorem scAgreed : FnScope nAgreed ["one", "other"] (defScope sAgreed) := ⟨rfl, rfl, rfl, by decide +kernel, rfl, by decide +kernel, by decide +kernel⟩
theorem ok_agreed {f g : Addr} {fd gd : FuncData} (F : Fun K "agreed" "agreed" sAgreed f fd) (hg : mg "gcd" = some (.builtin "math.gcd"))
    (G : FnOk P w K mg base CX0 1 g gd ["number", "modulus"] spInverse) (bG : Binds K gd ["number", "modulus"] []) (mG : mg "inverse" = some (.ref g)) (kG : PySem.W.keepIn K (.ref g) = true) :
    FnOk P w K mg base CX0 2 f fd ["one", "other"] (spAgreed K) := by
  have nd := scAgreed.nd
  refine F.ok scAgreed (fun vs H Q E h => ?_) (fun cdv A outer s H vs Q E hr h => ?_)
  · obtain ⟨o1, o2, a, m, b, n, rfl, _⟩ := h
    rfl
  · obtain ⟨o1, o2, a, m, b, n, rfl, h1, h2, m0, m1, n0, n1, qN, qY⟩ := h
    refine ⟨_, pss_cons (ps_asg (pv 0) (pg_tup (by rfl) (pgs_cons (pg_name (i := 2) nd rfl (.inl rfl)) (pgs_cons (pg_name (i := 3) nd rfl (.inl rfl)) pgs_nil))))
      (pss_cons (ps_asg (pv 1) (pg_tup (by rfl) (pgs_cons (pg_name (i := 4) nd rfl (.inl rfl)) (pgs_cons (pg_name (i := 5) nd rfl (.inl rfl)) pgs_nil))))
      (pss_cons (ps_set (i := 6) nd rfl (.inl rfl) (pe_callBfun cr_gcd (by rfl) hg (pa_cons (pv 3) (pa_cons (pv 5) pa_nil))))
      (pss_cons (ps_if (pt_cmpR op_ne (pe_op op_mod (pe_op op_sub (pv 4) (pv 2)) (pv 6)) pe_int (nomark _)) (pss_one (ps_ret pe_non)) pss_nil)
      (pss_cons (ps_set (i := 5) nd rfl (.inl rfl) (pe_op op_fdiv (pv 5) (pv 6)))
      (pss_cons (ps_set (i := 7) nd rfl (.inl rfl) (pe_op op_mod (pe_op op_mul (pe_op op_fdiv (pe_op op_sub (pv 4) (pv 2)) (pv 6)) (pe_call G hr (by rfl) mG kG bG .nil pass0 (pa_cons (pe_op op_fdiv (pv 3) (pv 6)) (pa_cons (pv 5) pa_nil)))) (pv 5)))
      (pss_cons (ps_set (i := 8) nd rfl (.inl rfl) (pe_op op_mul (pv 3) (pv 5)))
      (pss_one (ps_ret (pe_tup (pa_cons (pe_op op_mod (pe_op op_add (pv 2) (pe_op op_mul (pv 7) (pv 3))) (pv 8)) (pa_cons (pv 8) pa_nil)))))))))))  , ?_⟩
    -- first, modulus = one; second, by = other
    refine ⟨_, rfl, o1, _, rfl, h1, rfl, _, _, rfl, _, _, rfl, rfl, ?_⟩
    refine ⟨_, rfl, o2, _, rfl, h2, rfl, _, _, rfl, _, _, rfl, rfl, ?_⟩
    -- common
    have gd : Int.gcd m n ∣ m.natAbs := Nat.gcd_dvd_left _ _
    have gn : Int.gcd m n ∣ n.natAbs := Nat.gcd_dvd_right _ _
    have gpos : 0 < Int.gcd m n := Nat.pos_of_dvd_of_pos gn (by omega)
    have gle : Int.gcd m n ≤ n.natAbs := Nat.le_of_dvd (by omega) gn
    have gni : (Int.gcd m n : Int) ∣ n := Int.gcd_dvd_right ..
    obtain ⟨c, hc⟩ : ∃ c : Nat, Int.gcd m n = c := ⟨_, rfl⟩
    refine ⟨_, rfl, _, rfl, m, n, rfl, ?_⟩
    rw [show ((Nat.gcd m.natAbs n.natAbs : Nat) : Int) = (c : Int) by rw [← hc]; rfl]
    unfold agr at qN qY
    rw [hc] at qN qY gpos gle gni
    -- (second - first) % common != 0
    refine ⟨_, rfl, _, rfl, _, _, rfl, rfl, _, rfl, _, _, rfl, rfl, (by show (0 : Int) < (c : Int); omega), rfl, _, rfl, ?_⟩
    by_cases z : (b - a) % (c : Int) = 0
    · refine iteNS (congrArg V.int z) ?_
      have qY := qY (by rw [z]; rfl)
      obtain ⟨n', hn'⟩ : ∃ n' : Nat, n / (c : Int) = (n' : Int) := ⟨(n / (c : Int)).toNat, (Int.toNat_of_nonneg (Int.ediv_nonneg (by omega) (by omega))).symm⟩
      have npos : 0 < n' := by
        have e := Int.ediv_mul_cancel gni
        rw [hn'] at e
        rcases Nat.eq_zero_or_pos n' with z' | z'
        · subst z'
          omega
        · exact z'
      have nle : n' < 1000 := by
        have := Int.ediv_le_self (a := n) (c : Int) (by omega)
        omega
      -- by = by // common
      refine ⟨_, rfl, _, rfl, _, _, rfl, rfl, ⟨by omega, by omega⟩, ?_⟩
      -- rounds
      refine ⟨_, rfl, _, rfl, _, _, rfl, rfl, _, rfl, _, _, rfl, rfl, ⟨by omega, by omega⟩, ?_⟩
      refine ⟨_, rfl, _, rfl, _, _, rfl, rfl, ⟨by omega, by omega⟩, _, rfl, m / (c : Int), n', ?_, npos, nle, fun r H1 s1 r0 r1 => ?_⟩
      · show [V.int (m / (c : Int)), V.int (n / (c : Int))] = _
        rw [hn']
      refine ⟨_, _, rfl, rfl, .inr ⟨by omega, by omega⟩, _, rfl, _, _, rfl, rfl, (by show (0 : Int) < n / (c : Int); omega), ?_⟩
      -- whole
      refine ⟨_, rfl, _, rfl, _, _, rfl, rfl, .inl ⟨by omega, by omega⟩, ?_⟩
      have wpos : (0 : Int) < m * (n / (c : Int)) := Int.mul_pos m0 (by omega)
      refine ⟨_, rfl, _, rfl, _, rfl, _, _, rfl, rfl, .inr ⟨by omega, by omega⟩, _, _, rfl, rfl, _, rfl, _, _, rfl, rfl, wpos, _, rfl, le2, fun p hp => ?_⟩
      exact qY _ p _ (s1.trans (same_new hp)) upd_same
    · have nz : ¬ (V.int ((b - a) % (c : Int)) = V.int 0) := fun e => z (V.int.inj e)
      have qN := qN (beq_eq_false_iff_ne.mpr z)
      show if (!decide (V.int ((b - a) % (c : Int)) = V.int 0)) = true then _ else _
      rw [decide_eq_false nz]
      exact qN
end
end Cw

namespace Cw
open PySem L2
section
variable {P : Program} {w : World} {K : PySem.W.Frag} {mg : Str → Option Value} {base : Heap}
/-! ### edge_class, of a part that moves -/
def spEdge : Sp := fun vs H Q _ => ∃ (s p d : Int), vs = [.int s, .int p, .int d] ∧ 0 < s ∧ s < 100 ∧ d ≠ 0 ∧ ∀ H' q, Same H H' → H' q = some (.tup [.int ((-phase s p d) % s), .int s]) → Q (.ref q) H'
theorem scEdge : FnScope ["size", "place", "step"] ["size", "place", "step"] (defScope sEdge) := ⟨rfl, rfl, rfl, by decide +kernel, rfl, by decide +kernel, by decide +kernel⟩
theorem ok_edge {f g : Addr} {fd gd : FuncData} (F : Fun K "edge_class" "edge_class" sEdge f fd)
    (G : FnOk P w K mg base CX0 1 g gd ["size", "place", "step"] spPhase) (bG : Binds K gd ["size", "place", "step"] []) (mG : mg "phase_of" = some (.ref g)) (kG : PySem.W.keepIn K (.ref g) = true) :
    FnOk P w K mg base CX0 2 f fd ["size", "place", "step"] spEdge := by
  refine F.ok scEdge (fun vs H Q E h => ?_) (fun cdv A outer s H vs Q E hr h => ?_)
  · obtain ⟨s, p, d, rfl, _⟩ := h
    rfl
  · obtain ⟨s, p, d, rfl, s0, s1, d0, q⟩ := h
    refine ⟨_, pss_cons (ps_if (pt_cmpR op_ne (pv 2) pe_int (nomark _))
        (pss_one (ps_ret (pe_tup (pa_cons (pe_op op_mod (pe_un un_neg (pe_call G hr (by rfl) mG kG bG .nil pass0 (pa_cons (pv 0) (pa_cons (pv 1) (pa_cons (pv 2) pa_nil))))) (pv 0)) (pa_cons (pv 0) pa_nil))))) pss_nil)
      pss_never, ?_⟩
    have nz : ¬ (V.int d = V.int 0) := fun e => d0 (V.int.inj e)
    refine ⟨_, rfl, rfl, _, rfl, ?_⟩
    rw [decide_eq_false nz]
    refine ⟨_, rfl, _, rfl, _, rfl, s, p, d, rfl, s0, by omega, _, rfl, _, rfl, _, _, rfl, rfl, s0, _, rfl, le2, fun r hr => ?_⟩
    exact q _ r (same_new hr) upd_same
/-! ### point_classes -/
/-- at the places qs stand the classes of the remainders rs by M -/
def Cl (H : Hp) (M : Int) (rs : List Int) (qs : List Addr) : Prop := qs.length = rs.length ∧ ∀ (i : Nat) (q : Addr) (r : Int), qs[i]? = some q → rs[i]? = some r → H q = some (.tup [.int r, .int M])
theorem Cl.one {H : Hp} {M r : Int} {q : Addr} (h : H q = some (.tup [.int r, .int M])) : Cl H M [r] [q] := ⟨rfl, fun i q' r' e1 e2 => by
  cases i with
  | zero =>
    cases e1
    cases e2
    exact h
  | succ i => cases e1⟩
theorem Cl.two {H : Hp} {M r r' : Int} {q q' : Addr} (h : H q = some (.tup [.int r, .int M])) (h' : H q' = some (.tup [.int r', .int M])) : Cl H M [r, r'] [q, q'] := ⟨rfl, fun i a b e1 e2 => by
  match i with
  | 0 =>
    cases e1
    cases e2
    exact h
  | 1 =>
    cases e1
    cases e2
    exact h'
  | i + 2 => cases e1⟩
def spClasses : Sp := fun vs H Q _ => ∃ (s p d g : Int), vs = [.int s, .int p, .int d, .int g] ∧ 0 < s ∧ s < 100 ∧
  ∀ H' l qs, Same H H' → H l = none → H' l = some (.lst (qs.map V.ref)) → Cl H' (md s d) (cls s p d g) qs → Q (.ref l) H'
abbrev nClasses : List Str := ["size", "place", "step", "goal", "phase", "first", "second"]
theorem scClasses : FnScope nClasses ["size", "place", "step", "goal"] (defScope sClasses) := ⟨rfl, rfl, rfl, by decide +kernel, rfl, by decide +kernel, by decide +kernel⟩
theorem le1 : 1 ≤ sizeLine := by decide
theorem le0 : 0 ≤ sizeLine := by decide
theorem ok_classes {f g : Addr} {fd gd : FuncData} (F : Fun K "point_classes" "point_classes" sClasses f fd)
    (G : FnOk P w K mg base CX0 1 g gd ["size", "place", "step"] spPhase) (bG : Binds K gd ["size", "place", "step"] []) (mG : mg "phase_of" = some (.ref g)) (kG : PySem.W.keepIn K (.ref g) = true) :
    FnOk P w K mg base CX0 2 f fd ["size", "place", "step", "goal"] spClasses := by
  have nd := scClasses.nd
  refine F.ok scClasses (fun vs H Q E h => ?_) (fun cdv A outer s H vs Q E hr h => ?_)
  · obtain ⟨s, p, d, g, rfl, _⟩ := h
    rfl
  · obtain ⟨s, p, d, g, rfl, s0, s1, q⟩ := h
    refine ⟨_, pss_cons (ps_if (pt_cmpR op_eq (pv 2) pe_int (nomark _))
        (pss_one (ps_ret (pe_ifExp (pt_cmpR op_eq (pv 1) (pv 3) (nomark _)) (pe_lst (pa_cons (pe_tup (pa_cons pe_int (pa_cons pe_int pa_nil))) pa_nil)) (pe_lst pa_nil)))) pss_nil)
      (pss_cons (ps_set (i := 4) nd rfl (.inl rfl) (pe_call G hr (by rfl) mG kG bG .nil pass0 (pa_cons (pv 0) (pa_cons (pv 1) (pa_cons (pv 2) pa_nil)))))
      (pss_cons (ps_set (i := 5) nd rfl (.inl rfl) (pe_tup (pa_cons (pe_op op_mod (pe_op op_sub (pv 3) (pv 4)) (pe_op op_mul pe_int (pv 0))) (pa_cons (pe_op op_mul pe_int (pv 0)) pa_nil))))
      (pss_cons (ps_set (i := 6) nd rfl (.inl rfl) (pe_tup (pa_cons (pe_op op_mod (pe_op op_sub (pe_un un_neg (pv 3)) (pv 4)) (pe_op op_mul pe_int (pv 0))) (pa_cons (pe_op op_mul pe_int (pv 0)) pa_nil))))
      (pss_one (ps_ret (pe_ifExp (pt_cmpR (op_eqD hr.units) (pv 5) (pv 6) (nomark _)) (pe_lst (pa_cons (pv 5) pa_nil)) (pe_lst (pa_cons (pv 5) (pa_cons (pv 6) pa_nil))))))))), ?_⟩
    unfold cls md at q
    refine ⟨_, rfl, rfl, _, rfl, ?_⟩
    by_cases e : d = 0
    · subst e
      rw [if_pos rfl, if_pos rfl] at q
      refine iteD rfl ?_
      refine ⟨_, rfl, _, rfl, rfl, _, rfl, ?_⟩
      by_cases e2 : p = g
      · subst e2
        rw [if_pos rfl] at q
        refine iteD rfl ?_
        refine ⟨le2, fun a ha => ⟨le1, fun l hl => ?_⟩⟩
        exact q _ l [a] ((same_new ha).trans (same_new hl)) ((same_new ha).free hl) upd_same (.one ((upd_ne (ne_of_none upd_same hl)).trans upd_same))
      · rw [if_neg e2] at q
        refine iteDF (fun z => e2 (V.int.inj z)) ?_
        refine ⟨le0, fun l hl => ?_⟩
        exact q _ l [] (same_new hl) hl upd_same ⟨rfl, fun i _ _ z => by cases z⟩
    · rw [if_neg e, if_neg e] at q
      refine iteDF (fun z => e (V.int.inj z)) ?_
      refine ⟨_, rfl, _, rfl, _, rfl, s, p, d, rfl, s0, by omega, ?_⟩
      have s2 : (0 : Int) < 2 * s := by omega
      have mul2 : CMul 2 s := .inl ⟨by decide, by decide⟩
      refine ⟨_, rfl, _, rfl, _, _, rfl, rfl, _, rfl, _, _, rfl, rfl, mul2, _, _, rfl, rfl, s2, _, rfl, _, _, rfl, rfl, mul2, le2, fun a ha => ?_⟩
      refine ⟨_, rfl, _, rfl, _, rfl, _, _, rfl, rfl, _, rfl, _, _, rfl, rfl, mul2, _, _, rfl, rfl, s2, _, rfl, _, _, rfl, rfl, mul2, le2, fun b hb => ?_⟩
      have nab : a ≠ b := ne_of_none upd_same hb
      have ea : ∀ o, (upd (upd H a o) b (.tup [.int ((-g - phase s p d) % (2 * s)), .int (2 * s)])) a = some o := fun o => (upd_ne nab).trans upd_same
      refine ⟨_, rfl, _, rfl, _, _, dp_pair (.of (ea _)), dp_pair (.of upd_same), pair_shaped _ _, pair_shaped _ _, _, rfl, ?_⟩
      have ev : PyData.eqv (.tuple [.int ((g - phase s p d) % (2 * s)), .int (2 * s)]) (.tuple [.int ((-g - phase s p d) % (2 * s)), .int (2 * s)]) = decide ((g - phase s p d) % (2 * s) = (-g - phase s p d) % (2 * s)) := by
        show (((g - phase s p d) % (2 * s) == (-g - phase s p d) % (2 * s)) && ((2 * s == 2 * s) && true)) = _
        rw [beq_self_eq_true, Bool.true_and, Bool.and_true]
        rfl
      rw [ev]
      by_cases e3 : (g - phase s p d) % (2 * s) = (-g - phase s p d) % (2 * s)
      · rw [if_pos e3] at q
        refine iteD e3 ?_
        refine ⟨_, rfl, le1, fun l hl => ?_⟩
        exact q _ l [a] ((same_new ha).trans ((same_new hb).trans (same_new hl))) (((same_new ha).trans (same_new hb)).free hl) upd_same (.one ((upd_ne (ne_of_none (ea _) hl)).trans (ea _)))
      · rw [if_neg e3] at q
        refine iteDF e3 ?_
        refine ⟨_, rfl, _, rfl, le2, fun l hl => ?_⟩
        exact q _ l [a, b] ((same_new ha).trans ((same_new hb).trans (same_new hl))) (((same_new ha).trans (same_new hb)).free hl) upd_same (.two ((upd_ne (ne_of_none (ea _) hl)).trans (ea _)) ((upd_ne (ne_of_none upd_same hl)).trans upd_same))
end
end Cw

namespace Cw
open PySem L2
/-! ### heaps in which one list alone changes -/
def SB (l : Addr) (H H' : Hp) : Prop := ∀ b o, H b = some o → b ≠ l → H' b = some o
theorem SB.refl {l : Addr} {H : Hp} : SB l H H := fun _ _ e _ => e
theorem SB.trans {l : Addr} {H H1 H2 : Hp} (a : SB l H H1) (b : SB l H1 H2) : SB l H H2 := fun c o e n => b c o (a c o e n) n
theorem SB.of {l : Addr} {H H' : Hp} (s : Same H H') : SB l H H' := fun b o e _ => s b o e
theorem SB.at {l : Addr} {H : Hp} {o : HO} : SB l H (upd H l o) := fun _ _ e n => (upd_ne n).trans e
theorem SB.free {l : Addr} {H H' : Hp} (s : SB l H H') (h : H l = none) : Same H H' := fun b o e => s b o e (ne_of_none e h)
/-- the list at l holds n pairs, their second parts M -/
def Fnd (H : Hp) (l : Addr) (M : Int) (n k : Nat) : Prop := ∃ xs : List V, H l = some (.lst xs) ∧ xs.length = n ∧ n ≤ k ∧ ∀ y ∈ xs, ∃ (p : Addr) (r : Int), y = .ref p ∧ H p = some (.tup [.int r, .int M])
theorem Fnd.keep {H H' : Hp} {l : Addr} {M : Int} {n k : Nat} (f : Fnd H l M n k) (s : Same H H') : Fnd H' l M n k := by
  obtain ⟨xs, e, ln, lk, q⟩ := f
  exact ⟨xs, s _ _ e, ln, lk, fun y hy => let ⟨p, r, e1, e2⟩ := q y hy; ⟨p, r, e1, s _ _ e2⟩⟩
theorem cls_len (s p d g : Int) : (cls s p d g).length ≤ 2 := by
  unfold cls
  split
  · split <;> decide
  · split
    · exact Nat.le_succ 1
    · exact Nat.le_refl 2
theorem md_pos {s d : Int} (h : 0 < s) : 0 < md s d := by
  unfold md
  split <;> omega
theorem md_lt {s d : Int} (h : s ≤ 9) : md s d < 1000 := by
  unfold md
  split <;> omega
theorem md_per {w h x y : Nat} {dx dy : Int} {m : Nat} (g : Good w h x y dx dy m) : md w dx * (md h dy / (Int.gcd (md w dx) (md h dy) : Int)) = per w h dx dy := by
  have g1 : ∀ a : Int, Int.gcd 1 a = 1 := fun a => Nat.gcd_one_left _
  have g2 : ∀ a : Int, Int.gcd a 1 = 1 := fun a => Nat.gcd_one_right _
  unfold md per
  by_cases ex : dx = 0
  · have ey : dy ≠ 0 := g.d0.resolve_left (fun z => z ex)
    rw [if_pos ex, if_pos ex, if_neg ey, g1]
    show 1 * (2 * (h : Int) / 1) = 2 * (h : Int)
    rw [Int.ediv_one, Int.one_mul]
  · rw [if_neg ex, if_neg ex]
    by_cases ey : dy = 0
    · rw [if_pos ey, if_pos ey, g2]
      show 2 * (w : Int) * (1 / 1) = 2 * (w : Int)
      rw [Int.ediv_one, Int.mul_one]
    · rw [if_neg ey, if_neg ey]
      have d1 : (Int.gcd (2 * (w : Int)) (2 * (h : Int)) : Int) ∣ 2 * w := Int.gcd_dvd_left ..
      have d2 : (Int.gcd (2 * (w : Int)) (2 * (h : Int)) : Int) ∣ 2 * h := Int.gcd_dvd_right ..
      rw [← Int.mul_ediv_assoc _ d2, Int.mul_ediv_assoc' _ d1]
theorem get_lt {α : Type} {l : List α} {i : Nat} {x : α} (h : l[i]? = some x) : i < l.length := (List.getElem?_eq_some_iff.mp h).1
theorem sum_take_nat {l : List Nat} {i : Nat} {z : Nat} (h : l[i]? = some z) : (l.take (i + 1)).sum = (l.take i).sum + z := by
  rw [List.take_add_one, h, List.sum_append]
  rfl
theorem countP_take {α : Type} {l : List α} {p : α → Bool} {i : Nat} {z : α} (h : l[i]? = some z) : (l.take (i + 1)).countP p = (l.take i).countP p + if p z = true then 1 else 0 := by
  rw [List.take_add_one, h, List.countP_append]
  congr 1
  show List.countP p [z] = _
  rw [List.countP_cons]
  exact Nat.zero_add _
section
variable {P : Program} {w : World} {K : PySem.W.Frag} {mg : Str → Option Value} {base : Heap}
/-! ### point_minutes -/
def spMinutes (K : PySem.W.Frag) (C : Addr) : Sp := fun vs H Q _ => ∃ (t b pt : Addr) (w h x y : Nat) (dx dy : Int) (m gx gy : Nat), vs = [.ref t, .ref b, .ref pt] ∧ Sit C H t b w h x y dx dy m ∧ SqT K H pt [.int gx, .int gy] ∧ gx ≤ w ∧ gy ≤ h ∧
  ∀ H' l xs, Same H H' → H' l = some (.lst xs) → xs.length = hit w h x y dx dy gx gy → (∀ z ∈ xs, ∃ (p : Addr) (r : Int), z = V.ref p ∧ H' p = some (.tup [.int r, .int (per w h dx dy)])) → Q (.ref l) H'
abbrev nMinutes : List Str := ["table", "ball", "point", "parts", "found", "one", "other", "both"]
theorem scMinutes : FnScope nMinutes ["table", "ball", "point"] (defScope sMinutes) := ⟨rfl, rfl, rfl, by decide +kernel, rfl, by decide +kernel, by decide +kernel⟩
theorem ok_minutes {f gc gp ga gl gg C : Addr} {fd dc dp da dl dg : FuncData} (F : Fun K "point_minutes" "point_minutes" sMinutes f fd) (T : Txt K mg C)
    (GC : FnOk P w K mg base CX0 3 gc dc ["table", "ball"] (spCheckBall C)) (bC : Binds K dc ["table", "ball"] []) (mC : mg "check_ball" = some (.ref gc)) (kC : PySem.W.keepIn K (.ref gc) = true)
    (GP : FnOk P w K mg base CX0 2 gp dp ["self", "point"] (spCheckPoint K C)) (bP : Binds K dp ["self", "point"] []) (mP : Meth K C "check_point" gp)
    (GA : FnOk P w K mg base CX0 1 ga da ["table", "ball"] (spParts K C)) (bA : Binds K da ["table", "ball"] []) (mA : mg "parts_of" = some (.ref ga)) (kA : PySem.W.keepIn K (.ref ga) = true)
    (GL : FnOk P w K mg base CX0 2 gl dl ["size", "place", "step", "goal"] spClasses) (bL : Binds K dl ["size", "place", "step", "goal"] []) (mL : mg "point_classes" = some (.ref gl)) (kL : PySem.W.keepIn K (.ref gl) = true)
    (GG : FnOk P w K mg base CX0 2 gg dg ["one", "other"] (spAgreed K)) (bG : Binds K dg ["one", "other"] []) (mG : mg "agreed" = some (.ref gg)) (kG : PySem.W.keepIn K (.ref gg) = true) :
    FnOk P w K mg base CX0 4 f fd ["table", "ball", "point"] (spMinutes K C) := by
  have nd := scMinutes.nd
  refine F.ok scMinutes (fun vs H Q E h => ?_) (fun cdv A outer s H vs Q E hr h => ?_)
  · obtain ⟨t, b, pt, w, h, x, y, dx, dy, m, gx, gy, rfl, _⟩ := h
    rfl
  · obtain ⟨t, b, pt, w, h, x, y, dx, dy, m, gx, gy, rfl, S, hpt, hgx, hgy, q⟩ := h
    have hr2 : Room 2 _ := hr.mono (by decide)
    have hr1 : Room 1 _ := hr.mono (by decide)
    refine ⟨_, pss_cons (ps_expr (pe_call GC hr (by rfl) mC kC bC .nil pass0 (pa_cons (pv 0) (pa_cons (pv 1) pa_nil))))
      (pss_cons (ps_expr (pe_meth (pv 0) T.cl mP GP hr2 bP .nil pass0 (pa_cons (pv 2) pa_nil)))
      (pss_cons (ps_set (i := 3) nd rfl (.inl rfl) (pe_call GA hr1 (by rfl) mA kA bA .nil pass0 (pa_cons (pv 0) (pa_cons (pv 1) pa_nil))))
      (pss_cons (ps_set (i := 4) nd rfl (.inl rfl) (pe_lst pa_nil))
      (pss_cons (ps_for PassesOwn.never rfl (pi_list (pe_call GL hr2 (by rfl) mL kL bL .nil pass0
          (pa_cons (pe_ix ix_tup (pe_ix ix_tup (pv 3) pe_int (fun _ _ => rfl)) pe_int (fun _ _ => rfl)) (pa_cons (pe_ix ix_tup (pe_ix ix_tup (pv 3) pe_int (fun _ _ => rfl)) pe_int (fun _ _ => rfl))
          (pa_cons (pe_ix ix_tup (pe_ix ix_tup (pv 3) pe_int (fun _ _ => rfl)) pe_int (fun _ _ => rfl)) (pa_cons (pe_ix ix_tup (pv 2) pe_int (fun _ _ => rfl)) pa_nil)))))) (pg_name (i := 5) nd rfl (.inl rfl))
        (pss_one (ps_for PassesOwn.never rfl (pi_list (pe_call GL hr2 (by rfl) mL kL bL .nil pass0
          (pa_cons (pe_ix ix_tup (pe_ix ix_tup (pv 3) pe_int (fun _ _ => rfl)) pe_int (fun _ _ => rfl)) (pa_cons (pe_ix ix_tup (pe_ix ix_tup (pv 3) pe_int (fun _ _ => rfl)) pe_int (fun _ _ => rfl))
          (pa_cons (pe_ix ix_tup (pe_ix ix_tup (pv 3) pe_int (fun _ _ => rfl)) pe_int (fun _ _ => rfl)) (pa_cons (pe_ix ix_tup (pv 2) pe_int (fun _ _ => rfl)) pa_nil)))))) (pg_name (i := 6) nd rfl (.inl rfl))
          (pss_cons (ps_set (i := 7) nd rfl (.inl rfl) (pe_call GG hr2 (by rfl) mG kG bG .nil pass0 (pa_cons (pv 5) (pa_cons (pv 6) pa_nil))))
          (pss_one (ps_if (pt_cmpR op_notN (pv 7) pe_non (nomark _))
            (pss_one (ps_expr (pe_bm PySem.F.plainAttrs_list PySem.F.slot_list_append PySem.F.type_list_append mt_append (pv 4)
              (pa_cons (pe_tup (pa_cons (pe_op op_add (pe_ix ix_tup (pv 1) pe_int (fun _ _ => rfl)) (pe_ix ix_tup (pv 7) pe_int (fun _ _ => rfl))) (pa_cons (pe_ix ix_tup (pv 7) pe_int (fun _ _ => rfl)) pa_nil))) pa_nil)))) pss_nil))))))
      (pss_one (ps_ret (pe_callB cr_sortedP (by rfl) T.sorted (by decide +kernel) (pa_cons (pv 4) pa_nil)))))))), ?_⟩
    have g := S.good
    -- check_ball, check_point
    refine ⟨_, rfl, _, rfl, t, b, w, h, x, y, dx, dy, m, rfl, S, fun H1 s1 => ?_⟩
    have S1 := S.same s1
    have hpt1 := same_tup s1 hpt
    obtain ⟨tx, pp, et⟩ := id S1.tab
    refine ⟨_, rfl, t, tx, _, rfl, et, tf_no _ _ _ (by decide +kernel) (by decide +kernel) (by decide +kernel), _, rfl, t, pt, w, h, gx, gy, rfl, S1.tab, hpt1, hgx, hgy, ?_⟩
    -- parts
    refine ⟨_, rfl, _, rfl, t, b, w, h, x, y, dx, dy, m, rfl, S1.tab, .of S1.ball, fun H2 p p1 p2 s2 ep e1 e2 => ?_⟩
    have hpt2 := same_tup s2 hpt1
    -- found = []
    refine ⟨le0, fun l hl => ?_⟩
    have s3 : Same H2 (upd H2 l (.lst [])) := same_new hl
    have n1 : p1 ≠ l := ne_of_none e1 hl
    have n2 : p2 ≠ l := ne_of_none e2 hl
    have np : p ≠ l := ne_of_none ep hl
    have nb : b ≠ l := ne_of_none (s2 _ _ S1.ball) hl
    -- the outer classes
    refine ⟨_, rfl, p, _, _, _, rfl, rfl, .of (s3 _ _ ep), atI_nat (j := 0) rfl, p1, _, _, _, rfl, rfl, .of (s3 _ _ e1), atI_nat (j := 0) rfl, ?_⟩
    refine ⟨_, rfl, p, _, _, _, rfl, rfl, .of (s3 _ _ ep), atI_nat (j := 0) rfl, p1, _, _, _, rfl, rfl, .of (s3 _ _ e1), atI_nat (j := 1) rfl, ?_⟩
    refine ⟨_, rfl, p, _, _, _, rfl, rfl, .of (s3 _ _ ep), atI_nat (j := 0) rfl, p1, _, _, _, rfl, rfl, .of (s3 _ _ e1), atI_nat (j := 2) rfl, ?_⟩
    refine ⟨_, rfl, pt, _, _, _, rfl, rfl, same_tup s3 hpt2, atI_nat (j := 0) rfl, w, x, dx, gx, rfl, by have := g.w1; omega, by have := g.w9; omega, fun H4 l1 qs1 s4 f1 el1 c1 => ?_⟩
    have el4 : H4 l = some (.lst []) := s4 _ _ upd_same
    have nl1 : l1 ≠ l := (ne_of_none (H := upd H2 l (.lst [])) upd_same f1).symm
    have M1p : 0 < md w dx := md_pos (by have := g.w1; omega)
    have M1l : md w dx < 1000 := md_lt (by have := g.w9; omega)
    have M2p : 0 < md h dy := md_pos (by have := g.h1; omega)
    have M2l : md h dy < 1000 := md_lt (by have := g.h9; omega)
    obtain ⟨rs, hrs⟩ : ∃ rs, cls w x dx gx = rs := ⟨_, rfl⟩
    obtain ⟨us, hus⟩ : ∃ us, cls h y dy gy = us := ⟨_, rfl⟩
    have rs2 : rs.length ≤ 2 := by rw [← hrs]; exact cls_len _ _ _ _
    have us2 : us.length ≤ 2 := by rw [← hus]; exact cls_len _ _ _ _
    rw [hrs] at c1
    have slots : ∀ (H' : Hp), SB l H4 H' → H' p = some (.tup [.ref p1, .ref p2]) ∧ H' p2 = some (.tup [.int h, .int y, .int dy]) ∧ H' b = some (.tup (ballL x y dx dy m)) := fun H' sb =>
      ⟨sb _ _ (s4 _ _ (s3 _ _ ep)) np, sb _ _ (s4 _ _ (s3 _ _ e2)) n2, sb _ _ (s4 _ _ (s3 _ _ (s2 _ _ S1.ball))) nb⟩
    have ptl : ∀ (H' : Hp), SB l H4 H' → SqT K H' pt [.int gx, .int gy] := fun H' sb => by
      rcases hpt2 with (z | ⟨o, z⟩) | z
      · exact .inl (.inl (sb _ _ (s4 _ _ (s3 _ _ z)) (ne_of_none z hl)))
      · exact .inl (.inr ⟨o, sb _ _ (s4 _ _ (s3 _ _ z)) (ne_of_none z hl)⟩)
      · exact .inr z
    refine ⟨l1, rfl, ⟨_, .of el1⟩, for_list (K := K) (a := l1) (xs := qs1.map V.ref) (fun i σ H' => ∃ z5 z6 z7 : Option V, σ = [some (.ref t), some (.ref b), some (.ref pt), some (.ref p), some (.ref l), z5, z6, z7] ∧
      SB l H4 H' ∧ Fnd H' l (per w h dx dy) ((rs.map fun a => us.countP fun r => agr a (md w dx) r (md h dy)).take i).sum (2 * i)) ?_ ?_ ?_ ?_⟩
    · exact ⟨none, none, none, rfl, .refl, [], el4, rfl, Nat.le_refl _, fun z hz => by cases hz⟩
    · rintro i σ H' hi ⟨_, _, _, _, sb, _⟩
      exact .of (sb _ _ el1 nl1)
    · rintro i v σ H' hv ⟨z5, z6, z7, rfl, sb, fd⟩
      obtain ⟨q1, hq1, rfl⟩ : ∃ q1, qs1[i]? = some q1 ∧ v = .ref q1 := by
        rw [List.getElem?_map] at hv
        cases e : qs1[i]? with
        | none =>
          rw [e] at hv
          cases hv
        | some q1 =>
          rw [e] at hv
          exact ⟨q1, rfl, (Option.some.inj hv).symm⟩
      have hi : i < rs.length := by
        rw [← c1.1]
        exact get_lt hq1
      obtain ⟨r1, hr1⟩ : ∃ r1, rs[i]? = some r1 := ⟨_, List.getElem?_eq_getElem hi⟩
      have eq1 := c1.2 i q1 r1 hq1 hr1
      have nq1 : q1 ≠ l := ne_of eq1 el4 (by intro z; cases z)
      obtain ⟨ep', e2', eb'⟩ := slots H' sb
      -- the inner classes
      refine ⟨_, rfl, p, _, _, _, rfl, rfl, .of ep', atI_nat (j := 1) rfl, p2, _, _, _, rfl, rfl, .of e2', atI_nat (j := 0) rfl, ?_⟩
      refine ⟨_, rfl, p, _, _, _, rfl, rfl, .of ep', atI_nat (j := 1) rfl, p2, _, _, _, rfl, rfl, .of e2', atI_nat (j := 1) rfl, ?_⟩
      refine ⟨_, rfl, p, _, _, _, rfl, rfl, .of ep', atI_nat (j := 1) rfl, p2, _, _, _, rfl, rfl, .of e2', atI_nat (j := 2) rfl, ?_⟩
      refine ⟨_, rfl, pt, _, _, _, rfl, rfl, ptl H' sb, atI_nat (j := 1) rfl, h, y, dy, gy, rfl, by have := g.h1; omega, by have := g.h9; omega, fun H5 l2 qs2 s5 f2 el2 c2 => ?_⟩
      rw [hus] at c2
      have fd5 := fd.keep s5
      have nl2 : l2 ≠ l := by
        obtain ⟨xs, ex, _⟩ := fd
        exact (ne_of_none ex f2).symm
      have sb5 : SB l H4 H5 := sb.trans (.of s5)
      refine ⟨l2, rfl, ⟨_, .of el2⟩, for_list (K := K) (a := l2) (xs := qs2.map V.ref) (fun j σ H' => ∃ z6 z7 : Option V, σ = [some (.ref t), some (.ref b), some (.ref pt), some (.ref p), some (.ref l), some (.ref q1), z6, z7] ∧
        SB l H5 H' ∧ Fnd H' l (per w h dx dy) (((rs.map fun a => us.countP fun r => agr a (md w dx) r (md h dy)).take i).sum + (us.take j).countP fun r => agr r1 (md w dx) r (md h dy)) (2 * i + j)) ?_ ?_ ?_ ?_⟩
      · refine ⟨_, _, rfl, .refl, ?_⟩
        exact fd5
      · rintro j σ H6 hj ⟨_, _, _, sb6, _⟩
        exact .of (sb6 _ _ el2 nl2)
      · rintro j v σ H6 hv ⟨z6, z7, rfl, sb6, fd6⟩
        obtain ⟨q2, hq2, rfl⟩ : ∃ q2, qs2[j]? = some q2 ∧ v = .ref q2 := by
          rw [List.getElem?_map] at hv
          cases e : qs2[j]? with
          | none =>
            rw [e] at hv
            cases hv
          | some q2 =>
            rw [e] at hv
            exact ⟨q2, rfl, (Option.some.inj hv).symm⟩
        have hj : j < us.length := by
          rw [← c2.1]
          exact get_lt hq2
        obtain ⟨r2, hr2'⟩ : ∃ r2, us[j]? = some r2 := ⟨_, List.getElem?_eq_getElem hj⟩
        have eq2 := c2.2 j q2 r2 hq2 hr2'
        have nq2 : q2 ≠ l := by
          obtain ⟨xs, ex, _⟩ := fd5
          exact ne_of eq2 ex (by intro z; cases z)
        have ct := countP_take (p := fun r => agr r1 (md w dx) r (md h dy)) hr2'
        -- both = agreed(one, other)
        refine ⟨_, rfl, _, rfl, q1, q2, r1, md w dx, r2, md h dy, rfl, .of (sb6 _ _ (sb5 _ _ eq1 nq1) nq1), .of (sb6 _ _ eq2 nq2), M1p, M1l, M2p, M2l, fun ag => ?_, fun ag H7 pb r s7 eb => ?_⟩
        · refine ⟨_, rfl, rfl, _, rfl, ?_⟩
          refine ⟨_, _, rfl, sb6, ?_⟩
          rw [ct, ag]
          obtain ⟨xs, e1, e2, e3, e4⟩ := fd6
          exact ⟨xs, e1, e2, by show _ + (_ + 0) ≤ _; omega, e4⟩
        · refine ⟨_, rfl, rfl, _, rfl, ?_⟩
          rw [md_per g] at eb
          obtain ⟨xs, e1, e2, e3, e4⟩ := fd6
          have el7 : H7 l = some (.lst xs) := s7 _ _ e1
          have eb7 : H7 b = some (.tup (ballL x y dx dy m)) := s7 _ _ (slots H6 (sb5.trans sb6)).2.2
          refine ⟨_, rfl, .inl ⟨rfl, _, .inl (.inl el7)⟩, ?_⟩
          refine ⟨_, rfl, b, _, _, _, rfl, rfl, .of eb7, atI_nat (j := 5) rfl, _, rfl, pb, _, _, _, rfl, rfl, .of eb, atI_nat (j := 0) rfl, _, _, rfl, rfl, ?_⟩
          refine ⟨_, rfl, pb, _, _, _, rfl, rfl, .of eb, atI_nat (j := 1) rfl, le2, fun pn hpn => ?_⟩
          have n1 : l ≠ pn := ne_of_none el7 hpn
          refine ⟨l, xs, _, rfl, rfl, (upd_ne n1).trans el7, small1000 (by have := get_lt hr1; omega), ?_⟩
          refine ⟨_, _, rfl, sb6.trans ((SB.of (s7.trans (same_new hpn))).trans .at), ?_⟩
          rw [ct, if_pos ag]
          refine ⟨xs ++ [.ref pn], upd_same, by rw [List.length_append, e2]; rfl, by omega, fun z hz => ?_⟩
          rcases List.mem_append.mp hz with hz | hz
          · obtain ⟨pz, rz, ez1, ez2⟩ := e4 z hz
            have ez7 := s7 _ _ ez2
            have n2 : pz ≠ l := ne_of ez7 el7 (by intro z; cases z)
            exact ⟨pz, rz, ez1, (upd_ne n2).trans ((upd_ne (ne_of_none ez7 hpn)).trans ez7)⟩
          · rw [List.mem_singleton] at hz
            exact ⟨pn, _, hz, (upd_ne n1.symm).trans upd_same⟩
      · rintro σ H6 ⟨z6, z7, rfl, sb6, fd6⟩
        refine ⟨_, _, _, rfl, sb5.trans sb6, ?_⟩
        have hm : (rs.map fun a => us.countP fun r => agr a (md w dx) r (md h dy))[i]? = some (us.countP fun r => agr r1 (md w dx) r (md h dy)) := by
          rw [List.getElem?_map, hr1]
          rfl
        rw [List.length_map, c2.1, List.take_length] at fd6
        rw [sum_take_nat hm]
        obtain ⟨xs, e1, e2, e3, e4⟩ := fd6
        exact ⟨xs, e1, e2, by omega, e4⟩
    · rintro σ H' ⟨z5, z6, z7, rfl, sb, fd⟩
      rw [List.length_map, c1.1] at fd
      rw [List.take_of_length_le (by rw [List.length_map]; exact Nat.le_refl _)] at fd
      obtain ⟨xs, e1, e2, e3, e4⟩ := fd
      have hh : (rs.map fun a => us.countP fun r => agr a (md w dx) r (md h dy)).sum = hit w h x y dx dy gx gy := by
        rw [← hrs, ← hus]
        rfl
      -- sorted(found)
      refine ⟨_, rfl, l, xs, rfl, .of e1, fun z hz => ?_, fun ys ps perm nps => ?_⟩
      · obtain ⟨pz, rz, ez1, ez2⟩ := e4 z hz
        exact ⟨pz, rz, _, ez1, ez2⟩
      · have sf : Same H H' := s1.trans (s2.trans (((SB.of s3).trans ((SB.of s4).trans sb)).free hl))
        refine q _ ps ys (sf.trans (same_new nps)) upd_same ?_ fun z hz => ?_
        · rw [perm.length_eq, e2, hh]
        · obtain ⟨pz, rz, ez1, ez2⟩ := e4 z (perm.mem_iff.mp hz)
          exact ⟨pz, rz, ez1, same_new nps _ _ ez2⟩
end
end Cw

namespace Cw
open PySem L2
section
variable {P : Program} {w : World} {K : PySem.W.Frag} {mg : Str → Option Value} {base : Heap}
/-! ### is_passed -/
def spPassed (K : PySem.W.Frag) (C : Addr) : Sp := fun vs H Q _ => ∃ (t b pt : Addr) (w h x y : Nat) (dx dy : Int) (m gx gy : Nat), vs = [.ref t, .ref b, .ref pt] ∧ Sit C H t b w h x y dx dy m ∧ SqT K H pt [.int gx, .int gy] ∧ gx ≤ w ∧ gy ≤ h ∧
  ∀ H', Same H H' → Q (.bl (decide (0 < hit w h x y dx dy gx gy))) H'
theorem scPassed : FnScope ["table", "ball", "point"] ["table", "ball", "point"] (defScope sPassed) := ⟨rfl, rfl, rfl, by decide +kernel, rfl, by decide +kernel, by decide +kernel⟩
theorem ok_passed {f g C : Addr} {fd gd : FuncData} (F : Fun K "is_passed" "is_passed" sPassed f fd) (T : Txt K mg C)
    (G : FnOk P w K mg base CX0 4 g gd ["table", "ball", "point"] (spMinutes K C)) (bG : Binds K gd ["table", "ball", "point"] []) (mG : mg "point_minutes" = some (.ref g)) (kG : PySem.W.keepIn K (.ref g) = true) :
    FnOk P w K mg base CX0 5 f fd ["table", "ball", "point"] (spPassed K C) := by
  refine F.ok scPassed (fun vs H Q E h => ?_) (fun cdv A outer s H vs Q E hr h => ?_)
  · obtain ⟨t, b, pt, w, h, x, y, dx, dy, m, gx, gy, rfl, _⟩ := h
    rfl
  · obtain ⟨t, b, pt, w, h, x, y, dx, dy, m, gx, gy, rfl, S, hpt, hgx, hgy, q⟩ := h
    refine ⟨_, pss_one (ps_ret (pe_cmpR op_gt (pe_callB call_len_seq (by rfl) T.len PySem.boot_len (pa_cons (pe_call G hr (by rfl) mG kG bG .nil pass0 (pa_cons (pv 0) (pa_cons (pv 1) (pa_cons (pv 2) pa_nil)))) pa_nil)) pe_int (nomark _))), ?_⟩
    refine ⟨_, rfl, _, rfl, _, rfl, t, b, pt, w, h, x, y, dx, dy, m, gx, gy, rfl, S, hpt, hgx, hgy, fun H1 l xs s1 e1 e2 e3 => ?_⟩
    refine ⟨l, xs, rfl, .inl (.of e1), _, _, rfl, rfl, ?_⟩
    have e := q H1 s1
    rw [← e2] at e
    have ed : decide ((0 : Int) < (xs.length : Int)) = decide (0 < xs.length) := by
      by_cases z : 0 < xs.length
      · rw [decide_eq_true z, decide_eq_true (by omega)]
      · rw [decide_eq_false z, decide_eq_false (by omega)]
    show Q (.bl (decide ((0 : Int) < (xs.length : Int)))) H1
    rw [ed]
    exact e
/-! ### period -/
def spPeriod (C : Addr) : Sp := fun vs H Q _ => ∃ (t b : Addr) (w h x y : Nat) (dx dy : Int) (m : Nat), vs = [.ref t, .ref b] ∧ Sit C H t b w h x y dx dy m ∧ ∀ H', Same H H' → Q (.int (per w h dx dy)) H'
abbrev nPeriod : List Str := ["table", "ball", "periods", "found", "minutes", "size", "_", "step"]
theorem scPeriod : FnScope nPeriod ["table", "ball"] (defScope sPeriod) := ⟨rfl, rfl, rfl, by decide +kernel, rfl, by decide +kernel, by decide +kernel⟩
def lcmF (a m : Int) : Int := a / (Int.gcd a m : Int) * m
/-- the lengths of the moving parts, of the first i parts -/
def pers (w h : Int) (dx dy : Int) : Nat → List Int
  | 0 => []
  | 1 => if dx ≠ 0 then [2 * w] else []
  | _ => (if dx ≠ 0 then [2 * w] else []) ++ (if dy ≠ 0 then [2 * h] else [])
theorem pers_per {w h x y : Nat} {dx dy : Int} {m : Nat} (g : Good w h x y dx dy m) : (pers w h dx dy 2).foldl lcmF 1 = per w h dx dy := by
  have g1 : ∀ a : Int, lcmF 1 a = a := fun a => by
    unfold lcmF
    rw [show Int.gcd 1 a = 1 from Nat.gcd_one_left _]
    show 1 / 1 * a = a
    rw [Int.ediv_one, Int.one_mul]
  unfold pers per
  by_cases ex : dx = 0
  · have ey : dy ≠ 0 := g.d0.resolve_left (fun z => z ex)
    rw [if_neg (fun z => z ex), if_pos ey, if_pos ex]
    exact g1 _
  · rw [if_pos ex, if_neg ex]
    by_cases ey : dy = 0
    · rw [if_neg (fun z => z ey), if_pos ey]
      exact g1 _
    · rw [if_pos ey, if_neg ey]
      show lcmF (lcmF 1 (2 * (w : Int))) (2 * (h : Int)) = _
      rw [g1]
      rfl
theorem pers_pos {w h x y : Nat} {dx dy : Int} {m : Nat} (g : Good w h x y dx dy m) : ∀ z ∈ pers w h dx dy 2, 0 < z ∧ z < 100 := by
  intro z hz
  have h1 := g.w1
  have h2 := g.w9
  have h3 := g.h1
  have h4 := g.h9
  rcases List.mem_append.mp (show z ∈ _ ++ _ from hz) with hz | hz <;> (split at hz <;> simp only [List.mem_singleton, List.not_mem_nil] at hz <;> omega)
theorem ok_period {f gc ga C : Addr} {fd dc da : FuncData} (F : Fun K "period" "period" sPeriod f fd) (T : Txt K mg C)
    (GC : FnOk P w K mg base CX0 3 gc dc ["table", "ball"] (spCheckBall C)) (bC : Binds K dc ["table", "ball"] []) (mC : mg "check_ball" = some (.ref gc)) (kC : PySem.W.keepIn K (.ref gc) = true)
    (GA : FnOk P w K mg base CX0 1 ga da ["table", "ball"] (spParts K C)) (bA : Binds K da ["table", "ball"] []) (mA : mg "parts_of" = some (.ref ga)) (kA : PySem.W.keepIn K (.ref ga) = true) :
    FnOk P w K mg base CX0 4 f fd ["table", "ball"] (spPeriod C) := by
  have nd := scPeriod.nd
  refine F.ok scPeriod (fun vs H Q E h => ?_) (fun cdv A outer s H vs Q E hr h => ?_)
  · obtain ⟨t, b, w, h, x, y, dx, dy, m, rfl, _⟩ := h
    rfl
  · obtain ⟨t, b, w, h, x, y, dx, dy, m, rfl, S, q⟩ := h
    have hr1 : Room 1 _ := hr.mono (by decide)
    refine ⟨_, pss_cons (ps_expr (pe_call GC hr (by rfl) mC kC bC .nil pass0 (pa_cons (pv 0) (pa_cons (pv 1) pa_nil))))
      (pss_cons (ps_setLc (i := 2) (own := [("size", 5), ("_", 6), ("step", 7)]) (g := gTup K 3 (gCons (gName 5) (gCons (gName 6) (gCons (gName 7) gNil)))) (by rfl) nd rfl rfl (sw_true rfl rfl rfl (by decide +kernel))
        (pi_tup (pe_call GA hr1 (by rfl) mA kA bA .nil pass0 (pa_cons (pv 0) (pa_cons (pv 1) pa_nil)))) (blkOk_by (N := nPeriod) (sc := defScope sPeriod) (by decide +kernel))
        (fun _ _ _ _ _ => pg_tup (by rfl) (pgs_cons (pg_name (i := 5) nd rfl (.inl rfl)) (pgs_cons (pg_name (i := 6) nd rfl (.inl rfl)) (pgs_cons (pg_name (i := 7) nd rfl (.inl rfl)) pgs_nil))))
        (fun _ _ _ _ _ => pts_one (pt_cmpR op_ne (pv 7) pe_int (nomark _))) (fun _ _ _ _ _ => pe_op op_mul pe_int (pv 5)))
      (pss_cons (ps_set (i := 3) nd rfl (.inl rfl) pe_int)
      (pss_cons (ps_for PassesOwn.never rfl (pi_list (pv 2)) (pg_name (i := 4) nd rfl (.inl rfl))
        (pss_one (ps_set (i := 3) nd rfl (.inl rfl) (pe_op op_mul (pe_op op_fdiv (pv 3) (pe_callBfun cr_gcd (by rfl) T.gcd (pa_cons (pv 3) (pa_cons (pv 4) pa_nil)))) (pv 4)))))
      (pss_one (ps_ret (pv 3)))))), ?_⟩
    have g := S.good
    refine ⟨_, rfl, _, rfl, t, b, w, h, x, y, dx, dy, m, rfl, S, fun H1 s1 => ?_⟩
    have S1 := S.same s1
    -- the comprehension
    refine ⟨_, rfl, _, rfl, t, b, w, h, x, y, dx, dy, m, rfl, S1.tab, .of S1.ball, fun H2 p p1 p2 s2 ep e1 e2 => ?_⟩
    refine ⟨p, rfl, ⟨_, .of ep⟩, fun D hD => ?_⟩
    refine lc_tup (K := K) (a := p) (xs := [.ref p1, .ref p2]) (fun i H' => Same H2 H' ∧ H' D = some (.lst ((pers w h dx dy i).map V.int))) ⟨same_new hD, upd_same⟩ (fun i H' _ z => .of (z.1 _ _ ep)) ?_ ?_
    · rintro i v H' hi ⟨s3, e3⟩
      have keep : ∀ xs : List V, Same H2 (upd H' D (.lst xs)) := fun xs b o e => (upd_ne (ne_of_none e hD)).trans (s3 b o e)
      match i, hi with
      | 0, hi =>
        cases hi
        refine ⟨p1, _, rfl, .of (s3 _ _ e1), rfl, _, _, rfl, _, _, rfl, _, _, rfl, rfl, rfl, _, rfl, rfl, _, rfl, ?_⟩
        by_cases ex : dx = 0
        · subst ex
          refine iteNS rfl ?_
          exact ⟨s3, e3⟩
        · rw [decide_eq_false (show ¬ (V.int dx = V.int 0) from fun z => ex (V.int.inj z))]
          refine ⟨_, rfl, _, _, rfl, rfl, .inl ⟨by decide, by decide⟩, _, e3, (show 0 < sizeLine by decide), keep _, ?_⟩
          rw [upd_same]
          unfold pers
          rw [if_pos ex]
          rfl
      | 1, hi =>
        cases hi
        refine ⟨p2, _, rfl, .of (s3 _ _ e2), rfl, _, _, rfl, _, _, rfl, _, _, rfl, rfl, rfl, _, rfl, rfl, _, rfl, ?_⟩
        by_cases ey : dy = 0
        · subst ey
          refine iteNS rfl ?_
          refine ⟨s3, ?_⟩
          rw [e3]
          show some (HO.lst ((if dx ≠ 0 then [2 * (w : Int)] else []).map V.int)) = some (HO.lst (((if dx ≠ 0 then [2 * (w : Int)] else []) ++ []).map V.int))
          rw [List.append_nil]
        · rw [decide_eq_false (show ¬ (V.int dy = V.int 0) from fun z => ey (V.int.inj z))]
          refine ⟨_, rfl, _, _, rfl, rfl, .inl ⟨by decide, by decide⟩, _, e3, ?_, keep _, ?_⟩
          · show (List.map V.int (if dx ≠ 0 then [2 * (w : Int)] else [])).length < sizeLine
            split
            · exact (show 1 < sizeLine by decide)
            · exact (show 0 < sizeLine by decide)
          · rw [upd_same]
            show some (HO.lst ((if dx ≠ 0 then [2 * (w : Int)] else []).map V.int ++ [V.int (2 * (h : Int))])) = some (HO.lst (((if dx ≠ 0 then [2 * (w : Int)] else []) ++ (if dy ≠ 0 then [2 * (h : Int)] else [])).map V.int))
            rw [if_pos ey, List.map_append]
            rfl
      | i + 2, hi => cases hi
    · rintro H' ⟨s3, e3⟩
      -- found = 1; the loop
      have e3 : H' D = some (.lst ((pers w h dx dy 2).map V.int)) := e3
      have hp := pers_pos g
      have hq := q H' (s1.trans (s2.trans s3))
      rw [← pers_per g] at hq
      refine ⟨_, rfl, D, rfl, ⟨_, .of e3⟩, for_list (K := K) (a := D) (xs := (pers w h dx dy 2).map V.int) (fun i σ H6 => ∃ z4 z5 z6 z7 : Option V, σ = [some (.ref t), some (.ref b), some (.ref D), some (.int (((pers w h dx dy 2).take i).foldl lcmF 1)), z4, z5, z6, z7] ∧ H6 = H') ?_ ?_ ?_ ?_⟩
      · exact ⟨_, _, _, _, rfl, rfl⟩
      · rintro i σ H6 hi ⟨_, _, _, _, _, rfl⟩
        exact .of e3
      · rintro i v σ H6 hv ⟨z4, z5, z6, z7, rfl, rfl⟩
        obtain ⟨z, hz, rfl⟩ : ∃ z, (pers w h dx dy 2)[i]? = some z ∧ v = .int z := by
          rw [List.getElem?_map] at hv
          cases e : (pers w h dx dy 2)[i]? with
          | none =>
            rw [e] at hv
            cases hv
          | some z =>
            rw [e] at hv
            exact ⟨z, rfl, (Option.some.inj hv).symm⟩
        obtain ⟨z0, z1⟩ := hp z (List.mem_of_getElem? hz)
        obtain ⟨acc, hacc⟩ : ∃ acc, ((pers w h dx dy 2).take i).foldl lcmF 1 = acc := ⟨_, rfl⟩
        have gn : Int.gcd acc z ∣ z.natAbs := Nat.gcd_dvd_right _ _
        have gpos : 0 < Int.gcd acc z := Nat.pos_of_dvd_of_pos gn (by omega)
        have gle : Int.gcd acc z ≤ z.natAbs := Nat.le_of_dvd (by omega) gn
        rw [hacc]
        refine ⟨_, rfl, _, rfl, _, rfl, acc, z, rfl, _, _, rfl, rfl, ?_, ?_⟩
        · show (0 : Int) < (Int.gcd acc z : Int) ∧ (Int.gcd acc z : Int) < 1073741824
          omega
        · refine ⟨_, rfl, _, _, rfl, rfl, .inr ⟨by omega, by omega⟩, ?_⟩
          refine ⟨some (.int z), z5, z6, z7, ?_, rfl⟩
          rw [List.take_add_one, hz, List.foldl_append, hacc]
          rfl
      · rintro σ H6 ⟨z4, z5, z6, z7, rfl, rfl⟩
        rw [List.length_map, List.take_length]
        exact ⟨_, rfl, hq⟩
end
end Cw

namespace Cw
open PySem L2
section
variable {P : Program} {w : World} {K : PySem.W.Frag} {mg : Str → Option Value} {base : Heap}
/-! ### corner_minutes, of a slanting ball -/
def spCorner (C : Addr) : Sp := fun vs H Q _ => ∃ (t b : Addr) (w h x y : Nat) (dx dy : Int) (m : Nat), vs = [.ref t, .ref b] ∧ Sit C H t b w h x y dx dy m ∧ dx ≠ 0 ∧ dy ≠ 0 ∧
  (crn w h x y dx dy = false → ∀ H', Same H H' → Q .non H') ∧ (crn w h x y dx dy = true → ∀ H' p, Same H H' → Q (.ref p) H')
abbrev nCorner : List Str := ["table", "ball", "classes", "found", "size", "place", "step"]
theorem scCorner : FnScope nCorner ["table", "ball"] (defScope sCorner) := ⟨rfl, rfl, rfl, by decide +kernel, rfl, by decide +kernel, by decide +kernel⟩
theorem none_in (a b c d : Int) : ([PyData.tuple [.int a, .int b], PyData.tuple [.int c, .int d]].any fun z => PyData.eqv z .none) = false := by rfl
theorem pairs_shaped (a b c d : Int) : SeqAt.shaped (.list [PyData.tuple [.int a, .int b], PyData.tuple [.int c, .int d]]) = true := by rfl
theorem ok_corner {f gc ga ge gg C : Addr} {fd dc da de dg : FuncData} (F : Fun K "corner_minutes" "corner_minutes" sCorner f fd) (T : Txt K mg C)
    (GC : FnOk P w K mg base CX0 3 gc dc ["table", "ball"] (spCheckBall C)) (bC : Binds K dc ["table", "ball"] []) (mC : mg "check_ball" = some (.ref gc)) (kC : PySem.W.keepIn K (.ref gc) = true)
    (GA : FnOk P w K mg base CX0 1 ga da ["table", "ball"] (spParts K C)) (bA : Binds K da ["table", "ball"] []) (mA : mg "parts_of" = some (.ref ga)) (kA : PySem.W.keepIn K (.ref ga) = true)
    (GE : FnOk P w K mg base CX0 2 ge de ["size", "place", "step"] spEdge) (bE : Binds K de ["size", "place", "step"] []) (mE : mg "edge_class" = some (.ref ge)) (kE : PySem.W.keepIn K (.ref ge) = true)
    (GG : FnOk P w K mg base CX0 2 gg dg ["one", "other"] (spAgreed K)) (bG : Binds K dg ["one", "other"] []) (mG : mg "agreed" = some (.ref gg)) (kG : PySem.W.keepIn K (.ref gg) = true) :
    FnOk P w K mg base CX0 4 f fd ["table", "ball"] (spCorner C) := by
  have nd := scCorner.nd
  refine F.ok scCorner (fun vs H Q E h => ?_) (fun cdv A outer s H vs Q E hr h => ?_)
  · obtain ⟨t, b, w, h, x, y, dx, dy, m, rfl, _⟩ := h
    rfl
  · obtain ⟨t, b, w, h, x, y, dx, dy, m, rfl, S, dx0, dy0, qN, qY⟩ := h
    have hr1 : Room 1 _ := hr.mono (by decide)
    have hr2 : Room 2 _ := hr.mono (by decide)
    refine ⟨_, pss_cons (ps_expr (pe_call GC hr (by rfl) mC kC bC .nil pass0 (pa_cons (pv 0) (pa_cons (pv 1) pa_nil))))
      (pss_cons (ps_setLc (i := 2) (own := [("size", 4), ("place", 5), ("step", 6)]) (g := gTup K 3 (gCons (gName 4) (gCons (gName 5) (gCons (gName 6) gNil)))) (tt := tYes) (by rfl) nd rfl rfl (sw_true rfl rfl rfl (by decide +kernel))
        (pi_tup (pe_call GA hr1 (by rfl) mA kA bA .nil pass0 (pa_cons (pv 0) (pa_cons (pv 1) pa_nil)))) (blkOk_by (N := nCorner) (sc := defScope sCorner) (by decide +kernel))
        (fun _ _ _ _ _ => pg_tup (by rfl) (pgs_cons (pg_name (i := 4) nd rfl (.inl rfl)) (pgs_cons (pg_name (i := 5) nd rfl (.inl rfl)) (pgs_cons (pg_name (i := 6) nd rfl (.inl rfl)) pgs_nil))))
        (fun _ _ _ _ _ => pts_nil) (fun _ _ _ _ _ => pe_call GE hr2 (by rfl) mE kE bE .nil pass0 (pa_cons (pv 4) (pa_cons (pv 5) (pa_cons (pv 6) pa_nil)))))
      (pss_cons (ps_if (pt_cmpR (op_inD (hu65 hr)) pe_non (pv 2) (by rfl)) (pss_one (ps_ret pe_non)) pss_nil)
      (pss_cons (ps_set (i := 3) nd rfl (.inl rfl) (pe_call GG hr2 (by rfl) mG kG bG .nil pass0 (pa_cons (pe_ix ix_list (pv 2) pe_int (fun _ _ => rfl)) (pa_cons (pe_ix ix_list (pv 2) pe_int (fun _ _ => rfl)) pa_nil))))
      (pss_cons (ps_if (pt_cmpR op_isN (pv 3) pe_non (nomark _)) (pss_one (ps_ret pe_non)) pss_nil)
      (pss_one (ps_ret (pe_tup (pa_cons (pe_op op_add (pe_ix ix_tup (pv 1) pe_int (fun _ _ => rfl)) (pe_ix ix_tup (pv 3) pe_int (fun _ _ => rfl))) (pa_cons (pe_ix ix_tup (pv 3) pe_int (fun _ _ => rfl)) pa_nil))))))))), ?_⟩
    have g := S.good
    have w1 := g.w1
    have w9 := g.w9
    have h1 := g.h1
    have h9 := g.h9
    refine ⟨_, rfl, _, rfl, t, b, w, h, x, y, dx, dy, m, rfl, S, fun H1 s1 => ?_⟩
    have S1 := S.same s1
    refine ⟨_, rfl, _, rfl, t, b, w, h, x, y, dx, dy, m, rfl, S1.tab, .of S1.ball, fun H2 p p1 p2 s2 ep e1 e2 => ?_⟩
    have eb := s2 _ _ S1.ball
    obtain ⟨a1, ha1⟩ : ∃ a1, (-phase w x dx) % (w : Int) = a1 := ⟨_, rfl⟩
    obtain ⟨a2, ha2⟩ : ∃ a2, (-phase h y dy) % (h : Int) = a2 := ⟨_, rfl⟩
    have ec : crn w h x y dx dy = agr a1 w a2 h := by
      unfold crn
      rw [ha1, ha2]
    rw [ec] at qN qY
    refine ⟨p, rfl, ⟨_, .of ep⟩, fun D hD => ?_⟩
    refine lc_tup (K := K) (a := p) (xs := [.ref p1, .ref p2]) (fun i H' => Same H2 H' ∧ ∃ qs : List Addr, H' D = some (.lst (qs.map V.ref)) ∧ qs.length = i ∧
      (∀ q, qs[0]? = some q → H' q = some (.tup [.int a1, .int w])) ∧ (∀ q, qs[1]? = some q → H' q = some (.tup [.int a2, .int h]))) ⟨same_new hD, [], upd_same, rfl, (fun q z => by cases z), (fun q z => by cases z)⟩ (fun i H' _ z => .of (z.1 _ _ ep)) ?_ ?_
    · rintro i v H' hi ⟨s3, qs, e3, ln, f1, f2⟩
      match i, hi with
      | 0, hi =>
        cases hi
        refine ⟨p1, _, rfl, .of (s3 _ _ e1), rfl, _, _, rfl, _, _, rfl, _, _, rfl, rfl, rfl, _, rfl, _, rfl, _, rfl, w, x, dx, rfl, by omega, by omega, dx0, fun H4 q s4 eq => ?_⟩
        rw [ha1] at eq
        have e4 := s4 _ _ e3
        have nq : q ≠ D := ne_of eq e4 (by intro z; cases z)
        obtain rfl : qs = [] := List.eq_nil_of_length_eq_zero ln
        refine ⟨_, e4, (show 0 < sizeLine by decide), fun c o e => (upd_ne (ne_of_none e hD)).trans (s4 _ _ (s3 c o e)), [q], upd_same, rfl, fun q' z => ?_, fun q' z => by cases z⟩
        cases z
        exact (upd_ne nq).trans eq
      | 1, hi =>
        cases hi
        refine ⟨p2, _, rfl, .of (s3 _ _ e2), rfl, _, _, rfl, _, _, rfl, _, _, rfl, rfl, rfl, _, rfl, _, rfl, _, rfl, h, y, dy, rfl, by omega, by omega, dy0, fun H4 q s4 eq => ?_⟩
        rw [ha2] at eq
        have e4 := s4 _ _ e3
        have nq : q ≠ D := ne_of eq e4 (by intro z; cases z)
        match qs, ln with
        | [q1], _ =>
          have eq1 := s4 _ _ (f1 q1 rfl)
          have nq1 : q1 ≠ D := ne_of eq1 e4 (by intro z; cases z)
          refine ⟨_, e4, (show 1 < sizeLine by decide), fun c o e => (upd_ne (ne_of_none e hD)).trans (s4 _ _ (s3 c o e)), [q1, q], upd_same, rfl, fun q' z => ?_, fun q' z => ?_⟩
          · cases z
            exact (upd_ne nq1).trans eq1
          · cases z
            exact (upd_ne nq).trans eq
      | i + 2, hi => cases hi
    · rintro H' ⟨s3, qs, e3, ln, f1, f2⟩
      match qs, ln with
      | [q1, q2], _ =>
        have e3 : H' D = some (.lst [.ref q1, .ref q2]) := e3
        have eq1 := f1 q1 rfl
        have eq2 := f2 q2 rfl
        have s4 := s1.trans (s2.trans s3)
        -- None in classes
        refine ⟨_, rfl, .none, [.tuple [.int a1, .int w], .tuple [.int a2, .int h]], .non, .lst (.of e3) (.cons (dp_pair (.of eq1)) (.cons (dp_pair (.of eq2)) .nil)), rfl, pairs_shaped _ _ _ _, _, rfl, ?_⟩
        rw [none_in]
        refine iteF ?_
        -- agreed
        refine ⟨_, rfl, D, _, _, _, rfl, rfl, .of e3, atI_nat (j := 0) rfl, _, rfl, D, _, _, _, rfl, rfl, .of e3, atI_nat (j := 1) rfl, q1, q2, a1, w, a2, h, rfl, .of eq1, .of eq2, by omega, by omega, by omega, by omega, fun ag => ?_, fun ag H5 pb r s5 epb => ?_⟩
        · refine ⟨_, rfl, rfl, _, rfl, ?_⟩
          exact qN ag H' s4
        · refine ⟨_, rfl, rfl, _, rfl, ?_⟩
          refine ⟨_, rfl, b, _, _, _, rfl, rfl, .of (s5 _ _ (s3 _ _ eb)), atI_nat (j := 5) rfl, _, rfl, pb, _, _, _, rfl, rfl, .of epb, atI_nat (j := 0) rfl, _, _, rfl, rfl, ?_⟩
          refine ⟨_, rfl, pb, _, _, _, rfl, rfl, .of epb, atI_nat (j := 1) rfl, le2, fun pn hpn => ?_⟩
          exact qY ag _ pn (s4.trans (s5.trans (same_new hpn)))
/-! ### goes_back, point_count -/
def spGoes (C : Addr) : Sp := fun vs H Q _ => ∃ (t b : Addr) (w h x y : Nat) (dx dy : Int) (m : Nat), vs = [.ref t, .ref b] ∧ Sit C H t b w h x y dx dy m ∧
  ∀ H', Same H H' → Q (.bl (decide (dx = 0 ∨ dy = 0) || crn w h x y dx dy)) H'
theorem scGoes : FnScope ["table", "ball"] ["table", "ball"] (defScope sGoes) := ⟨rfl, rfl, rfl, by decide +kernel, rfl, by decide +kernel, by decide +kernel⟩
theorem ok_goes {f gc gs gk C : Addr} {fd dc ds dk : FuncData} (F : Fun K "goes_back" "goes_back" sGoes f fd)
    (GC : FnOk P w K mg base CX0 3 gc dc ["table", "ball"] (spCheckBall C)) (bC : Binds K dc ["table", "ball"] []) (mC : mg "check_ball" = some (.ref gc)) (kC : PySem.W.keepIn K (.ref gc) = true)
    (GS : FnOk P w K mg base CX0 1 gs ds ["ball"] (spSlant K)) (bS : Binds K ds ["ball"] []) (mS : mg "is_slanting" = some (.ref gs)) (kS : PySem.W.keepIn K (.ref gs) = true)
    (GK : FnOk P w K mg base CX0 4 gk dk ["table", "ball"] (spCorner C)) (bK : Binds K dk ["table", "ball"] []) (mK : mg "corner_minutes" = some (.ref gk)) (kK : PySem.W.keepIn K (.ref gk) = true) :
    FnOk P w K mg base CX0 5 f fd ["table", "ball"] (spGoes C) := by
  refine F.ok scGoes (fun vs H Q E h => ?_) (fun cdv A outer s H vs Q E hr h => ?_)
  · obtain ⟨t, b, w, h, x, y, dx, dy, m, rfl, _⟩ := h
    rfl
  · obtain ⟨t, b, w, h, x, y, dx, dy, m, rfl, S, q⟩ := h
    have hr3 : Room 3 _ := hr.mono (by decide)
    have hr1 : Room 1 _ := hr.mono (by decide)
    refine ⟨_, pss_cons (ps_expr (pe_call GC hr3 (by rfl) mC kC bC .nil pass0 (pa_cons (pv 0) (pa_cons (pv 1) pa_nil))))
      (pss_one (ps_ret (pe_or (pe_not (pe_call GS hr1 (by rfl) mS kS bS .nil pass0 (pa_cons (pv 1) pa_nil)))
        (pe_one (pe_cmpR op_notN (pe_call GK hr (by rfl) mK kK bK .nil pass0 (pa_cons (pv 0) (pa_cons (pv 1) pa_nil))) pe_non (nomark _)))))), ?_⟩
    refine ⟨_, rfl, _, rfl, t, b, w, h, x, y, dx, dy, m, rfl, S, fun H1 s1 => ?_⟩
    have S1 := S.same s1
    refine ⟨_, rfl, b, x, y, dx, dy, m, rfl, .of S1.ball, _, rfl, _, rfl, ?_⟩
    by_cases z : dx ≠ 0 ∧ dy ≠ 0
    · rw [decide_eq_true z]
      refine iteF ?_
      have nz : ¬ (dx = 0 ∨ dy = 0) := fun e => e.elim z.1 z.2
      rw [decide_eq_false nz, Bool.false_or] at q
      refine ⟨_, rfl, _, rfl, t, b, w, h, x, y, dx, dy, m, rfl, S1, z.1, z.2, fun c H2 s2 => ⟨rfl, ?_⟩, fun c H2 p s2 => ⟨rfl, ?_⟩⟩
      · rw [c] at q
        exact q _ (s1.trans s2)
      · rw [c] at q
        exact q _ (s1.trans s2)
    · rw [decide_eq_false z]
      refine iteT ?_
      have nz : dx = 0 ∨ dy = 0 := by omega
      rw [decide_eq_true nz, Bool.true_or] at q
      exact q _ s1
def spCount (C : Addr) : Sp := fun vs H Q _ => ∃ (t b : Addr) (w h x y : Nat) (dx dy : Int) (m : Nat), vs = [.ref t, .ref b] ∧ Sit C H t b w h x y dx dy m ∧ ∀ H', Same H H' → Q (.int (pcount w h x y dx dy)) H'
abbrev nCount : List Str := ["table", "ball", "common", "wide", "high"]
theorem scCount : FnScope nCount ["table", "ball"] (defScope sCount) := ⟨rfl, rfl, rfl, by decide +kernel, rfl, by decide +kernel, by decide +kernel⟩
theorem ok_count {f gc gs gk C : Addr} {fd dc ds dk : FuncData} (F : Fun K "point_count" "point_count" sCount f fd) (T : Txt K mg C)
    (GC : FnOk P w K mg base CX0 3 gc dc ["table", "ball"] (spCheckBall C)) (bC : Binds K dc ["table", "ball"] []) (mC : mg "check_ball" = some (.ref gc)) (kC : PySem.W.keepIn K (.ref gc) = true)
    (GS : FnOk P w K mg base CX0 1 gs ds ["ball"] (spSlant K)) (bS : Binds K ds ["ball"] []) (mS : mg "is_slanting" = some (.ref gs)) (kS : PySem.W.keepIn K (.ref gs) = true)
    (GK : FnOk P w K mg base CX0 4 gk dk ["table", "ball"] (spCorner C)) (bK : Binds K dk ["table", "ball"] []) (mK : mg "corner_minutes" = some (.ref gk)) (kK : PySem.W.keepIn K (.ref gk) = true) :
    FnOk P w K mg base CX0 5 f fd ["table", "ball"] (spCount C) := by
  have nd := scCount.nd
  refine F.ok scCount (fun vs H Q E h => ?_) (fun cdv A outer s H vs Q E hr h => ?_)
  · obtain ⟨t, b, w, h, x, y, dx, dy, m, rfl, _⟩ := h
    rfl
  · obtain ⟨t, b, w, h, x, y, dx, dy, m, rfl, S, q⟩ := h
    have hr3 : Room 3 _ := hr.mono (by decide)
    have hr1 : Room 1 _ := hr.mono (by decide)
    refine ⟨_, pss_cons (ps_expr (pe_call GC hr3 (by rfl) mC kC bC .nil pass0 (pa_cons (pv 0) (pa_cons (pv 1) pa_nil))))
      (pss_cons (ps_if (pt_not (pt_val (pe_call GS hr1 (by rfl) mS kS bS .nil pass0 (pa_cons (pv 1) pa_nil))))
        (pss_one (ps_ret (pe_op op_add pe_int (pe_ifExp (pt_cmpR op_ne (pe_ix ix_tup (pv 1) pe_int (fun _ _ => rfl)) pe_int (nomark _)) (pe_fld (pv 0) rfl) (pe_fld (pv 0) rfl))))) pss_nil)
      (pss_cons (ps_set (i := 2) nd rfl (.inl rfl) (pe_callBfun cr_gcd (by rfl) T.gcd (pa_cons (pe_fld (pv 0) rfl) (pa_cons (pe_fld (pv 0) rfl) pa_nil))))
      (pss_cons (ps_set (i := 3) nd rfl (.inl rfl) (pe_op op_fdiv (pe_fld (pv 0) rfl) (pv 2)))
      (pss_cons (ps_set (i := 4) nd rfl (.inl rfl) (pe_op op_fdiv (pe_fld (pv 0) rfl) (pv 2)))
      (pss_cons (ps_if (pt_cmpR op_notN (pe_call GK hr (by rfl) mK kK bK .nil pass0 (pa_cons (pv 0) (pa_cons (pv 1) pa_nil))) pe_non (nomark _))
        (pss_one (ps_ret (pe_op op_sub (pe_op op_add (pe_op op_mul (pe_op op_mul (pv 2) (pv 3)) (pv 4)) pe_int) (pe_op op_fdiv (pe_op op_mul (pe_op op_sub (pv 3) pe_int) (pe_op op_sub (pv 4) pe_int)) pe_int)))) pss_nil)
      (pss_one (ps_ret (pe_op op_add (pe_op op_add (pe_op op_sub (pe_op op_mul (pe_op op_mul (pe_op op_mul pe_int (pv 2)) (pv 3)) (pv 4)) (pe_op op_mul (pe_op op_mul pe_int (pv 3)) (pv 4))) (pv 3)) (pv 4))))))))), ?_⟩
    have g := S.good
    have w1 := g.w1
    have w9 := g.w9
    have h1 := g.h1
    have h9 := g.h9
    refine ⟨_, rfl, _, rfl, t, b, w, h, x, y, dx, dy, m, rfl, S, fun H1 s1 => ?_⟩
    have S1 := S.same s1
    obtain ⟨tx, pp, et⟩ := id S1.tab
    unfold pcount at q
    refine ⟨_, rfl, b, x, y, dx, dy, m, rfl, .of S1.ball, _, rfl, ?_⟩
    by_cases z : dx ≠ 0 ∧ dy ≠ 0
    · rw [decide_eq_true z]
      rw [if_neg z.1, if_neg z.2] at q
      refine iteF ?_
      have gd : Int.gcd (w : Int) h ∣ w := Nat.gcd_dvd_left _ _
      have gpos : 0 < Int.gcd (w : Int) h := Nat.pos_of_dvd_of_pos gd (by omega)
      have gle : Int.gcd (w : Int) h ≤ w := Nat.le_of_dvd (by omega) gd
      obtain ⟨c, hc⟩ : ∃ c : Nat, Int.gcd (w : Int) h = c := ⟨_, rfl⟩
      unfold pcf at q
      dsimp only at q
      rw [hc] at gpos gle q
      have ww : (w : Int) / (c : Int) ≤ w := Int.ediv_le_self _ (by omega)
      have hh : (h : Int) / (c : Int) ≤ h := Int.ediv_le_self _ (by omega)
      have w0 : 0 ≤ (w : Int) / (c : Int) := Int.ediv_nonneg (by omega) (by omega)
      have h0 : 0 ≤ (h : Int) / (c : Int) := Int.ediv_nonneg (by omega) (by omega)
      -- common, wide, high
      refine ⟨_, rfl, t, C, tx, _, _, rfl, et, T.cl, T.nW, tf_width _ _ _, _, rfl, t, C, tx, _, _, rfl, et, T.cl, T.nH, tf_height _ _ _, w, h, rfl, ?_⟩
      rw [show ((Nat.gcd ((w : Nat) : Int).natAbs ((h : Nat) : Int).natAbs : Nat) : Int) = (c : Int) by rw [← hc]; rfl]
      refine ⟨_, rfl, t, C, tx, _, _, rfl, et, T.cl, T.nW, tf_width _ _ _, _, rfl, _, _, rfl, rfl, ⟨by omega, by omega⟩, ?_⟩
      refine ⟨_, rfl, t, C, tx, _, _, rfl, et, T.cl, T.nH, tf_height _ _ _, _, rfl, _, _, rfl, rfl, ⟨by omega, by omega⟩, ?_⟩
      obtain ⟨W, hW⟩ : ∃ W, (w : Int) / (c : Int) = W := ⟨_, rfl⟩
      obtain ⟨V', hV⟩ : ∃ V', (h : Int) / (c : Int) = V' := ⟨_, rfl⟩
      -- corner_minutes
      refine ⟨_, rfl, _, rfl, t, b, w, h, x, y, dx, dy, m, rfl, S1, z.1, z.2, fun cr H2 s2 => ⟨rfl, _, rfl, ?_⟩, fun cr H2 p s2 => ⟨rfl, _, rfl, ?_⟩⟩
      · rw [cr] at q
        have q := q H2 (s1.trans s2)
        rw [if_neg Bool.false_ne_true] at q
        refine ⟨_, rfl, _, _, rfl, rfl, .inl ⟨by decide, by decide⟩, _, rfl, _, _, rfl, rfl, .inr ⟨by omega, by omega⟩, _, rfl, _, _, rfl, rfl, .inr ⟨by omega, by omega⟩, ?_⟩
        refine ⟨_, rfl, _, _, rfl, rfl, .inl ⟨by decide, by decide⟩, _, rfl, _, _, rfl, rfl, .inr ⟨by omega, by omega⟩, _, _, rfl, rfl, _, rfl, _, _, rfl, rfl, _, rfl, _, _, rfl, rfl, ?_⟩
        exact q
      · rw [cr] at q
        have q := q H2 (s1.trans s2)
        rw [if_pos rfl] at q
        refine ⟨_, rfl, _, rfl, _, _, rfl, rfl, .inr ⟨by omega, by omega⟩, _, rfl, _, _, rfl, rfl, .inr ⟨by omega, by omega⟩, _, _, rfl, rfl, ?_⟩
        refine ⟨_, rfl, _, _, rfl, rfl, _, rfl, _, _, rfl, rfl, _, _, rfl, rfl, .inl ⟨by omega, by omega⟩, _, _, rfl, rfl, ⟨by decide, by decide⟩, _, _, rfl, rfl, ?_⟩
        exact q
    · rw [decide_eq_false z]
      refine iteT ?_
      refine ⟨_, rfl, b, _, _, _, rfl, rfl, .of S1.ball, atI_nat (j := 3) rfl, rfl, _, rfl, ?_⟩
      by_cases ex : dx = 0
      · subst ex
        rw [if_pos rfl] at q
        refine iteNS rfl ?_
        refine ⟨_, rfl, t, C, tx, _, _, rfl, et, T.cl, T.nH, tf_height _ _ _, _, _, rfl, rfl, ?_⟩
        exact q _ s1
      · rw [if_neg ex, if_pos (show dy = 0 by omega)] at q
        rw [decide_eq_false (show ¬ (V.int dx = V.int 0) from fun e => ex (V.int.inj e))]
        refine ⟨_, rfl, t, C, tx, _, _, rfl, et, T.cl, T.nW, tf_width _ _ _, _, _, rfl, rfl, ?_⟩
        exact q _ s1
end
end Cw

namespace Cw
open PySem L2
section
variable {P : Program} {w : World} {K : PySem.W.Frag} {mg : Str → Option Value} {base : Heap}
/-! ### the law's row of numbers -/
def spRow : Sp := fun vs H Q _ => ∃ (c : Int) (m : Nat), vs = [.int c, .int m] ∧ m ≤ 100 ∧ ∀ H' l ns, Same H H' → H' l = some (.lst ((ns : List Int).map V.int)) → ns.length = m → H l = none → Q (.ref l) H'
abbrev nRow : List Str := ["_law_cell", "_law_many", "_law_row_here", "_law_rest", "_law_mixed", "_law_k"]
theorem scRow : FnScope nRow ["_law_cell", "_law_many"] (defScope sRow) := ⟨rfl, rfl, rfl, by decide +kernel, rfl, by decide +kernel, by decide +kernel⟩
theorem upd_two {H : Hp} {a : Addr} {o u : HO} : upd (upd H a o) a u = upd H a u := upd_upd
theorem ok_row {f C : Addr} {fd : FuncData} (F : Fun K "_law_row" "_law_row" sRow f fd) (T : Txt K mg C) : FnOk P w K mg base CX0 1 f fd ["_law_cell", "_law_many"] spRow := by
  have nd := scRow.nd
  refine F.ok scRow (fun vs H Q E h => ?_) (fun cdv A outer s H vs Q E hr h => ?_)
  · obtain ⟨c, m, rfl, _⟩ := h
    rfl
  · obtain ⟨c, m, rfl, hm, q⟩ := h
    refine ⟨_, pss_cons (ps_set (i := 2) nd rfl (.inl rfl) (pe_lst pa_nil))
      (pss_cons (ps_set (i := 3) nd rfl (.inl rfl) (pe_callB call_abs (by rfl) T.abs (by decide +kernel) (pa_cons (pv 0) pa_nil)))
      (pss_cons (ps_set (i := 4) nd rfl (.inl rfl) (pe_op op_mod (pe_callTy call_int1 (by rfl) T.int (by decide +kernel) (pa_cons (pe_op op_add (pe_op op_mul (pv 3) pe_int) pe_int) pa_nil)) pe_int))
      (pss_cons (ps_for PassesOwn.never rfl (pi_range1 (by rfl) T.range (pa_cons (pv 1) pa_nil)) (pg_name (i := 5) nd rfl (.inl rfl))
        (pss_cons (ps_set (i := 4) nd rfl (.inl rfl) (pe_op op_mod (pe_callTy call_int1 (by rfl) T.int (by decide +kernel) (pa_cons (pe_op op_add (pe_op op_mul (pv 4) pe_int) (pe_op op_mul pe_int (pe_op op_add (pv 5) pe_int))) pa_nil)) pe_int))
        (pss_one (ps_if (pt_cmpR op_ge (pe_callB call_abs (by rfl) T.abs (by decide +kernel) (pa_cons (pv 0) pa_nil)) (pe_op op_pow pe_int pe_int) (nomark _))
          (pss_cons (ps_expr (pe_bm PySem.F.plainAttrs_list PySem.F.slot_list_append PySem.F.type_list_append mt_append (pv 2) (pa_cons (pe_op op_mod (pe_callTy call_int1 (by rfl) T.int (by decide +kernel) (pa_cons (pv 3) pa_nil)) pe_int) pa_nil)))
          (pss_one (ps_set (i := 3) nd rfl (.inl rfl) (pe_op op_fdiv (pv 3) pe_int))))
          (pss_one (ps_expr (pe_bm PySem.F.plainAttrs_list PySem.F.slot_list_append PySem.F.type_list_append mt_append (pv 2) (pa_cons (pe_op op_mod (pe_callTy call_int1 (by rfl) T.int (by decide +kernel) (pa_cons (pe_op op_fdiv (pv 4) pe_int) pa_nil)) pe_int) pa_nil))))))))
      (pss_one (ps_ret (pv 2)))))), ?_⟩
    -- row = []; rest = abs(cell); mixed = ..
    refine ⟨le0, fun l hl => ?_⟩
    refine ⟨_, rfl, c, rfl, ?_⟩
    refine ⟨_, rfl, _, _, rfl, rfl, .inr ⟨by decide, by decide⟩, _, _, rfl, rfl, .inl ⟨_, rfl, _, _, rfl, rfl, (by show (0 : Int) < 2147483647; decide), ?_⟩⟩
    -- the loop
    refine ⟨_, rfl, m, rfl, by omega, by omega, for_range (lo := 0) (n := m) (fun i σ H' => ∃ (rest mixed : Int) (z5 : Option V) (ns : List Int), σ = [some (.int c), some (.int m), some (.ref l), some (.int rest), some (.int mixed), z5] ∧ H' = upd H l (.lst (ns.map V.int)) ∧ ns.length = i) ?_ ?_ ?_⟩
    · exact ⟨_, _, _, [], rfl, rfl, rfl⟩
    · rintro i σ H' hi ⟨rest, mixed, z5, ns, rfl, rfl, ln⟩
      have e1 : upd H l (.lst (ns.map V.int)) l = some (.lst (ns.map V.int)) := upd_same
      have lz : (ns.map V.int).length < sizeLine := by
        rw [List.length_map]
        exact small1000 (by omega)
      have fin : ∀ z : Int, upd (upd H l (.lst (ns.map V.int))) l (.lst (ns.map V.int ++ [V.int z])) = upd H l (.lst ((ns ++ [z]).map V.int)) := fun z => by
        rw [upd_upd, List.map_append]
        rfl
      refine ⟨_, rfl, _, _, rfl, rfl, .inr ⟨by decide, by decide⟩, _, rfl, _, _, rfl, rfl, _, _, rfl, rfl, .inl ⟨by decide, by decide⟩, _, _, rfl, rfl, .inl ⟨_, rfl, _, _, rfl, rfl, (by show (0 : Int) < 2147483629; decide), ?_⟩⟩
      refine ⟨_, rfl, c, rfl, _, _, rfl, rfl, ⟨by decide, by decide, by decide⟩, _, _, rfl, rfl, _, rfl, ?_⟩
      refine ite2 (fun _ => ?_) (fun _ => ?_)
      · refine ⟨_, rfl, .inl ⟨rfl, _, .inl (.inl e1)⟩, _, rfl, .inl ⟨_, rfl, _, _, rfl, rfl, (by show (0 : Int) < 1009; decide), l, _, _, rfl, rfl, e1, lz, ?_⟩⟩
        refine ⟨_, rfl, _, _, rfl, rfl, ⟨by decide, by decide⟩, ?_⟩
        exact ⟨_, _, _, _, rfl, fin _, by rw [List.length_append, ln]; rfl⟩
      · refine ⟨_, rfl, .inl ⟨rfl, _, .inl (.inl e1)⟩, _, rfl, _, _, rfl, rfl, ⟨by decide, by decide⟩, .inl ⟨_, rfl, _, _, rfl, rfl, (by show (0 : Int) < 1009; decide), l, _, _, rfl, rfl, e1, lz, ?_⟩⟩
        exact ⟨_, _, _, _, rfl, fin _, by rw [List.length_append, ln]; rfl⟩
    · rintro σ H' ⟨rest, mixed, z5, ns, rfl, rfl, ln⟩
      exact ⟨_, rfl, q _ l ns (same_new hl) upd_same ln hl⟩
/-! ### the law's size -/
def spSize : Sp := fun vs H Q _ => ∃ n : Int, vs = [.int n] ∧ ∀ (H' : Hp) (s : Nat), Same H H' → 1 ≤ s → s ≤ 9 → Q (.int s) H'
theorem scSize : FnScope ["_law_number"] ["_law_number"] (defScope sSize) := ⟨rfl, rfl, rfl, by decide +kernel, rfl, by decide +kernel, by decide +kernel⟩
theorem le8 : 8 ≤ sizeLine := by decide
theorem size_at (a b c : Int) (i : Int) (ha : 1 ≤ a ∧ a ≤ 9) (hb : 1 ≤ b ∧ b ≤ 9) (hc : 1 ≤ c ∧ c ≤ 9) (h0 : 0 ≤ i) (h8 : i < 8) :
    ∃ s : Nat, 1 ≤ s ∧ s ≤ 9 ∧ atI [V.int a, V.int b, V.int 6, V.int 4, V.int c, V.int 2, V.int 3, V.int 1] i = some (V.int s) := by
  have e : i = 0 ∨ i = 1 ∨ i = 2 ∨ i = 3 ∨ i = 4 ∨ i = 5 ∨ i = 6 ∨ i = 7 := by omega
  rcases e with rfl | rfl | rfl | rfl | rfl | rfl | rfl | rfl
  · exact ⟨a.toNat, by omega, by omega, by rw [Int.toNat_of_nonneg (by omega)]; exact atI_nat (j := 0) rfl⟩
  · exact ⟨b.toNat, by omega, by omega, by rw [Int.toNat_of_nonneg (by omega)]; exact atI_nat (j := 1) rfl⟩
  · exact ⟨6, by decide, by decide, atI_nat (j := 2) rfl⟩
  · exact ⟨4, by decide, by decide, atI_nat (j := 3) rfl⟩
  · exact ⟨c.toNat, by omega, by omega, by rw [Int.toNat_of_nonneg (by omega)]; exact atI_nat (j := 4) rfl⟩
  · exact ⟨2, by decide, by decide, atI_nat (j := 5) rfl⟩
  · exact ⟨3, by decide, by decide, atI_nat (j := 6) rfl⟩
  · exact ⟨1, by decide, by decide, atI_nat (j := 7) rfl⟩
theorem ok_size {f C : Addr} {fd : FuncData} (F : Fun K "_law_size" "_law_size" sSize f fd) (T : Txt K mg C) : FnOk P w K mg base CX0 1 f fd ["_law_number"] spSize := by
  refine F.ok scSize (fun vs H Q E h => ?_) (fun cdv A outer s H vs Q E hr h => ?_)
  · obtain ⟨n, rfl, _⟩ := h
    rfl
  · obtain ⟨n, rfl, q⟩ := h
    refine ⟨_, pss_one (ps_ret (pe_ix ix_list (pe_lst (pa_cons (pe_op op_add pe_int (pe_op op_mod (pe_callTy call_int1 (by rfl) T.int (by decide +kernel) (pa_cons (pv 0) pa_nil)) pe_int))
      (pa_cons (pe_op op_add pe_int (pe_op op_mod (pe_callTy call_int1 (by rfl) T.int (by decide +kernel) (pa_cons (pv 0) pa_nil)) pe_int)) (pa_cons pe_int (pa_cons pe_int
      (pa_cons (pe_op op_add pe_int (pe_op op_mod (pe_callTy call_int1 (by rfl) T.int (by decide +kernel) (pa_cons (pv 0) pa_nil)) pe_int)) (pa_cons pe_int (pa_cons pe_int (pa_cons pe_int pa_nil)))))))))
      (pe_op op_mod (pe_callTy call_int1 (by rfl) T.int (by decide +kernel) (pa_cons (pe_op op_fdiv (pv 0) pe_int) pa_nil)) pe_int) (fun _ _ => rfl))), ?_⟩
    refine ⟨_, rfl, .inl ⟨_, rfl, _, _, rfl, rfl, (by show (0 : Int) < 7; decide), _, _, rfl, rfl, ?_⟩⟩
    refine ⟨_, rfl, .inl ⟨_, rfl, _, _, rfl, rfl, (by show (0 : Int) < 4; decide), _, _, rfl, rfl, ?_⟩⟩
    refine ⟨_, rfl, .inl ⟨_, rfl, _, _, rfl, rfl, (by show (0 : Int) < 9; decide), _, _, rfl, rfl, le8, fun l hl => ?_⟩⟩
    refine ⟨_, rfl, _, _, rfl, rfl, ⟨by decide, by decide⟩, .inl ⟨_, rfl, _, _, rfl, rfl, (by show (0 : Int) < 8; decide), ?_⟩⟩
    obtain ⟨s, h1, h9, e⟩ := size_at (1 + n % 7) (1 + n % 4) (1 + n % 9) (n / 9 % 8) (by omega) (by omega) (by omega) (by omega) (by omega)
    exact ⟨l, _, _, _, rfl, rfl, .of upd_same, e, q _ s (same_new hl) h1 h9⟩
end
end Cw

namespace Cw
open PySem L2
section
variable {P : Program} {w : World} {K : PySem.W.Frag} {mg : Str → Option Value} {base : Heap}
/-! ### the law's numbers -/
theorem cut_to (ns : List Int) (k : Nat) : cutV (ns.map V.int) none (some (k : Int)) = (ns.take k).map V.int := by
  unfold cutV
  rw [HT.sIx_none, HT.sIx_nat, List.drop_zero, Nat.sub_zero, List.length_map, ← List.map_take]
  congr 1
  rw [Nat.min_def]
  split
  · rfl
  · rw [List.take_length, List.take_of_length_le (by omega)]
def spNumbers (K : PySem.W.Frag) : Sp := fun vs H Q _ => ∃ (a : Addr) (ns : List Int), vs = [.ref a, .int 20] ∧ SqL K H a (ns.map V.int) ∧ ns.length ≤ 63 ∧
  ∀ H' l ms, Same H H' → H' l = some (.lst ((ms : List Int).map V.int)) → ms.length = 20 → Q (.ref l) H'
abbrev nNumbers : List Str := ["_law_script", "_law_many", "_law_cells", "_law_each", "_law_numbers_here", "_law_cell", "_law_number"]
theorem scNumbers : FnScope nNumbers ["_law_script", "_law_many"] (defScope sNumbers) := ⟨rfl, rfl, rfl, by decide +kernel, rfl, by decide +kernel, by decide +kernel⟩
theorem ok_numbers {f g C : Addr} {fd gd : FuncData} (F : Fun K "_law_numbers" "_law_numbers" sNumbers f fd) (T : Txt K mg C)
    (G : FnOk P w K mg base CX0 1 g gd ["_law_cell", "_law_many"] spRow) (bG : Binds K gd ["_law_cell", "_law_many"] []) (mG : mg "_law_row" = some (.ref g)) (kG : PySem.W.keepIn K (.ref g) = true) :
    FnOk P w K mg base CX0 2 f fd ["_law_script", "_law_many"] (spNumbers K) := by
  have nd := scNumbers.nd
  refine F.ok scNumbers (fun vs H Q E h => ?_) (fun cdv A outer s H vs Q E hr h => ?_)
  · obtain ⟨a, ns, rfl, _⟩ := h
    rfl
  · obtain ⟨a, ns, rfl, ha, hn, q⟩ := h
    refine ⟨_, pss_cons (ps_set (i := 2) nd rfl (.inl rfl) (pe_slice sl_list (pv 0) po_none (po_some pe_int)))
      (pss_cons (ps_set (i := 3) nd rfl (.inl rfl) (pe_op op_add pe_int (pe_op op_fdiv (pv 1) (pe_callB (call_max2 rfl) (by rfl) T.max (by decide +kernel) (pa_cons pe_int (pa_cons (pe_callB call_len_seq (by rfl) T.len PySem.boot_len (pa_cons (pv 2) pa_nil)) pa_nil))))))
      (pss_cons (ps_set (i := 4) nd rfl (.inl rfl) (pe_lst pa_nil))
      (pss_cons (ps_for PassesOwn.never rfl (pi_list (pv 2)) (pg_name (i := 5) nd rfl (.inl rfl))
        (pss_one (ps_for PassesOwn.never rfl (pi_list (pe_call G hr (by rfl) mG kG bG .nil pass0 (pa_cons (pv 5) (pa_cons (pv 3) pa_nil)))) (pg_name (i := 6) nd rfl (.inl rfl))
          (pss_one (ps_expr (pe_bm PySem.F.plainAttrs_list PySem.F.slot_list_append PySem.F.type_list_append mt_append (pv 4) (pa_cons (pv 6) pa_nil)))))))
      (pss_cons (ps_while PassesOwn.never (pt_cmpR op_lt (pe_callB call_len_seq (by rfl) T.len PySem.boot_len (pa_cons (pv 4) pa_nil)) (pv 1) (nomark _))
        (pss_one (ps_expr (pe_bm PySem.F.plainAttrs_list PySem.F.slot_list_append PySem.F.type_list_append mt_append (pv 4) (pa_cons pe_int pa_nil)))))
      (pss_one (ps_ret (pe_slice sl_list (pv 4) po_none (po_some (pv 1)))))))))  , ?_⟩
    -- cells
    refine ⟨_, rfl, 63, rfl, a, _, rfl, ha, fun c hc => ?_⟩
    rw [show cutV (ns.map V.int) none (some 63) = (ns.take 63).map V.int from cut_to ns 63]
    obtain ⟨cs, hcs⟩ : ∃ cs, ns.take 63 = cs := ⟨_, rfl⟩
    have lc : cs.length ≤ 63 := by
      rw [← hcs, List.length_take]
      omega
    rw [hcs]
    have s1 : Same H (upd H c (.lst (cs.map V.int))) := same_new hc
    have ec : upd H c (.lst (cs.map V.int)) c = some (.lst (cs.map V.int)) := upd_same
    -- each
    refine ⟨_, rfl, _, rfl, c, _, rfl, .inl (.of ec), _, _, rfl, ?_⟩
    obtain ⟨mx, hmx, mx1, mx63⟩ : ∃ mx : Int, (if ((cs.map V.int).length : Int) > 1 then ((cs.map V.int).length : Int) else 1) = mx ∧ 1 ≤ mx ∧ mx ≤ 63 := by
      refine ⟨_, rfl, ?_⟩
      rw [List.length_map]
      split <;> omega
    rw [hmx]
    refine ⟨_, _, rfl, rfl, ⟨by omega, by omega⟩, _, _, rfl, rfl, ?_⟩
    obtain ⟨e, he, e1, e21⟩ : ∃ e : Nat, (1 : Int) + 20 / mx = (e : Int) ∧ 1 ≤ e ∧ e ≤ 21 := by
      have d0 : 0 ≤ (20 : Int) / mx := Int.ediv_nonneg (by omega) (by omega)
      have d1 : (20 : Int) / mx ≤ 20 := Int.ediv_le_self _ (by omega)
      exact ⟨(1 + 20 / mx).toNat, by omega, by omega, by omega⟩
    show gName 3 (V.int (1 + 20 / mx)) _ _ _
    rw [he]
    -- numbers = []
    refine ⟨le0, fun l hl => ?_⟩
    have ncl : c ≠ l := ne_of_none ec hl
    have hl0 : H l = none := s1.free hl
    refine ⟨_, rfl, c, rfl, ⟨_, .of ((upd_ne ncl).trans ec)⟩, for_list (K := K) (a := c) (xs := cs.map V.int) (fun i σ H' => ∃ (z5 z6 : Option V) (ms : List Int), σ = [some (.ref a), some (.int 20), some (.ref c), some (.int e), some (.ref l), z5, z6] ∧
      SB l (upd H c (.lst (cs.map V.int))) H' ∧ H' l = some (.lst (ms.map V.int)) ∧ ms.length ≤ i * 21) ?_ ?_ ?_ ?_⟩
    · exact ⟨_, _, [], rfl, .of (same_new hl), upd_same, Nat.le_refl _⟩
    · rintro i σ H' hi ⟨_, _, _, _, sb, _⟩
      exact .of (sb _ _ ec ncl)
    · rintro i v σ H' hv ⟨z5, z6, ms, rfl, sb, el, lm⟩
      have hi : i < 63 := by
        have := get_lt hv
        rw [List.length_map] at this
        omega
      obtain ⟨z, rfl⟩ : ∃ z, v = V.int z := by
        rw [List.getElem?_map] at hv
        cases ez : cs[i]? with
        | none =>
          rw [ez] at hv
          cases hv
        | some z =>
          rw [ez] at hv
          exact ⟨z, (Option.some.inj hv).symm⟩
      refine ⟨_, rfl, _, rfl, z, e, rfl, by omega, fun H2 r rs s2 er lr fr => ?_⟩
      have nr : r ≠ l := (ne_of_none el fr).symm
      have el2 := s2 _ _ el
      refine ⟨r, rfl, ⟨_, .of er⟩, for_list (K := K) (a := r) (xs := rs.map V.int) (fun j σ H' => ∃ (z6 : Option V) (ms : List Int), σ = [some (.ref a), some (.int 20), some (.ref c), some (.int e), some (.ref l), some (.int z), z6] ∧
        SB l H2 H' ∧ H' l = some (.lst (ms.map V.int)) ∧ ms.length ≤ i * 21 + j) ?_ ?_ ?_ ?_⟩
      · exact ⟨_, ms, rfl, .refl, el2, lm⟩
      · rintro j σ H3 hj ⟨_, _, _, sb3, _⟩
        exact .of (sb3 _ _ er nr)
      · rintro j v σ H3 hv ⟨z6, ms3, rfl, sb3, el3, lm3⟩
        have hj : j < 21 := by
          have := get_lt hv
          rw [List.length_map] at this
          omega
        obtain ⟨z', rfl⟩ : ∃ z', v = V.int z' := by
          rw [List.getElem?_map] at hv
          cases ez : rs[j]? with
          | none =>
            rw [ez] at hv
            cases hv
          | some z' =>
            rw [ez] at hv
            exact ⟨z', (Option.some.inj hv).symm⟩
        refine ⟨_, rfl, .inl ⟨rfl, _, .inl (.inl el3)⟩, _, rfl, l, _, _, rfl, rfl, el3, ?_, ?_⟩
        · rw [List.length_map]
          have : (2000 : Nat) < sizeLine := by decide
          omega
        · refine ⟨_, ms3 ++ [z'], rfl, sb3.trans .at, ?_, by rw [List.length_append, List.length_singleton]; omega⟩
          rw [upd_same, List.map_append]
          rfl
      · rintro σ H3 ⟨z6, ms3, rfl, sb3, el3, lm3⟩
        refine ⟨_, _, ms3, rfl, sb.trans ((SB.of s2).trans sb3), el3, ?_⟩
        rw [List.length_map] at lm3
        omega
    · rintro σ H' ⟨z5, z6, ms, rfl, sb, el, lm⟩
      rw [List.length_map] at lm
      -- the while
      refine ⟨fun k σ H2 => ∃ (z5 z6 : Option V) (ms : List Int), σ = [some (.ref a), some (.int 20), some (.ref c), some (.int e), some (.ref l), z5, z6] ∧
        SB l H' H2 ∧ H2 l = some (.lst (ms.map V.int)) ∧ ms.length ≤ 2000 ∧ k = 20 - ms.length, ⟨20 - ms.length, z5, z6, ms, rfl, .refl, el, by omega, rfl⟩, fun k σ H2 hW => ?_⟩
      obtain ⟨z5, z6, ms2, rfl, sb2, el2, lm2, rfl⟩ := hW
      refine ⟨_, rfl, l, _, rfl, .inl (.of el2), _, rfl, _, _, rfl, rfl, _, rfl, ?_⟩
      rw [List.length_map]
      refine ite2 (fun lt => ?_) (fun nlt => ?_)
      · have lt : ms2.length < 20 := by
          have := of_decide_eq_true lt
          omega
        refine ⟨fun σ' H3 => ∃ (z5 z6 : Option V) (ms : List Int), σ' = [some (.ref a), some (.int 20), some (.ref c), some (.int e), some (.ref l), z5, z6] ∧
          SB l H' H3 ∧ H3 l = some (.lst (ms.map V.int)) ∧ ms.length = ms2.length + 1, fun σ' H3 ⟨y5, y6, ms3, e1, e2, e3, e4⟩ => ⟨20 - ms3.length, by omega, y5, y6, ms3, e1, e2, e3, by omega, rfl⟩, ?_⟩
        refine ⟨_, rfl, .inl ⟨rfl, _, .inl (.inl el2)⟩, l, _, _, rfl, rfl, el2, ?_, ?_⟩
        · rw [List.length_map]
          exact small1000 (by omega)
        · refine ⟨z5, z6, ms2 ++ [0], rfl, sb2.trans .at, ?_, by rw [List.length_append]; rfl⟩
          rw [upd_same, List.map_append]
          rfl
      · have ge : 20 ≤ ms2.length := by
          have : ¬ ((ms2.length : Int) < 20) := fun z => nlt (decide_eq_true z)
          omega
        -- numbers[:many]
        refine ⟨_, rfl, _, rfl, 20, rfl, l, _, rfl, .of el2, fun p hp => ?_⟩
        rw [show cutV (ms2.map V.int) none (some 20) = (ms2.take 20).map V.int from cut_to ms2 20]
        have sf : Same H H2 := s1.trans ((sb.trans sb2).free hl)
        exact q _ p (ms2.take 20) (sf.trans (same_new hp)) upd_same (by rw [List.length_take]; omega)
end
end Cw

namespace Cw
open PySem L2
section
variable {P : Program} {w : World} {K : PySem.W.Frag} {mg : Str → Option Value} {base : Heap}
/-! ### the law's ball -/
def spBall (K : PySem.W.Frag) : Sp := fun vs H Q _ => ∃ (a : Addr) (ns : List Int) (w h : Nat), vs = [.ref a, .int 2, .int w, .int h, .str "b"] ∧ SqL K H a (ns.map V.int) ∧ ns.length = 20 ∧
  ∀ H' p (x y : Nat) (dx dy : Int) (m : Nat), Same H H' → H' p = some (.tup (ballL x y dx dy m)) → x ≤ w → y ≤ h → (dx = 1 ∨ dx = -1 ∨ dx = 0) → (dy = 1 ∨ dy = -1 ∨ dy = 0) → (dx ≠ 0 ∨ dy ≠ 0) → m ≤ 9 → Q (.ref p) H'
abbrev nBall : List Str := ["_law_numbers_here", "_law_at", "_law_width", "_law_height", "_law_name", "_law_dx", "_law_dy", "_law_x", "_law_y"]
theorem scBall : FnScope nBall ["_law_numbers_here", "_law_at", "_law_width", "_law_height", "_law_name"] (defScope sBall) := ⟨rfl, rfl, rfl, by decide +kernel, rfl, by decide +kernel, by decide +kernel⟩
/-- an item of a list of ints -/
theorem int_at {ns : List Int} {i : Nat} (h : i < ns.length) : ∃ z, atI (ns.map V.int) (i : Int) = some (V.int z) := by
  refine ⟨ns[i], atI_nat ?_⟩
  rw [List.getElem?_map, List.getElem?_eq_getElem h]
  rfl
theorem two_at (a b : Int) {i : Int} (h0 : 0 ≤ i) (h2 : i < 2) : ∃ z, (z = a ∨ z = b) ∧ atI [V.int a, V.int b] i = some (V.int z) := by
  have e : i = 0 ∨ i = 1 := by omega
  rcases e with rfl | rfl
  · exact ⟨a, .inl rfl, atI_nat (j := 0) rfl⟩
  · exact ⟨b, .inr rfl, atI_nat (j := 1) rfl⟩
theorem ok_ball {f C : Addr} {fd : FuncData} (F : Fun K "_law_ball" "_law_ball" sBall f fd) (T : Txt K mg C) :
    FnOk P w K mg base CX0 1 f fd ["_law_numbers_here", "_law_at", "_law_width", "_law_height", "_law_name"] (spBall K) := by
  have nd := scBall.nd
  refine F.ok scBall (fun vs H Q E h => ?_) (fun cdv A outer s H vs Q E hr h => ?_)
  · obtain ⟨a, ns, w, h, rfl, _⟩ := h
    rfl
  · obtain ⟨a, ns, w, h, rfl, ha, hn, q⟩ := h
    refine ⟨_, pss_cons (ps_asg (pe_ix ix_list (pe_lst
        (pa_cons (pe_tup (pa_cons pe_int (pa_cons pe_int pa_nil))) (pa_cons (pe_tup (pa_cons pe_int (pa_cons (pe_un un_neg pe_int) pa_nil)))
        (pa_cons (pe_tup (pa_cons (pe_un un_neg pe_int) (pa_cons pe_int pa_nil))) (pa_cons (pe_tup (pa_cons (pe_un un_neg pe_int) (pa_cons (pe_un un_neg pe_int) pa_nil)))
        (pa_cons (pe_tup (pa_cons pe_int (pa_cons pe_int pa_nil))) (pa_cons (pe_tup (pa_cons pe_int (pa_cons (pe_un un_neg pe_int) pa_nil)))
        (pa_cons (pe_tup (pa_cons (pe_un un_neg pe_int) (pa_cons pe_int pa_nil))) (pa_cons (pe_tup (pa_cons pe_int (pa_cons pe_int pa_nil))) pa_nil)))))))))
        (pe_op op_mod (pe_callTy call_int1 (by rfl) T.int (by decide +kernel) (pa_cons (pe_ix ix_list (pv 0) (pv 1) (fun _ _ => rfl)) pa_nil)) pe_int) (fun _ _ => rfl))
        (pg_tup (by rfl) (pgs_cons (pg_name (i := 5) nd rfl (.inl rfl)) (pgs_cons (pg_name (i := 6) nd rfl (.inl rfl)) pgs_nil))))
      (pss_cons (ps_set (i := 7) nd rfl (.inl rfl) (pe_op op_mod (pe_callTy call_int1 (by rfl) T.int (by decide +kernel) (pa_cons (pe_ix ix_list (pv 0) (pe_op op_add (pv 1) pe_int) (fun _ _ => rfl)) pa_nil)) (pe_op op_add (pv 2) pe_int)))
      (pss_cons (ps_set (i := 8) nd rfl (.inl rfl) (pe_op op_mod (pe_callTy call_int1 (by rfl) T.int (by decide +kernel) (pa_cons (pe_ix ix_list (pv 0) (pe_op op_add (pv 1) pe_int) (fun _ _ => rfl)) pa_nil)) (pe_op op_add (pv 3) pe_int)))
      (pss_cons (ps_if (pt_cmpR op_eq (pe_op op_mod (pe_callTy call_int1 (by rfl) T.int (by decide +kernel) (pa_cons (pe_ix ix_list (pv 0) (pe_op op_add (pv 1) pe_int) (fun _ _ => rfl)) pa_nil)) pe_int) pe_int (nomark _))
        (pss_one (ps_set (i := 7) nd rfl (.inl rfl) (pe_ix ix_list (pe_lst (pa_cons pe_int (pa_cons (pv 2) pa_nil))) (pe_op op_mod (pe_callTy call_int1 (by rfl) T.int (by decide +kernel) (pa_cons (pe_ix ix_list (pv 0) (pe_op op_add (pv 1) pe_int) (fun _ _ => rfl)) pa_nil)) pe_int) (fun _ _ => rfl)))) pss_nil)
      (pss_cons (ps_if (pt_cmpR op_eq (pe_op op_mod (pe_callTy call_int1 (by rfl) T.int (by decide +kernel) (pa_cons (pe_ix ix_list (pv 0) (pe_op op_add (pv 1) pe_int) (fun _ _ => rfl)) pa_nil)) pe_int) pe_int (nomark _))
        (pss_one (ps_set (i := 8) nd rfl (.inl rfl) (pe_ix ix_list (pe_lst (pa_cons pe_int (pa_cons (pv 3) pa_nil))) (pe_op op_mod (pe_callTy call_int1 (by rfl) T.int (by decide +kernel) (pa_cons (pe_ix ix_list (pv 0) (pe_op op_add (pv 1) pe_int) (fun _ _ => rfl)) pa_nil)) pe_int) (fun _ _ => rfl)))) pss_nil)
      (pss_one (ps_ret (pe_tup (pa_cons (pv 4) (pa_cons (pv 7) (pa_cons (pv 8) (pa_cons (pv 5) (pa_cons (pv 6) (pa_cons
        (pe_op op_mod (pe_callTy call_int1 (by rfl) T.int (by decide +kernel) (pa_cons (pe_op op_fdiv (pe_ix ix_list (pv 0) (pe_op op_add (pv 1) pe_int) (fun _ _ => rfl)) pe_int) pa_nil)) pe_int) pa_nil)))))))))))))  , ?_⟩
    -- the eight directions
    refine ⟨le2, fun p0 n0 => ⟨_, rfl, le2, fun p1 n1 => ⟨_, rfl, le2, fun p2 n2 => ⟨_, rfl, _, rfl, le2, fun p3 n3 => ⟨le2, fun p4 n4 => ⟨_, rfl, le2, fun p5 n5 => ⟨_, rfl, le2, fun p6 n6 => ⟨le2, fun p7 n7 => ⟨le8, fun l nl => ?_⟩⟩⟩⟩⟩⟩⟩⟩⟩
    have s0 := same_new (o := .tup [.int 1, .int 1]) n0
    have s1 := same_new (o := .tup [.int 1, .int (-1)]) n1
    have s2 := same_new (o := .tup [.int (-1), .int 1]) n2
    have s3 := same_new (o := .tup [.int (-1), .int (-1)]) n3
    have s4 := same_new (o := .tup [.int 1, .int 0]) n4
    have s5 := same_new (o := .tup [.int 0, .int (-1)]) n5
    have s6 := same_new (o := .tup [.int (-1), .int 0]) n6
    have s7 := same_new (o := .tup [.int 0, .int 1]) n7
    have s8 := same_new (o := .lst [.ref p0, .ref p1, .ref p2, .ref p3, .ref p4, .ref p5, .ref p6, .ref p7]) nl
    have sa := s0.trans (s1.trans (s2.trans (s3.trans (s4.trans (s5.trans (s6.trans (s7.trans s8)))))))
    have e0 := (s1.trans (s2.trans (s3.trans (s4.trans (s5.trans (s6.trans (s7.trans s8))))))) _ _ upd_same
    have e1 := (s2.trans (s3.trans (s4.trans (s5.trans (s6.trans (s7.trans s8)))))) _ _ upd_same
    have e2 := (s3.trans (s4.trans (s5.trans (s6.trans (s7.trans s8))))) _ _ upd_same
    have e3 := (s4.trans (s5.trans (s6.trans (s7.trans s8)))) _ _ upd_same
    have e4 := (s5.trans (s6.trans (s7.trans s8))) _ _ upd_same
    have e5 := (s6.trans (s7.trans s8)) _ _ upd_same
    have e6 := (s7.trans s8) _ _ upd_same
    have e7 := s8 _ _ upd_same
    obtain ⟨H9, hH9⟩ : ∃ H9 : Hp, upd (upd (upd (upd (upd (upd (upd (upd (upd H p0 (.tup [.int 1, .int 1])) p1 (.tup [.int 1, .int (-1)])) p2 (.tup [.int (-1), .int 1])) p3 (.tup [.int (-1), .int (-1)])) p4 (.tup [.int 1, .int 0])) p5 (.tup [.int 0, .int (-1)])) p6 (.tup [.int (-1), .int 0])) p7 (.tup [.int 0, .int 1])) l (.lst [.ref p0, .ref p1, .ref p2, .ref p3, .ref p4, .ref p5, .ref p6, .ref p7]) = H9 := ⟨_, rfl⟩
    have el : H9 l = some (.lst [.ref p0, .ref p1, .ref p2, .ref p3, .ref p4, .ref p5, .ref p6, .ref p7]) := by
      rw [← hH9]
      exact upd_same
    rw [hH9] at sa e0 e1 e2 e3 e4 e5 e6 e7
    have ha9 := sa.seq ha
    obtain ⟨k2, hk2⟩ := int_at (ns := ns) (i := 2) (by omega)
    obtain ⟨k3, hk3⟩ := int_at (ns := ns) (i := 3) (by omega)
    obtain ⟨k4, hk4⟩ := int_at (ns := ns) (i := 4) (by omega)
    obtain ⟨k5, hk5⟩ := int_at (ns := ns) (i := 5) (by omega)
    obtain ⟨pd, dx, dy, hpd, epd, dx1, dy1, d0⟩ : ∃ (pd : Addr) (dx dy : Int), atI [V.ref p0, V.ref p1, V.ref p2, V.ref p3, V.ref p4, V.ref p5, V.ref p6, V.ref p7] (k2 % 8) = some (V.ref pd) ∧ H9 pd = some (.tup [.int dx, .int dy]) ∧
        (dx = 1 ∨ dx = -1 ∨ dx = 0) ∧ (dy = 1 ∨ dy = -1 ∨ dy = 0) ∧ (dx ≠ 0 ∨ dy ≠ 0) := by
      have e : k2 % 8 = 0 ∨ k2 % 8 = 1 ∨ k2 % 8 = 2 ∨ k2 % 8 = 3 ∨ k2 % 8 = 4 ∨ k2 % 8 = 5 ∨ k2 % 8 = 6 ∨ k2 % 8 = 7 := by omega
      rcases e with e | e | e | e | e | e | e | e <;> rw [e]
      · exact ⟨p0, 1, 1, atI_nat (j := 0) rfl, e0, by decide, by decide, by decide⟩
      · exact ⟨p1, 1, -1, atI_nat (j := 1) rfl, e1, by decide, by decide, by decide⟩
      · exact ⟨p2, -1, 1, atI_nat (j := 2) rfl, e2, by decide, by decide, by decide⟩
      · exact ⟨p3, -1, -1, atI_nat (j := 3) rfl, e3, by decide, by decide, by decide⟩
      · exact ⟨p4, 1, 0, atI_nat (j := 4) rfl, e4, by decide, by decide, by decide⟩
      · exact ⟨p5, 0, -1, atI_nat (j := 5) rfl, e5, by decide, by decide, by decide⟩
      · exact ⟨p6, -1, 0, atI_nat (j := 6) rfl, e6, by decide, by decide, by decide⟩
      · exact ⟨p7, 0, 1, atI_nat (j := 7) rfl, e7, by decide, by decide, by decide⟩
    rw [hH9]
    -- the item, unpacked
    refine ⟨_, rfl, _, rfl, a, _, _, _, rfl, rfl, ha9, hk2, .inl ⟨_, rfl, _, _, rfl, rfl, (by show (0 : Int) < 8; decide), l, _, _, _, rfl, rfl, .of el, hpd, pd, _, rfl, .of epd, rfl, _, _, rfl, _, _, rfl, rfl, ?_⟩⟩
    -- x, y
    refine ⟨_, rfl, _, rfl, _, _, rfl, rfl, a, _, _, _, rfl, rfl, ha9, hk3, .inl ⟨_, rfl, _, rfl, _, _, rfl, rfl, _, _, rfl, rfl, (by show (0 : Int) < (w : Int) + 1; omega), ?_⟩⟩
    refine ⟨_, rfl, _, rfl, _, _, rfl, rfl, a, _, _, _, rfl, rfl, ha9, hk4, .inl ⟨_, rfl, _, rfl, _, _, rfl, rfl, _, _, rfl, rfl, (by show (0 : Int) < (h : Int) + 1; omega), ?_⟩⟩
    have x0 : 0 ≤ k3 % ((w : Int) + 1) := Int.emod_nonneg _ (by omega)
    have xw : k3 % ((w : Int) + 1) < (w : Int) + 1 := Int.emod_lt_of_pos _ (by omega)
    have y0 : 0 ≤ k4 % ((h : Int) + 1) := Int.emod_nonneg _ (by omega)
    have yh : k4 % ((h : Int) + 1) < (h : Int) + 1 := Int.emod_lt_of_pos _ (by omega)
    have m0 : 0 ≤ k5 / 4 % 9 := Int.emod_nonneg _ (by decide)
    have m9 : k5 / 4 % 9 < 9 := Int.emod_lt_of_pos _ (by decide)
    have fin : ∀ (H' : Hp) (x y : Int) (p : Addr), Same H9 H' → 0 ≤ x → x ≤ w → 0 ≤ y → y ≤ h → H' p = none → Q (.ref p) (upd H' p (.tup [.str "b", .int x, .int y, .int dx, .int dy, .int (k5 / 4 % 9)])) := fun H' x y p sm x0 x1 y0 y1 np => by
      refine q _ p x.toNat y.toNat dx dy (k5 / 4 % 9).toNat (sa.trans (sm.trans (same_new np))) ?_ (by omega) (by omega) dx1 dy1 d0 (by omega)
      rw [upd_same]
      unfold ballL
      rw [Int.toNat_of_nonneg x0, Int.toNat_of_nonneg y0, Int.toNat_of_nonneg m0]
    -- the edges left and right
    refine ⟨_, rfl, _, rfl, _, _, rfl, rfl, a, _, _, _, rfl, rfl, ha9, hk5, .inl ⟨_, rfl, _, _, rfl, rfl, (by show (0 : Int) < 4; decide), rfl, _, rfl, ?_⟩⟩
    refine ite2 (fun _ => ?_) (fun _ => ?_)
    · refine ⟨_, rfl, le2, fun l1 n1' => ?_⟩
      obtain ⟨z1, hz1, ez1⟩ := two_at 0 (w : Int) (i := k3 % 2) (by omega) (by omega)
      have sm1 := same_new (o := .lst [.int 0, .int (w : Int)]) n1'
      refine ⟨_, rfl, _, rfl, _, _, rfl, rfl, a, _, _, _, rfl, rfl, Same.seq sm1 ha9, hk3, .inl ⟨_, rfl, _, _, rfl, rfl, (by show (0 : Int) < 2; decide), l1, _, _, _, rfl, rfl, .of upd_same, ez1, ?_⟩⟩
      have hb1 := (Same.trans (Same.refl H9) sm1).seq ha9
      refine ⟨_, rfl, _, rfl, _, _, rfl, rfl, a, _, _, _, rfl, rfl, hb1, hk5, .inl ⟨_, rfl, _, _, rfl, rfl, (by show (0 : Int) < 4; decide), rfl, _, rfl, ?_⟩⟩
      refine ite2 (fun _ => ?_) (fun _ => ?_)
      · refine ⟨_, rfl, le2, fun l2 n2 => ?_⟩
        obtain ⟨z2, hz2, ez2⟩ := two_at 0 (h : Int) (i := k4 % 2) (by omega) (by omega)
        have sm2 := (Same.trans (Same.refl H9) sm1).trans (same_new (o := .lst [.int 0, .int (h : Int)]) n2)
        refine ⟨_, rfl, _, rfl, _, _, rfl, rfl, a, _, _, _, rfl, rfl, sm2.seq ha9, hk4, .inl ⟨_, rfl, _, _, rfl, rfl, (by show (0 : Int) < 2; decide), l2, _, _, _, rfl, rfl, .of upd_same, ez2, ?_⟩⟩
        refine ⟨_, rfl, _, rfl, _, rfl, _, rfl, _, rfl, _, rfl, _, rfl, _, _, rfl, rfl, a, _, _, _, rfl, rfl, sm2.seq ha9, hk5, _, _, rfl, rfl, ⟨by decide, by decide⟩, .inl ⟨_, rfl, _, _, rfl, rfl, (by show (0 : Int) < 9; decide), le6, fun p np => ?_⟩⟩
        exact fin _ _ _ p sm2 (by omega) (by omega) (by omega) (by omega) np
      · refine ⟨_, rfl, _, rfl, _, rfl, _, rfl, _, rfl, _, rfl, _, rfl, _, _, rfl, rfl, a, _, _, _, rfl, rfl, hb1, hk5, _, _, rfl, rfl, ⟨by decide, by decide⟩, .inl ⟨_, rfl, _, _, rfl, rfl, (by show (0 : Int) < 9; decide), le6, fun p np => ?_⟩⟩
        exact fin _ _ _ p (Same.trans (Same.refl H9) sm1) (by omega) (by omega) y0 (by omega) np
    · skip
      have hb1 := (Same.refl H9).seq ha9
      refine ⟨_, rfl, _, rfl, _, _, rfl, rfl, a, _, _, _, rfl, rfl, hb1, hk5, .inl ⟨_, rfl, _, _, rfl, rfl, (by show (0 : Int) < 4; decide), rfl, _, rfl, ?_⟩⟩
      refine ite2 (fun _ => ?_) (fun _ => ?_)
      · refine ⟨_, rfl, le2, fun l2 n2 => ?_⟩
        obtain ⟨z2, hz2, ez2⟩ := two_at 0 (h : Int) (i := k4 % 2) (by omega) (by omega)
        have sm2 := (Same.refl H9).trans (same_new (o := .lst [.int 0, .int (h : Int)]) n2)
        refine ⟨_, rfl, _, rfl, _, _, rfl, rfl, a, _, _, _, rfl, rfl, sm2.seq ha9, hk4, .inl ⟨_, rfl, _, _, rfl, rfl, (by show (0 : Int) < 2; decide), l2, _, _, _, rfl, rfl, .of upd_same, ez2, ?_⟩⟩
        refine ⟨_, rfl, _, rfl, _, rfl, _, rfl, _, rfl, _, rfl, _, rfl, _, _, rfl, rfl, a, _, _, _, rfl, rfl, sm2.seq ha9, hk5, _, _, rfl, rfl, ⟨by decide, by decide⟩, .inl ⟨_, rfl, _, _, rfl, rfl, (by show (0 : Int) < 9; decide), le6, fun p np => ?_⟩⟩
        exact fin _ _ _ p sm2 x0 (by omega) (by omega) (by omega) np
      · refine ⟨_, rfl, _, rfl, _, rfl, _, rfl, _, rfl, _, rfl, _, rfl, _, _, rfl, rfl, a, _, _, _, rfl, rfl, hb1, hk5, _, _, rfl, rfl, ⟨by decide, by decide⟩, .inl ⟨_, rfl, _, _, rfl, rfl, (by show (0 : Int) < 9; decide), le6, fun p np => ?_⟩⟩
        exact fin _ _ _ p (Same.refl H9) x0 (by omega) y0 (by omega) np
end
end Cw

namespace Cw
open PySem PyProof.Rows
/-! ### enumerate(t), t a tuple: its two new cells -/
abbrev oTi (a : Addr) : Obj := { cls := .type "tuple_iterator", data := .fields #[.ref a, .int 0 0] }
abbrev oEn (i : Addr) : Obj := { cls := .type "enumerate", data := .fields #[.none, .bool false, .ref i, rawInt 0, .none, .none] }
set_option maxHeartbeats 8000000 in
theorem meets_enT (a : Addr) (ys : Array Value) : Meets (Builtin.«enumerate.__new__» ⟨[.type "enumerate", .ref a], []⟩)
    (fun _ R s => s.heap.IsTuple a ys ∧ R (.ok (.ret (.ref (s.heap.push (oTi a)).objs.size))) { s with heap := (s.heap.push (oTi a)).push (oEn s.heap.objs.size) }) := .of_wp fun pr wo Ar R st hyp => by
  obtain ⟨hea, ge, dr, to, oss⟩ := st
  obtain ⟨hT, fin⟩ := hyp
  have sE := sub_enumerate
  have way : ∀ {Br : Around} {Er Qr : Value → Shared → Prop}, Qr (.ref hea.objs.size) ⟨hea.push (oTi a), ge, dr, to, oss⟩ → wpAny (model pr wo) Br (pyIter (.ref a)) Qr Er ⟨hea, ge, dr, to, oss⟩ := fun z => (begins_tuple a ys).iter pr wo _ _ ⟨hea, ge, dr, to, oss⟩ _ hT z
  wp_walk using way
  refine wpAny_stack_any fun stk => wpAny_pure ?_
  split
  · rename_i c _ _ _ _ _
    cases (c == Value.type "enumerate") <;> (wp_walk using way; exact ⟨_, rfl, fin⟩)
  · wp_walk using way
    exact ⟨_, rfl, fin⟩
theorem call_enT {pr : Program} {wo : World} {Ar : Around} {Er Qr : Value → Shared → Prop} {st : Shared} {a : Addr} {ys : Array Value} (hT : st.heap.IsTuple a ys)
    (fin : ∀ h', IsEnum h' (st.heap.objs.size + 1) st.heap.objs.size 0 .none → h'.IsTupleIter st.heap.objs.size a 0 → (∀ b o, st.heap.get? b = some o → h'.get? b = some o) → Qr (.ref (st.heap.objs.size + 1)) { st with heap := h' }) :
    wpAny (model pr wo) Ar (call (.type "enumerate") [.ref a]) Qr Er st := by
  refine callType_new F.called_enumerate (by decide) (F.typeCall_enumerate_1 _) (F.newCall_enumerate_1 _) (fun ob => F.args_object_init_2 ob _) F.entry_enumerate_new (meets_enT a ys) ⟨hT, ?_⟩
  have sz : (st.heap.push (oTi a)).objs.size = st.heap.objs.size + 1 := Heap.size_push ..
  have en : IsEnum ((st.heap.push (oTi a)).push (oEn st.heap.objs.size)) (st.heap.objs.size + 1) st.heap.objs.size 0 .none := by
    have z := Heap.get?_push_size (st.heap.push (oTi a)) (o := oEn st.heap.objs.size) rfl
    rw [sz] at z
    exact z
  show _ ∧ _
  rw [sz]
  exact ⟨⟨_, en, rfl⟩, fin _ en ⟨_, Heap.get?_push_of_some _ (Heap.get?_push_size _ rfl), rfl, rfl⟩ fun b o z => Heap.get?_push_of_some _ (Heap.get?_push_of_some _ z)⟩
end Cw

namespace Cw
open PySem L2 PyProof.Rows
/-- nothing to walk: the empty tuple at a -/
def It0 (K : PySem.W.Frag) (a : Addr) : It := ⟨fun _ _ => False, fun _ _ _ _ => False, fun _ H => SqT K H a []⟩
theorem turn_en0 {P : Program} {w : World} {K : PySem.W.Frag} {tg : Expr} (a e it : Addr) : Turn P w K tg (It0 K a) [e, it] e (fun _ h => (∃ old, IsEnum h e it 0 old) ∧ h.IsTupleIter it a 0) where
  mem := List.mem_cons_self ..
  obj := fun i h st b hb => by
    obtain ⟨⟨old, he⟩, ⟨o, ho, hc, hd⟩⟩ := st
    rcases List.mem_cons.mp hb with z | z
    · rw [z]
      exact ⟨_, he, fun v q => nomatch q⟩
    · rw [List.mem_singleton.mp z]
      exact ⟨o, ho, fun v q => by rw [hd] at q; cases q⟩
  keep := fun i h h' st k => by
    obtain ⟨⟨old, he⟩, hi⟩ := st
    exact ⟨⟨old, k e (List.mem_cons_self ..) _ he⟩, hi.at fun o q => k it (List.mem_cons_of_mem _ (List.mem_cons_self ..)) o q⟩
  item := by
    intro X hP hw hK hc i pins s σ H E I hf st hg
    exact False.elim hg
  done := by
    intro X hP hw hK hc i pins s σ H E I hf st hg
    subst hP hw hK
    obtain ⟨⟨old, he⟩, hit⟩ := st
    obtain ⟨its, rv, p, hz⟩ := I.tuple hg
    obtain rfl : its = [] := by
      have := rv.length
      exact List.eq_nil_of_length_eq_zero this.symm
    obtain ⟨f0, f1, f2, f3, f4, f5⟩ := hf it (List.mem_cons_of_mem _ (List.mem_cons_self ..))
    have hT : s.heap.IsTuple a #[] := p
    have ne : a ≠ it := fun z => by
      obtain ⟨o1, e1, c1, _⟩ := hT
      obtain ⟨o2, e2, c2, _⟩ := hit
      rw [z, e2] at e1
      cases e1
      rw [c1] at c2
      injection c2 with z2
      exact absurd z2 (by decide)
    exact wpAny_pyNext_enum_endD (Draws.tuple (A := X.A.in1) (show X.A.in1.handled = none from I.ok.hd hc) it a ne #[]) he ⟨hit, hT⟩ fun h' eb => ⟨rfl, I.turned (t' := s.toks) (fun b o hb z => eb b o hb z) f0 f1 f3 f4 f5⟩
  self := fun A i s Q E st h => by
    obtain ⟨⟨old, he⟩, _⟩ := st
    exact wpAny_pyIter_enum he h
def iEn0 (K : PySem.W.Frag) (ta : TA) : TI := fun σ H R => ta σ H fun vs H1 => ∃ a, vs = [.ref a] ∧ SqT K H1 a [] ∧ R (It0 K a) H1
theorem pi_en0 {X : Cx} {tg e : Expr} {ta : TA} {p pos : Pos} (hg : Gl X "enumerate") (hm : X.mg "enumerate" = none) (ha : PA X [e] ta) (hs : starEach [e] X.env = [(false, eval e X.env)] := by rfl) :
    PI X tg (.Call (.Name "enumerate" p) [e] [] pos) (iEn0 X.K ta) := by
  refine ⟨fun pins s σ H R I h => Call_ (ld_blt I hg hm boot_enumerate (callWith_type1 (thn (ha.run pos pins s σ H _ I h) fun us s1 ⟨vs, H1, I1, r1, q1⟩ => ?_) hs rfl))⟩
  obtain ⟨a, ex, hq, q⟩ := q1
  subst ex
  cases r1 with
  | cons r rr =>
    cases rr
    cases r
    obtain ⟨its, rv, p', hz⟩ := I1.tuple hq
    refine call_enT (show s1.heap.IsTuple a its.toArray from p') fun h' he hit hk => wpAny_pyIter_enum he ?_
    refine ⟨s1.heap.objs.size + 1, [s1.heap.objs.size + 1, s1.heap.objs.size], _, _, H1, rfl, I1.kept (t' := s1.toks) hk, turn_en0 a _ s1.heap.objs.size, ⟨⟨.none, he⟩, hit⟩, fun b hb => ?_, q⟩
    have hle : s1.heap.objs.size ≤ b := by
      rcases List.mem_cons.mp hb with z | z
      · rw [z]
        exact Nat.le_succ _
      · rw [List.mem_singleton.mp z]
        exact Nat.le_refl _
    exact I1.fpOk hle (I1.hok.fresh hle)
end Cw

namespace Cw
open PySem L2
section
variable {P : Program} {w : World} {K : PySem.W.Frag} {mg : Str → Option Value} {base : Heap}
/-! ### Table(width, height): without pockets -/
def spInit (K : PySem.W.Frag) (C : Addr) : Sp := fun vs H Q _ => ∃ (p dx e : Addr) (w h : Nat), vs = [.ref p, .int w, .int h, .ref e] ∧ H p = some (.ins C dx []) ∧ SqT K H e [] ∧ 1 ≤ w ∧ w ≤ 9 ∧ 1 ≤ h ∧ h ≤ 9 ∧
  ∀ H', (∀ b o, H b = some o → b ≠ p → H' b = some o) → TabAt C H' p w h → Q .non H'
abbrev nInit : List Str := ["self", "width", "height", "pockets", "point", "number"]
theorem scInit : FnScope nInit ["self", "width", "height", "pockets"] (defScope sInit) := ⟨rfl, rfl, rfl, by decide +kernel, rfl, by decide +kernel, by decide +kernel⟩
theorem put_h (w h : Nat) : putF ("height" : Str) (.int h) (putF ("width" : Str) (.int w) []) = ([("width", V.int w), ("height", V.int h)] : List (Str × V)) := by
  show (if ("width" : Str) = "height" then _ else (("width" : Str), V.int w) :: [(("height" : Str), V.int h)]) = _
  rw [if_neg (by decide +kernel)]
theorem put_p (w h : Nat) (q : Addr) : putF ("pockets" : Str) (.ref q) ([("width", V.int w), ("height", V.int h)] : List (Str × V)) = tflds w h q := by
  show (if ("width" : Str) = "pockets" then _ else (("width" : Str), V.int w) :: (if ("height" : Str) = "pockets" then _ else (("height" : Str), V.int h) :: [(("pockets" : Str), V.ref q)])) = _
  rw [if_neg (by decide +kernel), if_neg (by decide +kernel)]
  rfl
theorem tf_pockets (w h : Nat) (q : Addr) : (tflds w h q).lookup ("pockets" : Str) = some (.ref q) := by
  rw [← put_p, lookup_putF, if_pos rfl]
theorem ok_init {f g C eT : Addr} {fd gd : FuncData} (F : FunD K "__init__" "Table.__init__" (defArgs sInit) (defBody sInit) (defScope sInit) [.ref eT] [] f fd) (T : Txt K mg C)
    (G : FnOk P w K mg base CX0 1 g gd ["holds"] spRequire) (bG : Binds K gd ["holds"] []) (mG : mg "require" = some (.ref g)) (kG : PySem.W.keepIn K (.ref g) = true) :
    FnOk P w K mg base CX0 2 f fd ["self", "width", "height", "pockets"] (spInit K C) := by
  have nd := scInit.nd
  obtain ⟨t1, hM⟩ := T.most
  obtain ⟨t2, hP⟩ := T.pock
  refine F.ok scInit (fun vs H Q E h => ?_) (fun cdv A outer s H vs Q E hr h => ?_)
  · obtain ⟨p, dx, e, w, h, rfl, _⟩ := h
    rfl
  · obtain ⟨p, dx, e, w, h, rfl, hp, he, w1, w9, h1, h9, q⟩ := h
    refine ⟨_, PSs.nox (pss_cons (ps_expr (pe_call G hr (by rfl) mG kG bG .nil pass0 (pa_cons (pe_and (pe_chain op_le op_le pe_int (pv 1) (pe_glob (v := .int (10 ^ 30)) (by rfl) hM ⟨_, rfl⟩))
        (pe_one (pe_chain op_le op_le pe_int (pv 2) (pe_glob (v := .int (10 ^ 30)) (by rfl) hM ⟨_, rfl⟩)))) pa_nil)))
      (pss_cons (ps_fld (pv 0) (pv 1) rfl)
      (pss_cons (ps_fld (pv 0) (pv 2) rfl)
      (pss_cons (ps_expr (pe_call G hr (by rfl) mG kG bG .nil pass0 (pa_cons (pe_and (pe_cmpR op_le (pe_callB call_len_seq (by rfl) T.len PySem.boot_len (pa_cons (pv 3) pa_nil)) (pe_glob (v := .int 12) (by rfl) hP ⟨_, rfl⟩) (nomark _))
        (pe_one (pe_callB (cr_all rfl) (by rfl) T.all (by decide +kernel) (pa_cons (pe_lc (own := [("point", 4)]) (g := gName 4) (tt := tYes) (te := tNo) rfl nd (pi_tup (pv 3)) (blkOk_by (N := nInit) (sc := defScope sInit) (by decide +kernel))
          (fun _ _ _ _ _ => pg_name (i := 4) nd rfl (Or.inl rfl)) (fun _ _ _ _ _ => pts_nil) (fun _ _ _ _ _ => pe_no)) pa_nil)))) pa_nil)))
      (pss_cons (ps_fld (pv 0) (pe_callTy call_tuple_of (by rfl) T.tuple (by decide +kernel) (pa_cons (pe_lc (own := [("point", 4)]) (g := gName 4) (tt := tYes) (te := tNo) rfl nd (pi_tup (pv 3)) (blkOk_by (N := nInit) (sc := defScope sInit) (by decide +kernel))
          (fun _ _ _ _ _ => pg_name (i := 4) nd rfl (Or.inl rfl)) (fun _ _ _ _ _ => pts_nil) (fun _ _ _ _ _ => pe_no)) pa_nil)) rfl)
      (pss_one (ps_for PassesOwn.never rfl (pi_en0 (by rfl) T.enum (pa_cons (pe_fld (pv 0) rfl) pa_nil)) (pg_tup (by rfl) (pgs_cons (pg_name (i := 5) nd rfl (.inl rfl)) (pgs_cons (pg_name (i := 4) nd rfl (.inl rfl)) pgs_nil))) pss_never))))))), ?_⟩
    -- require(1 <= width <= MOST and ..)
    refine ⟨_, rfl, _, _, rfl, rfl, _, rfl, iteD (by omega) ⟨_, _, rfl, rfl, _, rfl, iteD (by omega) ⟨_, rfl, _, _, rfl, rfl, _, rfl, iteD (by omega) ⟨_, _, rfl, rfl, ?_, ?_⟩⟩⟩⟩
    · exact congrArg (fun z => [V.bl z]) (decide_eq_true (show (h : Int) ≤ 10 ^ 30 by omega))
    -- self.width, self.height
    refine ⟨_, rfl, _, rfl, p, C, dx, _, rfl, hp, T.cl, T.nW, (by show 0 < 1000; decide), ?_⟩
    refine ⟨_, rfl, _, rfl, p, C, dx, _, rfl, upd_same, T.cl, T.nH, (by show 1 < 1000; decide), ?_⟩
    rw [upd_upd, put_h]
    obtain ⟨H1, hH1⟩ : ∃ H1, upd H p (.ins C dx [("width", .int w), ("height", .int h)]) = H1 := ⟨_, rfl⟩
    rw [hH1]
    have k1 : ∀ b o, H b = some o → b ≠ p → H1 b = some o := fun b o z n => by
      rw [← hH1]
      exact (upd_ne n).trans z
    have ep1 : H1 p = some (.ins C dx [("width", .int w), ("height", .int h)]) := by
      rw [← hH1]
      exact upd_same
    have he1 : SqT K H1 e [] := by
      rcases he with (z | ⟨o, z⟩) | z
      · exact .inl (.inl (k1 _ _ z (ne_of z hp (by intro y; cases y))))
      · exact .inl (.inr ⟨o, k1 _ _ z (ne_of z hp (by intro y; cases y))⟩)
      · exact .inr z
    -- require(len(pockets) <= MOST_POCKETS and all([..]))
    refine ⟨_, rfl, e, _, rfl, .inr he1, _, _, rfl, rfl, true, rfl, iteT ?_⟩
    refine ⟨_, rfl, e, rfl, ⟨_, he1⟩, fun D hD => ?_⟩
    refine lc_tup (K := K) (a := e) (xs := []) (fun _ H' => H' = upd H1 D (.lst [])) rfl (fun _ H' _ z => by rw [z]; exact same_tup (same_new hD) he1) (fun i x H' hx _ => by cases hx) fun H' z => ?_
    subst z
    have s1 : Same H1 (upd H1 D (.lst [])) := same_new hD
    refine ⟨D, [], rfl, .of upd_same, rfl, ?_⟩
    -- self.pockets = tuple([..])
    refine ⟨_, rfl, e, rfl, ⟨_, same_tup s1 he1⟩, fun D2 hD2 => ?_⟩
    refine lc_tup (K := K) (a := e) (xs := []) (fun _ H' => H' = upd (upd H1 D (.lst [])) D2 (.lst [])) rfl (fun _ H' _ z => by rw [z]; exact same_tup (same_new hD2) (same_tup s1 he1)) (fun i x H' hx _ => by cases hx) fun H' z => ?_
    subst z
    have s2 : Same (upd H1 D (.lst [])) (upd (upd H1 D (.lst [])) D2 (.lst [])) := same_new hD2
    refine ⟨D2, [], rfl, .inl ⟨.of upd_same, fun q0 nq => ?_⟩⟩
    have s3 : Same H1 (upd (upd (upd H1 D (.lst [])) D2 (.lst [])) q0 (.tup [])) := s1.trans (s2.trans (same_new nq))
    have eq0 : upd (upd (upd H1 D (.lst [])) D2 (.lst [])) q0 (.tup []) q0 = some (.tup []) := upd_same
    obtain ⟨H3, hH3⟩ : ∃ H3, upd (upd (upd H1 D (.lst [])) D2 (.lst [])) q0 (.tup []) = H3 := ⟨_, rfl⟩
    rw [hH3] at s3 eq0 ⊢
    have ep3 := s3 _ _ ep1
    have nqp : q0 ≠ p := ne_of eq0 ep3 (by intro y; cases y)
    refine ⟨_, rfl, p, C, dx, _, rfl, ep3, T.cl, T.nP, (by show 2 < 1000; decide), ?_⟩
    rw [put_p]
    -- for number, point in enumerate(self.pockets)
    have eq4 : upd H3 p (.ins C dx (tflds w h q0)) q0 = some (.tup []) := (upd_ne nqp).trans eq0
    refine ⟨_, rfl, p, C, dx, _, _, rfl, upd_same, T.cl, T.nP, tf_pockets w h q0, q0, rfl, .of eq4, fun _ _ _ H' => H' = upd H3 p (.ins C dx (tflds w h q0)), ⟨0, rfl⟩, fun i m σ H' z => ?_⟩
    subst z
    refine .inl ⟨.of eq4, ?_⟩
    refine q _ (fun b o z n => ?_) ⟨dx, q0, upd_same⟩
    exact (upd_ne n).trans (s3 _ _ (k1 _ _ z n))
end
end Cw

namespace Cw
open PySem L2
theorem per_pos {w h x y : Nat} {dx dy : Int} {m : Nat} (g : Good w h x y dx dy m) : 0 < per w h dx dy ∧ per w h dx dy < 1000 := by
  have h1 := g.w1
  have h2 := g.w9
  have h3 := g.h1
  have h4 := g.h9
  unfold per
  split
  · omega
  · split
    · omega
    · have gd : Int.gcd (2 * (w : Int)) (2 * (h : Int)) ∣ (2 * (w : Int)).natAbs := Nat.gcd_dvd_left _ _
      have gpos : 0 < Int.gcd (2 * (w : Int)) (2 * (h : Int)) := Nat.pos_of_dvd_of_pos gd (by omega)
      have gi : (Int.gcd (2 * (w : Int)) (2 * (h : Int)) : Int) ∣ 2 * w := Int.gcd_dvd_left ..
      have e := Int.ediv_mul_cancel gi
      obtain ⟨z, hz⟩ : ∃ z, 2 * (w : Int) / (Int.gcd (2 * (w : Int)) (2 * (h : Int)) : Int) = z := ⟨_, rfl⟩
      have zle : z ≤ 2 * w := by
        rw [← hz]
        exact Int.ediv_le_self _ (by omega)
      rw [hz] at e
      have z0 : 0 < z := by
        by_cases q : 0 < z
        · exact q
        · have : z * (Int.gcd (2 * (w : Int)) (2 * (h : Int)) : Int) ≤ 0 := Int.mul_nonpos_of_nonpos_of_nonneg (by omega) (by omega)
          omega
      rw [hz]
      refine ⟨Int.mul_pos z0 (by omega), ?_⟩
      have : z * (2 * (h : Int)) ≤ 18 * 18 := Int.mul_le_mul (by omega) (by omega) (by omega) (by omega)
      omega
section
variable {P : Program} {w : World} {K : PySem.W.Frag} {mg : Str → Option Value} {base : Heap}
def spLaw (K : PySem.W.Frag) : Sp := fun vs H Q _ => ∃ (a : Addr) (ns : List Int), vs = [.ref a] ∧ SqL K H a (ns.map V.int) ∧ ns.length ≤ 63 ∧ ∀ H', Q (.bl true) H'
abbrev nLaw : List Str := ["_law_script", "_law_numbers_here", "_law_width", "_law_height", "_law_table", "_law_ball_here", "_law_other", "_law_passed", "_law_visits", "_law_again", "_law_x", "_law_y", "_law_there", "_law_first", "_law_modulus"]
theorem scLaw : FnScope nLaw ["_law_script"] (defScope sLaw) := ⟨rfl, rfl, rfl, by decide +kernel, rfl, by decide +kernel, by decide +kernel⟩
theorem ok_law {f gN gS gI gB gK gP gW gM gO gG gC C eT : Addr} {fd dN dS dI dB dK dP dW dM dO dG dC : FuncData} {ds : List Value} (F : Fun K "law" "law" sLaw f fd) (T : Txt K mg C) (MK : Mk K C gI)
    (GN : FnOk P w K mg base CX0 2 gN dN ["_law_script", "_law_many"] (spNumbers K)) (bN : Binds K dN ["_law_script", "_law_many"] []) (mN : mg "_law_numbers" = some (.ref gN)) (kN : PySem.W.keepIn K (.ref gN) = true)
    (GS : FnOk P w K mg base CX0 1 gS dS ["_law_number"] spSize) (bS : Binds K dS ["_law_number"] []) (mS : mg "_law_size" = some (.ref gS)) (kS : PySem.W.keepIn K (.ref gS) = true)
    (GI : FnOk P w K mg base CX0 2 gI dI ["self", "width", "height", "pockets"] (spInit K C)) (bI : Binds K dI ["self", "width", "height", "pockets"] ds) (vI : Vals [.ref eT] ds) (qI : ∀ H : Hp, SqT K H eT [])
    (GB : FnOk P w K mg base CX0 1 gB dB ["_law_numbers_here", "_law_at", "_law_width", "_law_height", "_law_name"] (spBall K)) (bB : Binds K dB ["_law_numbers_here", "_law_at", "_law_width", "_law_height", "_law_name"] []) (mB : mg "_law_ball" = some (.ref gB)) (kB : PySem.W.keepIn K (.ref gB) = true)
    (GK : FnOk P w K mg base CX0 4 gK dK ["table", "ball"] (spBack C)) (bK : Binds K dK ["table", "ball"] []) (mK : mg "back" = some (.ref gK)) (kK : PySem.W.keepIn K (.ref gK) = true)
    (GP : FnOk P w K mg base CX0 4 gP dP ["table", "ball"] (spPeriod C)) (bP : Binds K dP ["table", "ball"] []) (mP : mg "period" = some (.ref gP)) (kP : PySem.W.keepIn K (.ref gP) = true)
    (GW : FnOk P w K mg base CX0 5 gW dW ["table", "ball", "point"] (spPassed K C)) (bW : Binds K dW ["table", "ball", "point"] []) (mW : mg "is_passed" = some (.ref gW)) (kW : PySem.W.keepIn K (.ref gW) = true)
    (GM : FnOk P w K mg base CX0 4 gM dM ["table", "ball", "point"] (spMinutes K C)) (bM : Binds K dM ["table", "ball", "point"] []) (mM : mg "point_minutes" = some (.ref gM)) (kM : PySem.W.keepIn K (.ref gM) = true)
    (GO : FnOk P w K mg base CX0 5 gO dO ["table", "ball"] (spCount C)) (bO : Binds K dO ["table", "ball"] []) (mO : mg "point_count" = some (.ref gO)) (kO : PySem.W.keepIn K (.ref gO) = true)
    (GG : FnOk P w K mg base CX0 5 gG dG ["table", "ball"] (spGoes C)) (bG : Binds K dG ["table", "ball"] []) (mG : mg "goes_back" = some (.ref gG)) (kG : PySem.W.keepIn K (.ref gG) = true)
    (GC : FnOk P w K mg base CX0 4 gC dC ["table", "ball"] (spCorner C)) (bC : Binds K dC ["table", "ball"] []) (mC : mg "corner_minutes" = some (.ref gC)) (kC : PySem.W.keepIn K (.ref gC) = true) :
    FnOk P w K mg base CX0 6 f fd ["_law_script"] (spLaw K) := by
  have nd := scLaw.nd
  refine F.ok scLaw (fun vs H Q E h => ?_) (fun cdv A outer s H vs Q E hr h => ?_)
  · obtain ⟨a, ns, rfl, _⟩ := h
    rfl
  · obtain ⟨a, ns, rfl, ha, hn, q⟩ := h
    have hr4 : Room 4 _ := hr.mono (by decide)
    have hr3 : Room 3 _ := hr.mono (by decide)
    have hr2 : Room 2 _ := hr.mono (by decide)
    have hr1 : Room 1 _ := hr.mono (by decide)
    refine ⟨_, pss_cons (ps_set (i := 1) nd rfl (.inl rfl) (pe_call GN hr2 (by rfl) mN kN bN .nil pass0 (pa_cons (pv 0) (pa_cons pe_int pa_nil))))
      (pss_cons (ps_set (i := 2) nd rfl (.inl rfl) (pe_call GS hr1 (by rfl) mS kS bS .nil pass0 (pa_cons (pe_ix ix_list (pv 1) pe_int (fun _ _ => rfl)) pa_nil)))
      (pss_cons (ps_set (i := 3) nd rfl (.inl rfl) (pe_call GS hr1 (by rfl) mS kS bS .nil pass0 (pa_cons (pe_ix ix_list (pv 1) pe_int (fun _ _ => rfl)) pa_nil)))
      (pss_cons (ps_set (i := 4) nd rfl (.inl rfl) (pe_make MK GI hr3 (by rfl) T.mgC bI vI pass0 (pa_cons (pv 2) (pa_cons (pv 3) pa_nil))))
      (pss_cons (ps_set (i := 5) nd rfl (.inl rfl) (pe_call GB hr1 (by rfl) mB kB bB .nil pass0 (pa_cons (pv 1) (pa_cons pe_int (pa_cons (pv 2) (pa_cons (pv 3) (pa_cons pe_str pa_nil)))))))
      (pss_cons (ps_set (i := 6) nd rfl (.inl rfl) (pe_call GK hr4 (by rfl) mK kK bK .nil pass0 (pa_cons (pv 4) (pa_cons (pv 5) pa_nil))))
      (pss_cons (ps_set (i := 7) nd rfl (.inl rfl) pe_int)
      (pss_cons (ps_set (i := 8) nd rfl (.inl rfl) pe_int)
      (pss_cons (ps_set (i := 9) nd rfl (.inl rfl) (pe_call GP hr4 (by rfl) mP kP bP .nil pass0 (pa_cons (pv 4) (pa_cons (pv 5) pa_nil))))
(pss_cons (ps_for PassesOwn.never rfl (pi_range1 (by rfl) T.range (pa_cons (pe_op op_add (pv 2) pe_int) pa_nil)) (pg_name (i := 10) nd rfl (.inl rfl)) (pss_one (ps_for PassesOwn.never rfl (pi_range1 (by rfl) T.range (pa_cons (pe_op op_add (pv 3) pe_int) pa_nil)) (pg_name (i := 11) nd rfl (.inl rfl)) (pss_cons (ps_set (i := 12) nd rfl (.inl rfl) (pe_call GW hr (by rfl) mW kW bW .nil pass0 (pa_cons (pv 4) (pa_cons (pv 5) (pa_cons (pe_tup (pa_cons (pv 10) (pa_cons (pv 11) pa_nil))) pa_nil))))) (pss_cons (ps_if (pt_cmpR op_ne (pe_call GW hr (by rfl) mW kW bW .nil pass0 (pa_cons (pv 4) (pa_cons (pv 6) (pa_cons (pe_tup (pa_cons (pv 10) (pa_cons (pv 11) pa_nil))) pa_nil)))) (pv 12) (nomark _)) (pss_one (ps_ret pe_bl)) pss_nil) (pss_cons (ps_set (i := 7) nd rfl (.inl rfl) (pe_op op_add (pv 7) (pe_callTy call_int1 (by rfl) T.int (by decide +kernel) (pa_cons (pv 12) pa_nil)))) (pss_one (ps_for PassesOwn.never rfl (pi_list (pe_call GM hr4 (by rfl) mM kM bM .nil pass0 (pa_cons (pv 4) (pa_cons (pv 5) (pa_cons (pe_tup (pa_cons (pv 10) (pa_cons (pv 11) pa_nil))) pa_nil))))) (pg_tup (by rfl) (pgs_cons (pg_name (i := 13) nd rfl (.inl rfl)) (pgs_cons (pg_name (i := 14) nd rfl (.inl rfl)) pgs_nil))) (pss_one (ps_set (i := 8) nd rfl (.inl rfl) (pe_op op_add (pv 8) (pe_op op_fdiv (pv 9) (pv 14))))))))))))) (pss_cons (ps_if (PW.pt (pw_or (pt_cmpR op_ne (pv 7) (pe_call GO hr (by rfl) mO kO bO .nil pass0 (pa_cons (pv 4) (pa_cons (pv 5) pa_nil))) (nomark _)) (pw_or (pt_cmpR op_ne (pe_call GO hr (by rfl) mO kO bO .nil pass0 (pa_cons (pv 4) (pa_cons (pv 6) pa_nil))) (pv 7) (nomark _)) (pw_or1 (pt_cmpR op_ne (pv 8) (pv 9) (nomark _)))))) (pss_one (ps_ret pe_bl)) pss_nil) (pss_cons (ps_if (PW.pt (pw_and (pt_cmpR op_ne (pe_ix ix_tup (pv 5) pe_int (fun _ _ => rfl)) pe_int (nomark _)) (pw_and1 (pt_cmpR op_ne (pe_ix ix_tup (pv 5) pe_int (fun _ _ => rfl)) pe_int (nomark _))))) (pss_one (ps_ret (pe_cmpR op_eq (pe_call GG hr (by rfl) mG kG bG .nil pass0 (pa_cons (pv 4) (pa_cons (pv 5) pa_nil))) (pe_cmpR op_notN (pe_call GC hr4 (by rfl) mC kC bC .nil pass0 (pa_cons (pv 4) (pa_cons (pv 5) pa_nil))) pe_non (nomark _)) (nomark _)))) pss_nil) (pss_one (ps_ret (pe_cmpR op_isBl (pe_call GG hr (by rfl) mG kG bG .nil pass0 (pa_cons (pv 4) (pa_cons (pv 5) pa_nil))) pe_bl (nomark _))))))))))))))), ?_⟩
    -- numbers, width, height
    refine ⟨_, rfl, a, ns, rfl, ha, hn, fun H1 l ms s1 el lm => ?_⟩
    have hl1 : SqL K H1 l (ms.map V.int) := .of el
    obtain ⟨z0, hz0⟩ := int_at (ns := ms) (i := 0) (by omega)
    obtain ⟨z1, hz1⟩ := int_at (ns := ms) (i := 1) (by omega)
    refine ⟨_, rfl, l, _, _, _, rfl, rfl, hl1, hz0, z0, rfl, fun H2 w s2 w1 w9 => ?_⟩
    have hl2 := s2.seq hl1
    refine ⟨_, rfl, l, _, _, _, rfl, rfl, hl2, hz1, z1, rfl, fun H3 h s3 h1 h9 => ?_⟩
    have hl3 := s3.seq hl2
    -- Table(width, height)
    refine ⟨_, rfl, _, rfl, fun t tx nt ntx ntt => ?_⟩
    refine ⟨t, tx, eT, w, h, rfl, upd_same, qI _, w1, w9, h1, h9, fun H4 k4 tab => ⟨rfl, ?_⟩⟩
    have s4 : Same H3 H4 := Same.made nt ntx k4
    have hl4 := s4.seq hl3
    -- the ball, the other one
    refine ⟨_, rfl, _, rfl, _, rfl, l, ms, w, h, rfl, hl4, lm, fun H5 b x y dx dy m s5 eb xw yh dx1 dy1 d0 m9 => ?_⟩
    have g : Good w h x y dx dy m := ⟨w1, w9, h1, h9, xw, yh, dx1, dy1, d0, m9⟩
    have S5 : Sit C H5 t b w h x y dx dy m := ⟨tab.same s5, eb, g⟩
    refine ⟨_, rfl, _, rfl, t, b, w, h, x, y, dx, dy, m, rfl, S5, fun H6 b' s6 eb' => ?_⟩
    have S6 := S5.same s6
    have O6 : Sit C H6 t b' w h x y (-dx) (-dy) m := ⟨S6.tab, eb', g.back⟩
    -- the period
    refine ⟨_, rfl, _, rfl, t, b, w, h, x, y, dx, dy, m, rfl, S6, fun H7 s7 => ?_⟩
    have S7 := S6.same s7
    have O7 := O6.same s7
    have F := facts w1 w9 h1 h9 xw yh dx1 dy1 d0
    obtain ⟨f, hf⟩ : ∃ f : Nat → Nat → Nat, (fun i j : Nat => hit w h x y dx dy i j) = f := ⟨_, rfl⟩
    have fij : ∀ i j : Nat, hit w h x y dx dy i j = f i j := fun i j => by rw [← hf]
    obtain ⟨pp, pl⟩ := per_pos g
    -- the two loops
    have tw : ((w : Int) + 1).toNat = w + 1 := by omega
    have th : ((h : Int) + 1).toNat = h + 1 := by omega
    refine ⟨_, rfl, _, _, rfl, rfl, (w : Int) + 1, rfl, by omega, by omega, for_range (lo := 0) (n := ((w : Int) + 1).toNat) (fun i σ H' => ∃ z10 z11 z12 z13 z14 : Option V,
      σ = [some (.ref a), some (.ref l), some (.int w), some (.int h), some (.ref t), some (.ref b), some (.ref b'),
        some (.int ((sumTo i fun r => sumTo (h + 1) fun c => if 0 < f r c then 1 else 0 : Nat) : Int)), some (.int ((sumTo i fun r => sumTo (h + 1) fun c => f r c : Nat) : Int)), some (.int (per w h dx dy)), z10, z11, z12, z13, z14] ∧ Same H7 H') ?_ ?_ ?_⟩
    · exact ⟨_, _, _, _, _, rfl, Same.refl _⟩
    · rintro i σ H8 hi ⟨z10, z11, z12, z13, z14, rfl, s8⟩
      rw [show (0 : Int) + (i : Int) = (i : Int) from Int.zero_add _]
      have iw : i ≤ w := by omega
      refine ⟨_, rfl, _, _, rfl, rfl, (h : Int) + 1, rfl, by omega, by omega, for_range (lo := 0) (n := ((h : Int) + 1).toNat) (fun j σ H' => ∃ z11 z12 z13 z14 : Option V,
        σ = [some (.ref a), some (.ref l), some (.int w), some (.int h), some (.ref t), some (.ref b), some (.ref b'),
          some (.int (((sumTo i fun r => sumTo (h + 1) fun c => if 0 < f r c then 1 else 0) + sumTo j fun c => if 0 < f i c then 1 else 0 : Nat) : Int)),
          some (.int (((sumTo i fun r => sumTo (h + 1) fun c => f r c) + sumTo j fun c => f i c : Nat) : Int)), some (.int (per w h dx dy)), some (.int i), z11, z12, z13, z14] ∧ Same H7 H') ?_ ?_ ?_⟩
      · exact ⟨_, _, _, _, rfl, s8⟩
      · rintro j σ H9 hj ⟨z11, z12, z13, z14, rfl, s9⟩
        rw [show (0 : Int) + (j : Int) = (j : Int) from Int.zero_add _]
        have jh : j ≤ h := by omega
        have S9 := S7.same s9
        have O9 := O7.same s9
        -- there = is_passed(table, ball, (x, y))
        refine ⟨_, rfl, _, rfl, _, rfl, _, rfl, le2, fun p1 n1 => ?_⟩
        have s10 := same_new (o := .tup [.int i, .int j]) n1
        refine ⟨t, b, p1, w, h, x, y, dx, dy, m, i, j, rfl, S9.same s10, .of upd_same, iw, jh, fun H11 s11 => ?_⟩
        -- is_passed(table, other, (x, y)) != there
        refine ⟨_, rfl, _, rfl, _, rfl, _, rfl, le2, fun p2 n2 => ?_⟩
        have s12 := same_new (o := .tup [.int i, .int j]) n2
        refine ⟨t, b', p2, w, h, x, y, -dx, -dy, m, i, j, rfl, O9.same (s10.trans (s11.trans s12)), .of upd_same, iw, jh, fun H13 s13 => ?_⟩
        refine ⟨_, rfl, rfl, _, rfl, ?_⟩
        have oth : decide (0 < hit w h x y (-dx) (-dy) i j) = decide (0 < hit w h x y dx dy i j) := decide_eq_decide.mpr (F.other i j iw jh)
        rw [oth]
        refine iteNS rfl ?_
        rw [fij]
        -- passed
        refine ⟨_, rfl, _, rfl, .inr ⟨_, rfl, _, _, rfl, rfl, ?_⟩⟩
        have s14 : Same H9 H13 := s10.trans (s11.trans (s12.trans s13))
        -- the visits
        refine ⟨_, rfl, _, rfl, _, rfl, _, rfl, le2, fun p3 n3 => ?_⟩
        have s15 := same_new (o := .tup [.int i, .int j]) n3
        refine ⟨t, b, p3, w, h, x, y, dx, dy, m, i, j, rfl, S9.same (s14.trans s15), .of upd_same, iw, jh, fun H16 v xs s16 ev ln pr => ?_⟩
        rw [fij] at ln
        obtain ⟨P0, hP0⟩ : ∃ P0 : Nat, ((sumTo i fun r => sumTo (h + 1) fun c => if 0 < f r c then 1 else 0) + sumTo j fun c => if 0 < f i c then 1 else 0) = P0 := ⟨_, rfl⟩
        obtain ⟨V0, hV0⟩ : ∃ V0 : Nat, ((sumTo i fun r => sumTo (h + 1) fun c => f r c) + sumTo j fun c => f i c) = V0 := ⟨_, rfl⟩
        have nP : ((sumTo i fun r => sumTo (h + 1) fun c => if 0 < f r c then 1 else 0) + sumTo (j + 1) fun c => if 0 < f i c then 1 else 0) = P0 + if 0 < f i j then 1 else 0 := by
          rw [← hP0, Nat.add_assoc]
          rfl
        have nV : ((sumTo i fun r => sumTo (h + 1) fun c => f r c) + sumTo (j + 1) fun c => f i c) = V0 + f i j := by
          rw [← hV0, Nat.add_assoc]
          rfl
        rw [hP0, hV0]
        rw [nP, nV]
        refine ⟨v, rfl, ⟨_, .of ev⟩, for_list (K := K) (a := v) (xs := xs) (fun k σ H' => ∃ z13 z14 : Option V,
          σ = [some (.ref a), some (.ref l), some (.int w), some (.int h), some (.ref t), some (.ref b), some (.ref b'),
            some (.int ((P0 : Int) + if decide (0 < f i j) = true then 1 else 0)), some (.int ((V0 + k : Nat) : Int)), some (.int (per w h dx dy)), some (.int i), some (.int j), some (.bl (decide (0 < f i j))), z13, z14] ∧ H' = H16) ?_ ?_ ?_ ?_⟩
        · exact ⟨_, _, rfl, rfl⟩
        · rintro k σ H' hk ⟨_, _, _, rfl⟩
          exact .of ev
        · rintro k y' σ H' hy ⟨z13, z14, rfl, rfl⟩
          obtain ⟨q1, r1, rfl, e1⟩ := pr y' (List.mem_of_getElem? hy)
          refine ⟨q1, _, rfl, .of e1, rfl, _, _, rfl, _, _, rfl, rfl, ?_⟩
          refine ⟨_, rfl, _, rfl, _, rfl, _, _, rfl, rfl, ⟨pp, by omega⟩, _, _, rfl, rfl, ?_⟩
          refine ⟨some (.int r1), some (.int (per w h dx dy)), ?_, rfl⟩
          have e2 : ((V0 + (k + 1) : Nat) : Int) = ((V0 + k : Nat) : Int) + per w h dx dy / per w h dx dy := by
            rw [Int.ediv_self (by omega)]
            omega
          rw [e2]
          rfl
        · rintro σ H' ⟨z13, z14, rfl, rfl⟩
          refine ⟨some (.int j), some (.bl (decide (0 < f i j))), z13, z14, ?_, s9.trans (s14.trans (s15.trans s16))⟩
          rw [ln]
          have e3 : ((P0 + if 0 < f i j then 1 else 0 : Nat) : Int) = (P0 : Int) + if decide (0 < f i j) = true then 1 else 0 := by
            by_cases z : 0 < f i j
            · rw [if_pos z, if_pos (decide_eq_true z)]
              rfl
            · rw [if_neg z, if_neg (by rw [decide_eq_false z]; decide)]
              rfl
          rw [e3]
      · rintro σ H9 ⟨z11, z12, z13, z14, rfl, s9⟩
        rw [th]
        exact ⟨_, _, _, _, _, rfl, s9⟩
    · rintro σ H8 ⟨z10, z11, z12, z13, z14, rfl, s8⟩
      have S8 := S7.same s8
      have O8 := O7.same s8
      have FV := F.visits
      have FP := F.passed
      simp only [fij] at FV FP
      rw [tw, FV, FP]
      -- the three tests
      refine ⟨_, rfl, _, rfl, _, rfl, t, b, w, h, x, y, dx, dy, m, rfl, S8, fun H9 s9 => ⟨rfl, _, rfl, iteNS rfl ?_⟩⟩
      refine ⟨_, rfl, _, rfl, t, b', w, h, x, y, -dx, -dy, m, rfl, O8.same s9, fun H10 s10 => ?_⟩
      rw [F.back]
      refine ⟨_, rfl, rfl, _, rfl, iteNS rfl ?_⟩
      refine ⟨_, rfl, _, rfl, rfl, _, rfl, iteNS rfl ?_⟩
      have S10 := S8.same (s9.trans s10)
      -- slanting or not
      refine ⟨_, rfl, b, _, _, _, rfl, rfl, .of S10.ball, atI_nat (j := 3) rfl, rfl, _, rfl, ?_⟩
      have fin0 : (dx = 0 ∨ dy = 0) → (decide (dx = 0 ∨ dy = 0) || crn w h x y dx dy) = true := fun z => by
        rw [decide_eq_true z]
        rfl
      by_cases ex : dx = 0
      · subst ex
        refine iteNS rfl ?_
        refine iteF ?_
        refine ⟨_, rfl, _, rfl, t, b, w, h, x, y, 0, dy, m, rfl, S10, fun H11 s11 => ?_⟩
        rw [fin0 (.inl rfl)]
        exact ⟨true, true, rfl, rfl, q _⟩
      · rw [decide_eq_false (show ¬ (V.int dx = V.int 0) from fun z => ex (V.int.inj z))]
        refine ⟨_, rfl, b, _, _, _, rfl, rfl, .of S10.ball, atI_nat (j := 4) rfl, rfl, _, rfl, ?_⟩
        by_cases ey : dy = 0
        · subst ey
          refine iteNS rfl ?_
          refine ⟨_, rfl, _, rfl, t, b, w, h, x, y, dx, 0, m, rfl, S10, fun H11 s11 => ?_⟩
          rw [fin0 (.inr rfl)]
          exact ⟨true, true, rfl, rfl, q _⟩
        · rw [decide_eq_false (show ¬ (V.int dy = V.int 0) from fun z => ey (V.int.inj z))]
          refine iteT ?_
          refine ⟨_, rfl, _, rfl, t, b, w, h, x, y, dx, dy, m, rfl, S10, fun H11 s11 => ?_⟩
          rw [decide_eq_false (show ¬ (dx = 0 ∨ dy = 0) from fun z => z.elim ex ey), Bool.false_or]
          refine ⟨_, rfl, _, rfl, t, b, w, h, x, y, dx, dy, m, rfl, S10.same s11, ex, ey, fun c H12 s12 => ⟨rfl, rfl, ?_⟩, fun c H12 p s12 => ⟨rfl, rfl, ?_⟩⟩
          · rw [c]
            exact q _
          · rw [c]
            exact q _
end
end Cw

namespace Cw
open PySem L2
/-! ### what the top has written -/
/-- a def of the module, by what is found of it -/
theorem defAt {R : Prop} {K : PySem.W.Frag} {h : Heap} {mg : Str → Option Value} (X : K.In h) (G : h.Ns mainGlobals mg) {x : Str} {st : Stmt} {f : Addr} {oc : Value} {od an : Option Addr} {sl : Array (Option Value)} {kV dc pm cd ct : Value}
    (a : PySem.W.nsIn K mainGlobals x = some (some (.ref f))) (l : K.lookup f = some ⟨oc, od, .func (PySem.W.fnOf x x (defArgs st) (defBody st) (defScope st) .none kV dc pm an cd ct), sl⟩) (c : PySem.W.codeIn K cd x = true) (k : PySem.W.keepIn K (.ref f) = true)
    (go : ∀ (f : Addr) (fd : FuncData), Fun K x x st f fd → mg x = some (.ref f) → PySem.W.keepIn K (.ref f) = true → R) : R :=
  go f _ (fun_mk (st := st) l c k) (PySem.W.mg_of X G a) k
/-- a method of the class at C -/
theorem methAt {R : Prop} {K : PySem.W.Frag} {mg : Str → Option Value} {C : Addr} (_ : Txt K mg C) {x qual : Str} {st : Stmt} {f : Addr} {oc : Value} {od an : Option Addr} {sl : Array (Option Value)} {kV dc pm cd ct : Value}
    (a : PySem.W.findIn K (.ref C) x = some (some (.ref f))) (i : PySem.W.isFn K (.ref f) = true) (l : K.lookup f = some ⟨oc, od, .func (PySem.W.fnOf x qual (defArgs st) (defBody st) (defScope st) .none kV dc pm an cd ct), sl⟩) (c : PySem.W.codeIn K cd qual = true) (k : PySem.W.keepIn K (.ref f) = true)
    (go : ∀ (f : Addr) (fd : FuncData), Fun K x qual st f fd → Meth K C x f → R) : R :=
  go f _ (fun_mk (st := st) l c k) ⟨a, i, k⟩
/-- the class's __init__, whose one default is the empty tuple -/
theorem initAt {R : Prop} {K : PySem.W.Frag} {mg : Str → Option Value} {C f T eT : Addr} (_ : Txt K mg C) {oc cT : Value} {od oT dE an : Option Addr} {sl sT sE : Array (Option Value)} {nT nE : Nat} {kV dc pm cd ct : Value}
    (a : PySem.W.findIn K (.ref C) "__init__" = some (some (.ref f))) (i : PySem.W.isFn K (.ref f) = true)
    (l : K.lookup f = some ⟨oc, od, .func (PySem.W.fnOf "__init__" "Table.__init__" (defArgs sInit) (defBody sInit) (defScope sInit) (.ref T) kV dc pm an cd ct), sl⟩) (c : PySem.W.codeIn K cd "Table.__init__" = true) (k : PySem.W.keepIn K (.ref f) = true)
    (lT : K.lookup T = some ⟨cT, oT, .seq #[.ref eT] nT, sT⟩) (lE : K.lookup eT = some ⟨.type "tuple", dE, .seq #[] nE, sE⟩) (mk : PySem.W.makesIn K C = true) (kc : PySem.W.keepIn K (.ref C) = true)
    (go : ∀ (f eT : Addr) (fd : FuncData), FunD K "__init__" "Table.__init__" (defArgs sInit) (defBody sInit) (defScope sInit) [.ref eT] [] f fd → Mk K C f → (∀ H : Hp, SqT K H eT []) → R) : R :=
  go f eT _ ⟨⟨oc, od, .ref T, kV, dc, pm, an, cd, ct, sl, rfl, l, c, .inr ⟨(by intro z; cases z), T, _, [.ref eT], nT, rfl, lT, rfl, .cons rfl .nil⟩, .inl rfl⟩, k⟩ ⟨mk, a, i, kc⟩
    fun H => .inr ⟨_, #[], nE, lE, rfl, rfl, Nat.zero_le _, .nil⟩
/-- the class and the module's names -/
theorem txtAt {R : Prop} {K : PySem.W.Frag} {h : Heap} {mg : Str → Option Value} (X : K.In h) (G : h.Ns mainGlobals mg) {C : Addr} {t1 t2 t3 t4 : Tok}
    (aC : PySem.W.nsIn K mainGlobals "Table" = some (some (.ref C))) (pg : PySem.W.plainGet K C Str.empty = true) (hd : PySem.W.hasDictIn K C = true) (po : PySem.W.plainOver K C = true) (sa : PySem.W.findIn K (.ref C) "__setattr__" = some (some (.builtin "object.__setattr__")))
    (nW : PySem.W.findIn K (.ref C) "width" = some none) (nH : PySem.W.findIn K (.ref C) "height" = some none) (nP : PySem.W.findIn K (.ref C) "pockets" = some none)
    (m1 : PySem.W.nsIn K mainGlobals "MOST" = some (some (.int 1000000000000000000000000000000 t1))) (m2 : PySem.W.nsIn K mainGlobals "MOST_POCKETS" = some (some (.int 12 t2)))
    (m3 : PySem.W.nsIn K mainGlobals "NAME_CHARS" = some (some (.str "abcdefghijklmnopqrstuvwxyz0123456789" t3))) (m4 : PySem.W.nsIn K mainGlobals "MOST_NAME_CHARS" = some (some (.int 12 t4))) (m5 : PySem.W.nsIn K mainGlobals "gcd" = some (some (.builtin "math.gcd")))
    (b1 : PySem.W.nsIn K mainGlobals "len" = some none) (b2 : PySem.W.nsIn K mainGlobals "all" = some none) (b3 : PySem.W.nsIn K mainGlobals "tuple" = some none) (b4 : PySem.W.nsIn K mainGlobals "enumerate" = some none)
    (b5 : PySem.W.nsIn K mainGlobals "sorted" = some none) (b6 : PySem.W.nsIn K mainGlobals "abs" = some none) (b7 : PySem.W.nsIn K mainGlobals "int" = some none) (b8 : PySem.W.nsIn K mainGlobals "range" = some none) (b9 : PySem.W.nsIn K mainGlobals "max" = some none)
    (go : Txt K mg C → R) : R :=
  go ⟨⟨pg, hd, po, sa⟩, nW, nH, nP, PySem.W.mg_of X G aC, ⟨t1, PySem.W.mg_of X G m1⟩, ⟨t2, PySem.W.mg_of X G m2⟩, ⟨t3, PySem.W.mg_of X G m3⟩, ⟨t4, PySem.W.mg_of X G m4⟩, PySem.W.mg_of X G m5,
    PySem.W.mg_none_of X G b1, PySem.W.mg_none_of X G b2, PySem.W.mg_none_of X G b3, PySem.W.mg_none_of X G b4, PySem.W.mg_none_of X G b5, PySem.W.mg_none_of X G b6, PySem.W.mg_none_of X G b7, PySem.W.mg_none_of X G b8, PySem.W.mg_none_of X G b9⟩

theorem law_at {P : Program} {w : World} {K : PySem.W.Frag} {mg : Str → Option Value} {C fIn eT fRq fNm fIb fCb fBk fPh fPa fIv fAg fPe fEd fCo fSl fGo fPc fCl fPm fPd fLr fLn fLs fLb fLw fIp fCp : Addr} {dIn dRq dNm dIb dCb dBk dPh dPa dIv dAg dPe dEd dCo dSl dGo dPc dCl dPm dPd dLr dLn dLs dLb dLw dIp dCp : FuncData} (T : Txt K mg C)
    (FRq : Fun K "require" "require" sRequire fRq dRq) (mRq : mg "require" = some (.ref fRq)) (kRq : PySem.W.keepIn K (.ref fRq) = true)
    (FNm : Fun K "is_name" "is_name" sIsName fNm dNm) (mNm : mg "is_name" = some (.ref fNm)) (kNm : PySem.W.keepIn K (.ref fNm) = true)
    (FIb : Fun K "is_ball" "is_ball" sIsBall fIb dIb) (mIb : mg "is_ball" = some (.ref fIb)) (kIb : PySem.W.keepIn K (.ref fIb) = true)
    (FCb : Fun K "check_ball" "check_ball" sCheckBall fCb dCb) (mCb : mg "check_ball" = some (.ref fCb)) (kCb : PySem.W.keepIn K (.ref fCb) = true)
    (FBk : Fun K "back" "back" sBack fBk dBk) (mBk : mg "back" = some (.ref fBk)) (kBk : PySem.W.keepIn K (.ref fBk) = true)
    (FPh : Fun K "phase_of" "phase_of" sPhase fPh dPh) (mPh : mg "phase_of" = some (.ref fPh)) (kPh : PySem.W.keepIn K (.ref fPh) = true)
    (FPa : Fun K "parts_of" "parts_of" sParts fPa dPa) (mPa : mg "parts_of" = some (.ref fPa)) (kPa : PySem.W.keepIn K (.ref fPa) = true)
    (FIv : Fun K "inverse" "inverse" sInverse fIv dIv) (mIv : mg "inverse" = some (.ref fIv)) (kIv : PySem.W.keepIn K (.ref fIv) = true)
    (FAg : Fun K "agreed" "agreed" sAgreed fAg dAg) (mAg : mg "agreed" = some (.ref fAg)) (kAg : PySem.W.keepIn K (.ref fAg) = true)
    (FPe : Fun K "period" "period" sPeriod fPe dPe) (mPe : mg "period" = some (.ref fPe)) (kPe : PySem.W.keepIn K (.ref fPe) = true)
    (FEd : Fun K "edge_class" "edge_class" sEdge fEd dEd) (mEd : mg "edge_class" = some (.ref fEd)) (kEd : PySem.W.keepIn K (.ref fEd) = true)
    (FCo : Fun K "corner_minutes" "corner_minutes" sCorner fCo dCo) (mCo : mg "corner_minutes" = some (.ref fCo)) (kCo : PySem.W.keepIn K (.ref fCo) = true)
    (FSl : Fun K "is_slanting" "is_slanting" sSlant fSl dSl) (mSl : mg "is_slanting" = some (.ref fSl)) (kSl : PySem.W.keepIn K (.ref fSl) = true)
    (FGo : Fun K "goes_back" "goes_back" sGoes fGo dGo) (mGo : mg "goes_back" = some (.ref fGo)) (kGo : PySem.W.keepIn K (.ref fGo) = true)
    (FPc : Fun K "point_count" "point_count" sCount fPc dPc) (mPc : mg "point_count" = some (.ref fPc)) (kPc : PySem.W.keepIn K (.ref fPc) = true)
    (FCl : Fun K "point_classes" "point_classes" sClasses fCl dCl) (mCl : mg "point_classes" = some (.ref fCl)) (kCl : PySem.W.keepIn K (.ref fCl) = true)
    (FPm : Fun K "point_minutes" "point_minutes" sMinutes fPm dPm) (mPm : mg "point_minutes" = some (.ref fPm)) (kPm : PySem.W.keepIn K (.ref fPm) = true)
    (FPd : Fun K "is_passed" "is_passed" sPassed fPd dPd) (mPd : mg "is_passed" = some (.ref fPd)) (kPd : PySem.W.keepIn K (.ref fPd) = true)
    (FLr : Fun K "_law_row" "_law_row" sRow fLr dLr) (mLr : mg "_law_row" = some (.ref fLr)) (kLr : PySem.W.keepIn K (.ref fLr) = true)
    (FLn : Fun K "_law_numbers" "_law_numbers" sNumbers fLn dLn) (mLn : mg "_law_numbers" = some (.ref fLn)) (kLn : PySem.W.keepIn K (.ref fLn) = true)
    (FLs : Fun K "_law_size" "_law_size" sSize fLs dLs) (mLs : mg "_law_size" = some (.ref fLs)) (kLs : PySem.W.keepIn K (.ref fLs) = true)
    (FLb : Fun K "_law_ball" "_law_ball" sBall fLb dLb) (mLb : mg "_law_ball" = some (.ref fLb)) (kLb : PySem.W.keepIn K (.ref fLb) = true)
    (FLw : Fun K "law" "law" sLaw fLw dLw) (mLw : mg "law" = some (.ref fLw)) (kLw : PySem.W.keepIn K (.ref fLw) = true)
    (FIp : Fun K "is_point" "Table.is_point" sIsPoint fIp dIp) (MIp : Meth K C "is_point" fIp)
    (FCp : Fun K "check_point" "Table.check_point" sCheckPoint fCp dCp) (MCp : Meth K C "check_point" fCp)
    (FIn : FunD K "__init__" "Table.__init__" (defArgs sInit) (defBody sInit) (defScope sInit) [.ref eT] [] fIn dIn) (MK : Mk K C fIn) (qI : ∀ H : Hp, SqT K H eT []) :
    ∃ fd : FuncData, (∀ (s : Shared) (v : Value), BindsTo s fd ⟨[v], []⟩ [("_law_script", v)]) ∧ ∀ base : Heap, K.In base → base.Ns mainGlobals mg → FnOk P w K mg base CX0 6 fLw fd ["_law_script"] (spLaw K) := by
  have bRq := FRq.binds (ps := ["holds"]) fun _ _ _ _ _ _ us hl => match us, hl with | [_], _ => rfl
  have bNm := FNm.binds (ps := ["text"]) fun _ _ _ _ _ _ us hl => match us, hl with | [_], _ => rfl
  have bIb := FIb.binds (ps := ["table", "ball"]) fun _ _ _ _ _ _ us hl => match us, hl with | [_, _], _ => rfl
  have bCb := FCb.binds (ps := ["table", "ball"]) fun _ _ _ _ _ _ us hl => match us, hl with | [_, _], _ => rfl
  have bBk := FBk.binds (ps := ["table", "ball"]) fun _ _ _ _ _ _ us hl => match us, hl with | [_, _], _ => rfl
  have bPh := FPh.binds (ps := ["size", "place", "step"]) fun _ _ _ _ _ _ us hl => match us, hl with | [_, _, _], _ => rfl
  have bPa := FPa.binds (ps := ["table", "ball"]) fun _ _ _ _ _ _ us hl => match us, hl with | [_, _], _ => rfl
  have bIv := FIv.binds (ps := ["number", "modulus"]) fun _ _ _ _ _ _ us hl => match us, hl with | [_, _], _ => rfl
  have bAg := FAg.binds (ps := ["one", "other"]) fun _ _ _ _ _ _ us hl => match us, hl with | [_, _], _ => rfl
  have bPe := FPe.binds (ps := ["table", "ball"]) fun _ _ _ _ _ _ us hl => match us, hl with | [_, _], _ => rfl
  have bEd := FEd.binds (ps := ["size", "place", "step"]) fun _ _ _ _ _ _ us hl => match us, hl with | [_, _, _], _ => rfl
  have bCo := FCo.binds (ps := ["table", "ball"]) fun _ _ _ _ _ _ us hl => match us, hl with | [_, _], _ => rfl
  have bSl := FSl.binds (ps := ["ball"]) fun _ _ _ _ _ _ us hl => match us, hl with | [_], _ => rfl
  have bGo := FGo.binds (ps := ["table", "ball"]) fun _ _ _ _ _ _ us hl => match us, hl with | [_, _], _ => rfl
  have bPc := FPc.binds (ps := ["table", "ball"]) fun _ _ _ _ _ _ us hl => match us, hl with | [_, _], _ => rfl
  have bCl := FCl.binds (ps := ["size", "place", "step", "goal"]) fun _ _ _ _ _ _ us hl => match us, hl with | [_, _, _, _], _ => rfl
  have bPm := FPm.binds (ps := ["table", "ball", "point"]) fun _ _ _ _ _ _ us hl => match us, hl with | [_, _, _], _ => rfl
  have bPd := FPd.binds (ps := ["table", "ball", "point"]) fun _ _ _ _ _ _ us hl => match us, hl with | [_, _, _], _ => rfl
  have bLr := FLr.binds (ps := ["_law_cell", "_law_many"]) fun _ _ _ _ _ _ us hl => match us, hl with | [_, _], _ => rfl
  have bLn := FLn.binds (ps := ["_law_script", "_law_many"]) fun _ _ _ _ _ _ us hl => match us, hl with | [_, _], _ => rfl
  have bLs := FLs.binds (ps := ["_law_number"]) fun _ _ _ _ _ _ us hl => match us, hl with | [_], _ => rfl
  have bLb := FLb.binds (ps := ["_law_numbers_here", "_law_at", "_law_width", "_law_height", "_law_name"]) fun _ _ _ _ _ _ us hl => match us, hl with | [_, _, _, _, _], _ => rfl
  have bIp := FIp.binds (ps := ["self", "point"]) fun _ _ _ _ _ _ us hl => match us, hl with | [_, _], _ => rfl
  have bCp := FCp.binds (ps := ["self", "point"]) fun _ _ _ _ _ _ us hl => match us, hl with | [_, _], _ => rfl
  obtain ⟨ds, vI, bIn⟩ := FIn.binds1 (ps := ["self", "width", "height", "pockets"]) 3 0 (by intro z; cases z) rfl fun _ _ _ _ _ _ _ us its h1 h2 => match us, its, h1, h2 with | [_, _, _], [_], _, _ => ⟨_, rfl, rfl⟩
  refine ⟨dLw, fun s v => ?_, fun base _ _ => ?_⟩
  · obtain ⟨oc, od, kV, doc, pm, an, cdv, ct, osl, e, _, _⟩ := FLw.ex
    rw [e]
    exact .of_eq rfl
  · have GRq := ok_require (P := P) (w := w) (mg := mg) (base := base) FRq
    have GIp := ok_isPoint (P := P) (w := w) (base := base) FIp T
    have GCp := ok_checkPoint (P := P) (w := w) (base := base) FCp T GIp bIp MIp
    have GNm := ok_isName (P := P) (w := w) (base := base) FNm T
    have GIb := ok_isBall (P := P) (w := w) (base := base) FIb T GNm bNm mNm kNm GIp bIp MIp
    have GCb := ok_checkBall (P := P) (w := w) (base := base) FCb GIb bIb mIb kIb
    have GBk := ok_back (P := P) (w := w) (base := base) FBk GCb bCb mCb kCb
    have GPh := ok_phase (P := P) (w := w) (mg := mg) (base := base) FPh
    have GPa := ok_parts (P := P) (w := w) (base := base) FPa T
    have GSl := ok_slant (P := P) (w := w) (mg := mg) (base := base) FSl
    have GIv := ok_inverse (P := P) (w := w) (mg := mg) (base := base) FIv
    have GAg := ok_agreed (P := P) (w := w) (base := base) FAg T.gcd GIv bIv mIv kIv
    have GEd := ok_edge (P := P) (w := w) (base := base) FEd GPh bPh mPh kPh
    have GCl := ok_classes (P := P) (w := w) (base := base) FCl GPh bPh mPh kPh
    have GPm := ok_minutes (P := P) (w := w) (base := base) FPm T GCb bCb mCb kCb GCp bCp MCp GPa bPa mPa kPa GCl bCl mCl kCl GAg bAg mAg kAg
    have GPd := ok_passed (P := P) (w := w) (base := base) FPd T GPm bPm mPm kPm
    have GPe := ok_period (P := P) (w := w) (base := base) FPe T GCb bCb mCb kCb GPa bPa mPa kPa
    have GCo := ok_corner (P := P) (w := w) (base := base) FCo T GCb bCb mCb kCb GPa bPa mPa kPa GEd bEd mEd kEd GAg bAg mAg kAg
    have GGo := ok_goes (P := P) (w := w) (base := base) FGo GCb bCb mCb kCb GSl bSl mSl kSl GCo bCo mCo kCo
    have GPc := ok_count (P := P) (w := w) (base := base) FPc T GCb bCb mCb kCb GSl bSl mSl kSl GCo bCo mCo kCo
    have GLr := ok_row (P := P) (w := w) (base := base) FLr T
    have GLs := ok_size (P := P) (w := w) (base := base) FLs T
    have GLn := ok_numbers (P := P) (w := w) (base := base) FLn T GLr bLr mLr kLr
    have GLb := ok_ball (P := P) (w := w) (base := base) FLb T
    have GIn := ok_init (P := P) (w := w) (base := base) FIn T GRq bRq mRq kRq
    exact ok_law FLw T MK GLn bLn mLn kLn GLs bLs mLs kLs GIn bIn vI qI GLb bLb mLb kLb GBk bBk mBk kBk GPe bPe mPe kPe GPd bPd mPd kPd GPm bPm mPm kPm GPc bPc mPc kPc GGo bGo mGo kGo GCo bCo mCo kCo
end Cw

open PySem PySem.W PyProof.Rows
set_option maxRecDepth 100000 in
set_option maxHeartbeats 0 in
theorem PySem.Challenge.cw_cushioned_k16_whole_ways_holds : PySem.Challenge.rw_cushioned_k16_whole_ways.Holds := by
  w_on; o_law; k_head; (case hw => w_witness2)
  k_fill
  refine L2.walk_of (l := PySem.Challenge.rw_cushioned_k16_whole_ways) (n := 63) (k := 6) (x := "_law_script") (CX := fun _ => L2.CX0) (sp := fun w => Cw.spLaw _) rfl (by decide) rfl ⟨rfl, by decide, by decide⟩
    (fun w h Y => PySem.W.kIn_of Y) ?F (fun _ _ a ns hl _ hS => ⟨a, ns, rfl, hS, hl, fun _ => rfl⟩) (fun _ _ _ _ _ h => h)
  case F =>
    intro w mg fa h KX G hmg
    refine' Cw.txtAt KX G ?aC ?pg ?hd ?po ?sa ?nW ?nH ?nP ?m1 ?m2 ?m3 ?m4 ?m5 ?b1 ?b2 ?b3 ?b4 ?b5 ?b6 ?b7 ?b8 ?b9 ?go
    (case aC => k_is); (case pg => k_is); (case hd => k_is); (case po => k_is); (case sa => k_is); (case nW => k_is); (case nH => k_is); (case nP => k_is); (case m1 => k_is); (case m2 => k_is); (case m3 => k_is); (case m4 => k_is); (case m5 => k_is); (case b1 => k_is); (case b2 => k_is); (case b3 => k_is); (case b4 => k_is); (case b5 => k_is); (case b6 => k_is); (case b7 => k_is); (case b8 => k_is); (case b9 => k_is)
    case go =>
    intro T
    refine' Cw.initAt T ?a ?i ?l ?c ?k ?lT ?lE ?mk ?kc ?go
    (case a => k_is); (case i => k_is); (case l => k_is); (case c => k_is); (case k => k_is); (case lT => k_is); (case lE => k_is); (case mk => k_is); (case kc => k_is)
    case go =>
    intro fIn eT dIn FIn MK qI
    refine' Cw.methAt T (x := "is_point") (qual := "Table.is_point") (st := Cw.sIsPoint) ?a ?i ?l ?c ?k ?go
    (case a => k_is); (case i => k_is); (case l => k_is); (case c => k_is); (case k => k_is)
    case go =>
    intro fIp dIp FIp MIp
    refine' Cw.methAt T (x := "check_point") (qual := "Table.check_point") (st := Cw.sCheckPoint) ?a ?i ?l ?c ?k ?go
    (case a => k_is); (case i => k_is); (case l => k_is); (case c => k_is); (case k => k_is)
    case go =>
    intro fCp dCp FCp MCp
    refine' Cw.defAt KX G (x := "require") (st := Cw.sRequire) ?a ?l ?c ?k ?go
    (case a => k_is); (case l => k_is); (case c => k_is); (case k => k_is)
    case go =>
    intro fRq dRq FRq mRq kRq
    refine' Cw.defAt KX G (x := "is_name") (st := Cw.sIsName) ?a ?l ?c ?k ?go
    (case a => k_is); (case l => k_is); (case c => k_is); (case k => k_is)
    case go =>
    intro fNm dNm FNm mNm kNm
    refine' Cw.defAt KX G (x := "is_ball") (st := Cw.sIsBall) ?a ?l ?c ?k ?go
    (case a => k_is); (case l => k_is); (case c => k_is); (case k => k_is)
    case go =>
    intro fIb dIb FIb mIb kIb
    refine' Cw.defAt KX G (x := "check_ball") (st := Cw.sCheckBall) ?a ?l ?c ?k ?go
    (case a => k_is); (case l => k_is); (case c => k_is); (case k => k_is)
    case go =>
    intro fCb dCb FCb mCb kCb
    refine' Cw.defAt KX G (x := "back") (st := Cw.sBack) ?a ?l ?c ?k ?go
    (case a => k_is); (case l => k_is); (case c => k_is); (case k => k_is)
    case go =>
    intro fBk dBk FBk mBk kBk
    refine' Cw.defAt KX G (x := "phase_of") (st := Cw.sPhase) ?a ?l ?c ?k ?go
    (case a => k_is); (case l => k_is); (case c => k_is); (case k => k_is)
    case go =>
    intro fPh dPh FPh mPh kPh
    refine' Cw.defAt KX G (x := "parts_of") (st := Cw.sParts) ?a ?l ?c ?k ?go
    (case a => k_is); (case l => k_is); (case c => k_is); (case k => k_is)
    case go =>
    intro fPa dPa FPa mPa kPa
    refine' Cw.defAt KX G (x := "inverse") (st := Cw.sInverse) ?a ?l ?c ?k ?go
    (case a => k_is); (case l => k_is); (case c => k_is); (case k => k_is)
    case go =>
    intro fIv dIv FIv mIv kIv
    refine' Cw.defAt KX G (x := "agreed") (st := Cw.sAgreed) ?a ?l ?c ?k ?go
    (case a => k_is); (case l => k_is); (case c => k_is); (case k => k_is)
    case go =>
    intro fAg dAg FAg mAg kAg
    refine' Cw.defAt KX G (x := "period") (st := Cw.sPeriod) ?a ?l ?c ?k ?go
    (case a => k_is); (case l => k_is); (case c => k_is); (case k => k_is)
    case go =>
    intro fPe dPe FPe mPe kPe
    refine' Cw.defAt KX G (x := "edge_class") (st := Cw.sEdge) ?a ?l ?c ?k ?go
    (case a => k_is); (case l => k_is); (case c => k_is); (case k => k_is)
    case go =>
    intro fEd dEd FEd mEd kEd
    refine' Cw.defAt KX G (x := "corner_minutes") (st := Cw.sCorner) ?a ?l ?c ?k ?go
    (case a => k_is); (case l => k_is); (case c => k_is); (case k => k_is)
    case go =>
    intro fCo dCo FCo mCo kCo
    refine' Cw.defAt KX G (x := "is_slanting") (st := Cw.sSlant) ?a ?l ?c ?k ?go
    (case a => k_is); (case l => k_is); (case c => k_is); (case k => k_is)
    case go =>
    intro fSl dSl FSl mSl kSl
    refine' Cw.defAt KX G (x := "goes_back") (st := Cw.sGoes) ?a ?l ?c ?k ?go
    (case a => k_is); (case l => k_is); (case c => k_is); (case k => k_is)
    case go =>
    intro fGo dGo FGo mGo kGo
    refine' Cw.defAt KX G (x := "point_count") (st := Cw.sCount) ?a ?l ?c ?k ?go
    (case a => k_is); (case l => k_is); (case c => k_is); (case k => k_is)
    case go =>
    intro fPc dPc FPc mPc kPc
    refine' Cw.defAt KX G (x := "point_classes") (st := Cw.sClasses) ?a ?l ?c ?k ?go
    (case a => k_is); (case l => k_is); (case c => k_is); (case k => k_is)
    case go =>
    intro fCl dCl FCl mCl kCl
    refine' Cw.defAt KX G (x := "point_minutes") (st := Cw.sMinutes) ?a ?l ?c ?k ?go
    (case a => k_is); (case l => k_is); (case c => k_is); (case k => k_is)
    case go =>
    intro fPm dPm FPm mPm kPm
    refine' Cw.defAt KX G (x := "is_passed") (st := Cw.sPassed) ?a ?l ?c ?k ?go
    (case a => k_is); (case l => k_is); (case c => k_is); (case k => k_is)
    case go =>
    intro fPd dPd FPd mPd kPd
    refine' Cw.defAt KX G (x := "_law_row") (st := Cw.sRow) ?a ?l ?c ?k ?go
    (case a => k_is); (case l => k_is); (case c => k_is); (case k => k_is)
    case go =>
    intro fLr dLr FLr mLr kLr
    refine' Cw.defAt KX G (x := "_law_numbers") (st := Cw.sNumbers) ?a ?l ?c ?k ?go
    (case a => k_is); (case l => k_is); (case c => k_is); (case k => k_is)
    case go =>
    intro fLn dLn FLn mLn kLn
    refine' Cw.defAt KX G (x := "_law_size") (st := Cw.sSize) ?a ?l ?c ?k ?go
    (case a => k_is); (case l => k_is); (case c => k_is); (case k => k_is)
    case go =>
    intro fLs dLs FLs mLs kLs
    refine' Cw.defAt KX G (x := "_law_ball") (st := Cw.sBall) ?a ?l ?c ?k ?go
    (case a => k_is); (case l => k_is); (case c => k_is); (case k => k_is)
    case go =>
    intro fLb dLb FLb mLb kLb
    refine' Cw.defAt KX G (x := "law") (st := Cw.sLaw) ?a ?l ?c ?k ?go
    (case a => k_is); (case l => k_is); (case c => k_is); (case k => k_is)
    case go =>
    intro fLw dLw FLw mLw kLw
    obtain rfl : fLw = fa := Value.ref.inj (Option.some.inj (mLw.symm.trans hmg))
    exact Cw.law_at T FRq mRq kRq FNm mNm kNm FIb mIb kIb FCb mCb kCb FBk mBk kBk FPh mPh kPh FPa mPa kPa FIv mIv kIv FAg mAg kAg FPe mPe kPe FEd mEd kEd FCo mCo kCo FSl mSl kSl FGo mGo kGo FPc mPc kPc FCl mCl kCl FPm mPm kPm FPd mPd kPd FLr mLr kLr FLn mLn kLn FLs mLs kLs FLb mLb kLb FLw mLw kLw FIp MIp FCp MCp FIn MK qI
