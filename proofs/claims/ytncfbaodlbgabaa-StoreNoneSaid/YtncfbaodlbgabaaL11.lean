/- Plain laws of layer 11 (store): what the models of its functions compute. No program is in sight here. -/
import Derived.Test.YtncfbaodlbgabaaM
import Derived.Test.YtncfbaodlbgabaaLoop
set_option linter.unusedVariables false
namespace Go.Proofs.Ytncfbaodlbgabaa

theorem awake_eq : law11_awake = some true := by kernel_rfl
theorem bnd {α β : Type} {m : Option α} {x : α} {f : α → Option β} {X : Option β} (h : m = some x) (k : f x = X) : m.bind f = X := by subst h; exact k
theorem u8_mod (x : Int) : IntKind.wrap .u8 x = x % 256 := by
  simp only [IntKind.wrap, IntKind.signed, IntKind.bits]
  simp

/-! A memory of one object. -/
def pz : StorePtr := ⟨0, 0, 0, 0⟩
def mem1 (o : StoreObject) : StoreStore := ⟨[o]⟩
def ob (d : List Int) (s : List Bool) (m : Option (List (Int × StorePtr))) : StoreObject := ⟨⟨d, s⟩, m, false⟩
def deadO : StoreObject := ⟨⟨[], []⟩, none, true⟩
theorem repl_ok {α : Type} {n : Nat} {z : α} (h : n ≤ 100000) : repl (n : Int) z = some (List.replicate n z) := by
  unfold repl
  rw [if_pos (by omega)]
  rfl
theorem make_eq {n : Nat} (h : 1 ≤ n ∧ n ≤ 32768) : store_Store_Make ⟨[]⟩ (n : Int) = some (⟨1, 0, n, 0⟩, 0, mem1 (ob (List.replicate n 0) (List.replicate n false) none)) := by
  unfold store_Store_Make
  rw [c0 (df (by omega)), c0 (df (by omega)), c0 (by rfl), repl_ok (by omega), Option.bind_some, repl_ok (by omega), Option.bind_some, room_ok (by simp), Option.bind_some]
  rfl
theorem wz0 : IntKind.wrap .i64 (1 - 1) = 0 := by decide
theorem idx0 (o : StoreObject) : idx [o] 0 = some o := rfl
theorem fit_eq (o : StoreObject) (lo hi off : Int) : store_Store_fit (mem1 o) ⟨1, lo, hi, off⟩ = some (bif o.gone then (-1, 15) else (0, 0)) := by
  unfold store_Store_fit mem1
  dsimp only
  rw [c0 (by rfl), c0 (by rfl), c0 (by rfl), wz0, idx0, Option.bind_some]
  cases o.gone <;> rfl
theorem object_eq (o : StoreObject) : store_Store_object (mem1 o) 1 = some (bif o.gone then (-1, 4) else (0, 0)) := by
  unfold store_Store_object mem1
  dsimp only
  rw [c0 (by rfl), c0 (by rfl), wz0, idx0, Option.bind_some]
  cases o.gone <;> rfl
theorem move_ok {o : StoreObject} (hg : o.gone = false) {lo hi off by_ : Int} (h1 : lo - off ≤ by_) (h2 : by_ ≤ hi - off) (hlo : -100000 ≤ lo ∧ lo ≤ 100000) (hhi : -100000 ≤ hi ∧ hi ≤ 100000) (hoff : -100000 ≤ off ∧ off ≤ 100000) :
    store_Store_Move (mem1 o) ⟨1, lo, hi, off⟩ by_ = some (⟨1, lo, hi, off + by_⟩, 0) := by
  unfold store_Store_Move
  refine bnd (fit_eq _ _ _ _) ?_
  rw [hg]
  dsimp only [cond_false]
  rw [c0 (by rfl), w64 (by omega), c0 (df (by omega)), w64 (by omega), c0 (df (by omega)), w64 (by omega)]
theorem move_dead (lo hi off by_ : Int) : store_Store_Move (mem1 deadO) ⟨1, lo, hi, off⟩ by_ = some (pz, 15) := by
  unfold store_Store_Move
  refine bnd (fit_eq _ _ _ _) ?_
  rfl
theorem within_eq {lo hi off a z : Int} (ha : 0 ≤ a) (hz : 1 ≤ z) (h1 : off ≤ hi) (h2 : a ≤ hi - off) (h3 : z ≤ hi - off - a) (hhi : -100000 ≤ hi ∧ hi ≤ 100000) (hoff : -100000 ≤ off ∧ off ≤ 100000) : store_within ⟨1, lo, hi, off⟩ a z = some true := by
  unfold store_within
  dsimp only
  rw [c1 (dt ha), c1 (dt hz), c1 (dt h1), w64 (x := hi - off) (by omega), c1 (dt h2), w64 (by omega), dt h3]
theorem part_ok {o : StoreObject} (hg : o.gone = false) {lo hi off a z : Int} (ha : 0 ≤ a) (hz : 1 ≤ z) (h1 : off ≤ hi) (h2 : a ≤ hi - off) (h3 : z ≤ hi - off - a) (hhi : -100000 ≤ hi ∧ hi ≤ 100000) (hoff : -100000 ≤ off ∧ off ≤ 100000) :
    store_Store_Part (mem1 o) ⟨1, lo, hi, off⟩ a z = some (⟨1, off + a, off + a + z, off + a⟩, 0) := by
  unfold store_Store_Part
  refine bnd (fit_eq _ _ _ _) ?_
  rw [hg]
  dsimp only [cond_false]
  rw [c0 (by rfl)]
  refine bnd (within_eq ha hz h1 h2 h3 hhi hoff) ?_
  rw [c0 (by rfl), w64 (x := off + a) (by omega), w64 (by omega)]
structure PlaceOk (d : List Int) (lo hi : Int) (at_ z : Nat) (b : Bool) : Prop where
  hz : z = 1 ∨ z = 4
  hb : b = true → z = 4
  hlo : lo ≤ at_
  hhi : (at_ + z : Int) ≤ hi
  his : -100000 ≤ hi ∧ hi ≤ 100000
  hlen : at_ + z ≤ d.length
  hsm : d.length ≤ 100000
theorem place_tail {o : StoreObject} (hg : o.gone = false) {lo hi : Int} {at_ z : Nat} {b : Bool} (h : PlaceOk o.bytes.data lo hi at_ z b) :
    ((store_Store_fit (mem1 o) ⟨1, lo, hi, at_⟩).bind fun y1 => bif y1.2 != 0 then (some ((-1 : Int), y1.2)) else (bif decide ((at_ : Int) < lo) then (some ((-1 : Int), (12 : Int))) else ((store_within ⟨1, lo, hi, at_⟩ 0 (z : Int)).bind fun y2 => bif !y2 then (some ((-1 : Int), (12 : Int))) else (bif decide ((at_ : Int) < 0) then (some ((-1 : Int), (12 : Int))) else ((idx (mem1 o).list y1.1).bind fun u1 => bif decide ((List.length u1.bytes.data : Int) < (z : Int)) then (some ((-1 : Int), (12 : Int))) else (bif decide ((IntKind.wrap .i64 ((List.length u1.bytes.data : Int) - (z : Int))) < (at_ : Int)) then (some ((-1 : Int), (12 : Int))) else (some ((y1.1 : Int), (0 : Int)))))))) : Option (Int × Int)) = some (0, 0) := by
  obtain ⟨hz, hb, hlo, hhi, his, hlen, hsm⟩ := h
  refine bnd (fit_eq _ _ _ _) ?_
  rw [hg]
  dsimp only [cond_false]
  rw [c0 (by rfl), c0 (df (by omega))]
  refine bnd (within_eq (by omega) (by omega) (by omega) (by omega) (by omega) his (by omega)) ?_
  rw [c0 (by rfl), c0 (df (by omega))]
  refine bnd (idx0 o) ?_
  rw [c0 (df (by omega)), w64 (by omega), c0 (df (by omega))]
theorem place_ok {o : StoreObject} (hg : o.gone = false) {lo hi : Int} {at_ z : Nat} {b : Bool} (h : PlaceOk o.bytes.data lo hi at_ z b) :
    store_Store_place (mem1 o) ⟨1, lo, hi, at_⟩ (z : Int) b = some (0, 0) := by
  have ht := place_tail hg h
  obtain ⟨hz, hb, _⟩ := h
  unfold store_Store_place
  rcases hz with rfl | rfl
  · have : b = false := by cases b with
      | false => rfl
      | true => exact absurd (hb rfl) (by decide)
    subst this
    rw [c0 (by rfl), c0 (by rfl)]
    exact ht
  · rw [c1 (by rfl), c0 (by rfl)]
    cases b with
    | false => rw [c0 (by rfl)]; exact ht
    | true => rw [c1 (by rfl), c0 (by rfl)]; exact ht
theorem place_dead (lo hi off : Int) : store_Store_place (mem1 deadO) ⟨1, lo, hi, off⟩ 1 false = some (-1, 15) := by
  unfold store_Store_place
  rw [c0 (by rfl), c0 (by rfl)]
  refine bnd (fit_eq _ _ _ _) ?_
  rfl

/-! Lists that are written. -/
def wrl {α : Type} (d : List α) (at_ : Nat) (f : Nat → α) : Nat → List α
  | 0 => d
  | k + 1 => (wrl d at_ f k).set (at_ + k) (f k)
theorem wrl_len {α : Type} (d : List α) (at_ : Nat) (f : Nat → α) : ∀ k, (wrl d at_ f k).length = d.length
  | 0 => rfl
  | k + 1 => by rw [wrl, List.length_set, wrl_len]
theorem wrl_get {α : Type} (d : List α) (at_ : Nat) (f : Nat → α) : ∀ (k i : Nat), (wrl d at_ f k)[i]? = if at_ ≤ i ∧ i < at_ + k ∧ i < d.length then some (f (i - at_)) else d[i]?
  | 0, i => by rw [if_neg (by omega)]; rfl
  | k + 1, i => by
    rw [wrl]
    by_cases hi : at_ + k = i
    · subst hi
      by_cases hl : at_ + k < d.length
      · rw [List.getElem?_set_self (by rw [wrl_len]; exact hl), if_pos (by omega), show at_ + k - at_ = k by omega]
      · rw [List.getElem?_eq_none (by rw [List.length_set, wrl_len]; omega), if_neg (by omega), List.getElem?_eq_none (by omega)]
    · rw [List.getElem?_set_ne hi, wrl_get d at_ f k i]
      by_cases h : at_ ≤ i ∧ i < at_ + k ∧ i < d.length
      · rw [if_pos h, if_pos (by omega)]
      · rw [if_neg h, if_neg (by omega)]
def byt (n : Int) (k : Nat) : Int := IntKind.wrap .u8 (Int.fdiv n (2 ^ (min (Int.toNat (IntKind.wrap .i64 (8 * (k : Int)))) (IntKind.bits .u32))))
def acc (B : Nat → Int) : Nat → Int
  | 0 => 0
  | k + 1 => bits .or .u32 (acc B k) (IntKind.wrap .u32 ((IntKind.wrap .u32 (B k)) * 2 ^ (min (Int.toNat (IntKind.wrap .i64 (8 * (k : Int)))) (IntKind.bits .u32))))
theorem or32 (a b : Nat) (i : Nat) (ha : a < 2 ^ i) (h : a + 2 ^ i * b < 2 ^ 32) : bits .or .u32 (a : Int) ((2 ^ i * b : Nat) : Int) = ((a + 2 ^ i * b : Nat) : Int) := by
  have e : a + 2 ^ i * b = 2 ^ i * b ||| a := by rw [Nat.add_comm]; exact Nat.two_pow_add_eq_or_of_lt ha b
  have h1 : (BitVec.ofInt 32 (a : Int)).toNat = a := by
    rw [BitVec.ofInt_natCast, BitVec.toNat_ofNat]; exact Nat.mod_eq_of_lt (by omega)
  have h2 : (BitVec.ofInt 32 ((2 ^ i * b : Nat) : Int)).toNat = 2 ^ i * b := by
    rw [BitVec.ofInt_natCast, BitVec.toNat_ofNat]; exact Nat.mod_eq_of_lt (by omega)
  show IntKind.u32.wrap ((BitVec.ofInt 32 (a : Int) ||| BitVec.ofInt 32 ((2 ^ i * b : Nat) : Int)).toNat : Int) = _
  rw [BitVec.toNat_or, h1, h2, Nat.or_comm, ← e, w32u (by omega)]
theorem acc_byt {n : Int} (h : 0 ≤ n ∧ n < 4294967296) : acc (byt n) 4 = n := by
  have b0 : byt n 0 = n % 256 := by
    unfold byt
    rw [u8_mod, show (2 : Int) ^ (min (Int.toNat (IntKind.wrap .i64 (8 * ((0 : Nat) : Int)))) (IntKind.bits .u32)) = 1 from rfl, Int.fdiv_eq_ediv_of_nonneg _ (by omega)]; omega
  have b1 : byt n 1 = n / 256 % 256 := by
    unfold byt
    rw [u8_mod, show (2 : Int) ^ (min (Int.toNat (IntKind.wrap .i64 (8 * ((1 : Nat) : Int)))) (IntKind.bits .u32)) = 256 from rfl, Int.fdiv_eq_ediv_of_nonneg _ (by omega)]
  have b2 : byt n 2 = n / 65536 % 256 := by
    unfold byt
    rw [u8_mod, show (2 : Int) ^ (min (Int.toNat (IntKind.wrap .i64 (8 * ((2 : Nat) : Int)))) (IntKind.bits .u32)) = 65536 from rfl, Int.fdiv_eq_ediv_of_nonneg _ (by omega)]
  have b3 : byt n 3 = n / 16777216 % 256 := by
    unfold byt
    rw [u8_mod, show (2 : Int) ^ (min (Int.toNat (IntKind.wrap .i64 (8 * ((3 : Nat) : Int)))) (IntKind.bits .u32)) = 16777216 from rfl, Int.fdiv_eq_ediv_of_nonneg _ (by omega)]
  have hn : n = byt n 0 + 256 * byt n 1 + 65536 * byt n 2 + 16777216 * byt n 3 := by rw [b0, b1, b2, b3]; omega
  have r0 : 0 ≤ byt n 0 ∧ byt n 0 < 256 := by rw [b0]; omega
  have r1 : 0 ≤ byt n 1 ∧ byt n 1 < 256 := by rw [b1]; omega
  have r2 : 0 ≤ byt n 2 ∧ byt n 2 < 256 := by rw [b2]; omega
  have r3 : 0 ≤ byt n 3 ∧ byt n 3 < 256 := by rw [b3]; omega
  unfold acc acc acc acc acc
  revert hn r0 r1 r2 r3
  generalize byt n 0 = a
  generalize byt n 1 = b
  generalize byt n 2 = c
  generalize byt n 3 = d
  intro hn r0 r1 r2 r3
  rw [show (2 : Int) ^ (min (Int.toNat (IntKind.wrap .i64 (8 * ((0 : Nat) : Int)))) (IntKind.bits .u32)) = 1 from rfl, show (2 : Int) ^ (min (Int.toNat (IntKind.wrap .i64 (8 * ((1 : Nat) : Int)))) (IntKind.bits .u32)) = 256 from rfl, show (2 : Int) ^ (min (Int.toNat (IntKind.wrap .i64 (8 * ((2 : Nat) : Int)))) (IntKind.bits .u32)) = 65536 from rfl, show (2 : Int) ^ (min (Int.toNat (IntKind.wrap .i64 (8 * ((3 : Nat) : Int)))) (IntKind.bits .u32)) = 16777216 from rfl,
    w32u (x := a) (by omega), w32u (x := b) (by omega), w32u (x := c) (by omega), w32u (x := d) (by omega), w32u (x := a * 1) (by omega), w32u (x := b * 256) (by omega), w32u (x := c * 65536) (by omega), w32u (x := d * 16777216) (by omega)]
  obtain ⟨a, rfl⟩ := Int.eq_ofNat_of_zero_le r0.1
  obtain ⟨b, rfl⟩ := Int.eq_ofNat_of_zero_le r1.1
  obtain ⟨c, rfl⟩ := Int.eq_ofNat_of_zero_le r2.1
  obtain ⟨d, rfl⟩ := Int.eq_ofNat_of_zero_le r3.1
  have e0 := or32 0 a 0 (by omega) (by omega)
  have e1 := or32 a b 8 (by omega) (by omega)
  have e2 := or32 (a + 2 ^ 8 * b) c 16 (by omega) (by omega)
  have e3 := or32 (a + 2 ^ 8 * b + 2 ^ 16 * c) d 24 (by omega) (by omega)
  rw [show (a : Int) * 1 = ((2 ^ 0 * a : Nat) : Int) by omega, show (0 : Int) = ((0 : Nat) : Int) from rfl, e0, show (0 + 2 ^ 0 * a) = a by omega, show (b : Int) * 256 = ((2 ^ 8 * b : Nat) : Int) by omega, e1, show (c : Int) * 65536 = ((2 ^ 16 * c : Nat) : Int) by omega, e2, show (d : Int) * 16777216 = ((2 ^ 24 * d : Nat) : Int) by omega, e3]
  omega

/-! What is told, and what is put. -/
theorem nn_ok {x : Int} (h : 0 ≤ x) : nn x = some () := by unfold nn; rw [if_pos h]
theorem idx_q {α : Type} {l : List α} {k : Nat} {x : α} (h : l[k]? = some x) : idx l (k : Int) = some x := by
  unfold idx
  rw [if_pos (by omega)]
  exact h
theorem load_ok {d : List Int} {s : List Bool} {m : Option (List (Int × StorePtr))} {lo hi : Int} {at_ z : Nat} {b : Bool} (h : PlaceOk d lo hi at_ z b) (B : Nat → Int) (hs : ∀ k, k < z → s[at_ + k]? = some true) (hd : ∀ k, k < z → d[at_ + k]? = some (B k)) :
    store_Store_Load (mem1 (ob d s m)) ⟨1, lo, hi, at_⟩ (z : Int) b = some (bif b then (⟨0, (mGetO m (at_ : Int)).getD pz, true⟩, 0) else (⟨acc B z, pz, false⟩, 0)) := by
  have hz : z ≤ 4 := by rcases h.hz with h | h <;> omega
  have hl := h.hlen
  have hsm := h.hsm
  unfold store_Store_Load
  refine bnd (place_ok (o := ob d s m) rfl h) ?_
  dsimp only
  rw [c0 (by rfl)]
  refine run_bind (fun k => (acc B k, (k : Int))) z (.brk (acc B z, (z : Int))) rfl (by omega) (fun k hk => ?_) (by dsimp only; rw [c0 (dge _)]) trivial ?_
  · dsimp only
    rw [c1 (dlt hk)]
    refine bnd (idx0 (ob d s m)) ?_
    rw [w64 (x := (at_ : Int) + (k : Int)) (by omega), show (at_ : Int) + (k : Int) = ((at_ + k : Nat) : Int) by omega]
    refine bnd (idx_q (hs k hk)) ?_
    rw [c0 (by rfl)]
    refine bnd (idx_q (hd k hk)) ?_
    refine bnd (nn_ok (by rw [w64 (by omega)]; omega)) ?_
    rw [w64 (x := (k : Int) + 1) (by omega)]
    rfl
  · dsimp only [Lp.thn]
    cases b with
    | false => rfl
    | true => rfl
theorem load_unset {d : List Int} {s : List Bool} {m : Option (List (Int × StorePtr))} {lo hi : Int} {at_ : Nat} (h : PlaceOk d lo hi at_ 1 false) (hs : s[at_]? = some false) :
    store_Store_Load (mem1 (ob d s m)) ⟨1, lo, hi, at_⟩ 1 false = some (⟨0, pz, false⟩, 13) := by
  have hl := h.hlen
  have hsm := h.hsm
  unfold store_Store_Load
  refine bnd (place_ok (o := ob d s m) rfl h) ?_
  dsimp only
  rw [c0 (by rfl)]
  refine run_bind (fun k => ((0 : Int), (k : Int))) 0 (.ret (⟨0, pz, false⟩, 13)) rfl (by omega) (fun k hk => by omega) ?_ trivial rfl
  dsimp only
  rw [c1 (by rfl)]
  refine bnd (idx0 (ob d s m)) ?_
  rw [w64 (by omega), show (at_ : Int) + ((0 : Nat) : Int) = (at_ : Int) by omega]
  refine bnd (idx_q hs) ?_
  rfl
theorem load_dead (lo hi off : Int) : store_Store_Load (mem1 deadO) ⟨1, lo, hi, off⟩ 1 false = some (⟨0, pz, false⟩, 15) := by
  unfold store_Store_Load
  refine bnd (place_dead _ _ _) ?_
  rfl
theorem forget_none (d : List Int) (s : List Bool) (a z : Int) : store_object_forget (ob d s none) a z = some (ob d s none) := by
  unfold store_object_forget
  refine run_bind (fun _ => (none, IntKind.wrap .i64 ((IntKind.wrap .i64 (a - 4)) + 1))) 0 (.brk (none, IntKind.wrap .i64 ((IntKind.wrap .i64 (a - 4)) + 1))) rfl (by omega) (fun k hk => by omega) ?_ trivial rfl
  dsimp only
  cases decide (IntKind.wrap .i64 ((IntKind.wrap .i64 (a - 4)) + 1) < IntKind.wrap .i64 (a + z)) <;> rfl
theorem forget_one (d : List Int) (s : List Bool) (c : Nat) (q : StorePtr) (h : c ≤ 100000) : store_object_forget (ob d s (some [((c : Int), q)])) ((c : Int) + 4) 4 = some (ob d s (some [((c : Int), q)])) := by
  unfold store_object_forget
  rw [w64 (x := (c : Int) + 4 - 4) (by omega), w64 (x := (c : Int) + 4 - 4 + 1) (by omega), w64 (x := (c : Int) + 4 + 4) (by omega)]
  refine run_bind (fun k => (some [((c : Int), q)], (c : Int) + 4 - 4 + 1 + (k : Int))) 7 (.brk (some [((c : Int), q)], (c : Int) + 4 - 4 + 1 + 7)) (by rw [show (c : Int) + 4 - 4 + 1 + ((0 : Nat) : Int) = (c : Int) + 4 - 4 + 1 by omega]; rfl) (by omega) (fun k hk => ?_) ?_ trivial rfl
  · dsimp only
    rw [c1 (dt (by omega)), c1 (by rfl), w64 (by omega)]
    have : Option.map (fun z => mDel z ((c : Int) + 4 - 4 + 1 + (k : Int))) (some [((c : Int), q)]) = some [((c : Int), q)] := by
      show some (if (c : Int) + 4 - 4 + 1 + (k : Int) = (c : Int) then [] else ((c : Int), q) :: mDel [] _) = _
      rw [if_neg (by omega)]; rfl
    rw [this, show (c : Int) + 4 - 4 + 1 + ((k + 1 : Nat) : Int) = (c : Int) + 4 - 4 + 1 + (k : Int) + 1 by omega]
  · dsimp only
    rw [c0 (df (by omega))]
    rfl
theorem put_ok {d : List Int} {s : List Bool} {m fm : Option (List (Int × StorePtr))} {lo hi : Int} {at_ z : Nat} {v : StoreValue} (h : PlaceOk d lo hi at_ z v.Is) (hls : s.length = d.length) (hf : store_object_forget (ob d s m) (at_ : Int) (z : Int) = some (ob d s fm)) :
    store_Store_Put (mem1 (ob d s m)) ⟨1, lo, hi, at_⟩ (z : Int) v = some (0, mem1 (ob (wrl d at_ (byt (bif v.Is then 0 else v.Num)) z) (wrl s at_ (fun _ => true) z) (bif v.Is then some (mSet (fm.getD []) (at_ : Int) v.Ptr) else fm))) := by
  have hz : z ≤ 4 := by rcases h.hz with h | h <;> omega
  have hl := h.hlen
  have hsm := h.hsm
  unfold store_Store_Put
  refine bnd (place_ok (o := ob d s m) rfl h) ?_
  dsimp only
  rw [c0 (by rfl)]
  refine bnd (idx0 (ob d s m)) ?_
  refine bnd hf ?_
  have key : ∀ (x4 : Int) (x5 : Option (List (Int × StorePtr))), ((loopM (fun (x10, x11, x12) => (bif decide (x12 < (z : Int)) then ((nn (IntKind.wrap .i64 (8 * x12))).bind fun _ => (idx x10 (IntKind.wrap .i64 ((at_ : Int) + x12))).bind fun u3 => (idx x10 (IntKind.wrap .i64 ((at_ : Int) + x12))).bind fun u4 => (idx x11 (IntKind.wrap .i64 ((at_ : Int) + x12))).bind fun u5 => (idx x11 (IntKind.wrap .i64 ((at_ : Int) + x12))).bind fun u6 => some (Lp.go (List.set x10 (Int.toNat (IntKind.wrap .i64 ((at_ : Int) + x12))) (IntKind.wrap .u8 (Int.fdiv x4 (2 ^ (min (Int.toNat (IntKind.wrap .i64 (8 * x12))) (IntKind.bits .u32))))), List.set x11 (Int.toNat (IntKind.wrap .i64 ((at_ : Int) + x12))) true, IntKind.wrap .i64 (x12 + 1)))) else (some (Lp.brk (x10, x11, x12))) : Option (Lp ((List Int) × (List Bool) × Int) (Unit)))) NN (d, s, 0)).bind fun o => o.thn (fun (x10, x11, x12) => some ((0 : Int), (⟨List.set (mem1 (ob d s m)).list (Int.toNat 0) ({ ob d s x5 with bytes := (⟨x10, x11⟩ : StoreBytes) })⟩ : StoreStore))) (fun _ => none)) = some (0, mem1 (ob (wrl d at_ (byt x4) z) (wrl s at_ (fun _ => true) z) x5)) := by
    intro x4 x5
    refine run_bind (fun k => (wrl d at_ (byt x4) k, wrl s at_ (fun _ => true) k, (k : Int))) z (.brk (wrl d at_ (byt x4) z, wrl s at_ (fun _ => true) z, (z : Int))) rfl (by omega) (fun k hk => ?_) (by dsimp only; rw [c0 (dge _)]) trivial rfl
    dsimp only
    rw [c1 (dlt hk)]
    refine bnd (nn_ok (by rw [w64 (by omega)]; omega)) ?_
    rw [w64 (x := (at_ : Int) + (k : Int)) (by omega), show (at_ : Int) + (k : Int) = ((at_ + k : Nat) : Int) by omega]
    refine bnd (idx_get (by rw [wrl_len]; omega)) ?_
    refine bnd (idx_get (by rw [wrl_len]; omega)) ?_
    refine bnd (idx_get (by rw [wrl_len]; omega)) ?_
    refine bnd (idx_get (by rw [wrl_len]; omega)) ?_
    rw [w64 (x := (k : Int) + 1) (by omega)]
    rfl
  cases hv : v.Is with
  | false =>
    exact key v.Num fm
  | true =>
    cases fm with
    | none => exact key 0 (some (mSet [] (at_ : Int) v.Ptr))
    | some l => exact key 0 (some (mSet l (at_ : Int) v.Ptr))
theorem put_dead (lo hi off : Int) (v : StoreValue) (h : v.Is = false) : store_Store_Put (mem1 deadO) ⟨1, lo, hi, off⟩ 1 v = some (15, mem1 deadO) := by
  unfold store_Store_Put
  rw [h]
  refine bnd (place_dead _ _ _) ?_
  rfl

theorem fill_ok {d data : List Int} {s : List Bool} (hl : data.length ≤ d.length) (hs : s.length = d.length) (h : d.length ≤ 100000) :
    store_Store_Fill (mem1 (ob d s none)) 1 data = some (0, mem1 (ob (wrl d 0 (fun k => data.getD k 0) data.length) (wrl s 0 (fun _ => true) data.length) none)) := by
  unfold store_Store_Fill
  refine bnd (object_eq _) ?_
  dsimp only [ob, cond_false]
  rw [c0 (by rfl)]
  refine bnd (idx0 _) ?_
  rw [c0 (df (by dsimp only; omega))]
  refine run_bind (fun k => ((k : Int), ob (wrl d 0 (fun k => data.getD k 0) k) (wrl s 0 (fun _ => true) k) none)) data.length (.brk ((data.length : Int), ob (wrl d 0 (fun k => data.getD k 0) data.length) (wrl s 0 (fun _ => true) data.length) none)) rfl (by omega) (fun k hk => ?_) (by dsimp only; rw [c0 (dge _)]) trivial rfl
  dsimp only
  rw [c1 (dlt hk)]
  refine bnd (idx_get hk) ?_
  refine bnd (forget_none _ _ _ _) ?_
  refine bnd (idx_get (by show k < (wrl _ _ _ k).length; rw [wrl_len]; omega)) ?_
  refine bnd (idx_get (by show k < (wrl _ _ _ k).length; rw [wrl_len]; omega)) ?_
  refine bnd (idx_get (by show k < (wrl _ _ _ k).length; rw [wrl_len]; omega)) ?_
  refine bnd (idx_get (by show k < (wrl _ _ _ k).length; rw [wrl_len]; omega)) ?_
  rw [w64 (by omega)]
  have e1 : wrl d 0 (fun k => data.getD k 0) (k + 1) = (wrl d 0 (fun k => data.getD k 0) k).set k data[k] := by
    rw [wrl, Nat.zero_add]
    rw [List.getD_eq_getElem?_getD, List.getElem?_eq_getElem hk]
    rfl
  have e2 : wrl s 0 (fun _ => true) (k + 1) = (wrl s 0 (fun _ => true) k).set k true := by rw [wrl, Nat.zero_add]
  rw [e1, e2]
  rfl
theorem unset_ok {d : List Int} {s : List Bool} {m : Option (List (Int × StorePtr))} (h : d.length ≤ 100000) : store_Store_Unset (mem1 (ob d s m)) 1 = some (0, mem1 (ob (List.replicate d.length 0) (List.replicate d.length false) none)) := by
  unfold store_Store_Unset
  refine bnd (object_eq _) ?_
  dsimp only [ob, cond_false]
  rw [c0 (by rfl)]
  refine bnd (idx0 _) ?_
  refine bnd (repl_ok h) ?_
  refine bnd (repl_ok h) ?_
  rfl
theorem drop_ok {d : List Int} {s : List Bool} {m : Option (List (Int × StorePtr))} : store_Store_Drop (mem1 (ob d s m)) 1 = some (0, mem1 deadO) := by
  unfold store_Store_Drop
  refine bnd (object_eq _) ?_
  rfl
theorem drop_dead : store_Store_Drop (mem1 deadO) 1 = some (4, mem1 deadO) := by
  unfold store_Store_Drop
  refine bnd (object_eq _) ?_
  rfl
theorem StoreGone_law (p0 p1 p2 : Int) (h0 : -9223372036854775808 ≤ p0 ∧ p0 < 9223372036854775808) (h1 : -9223372036854775808 ≤ p1 ∧ p1 < 9223372036854775808) (h2 : -9223372036854775808 ≤ p2 ∧ p2 < 9223372036854775808) : law11_StoreGone p0 p1 p2 = some true := by
  unfold law11_StoreGone
  by_cases a1 : p0 < 1
  · rw [c1 (dt a1), awake_eq]; rfl
  rw [c0 (df a1)]
  by_cases a2 : 300 < p0
  · rw [c1 (dt a2), awake_eq]; rfl
  rw [c0 (df a2)]
  by_cases a3 : p1 < 0
  · rw [c1 (dt a3), awake_eq]; rfl
  rw [c0 (df a3)]
  by_cases a4 : p2 < 1
  · rw [c1 (dt a4), awake_eq]; rfl
  rw [c0 (df a4)]
  by_cases a5 : p0 < p1
  · rw [c1 (dt a5), awake_eq]; rfl
  rw [c0 (df a5), w64 (by omega)]
  by_cases a6 : p0 - p1 < p2
  · rw [c1 (dt a6), awake_eq]; rfl
  rw [c0 (df a6)]
  obtain ⟨n, rfl⟩ := Int.eq_ofNat_of_zero_le (show 0 ≤ p0 by omega)
  obtain ⟨a, rfl⟩ := Int.eq_ofNat_of_zero_le (show 0 ≤ p1 by omega)
  have hn : n ≤ 300 := by omega
  refine bnd (x := ⟨[]⟩) rfl ?_
  refine bnd (make_eq (by omega)) ?_
  refine bnd (repl_ok (by omega)) ?_
  dsimp only
  refine bnd (fill_ok (by simp) (by simp) (by simp; omega)) ?_
  dsimp only
  rw [List.length_replicate]
  generalize hD : wrl (List.replicate n (0 : Int)) 0 (fun k => (List.replicate n (0 : Int)).getD k 0) n = D
  generalize hS : wrl (List.replicate n false) 0 (fun _ => true) n = S
  have hDl : D.length = n := by rw [← hD, wrl_len, List.length_replicate]
  have hSg : ∀ i, i < n → S[i]? = some true := fun i hi => by rw [← hS, wrl_get, if_pos (by simp; omega)]
  refine bnd (part_ok rfl (by omega) (by omega) (by omega) (by omega) (by omega) (by omega) (by omega)) ?_
  dsimp only
  rw [Int.zero_add]
  have han : a < n := by omega
  refine bnd (load_ok (z := 1) ⟨.inl rfl, fun h => (by cases h), Int.le_refl _, by omega, by omega, by omega, by omega⟩ (fun k => D.getD (a + k) 0) (fun k hk => hSg _ (by omega)) (fun k hk => by rw [List.getD_eq_getElem?_getD, List.getElem?_eq_getElem (by omega)]; rfl)) ?_
  refine bnd (unset_ok (by omega)) ?_
  rw [hDl]
  dsimp only
  refine bnd (load_unset ⟨.inl rfl, fun h => (by cases h), Int.le_refl _, by omega, by omega, by simp; omega, by simp; omega⟩ (by rw [List.getElem?_eq_getElem (by simp; omega), List.getElem_replicate])) ?_
  refine bnd (put_ok (z := 1) (v := ⟨9, ⟨0, 0, 0, 0⟩, false⟩) ⟨.inl rfl, fun h => (by cases h), Int.le_refl _, by omega, by omega, by simp; omega, by simp; omega⟩ (by simp) (forget_none _ _ _ _)) ?_
  dsimp only
  refine bnd drop_ok ?_
  dsimp only
  refine bnd (load_dead _ _ _) ?_
  refine bnd (put_dead _ _ _ _ rfl) ?_
  dsimp only
  refine bnd (move_dead _ _ _ _) ?_
  refine bnd awake_eq ?_
  dsimp only [cond_true, cond_false]
  rw [c1 (by rfl), c1 (by rfl), c1 (by rfl), c1 (by rfl), c1 (by rfl), c1 (by rfl), c1 (by rfl), c1 (by rfl), c1 (by rfl), c1 (by rfl), c1 (by rfl)]
  refine bnd drop_dead ?_
  rfl
theorem sane_eq (p : StorePtr) : ∃ b, ref11_sane p = some b := by
  unfold ref11_sane
  cases decide ((-100000) ≤ p.Lo) <;> cases decide (p.Lo ≤ 100000) <;> cases decide ((-100000) ≤ p.Hi) <;> cases decide (p.Hi ≤ 100000) <;> cases decide ((-100000) ≤ p.Off) <;> exact ⟨_, rfl⟩
theorem Sane_eq (p : StorePtr) (a b : Int) : ∃ c, ref11_Sane p a b = some c := by
  obtain ⟨c, hc⟩ := sane_eq p
  unfold ref11_Sane
  rw [hc, Option.bind_some]
  cases c <;> cases decide ((-100000) ≤ a) <;> cases decide (a ≤ 100000) <;> cases decide ((-100000) ≤ b) <;> exact ⟨_, rfl⟩
theorem Few_eq (p : law11Act) : ∃ b, law11_Few [p] = some b := by
  obtain ⟨c, hc⟩ := Sane_eq p.P p.N p.Size
  have hb : (fun (x1 : Int) => (bif decide (x1 < (List.length [p] : Int)) then ((idx [p] x1).bind fun u1 => bif decide (300 < u1.N) then (bif decide (u1.N ≤ 32768) then (bif (Int.tmod u1.Kind 100) == 0 then (some (Lp.ret false)) else (bif decide (300 < (List.length u1.Data : Int)) then (some (Lp.ret false)) else ((ref11_Sane u1.P u1.N u1.Size).bind fun y1 => bif !y1 then (some (Lp.ret false)) else (some (Lp.go (IntKind.wrap .i64 (x1 + 1))))))) else (bif decide (300 < (List.length u1.Data : Int)) then (some (Lp.ret false)) else ((ref11_Sane u1.P u1.N u1.Size).bind fun y2 => bif !y2 then (some (Lp.ret false)) else (some (Lp.go (IntKind.wrap .i64 (x1 + 1))))))) else (bif decide (300 < (List.length u1.Data : Int)) then (some (Lp.ret false)) else ((ref11_Sane u1.P u1.N u1.Size).bind fun y3 => bif !y3 then (some (Lp.ret false)) else (some (Lp.go (IntKind.wrap .i64 (x1 + 1))))))) else (some (Lp.brk x1)) : Option (Lp (Int) (Bool)))) 0 = some (.ret false) ∨ (fun (x1 : Int) => (bif decide (x1 < (List.length [p] : Int)) then ((idx [p] x1).bind fun u1 => bif decide (300 < u1.N) then (bif decide (u1.N ≤ 32768) then (bif (Int.tmod u1.Kind 100) == 0 then (some (Lp.ret false)) else (bif decide (300 < (List.length u1.Data : Int)) then (some (Lp.ret false)) else ((ref11_Sane u1.P u1.N u1.Size).bind fun y1 => bif !y1 then (some (Lp.ret false)) else (some (Lp.go (IntKind.wrap .i64 (x1 + 1))))))) else (bif decide (300 < (List.length u1.Data : Int)) then (some (Lp.ret false)) else ((ref11_Sane u1.P u1.N u1.Size).bind fun y2 => bif !y2 then (some (Lp.ret false)) else (some (Lp.go (IntKind.wrap .i64 (x1 + 1))))))) else (bif decide (300 < (List.length u1.Data : Int)) then (some (Lp.ret false)) else ((ref11_Sane u1.P u1.N u1.Size).bind fun y3 => bif !y3 then (some (Lp.ret false)) else (some (Lp.go (IntKind.wrap .i64 (x1 + 1))))))) else (some (Lp.brk x1)) : Option (Lp (Int) (Bool)))) 0 = some (.go 1) := by
    dsimp only
    rw [c1 (by rfl), show idx [p] 0 = some p from rfl, Option.bind_some, hc]
    simp only [Option.bind_some]
    cases decide (300 < p.N) <;> cases decide (p.N ≤ 32768) <;> cases (Int.tmod p.Kind 100 == 0) <;> cases decide (300 < (List.length p.Data : Int)) <;> cases c <;> first | exact .inl rfl | exact .inr rfl
  unfold law11_Few
  rw [c0 (by rfl)]
  rcases hb with hb | hb
  · refine ⟨false, run_bind (fun k => (k : Int)) 0 (.ret false) rfl (by omega) (fun k hk => by omega) hb trivial rfl⟩
  · refine ⟨true, run_bind (fun k => (k : Int)) 1 (.brk 1) rfl (by omega) (fun k hk => ?_) rfl trivial rfl⟩
    have : k = 0 := by omega
    subst this
    exact hb
theorem StoreNone_law (p : law11Act) : law11_StoreNone p = some true := by
  obtain ⟨b, hb⟩ := Few_eq p
  unfold law11_StoreNone
  refine bnd hb ?_
  cases b with
  | false => rw [c1 (by rfl), awake_eq]; rfl
  | true =>
    rw [c0 (by rfl)]
    refine bnd (x := (⟨0, 0, 0, 0⟩, 1)) rfl ?_
    refine bnd (x := (⟨0, ⟨0, 0, 0, 0⟩, false⟩, 1)) rfl ?_
    refine bnd (x := (⟨0, 0, 0, 0⟩, 1)) rfl ?_
    refine bnd (x := (⟨0, 0, 0, 0⟩, 1)) rfl ?_
    refine bnd awake_eq ?_
    rw [c1 (by rfl), c1 (by rfl), c1 (by rfl), c1 (by rfl), c1 (by rfl), c1 (by rfl), c1 (by rfl), c1 (by rfl), c1 (by rfl)]
    refine bnd (x := 1) rfl ?_
    rw [c1 (by rfl)]
    refine bnd (x := 1) rfl ?_
    rw [c1 (by rfl)]
    refine bnd (x := 1) rfl ?_
    rw [c1 (by rfl)]
    refine bnd (x := 1) rfl ?_
    rw [c1 (by rfl)]
    rfl

theorem StoreBack_law (c : law11Put) (h1 : -9223372036854775808 ≤ c.Size ∧ c.Size < 9223372036854775808) (h2 : -9223372036854775808 ≤ c.At ∧ c.At < 9223372036854775808) (hv : 0 ≤ c.V.Num ∧ c.V.Num < 4294967296) (hw : 0 ≤ c.W.Num ∧ c.W.Num < 4294967296) : law11_StoreBack c = some true := by
  obtain ⟨size, at_, v, w⟩ := c
  dsimp only at h1 h2 hv hw
  unfold law11_StoreBack
  dsimp only
  by_cases a1 : size < 8
  · rw [c1 (dt a1), awake_eq]; rfl
  rw [c0 (df a1)]
  by_cases a2 : 300 < size
  · rw [c1 (dt a2), awake_eq]; rfl
  rw [c0 (df a2)]
  by_cases a3 : at_ < 0
  · rw [c1 (dt a3), awake_eq]; rfl
  rw [c0 (df a3), w64 (x := size - 8) (by omega)]
  by_cases a4 : size - 8 < at_
  · rw [c1 (dt a4), awake_eq]; rfl
  rw [c0 (df a4)]
  obtain ⟨n, rfl⟩ := Int.eq_ofNat_of_zero_le (show 0 ≤ size by omega)
  obtain ⟨a, rfl⟩ := Int.eq_ofNat_of_zero_le (show 0 ≤ at_ by omega)
  refine bnd (x := ⟨[]⟩) rfl ?_
  refine bnd (make_eq (by omega)) ?_
  dsimp only
  refine bnd (move_ok rfl (by omega) (by omega) (by omega) (by omega) (by omega)) ?_
  rw [w64 (x := (a : Int) + 4) (by omega)]
  refine bnd (move_ok rfl (by omega) (by omega) (by omega) (by omega) (by omega)) ?_
  dsimp only
  rw [Int.zero_add, Int.zero_add]
  refine bnd (put_ok (z := 4) (v := v) ⟨.inr rfl, fun _ => rfl, by omega, by omega, by omega, by simp; omega, by simp; omega⟩ (by simp) (forget_none _ _ _ _)) ?_
  dsimp only
  -- the second value
  generalize hn1 : (bif v.Is then 0 else v.Num) = n1
  generalize hn2 : (bif w.Is then 0 else w.Num) = n2
  have hf : ∀ (d : List Int) (s : List Bool), store_object_forget (ob d s (bif v.Is then some (mSet ((none : Option (List (Int × StorePtr))).getD []) (a : Int) v.Ptr) else none)) (((a + 4 : Nat) : Int)) ((4 : Nat) : Int) = some (ob d s (bif v.Is then some (mSet ((none : Option (List (Int × StorePtr))).getD []) (a : Int) v.Ptr) else none)) := by
    intro d s
    cases v.Is with
    | false => exact forget_none _ _ _ _
    | true => exact forget_one d s a v.Ptr (by omega)
  rw [show (a : Int) + 4 = ((a + 4 : Nat) : Int) by omega]
  refine bnd (put_ok (z := 4) (v := w) ⟨.inr rfl, fun _ => rfl, by omega, by omega, by omega, by rw [wrl_len]; simp; omega, by rw [wrl_len]; simp; omega⟩ (by rw [wrl_len, wrl_len]; simp) (hf _ _)) ?_
  dsimp only
  rw [hn2]
  generalize hM : (bif w.Is then some (mSet ((bif v.Is then some (mSet ((none : Option (List (Int × StorePtr))).getD []) (a : Int) v.Ptr) else none : Option (List (Int × StorePtr))).getD []) (((a + 4 : Nat) : Int)) w.Ptr) else (bif v.Is then some (mSet ((none : Option (List (Int × StorePtr))).getD []) (a : Int) v.Ptr) else none)) = M
  have hlen : (wrl (wrl (List.replicate n (0 : Int)) a (byt n1) 4) (a + 4) (byt n2) 4).length = n := by rw [wrl_len, wrl_len, List.length_replicate]
  refine bnd (load_ok (z := 4) (b := v.Is) ⟨.inr rfl, fun _ => rfl, by omega, by omega, by omega, by rw [hlen]; omega, by rw [hlen]; omega⟩ (byt n1)
    (fun k hk => by rw [wrl_get, if_neg (by omega), wrl_get, if_pos (by simp; omega)])
    (fun k hk => by rw [wrl_get, if_neg (by omega), wrl_get, if_pos (by simp; omega), show a + k - a = k by omega])) ?_
  refine bnd (load_ok (z := 4) (b := w.Is) ⟨.inr rfl, fun _ => rfl, by omega, by omega, by omega, by rw [hlen]; omega, by rw [hlen]; omega⟩ (byt n2)
    (fun k hk => by rw [wrl_get, if_pos (by rw [wrl_len]; simp; omega)])
    (fun k hk => by rw [wrl_get, if_pos (by rw [wrl_len]; simp; omega), show a + 4 + k - (a + 4) = k by omega])) ?_
  rw [acc_byt (n := n1) (by rw [← hn1]; cases v.Is <;> simp <;> omega), acc_byt (n := n2) (by rw [← hn2]; cases w.Is <;> simp <;> omega)]
  obtain ⟨vn, vp, vi⟩ := v
  obtain ⟨wn, wp, wi⟩ := w
  dsimp only at hn1 hn2 hM ⊢
  have hg1 : vi = true → (mGetO M (a : Int)).getD pz = vp := by
    intro h
    subst h
    rw [← hM]
    cases wi with
    | false => simp [mGetO, mSet, mGet]
    | true =>
      show ((mGet (mSet [((a : Int), vp)] (((a + 4 : Nat) : Int)) wp) (a : Int))).getD pz = vp
      rw [mGet_set, if_neg (by omega)]
      simp [mGet]
  have hg2 : wi = true → (mGetO M (((a + 4 : Nat) : Int))).getD pz = wp := by
    intro h
    subst h
    rw [← hM]
    show ((mGet (mSet _ (((a + 4 : Nat) : Int)) wp) (((a + 4 : Nat) : Int)))).getD pz = wp
    rw [mGet_set, if_pos rfl]
    rfl
  cases vi <;> cases wi <;> simp only [cond_true, cond_false] at hn1 hn2 hg1 hg2 ⊢ <;> subst hn1 hn2
  all_goals
    rw [c0 (by rfl), c0 (by rfl), c0 (by rfl), c0 (by rfl), c0 (by rfl), c0 (by rfl), c0 (by rfl)]
    simp only [jn]
    refine bnd awake_eq ?_
    try rw [hg1 trivial]
    try rw [hg2 trivial]
    simp [pz]
end Go.Proofs.Ytncfbaodlbgabaa
