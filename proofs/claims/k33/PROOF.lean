import PyProof.Rows.All
import Wide.All
import OpenK.AllK
import Wide.FinOn
import HandS.ForMost
import HandS.Wide
import HandS.TupAny
import HandS.Zip
import HandS.Style
import HandS.Star
import HandS.IsInst
import KE.KTupSum
import KE.GoesEnum
import KE.KDictZip
import HandS.Walk
import HandS.Codes
import PySem.Challenge.RW_touchtowers_k33_whole_papers_of_orders
set_option Elab.async false
set_option linter.all false
set_option maxRecDepth 100000
set_option maxHeartbeats 4000000
/-! k33: the plain law. Papers of orders, core Lean alone. -/
namespace K33
def gc (a b : Int) : Int := (Int.gcd a b : Int)
/-- the common divisors of the beginnings -/
def coms : Int → List Int → List Int
  | e, [] => [e]
  | e, b :: r => e :: coms (gc e b) r
/-- the shares -/
def shs : Int → List Int → List Int
  | _, [] => []
  | e, b :: r => (e / gc e b) :: shs (gc e b) r
/-- positive, each share at least 2, the last divisor 1 -/
def Gd : Int → List Int → Prop
  | e, [] => e = 1
  | e, b :: r => 0 < b ∧ 2 ≤ e / gc e b ∧ Gd (gc e b) r
/-- each one above the elder one times its share -/
def Up : Int → Int → List Int → Prop
  | _, _, [] => True
  | L, e, b :: r => L < b ∧ Up (b * (e / gc e b)) (gc e b) r
/-- the bounds of a paper's tail -/
def Bnd : Int → List Int → List Int → Prop
  | _, [], [] => True
  | e, b :: r, k :: ks => (0 ≤ k ∧ k < e / gc e b) ∧ Bnd (gc e b) r ks
  | _, _, _ => False
def dot : List Int → List Int → Int
  | k :: ks, b :: bs => k * b + dot ks bs
  | _, _ => 0
theorem dot_cons (k b : Int) (ks bs : List Int) : dot (k :: ks) (b :: bs) = k * b + dot ks bs := rfl
theorem gc_pos {e b : Int} (h : 0 < e) : 0 < gc e b := by
  have h1 : e ≠ 0 := by omega
  have := Int.gcd_pos_of_ne_zero_left b h1
  unfold gc
  omega
theorem gc_dvd_l (e b : Int) : gc e b ∣ e := Int.gcd_dvd_left ..
theorem gc_dvd_r (e b : Int) : gc e b ∣ b := Int.gcd_dvd_right ..
theorem gc_mul {e b : Int} : e / gc e b * gc e b = e := Int.ediv_mul_cancel (gc_dvd_l e b)
theorem gc_mulr {e b : Int} : b / gc e b * gc e b = b := Int.ediv_mul_cancel (gc_dvd_r e b)
/-- coprime cofactors -/
theorem gc_cop {e b : Int} (h : 0 < e) : Int.gcd (e / gc e b) (b / gc e b) = 1 := by
  have h1 : 0 < Int.gcd e b := Int.gcd_pos_of_ne_zero_left b (by omega)
  exact Int.gcd_ediv_gcd_ediv_gcd h1
theorem cop_dvd {n c k : Int} (h : Int.gcd n c = 1) (d : n ∣ k * c) : n ∣ k := by
  have h' : Nat.Coprime n.natAbs c.natAbs := h
  have d' : n.natAbs ∣ k.natAbs * c.natAbs := by rw [← Int.natAbs_mul]; exact Int.natAbs_dvd_natAbs.mpr d
  exact Int.natAbs_dvd_natAbs.mp (h'.dvd_of_dvd_mul_right d')
theorem small_eq {n k k' : Int} (h0 : 0 ≤ k) (h1 : k < n) (h0' : 0 ≤ k') (h1' : k' < n) (d : n ∣ k - k') : k = k' := by
  have e1 : k % n = k := Int.emod_eq_of_lt h0 h1
  have e2 : k' % n = k' := Int.emod_eq_of_lt h0' h1'
  have := (Int.emod_eq_emod_iff_emod_sub_eq_zero).mpr (Int.emod_eq_zero_of_dvd d)
  omega
/-- just one paper -/
theorem uniq : ∀ (bs : List Int) (e : Int) (ks ks' : List Int) (l l' : Int), 0 < e → Bnd e bs ks → Bnd e bs ks' → e ∣ l → e ∣ l' → l + dot ks bs = l' + dot ks' bs → l = l' ∧ ks = ks'
  | [], e, [], [], l, l', _, _, _, _, _, h => ⟨by simpa [dot] using h, rfl⟩
  | [], e, _ :: _, _, l, l', _, h, _, _, _, _ => h.elim
  | [], e, [], _ :: _, l, l', _, _, h, _, _, _ => h.elim
  | b :: r, e, [], _, l, l', _, h, _, _, _, _ => h.elim
  | b :: r, e, _ :: _, [], l, l', _, _, h, _, _, _ => h.elim
  | b :: r, e, k :: ks, k' :: ks', l, l', he, h, h', d, d', q => by
    obtain ⟨⟨h0, h1⟩, hb⟩ := h
    obtain ⟨⟨h0', h1'⟩, hb'⟩ := h'
    rw [dot_cons, dot_cons] at q
    have dl : gc e b ∣ l + k * b := Int.dvd_add (Int.dvd_trans (gc_dvd_l e b) d) (Int.dvd_mul_of_dvd_right (gc_dvd_r e b))
    have dl' : gc e b ∣ l' + k' * b := Int.dvd_add (Int.dvd_trans (gc_dvd_l e b) d') (Int.dvd_mul_of_dvd_right (gc_dvd_r e b))
    obtain ⟨e1, e2⟩ := uniq r (gc e b) ks ks' (l + k * b) (l' + k' * b) (gc_pos he) hb hb' dl dl' (by omega)
    have dd : e ∣ (k - k') * b := by
      have : (k - k') * b = l' - l := by rw [Int.sub_mul]; omega
      rw [this]
      exact Int.dvd_sub d' d
    have d3 : e / gc e b ∣ (k - k') * (b / gc e b) := by
      have g0 : gc e b ≠ 0 := by have := gc_pos (b := b) he; omega
      refine Int.dvd_of_mul_dvd_mul_right g0 ?_
      rw [gc_mul, Int.mul_assoc, gc_mulr]
      exact dd
    have ek : k = k' := small_eq h0 h1 h0' h1' (cop_dvd (gc_cop he) d3)
    subst ek
    exact ⟨by omega, by rw [e2]⟩
/-- one step of a paper's making -/
theorem step {e b l v : Int} (he : 0 < e) (d : gc e b ∣ l) (hv : e / gc e b ∣ v * (b / gc e b) - 1) :
    e ∣ l - (l / gc e b * v) % (e / gc e b) * b := by
  have g0 := gc_pos (b := b) he
  -- in units of the divisor
  obtain ⟨c, hc⟩ : ∃ c, c = b / gc e b := ⟨_, rfl⟩
  obtain ⟨n, hn⟩ : ∃ n, n = e / gc e b := ⟨_, rfl⟩
  obtain ⟨q, hq⟩ : ∃ q, q = l / gc e b := ⟨_, rfl⟩
  have eb : b = c * gc e b := by rw [hc]; exact gc_mulr.symm
  have ee : e = n * gc e b := by rw [hn]; exact gc_mul.symm
  have el : l = q * gc e b := by rw [hq]; exact (Int.ediv_mul_cancel d).symm
  rw [← hc, ← hn] at hv
  rw [← hn, ← hq]
  obtain ⟨t, ht⟩ := hv
  have hm := Int.emod_add_mul_ediv (q * v) n
  obtain ⟨k, hk⟩ : ∃ k, k = (q * v) % n := ⟨_, rfl⟩
  obtain ⟨u, hu⟩ : ∃ u, u = q * v / n := ⟨_, rfl⟩
  rw [← hk, ← hu] at hm
  rw [← hk]
  have key : q - k * c = n * (u * c - q * t) := by
    have h1 : k = q * v - n * u := by omega
    have h2 : v * c = n * t + 1 := by omega
    rw [h1, Int.sub_mul, Int.mul_assoc q v c, h2, Int.mul_add, Int.mul_one, Int.mul_sub, ← Int.mul_assoc q n t, Int.mul_comm q n, Int.mul_assoc n q t, Int.mul_assoc n u c]
    omega
  refine ⟨u * c - q * t, ?_⟩
  calc l - k * b = (q - k * c) * gc e b := by
        rw [Int.sub_mul, ← el, Int.mul_assoc, ← eb]
    _ = e * (u * c - q * t) := by
        rw [key, Int.mul_right_comm, ← ee]
/-! ### sums with carried sets -/
def Cl (S : Int → Prop) : Prop := ∀ x y, S x → S y → S (x + y)
def Full (S : Int → Prop) (e c : Int) : Prop := ∀ x, e ∣ x → c ≤ x → S x
def Ext (S : Int → Prop) (b n : Int) (y : Int) : Prop := ∃ z a, S z ∧ (0 ≤ a ∧ a < n) ∧ y = z + a * b
def Ls (S : Int → Prop) (e : Int) (bs : List Int) (x : Int) : Prop := ∃ z ks, S z ∧ Bnd e bs ks ∧ x = z + dot ks bs
theorem ls_nil {S : Int → Prop} {e x : Int} : Ls S e [] x ↔ S x := by
  constructor
  · rintro ⟨z, ks, h, hb, rfl⟩
    cases ks with
    | nil => simpa [dot] using h
    | cons k r => exact hb.elim
  · intro h
    exact ⟨x, [], h, trivial, by simp [dot]⟩
theorem ls_cons {S : Int → Prop} {e b x : Int} {r : List Int} : Ls S e (b :: r) x ↔ Ls (Ext S b (e / gc e b)) (gc e b) r x := by
  constructor
  · rintro ⟨z, ks, h, hb, rfl⟩
    cases ks with
    | nil => exact hb.elim
    | cons k ks => exact ⟨z + k * b, ks, ⟨z, k, h, hb.1, rfl⟩, hb.2, by rw [dot_cons]; omega⟩
  · rintro ⟨z, ks, ⟨y, a, h, ha, rfl⟩, hb, rfl⟩
    exact ⟨y, a :: ks, h, ⟨ha, hb⟩, by rw [dot_cons]; omega⟩
theorem ext_cl {S : Int → Prop} {b n : Int} (hn : 0 < n) (c : Cl S) (h : S (n * b)) : Cl (Ext S b n) := by
  rintro x y ⟨z, a, hz, ⟨a0, a1⟩, rfl⟩ ⟨z', a', hz', ⟨a0', a1'⟩, rfl⟩
  by_cases hlt : a + a' < n
  · exact ⟨z + z', a + a', c _ _ hz hz', ⟨by omega, hlt⟩, by rw [Int.add_mul]; omega⟩
  · exact ⟨z + z' + n * b, a + a' - n, c _ _ (c _ _ hz hz') h, ⟨by omega, by omega⟩, by rw [Int.sub_mul, Int.add_mul]; omega⟩
/-! ### the inverse -/
theorem gcd_mod (n c : Int) : Int.gcd n (c % n) = Int.gcd n c := by
  have h := Int.gcd_add_mul_right_right n (c % n) (c / n)
  have e : c % n + c / n * n = c := Int.emod_add_ediv_mul c n
  rw [e] at h
  exact h.symm
structure InvSt (n c one other first second : Int) : Prop where
  d1 : n ∣ first * c - one
  d2 : n ∣ second * c - other
  g : Int.gcd one other = 1
  lo : 1 ≤ other
theorem InvSt.start {n c : Int} (hn : 2 ≤ n) (h : Int.gcd n c = 1) : InvSt n c n (c % n) 0 1 := by
  have hg : Int.gcd n (c % n) = 1 := by rw [gcd_mod]; exact h
  have h0 := Int.emod_nonneg c (show n ≠ 0 by omega)
  refine ⟨⟨-1, by omega⟩, ?_, hg, ?_⟩
  · rw [Int.one_mul]
    exact Int.dvd_self_sub_emod
  · by_cases e : c % n = 0
    · rw [e, Int.gcd_zero_right] at hg
      omega
    · omega
theorem InvSt.turn {n c one other first second : Int} (p : InvSt n c one other first second) (h : 1 < other) :
    InvSt n c other (one - one / other * other) second (first - one / other * second) := by
  have em : one - one / other * other = one % other := by
    have := Int.emod_add_mul_ediv one other
    rw [Int.mul_comm] at this
    omega
  have hg : Int.gcd other (one % other) = 1 := by rw [gcd_mod, Int.gcd_comm]; exact p.g
  have h0 := Int.emod_nonneg one (show other ≠ 0 by omega)
  refine ⟨p.d2, ?_, by rw [em]; exact hg, ?_⟩
  · have e : (first - one / other * second) * c - (one - one / other * other) = (first * c - one) - one / other * (second * c - other) := by
      rw [Int.sub_mul, Int.mul_sub, Int.mul_assoc]
      omega
    rw [e]
    exact Int.dvd_sub p.d1 (Int.dvd_mul_of_dvd_right p.d2)
  · rw [em]
    by_cases e : one % other = 0
    · rw [e, Int.gcd_zero_right] at hg
      omega
    · omega
theorem InvSt.less {one other : Int} (h : 1 < other) : (one - one / other * other).toNat < other.toNat := by
  have em : one - one / other * other = one % other := by
    have := Int.emod_add_mul_ediv one other
    rw [Int.mul_comm] at this
    omega
  have h0 := Int.emod_nonneg one (show other ≠ 0 by omega)
  have h1 := Int.emod_lt_of_pos one (show 0 < other by omega)
  omega
theorem InvSt.done {n c one other first second : Int} (p : InvSt n c one other first second) (h : ¬ 1 < other) : n ∣ second * c - 1 := by
  have := p.lo
  have e : other = 1 := by omega
  have := p.d2
  rwa [e] at this
theorem InvSt.ex : ∀ (m : Nat) {n c one other first second : Int}, other.toNat ≤ m → InvSt n c one other first second → ∃ v, n ∣ v * c - 1
  | 0, n, c, one, other, first, second, hm, p => ⟨second, p.done (by omega)⟩
  | m + 1, n, c, one, other, first, second, hm, p => by
    by_cases h : 1 < other
    · exact InvSt.ex m (by have := InvSt.less (one := one) h; omega) (p.turn h)
    · exact ⟨second, p.done h⟩
/-- v exists -/
theorem inv_ex {n c : Int} (hn : 0 < n) (h : Int.gcd n c = 1) : ∃ v, n ∣ v * c - 1 := by
  by_cases h2 : 2 ≤ n
  · exact InvSt.ex _ (Nat.le_refl _) (InvSt.start h2 h)
  · have e : n = 1 := by omega
    exact ⟨0, by rw [e]; exact Int.one_dvd _⟩
theorem ext_full {S : Int → Prop} {e c b : Int} (he : 0 < e) (hb : 0 < b) (f : Full S e c) : Full (Ext S b (e / gc e b)) (gc e b) (c + (e / gc e b - 1) * b) := by
  intro x d hx
  have np : 0 < e / gc e b := by
    have h2 := gc_pos (b := b) he
    exact Int.ediv_pos_of_pos_of_dvd he (by omega) (gc_dvd_l e b)
  obtain ⟨v, hv⟩ := inv_ex np (gc_cop (b := b) he)
  have hd := step he d hv
  have k0 := Int.emod_nonneg (x / gc e b * v) (show e / gc e b ≠ 0 by omega)
  have k1 := Int.emod_lt_of_pos (x / gc e b * v) np
  obtain ⟨k, hk⟩ : ∃ k, k = (x / gc e b * v) % (e / gc e b) := ⟨_, rfl⟩
  rw [← hk] at hd k0 k1
  refine ⟨x - k * b, k, f _ hd ?_, ⟨k0, k1⟩, by omega⟩
  have : k * b ≤ (e / gc e b - 1) * b := Int.mul_le_mul_of_nonneg_right (by omega) (by omega)
  omega
theorem ls_cl : ∀ (bs : List Int) (e : Int) (S : Int → Prop) (c L : Int), 0 < e → Gd e bs → Up L e bs → Cl S → Full S e c → c ≤ L → Cl (Ls S e bs)
  | [], e, S, c, L, _, _, _, hS, _, _ => fun x y hx hy => ls_nil.mpr (hS _ _ (ls_nil.mp hx) (ls_nil.mp hy))
  | b :: r, e, S, c, L, he, hg, hu, hS, hf, hl => by
    obtain ⟨hb, hn, hg⟩ := hg
    obtain ⟨hu1, hu⟩ := hu
    have nb : S (e / gc e b * b) := by
      refine hf _ ?_ ?_
      · refine ⟨b / gc e b, ?_⟩
        have h1 := gc_mul (e := e) (b := b)
        have h2 := gc_mulr (e := e) (b := b)
        calc e / gc e b * b = e / gc e b * (b / gc e b * gc e b) := by rw [h2]
          _ = e / gc e b * gc e b * (b / gc e b) := by rw [Int.mul_comm (b / gc e b), Int.mul_assoc]
          _ = e * (b / gc e b) := by rw [h1]
      · have : 1 * b ≤ e / gc e b * b := Int.mul_le_mul_of_nonneg_right (by omega) (by omega)
        omega
    have h := ls_cl r (gc e b) _ _ _ (gc_pos he) hg hu (ext_cl (by omega) hS nb) (ext_full he hb hf) (by
      have : (e / gc e b - 1) * b = b * (e / gc e b) - b := by rw [Int.sub_mul, Int.mul_comm]; omega
      omega)
    intro x y hx hy
    exact ls_cons.mpr (h _ _ (ls_cons.mp hx) (ls_cons.mp hy))
theorem bnd_zero : ∀ (bs : List Int) (e : Int), Gd e bs → Bnd e bs (bs.map fun _ => 0)
  | [], _, _ => trivial
  | b :: r, e, h => ⟨⟨Int.le_refl 0, show (0 : Int) < _ by have := h.2.1; omega⟩, bnd_zero r _ h.2.2⟩
theorem dot_zero : ∀ (bs : List Int), dot (bs.map fun _ => 0) bs = 0
  | [] => rfl
  | b :: r => by show 0 * b + dot (r.map fun _ => 0) r = 0; rw [dot_zero r]; omega
theorem bnd_unit : ∀ (bs : List Int) (e : Int), Gd e bs → ∀ b ∈ bs, ∃ ks, Bnd e bs ks ∧ dot ks bs = b
  | b :: r, e, h, c, hc => by
    rcases List.mem_cons.mp hc with rfl | hc
    · exact ⟨1 :: r.map fun _ => 0, ⟨⟨by omega, by have := h.2.1; omega⟩, bnd_zero r _ h.2.2⟩, by rw [dot_cons, dot_zero]; omega⟩
    · obtain ⟨ks, h1, h2⟩ := bnd_unit r _ h.2.2 c hc
      exact ⟨0 :: ks, ⟨⟨by omega, by have := h.2.1; omega⟩, h1⟩, by rw [dot_cons, h2]; omega⟩
theorem dot_nn : ∀ (bs : List Int) (e : Int) (ks : List Int), Gd e bs → Bnd e bs ks → 0 ≤ dot ks bs
  | [], _, [], _, _ => Int.le_refl _
  | [], _, _ :: _, _, h => h.elim
  | b :: r, _, [], _, h => h.elim
  | b :: r, e, k :: ks, h, hb => by
    have h1 := dot_nn r _ ks h.2.2 hb.2
    have h2 := Int.mul_nonneg hb.1.1 (Int.le_of_lt h.1)
    rw [dot_cons]
    omega
theorem bnd_down : ∀ (bs : List Int) (e : Int) (ks : List Int), Bnd e bs ks → dot ks bs ≠ 0 → ∃ b ∈ bs, ∃ ks', Bnd e bs ks' ∧ dot ks' bs = dot ks bs - b
  | [], _, [], _, h => (h rfl).elim
  | [], _, _ :: _, h, _ => h.elim
  | b :: r, _, [], h, _ => h.elim
  | b :: r, e, k :: ks, hb, hd => by
    by_cases hk : k = 0
    · subst hk
      rw [dot_cons] at hd
      obtain ⟨c, hc, ks', h1, h2⟩ := bnd_down r _ ks hb.2 (by omega)
      exact ⟨c, List.mem_cons_of_mem _ hc, 0 :: ks', ⟨hb.1, h1⟩, by rw [dot_cons, dot_cons, h2]; omega⟩
    · have := hb.1
      exact ⟨b, List.mem_cons_self, (k - 1) :: ks, ⟨⟨by omega, by omega⟩, hb.2⟩, by rw [dot_cons, dot_cons, Int.sub_mul]; omega⟩
/-- the other side of the last gap -/
def comp : Int → List Int → List Int → List Int
  | e, b :: r, k :: ks => (e / gc e b - 1 - k) :: comp (gc e b) r ks
  | _, _, _ => []
/-- the sum of (n - 1) * b -/
def top : Int → List Int → Int
  | e, b :: r => (e / gc e b - 1) * b + top (gc e b) r
  | _, [] => 0
theorem comp_ok : ∀ (bs : List Int) (e : Int) (ks : List Int), Bnd e bs ks → Bnd e bs (comp e bs ks) ∧ dot (comp e bs ks) bs = top e bs - dot ks bs
  | [], _, [], _ => ⟨trivial, rfl⟩
  | [], _, _ :: _, h => h.elim
  | b :: r, _, [], h => h.elim
  | b :: r, e, k :: ks, h => by
    obtain ⟨h1, h2⟩ := comp_ok r _ ks h.2
    have := h.1
    refine ⟨⟨⟨by omega, by omega⟩, h1⟩, ?_⟩
    show (e / gc e b - 1 - k) * b + dot (comp (gc e b) r ks) r = (e / gc e b - 1) * b + top (gc e b) r - (k * b + dot ks r)
    rw [h2, Int.sub_mul]
    omega
/-! ### whole papers -/
/-- generators: b, the others -/
structure Gen (b : Int) (bs : List Int) : Prop where
  pos : 0 < b
  gd : Gd b bs
  up : Up b b bs
structure Pap (b : Int) (bs : List Int) (x k : Int) (ks : List Int) : Prop where
  bnd : Bnd b bs ks
  eq : x = k * b + dot ks bs
theorem Pap.uniq {b : Int} {bs : List Int} (g : 0 < b) {x k k' : Int} {ks ks' : List Int} (p : Pap b bs x k ks) (p' : Pap b bs x k' ks') : k = k' ∧ ks = ks' := by
  obtain ⟨h1, h2⟩ := K33.uniq bs b ks ks' (k * b) (k' * b) g p.bnd p'.bnd ⟨k, Int.mul_comm ..⟩ ⟨k', Int.mul_comm ..⟩ (p.eq.symm.trans p'.eq)
  exact ⟨Int.eq_of_mul_eq_mul_right (by omega) h1, h2⟩
def lastG (b : Int) (bs : List Int) : Int := top b bs - b
theorem Pap.gap {b : Int} {bs : List Int} {x k : Int} {ks : List Int} (p : Pap b bs x k ks) : Pap b bs (lastG b bs - x) (-1 - k) (comp b bs ks) := by
  obtain ⟨h1, h2⟩ := comp_ok bs b ks p.bnd
  refine ⟨h1, ?_⟩
  rw [h2, p.eq]
  unfold lastG
  rw [Int.sub_mul]
  omega
/-- an order -/
def Ord (b : Int) (bs : List Int) (x : Int) : Prop := ∃ k ks, 0 ≤ k ∧ Pap b bs x k ks
theorem Pap.ord {b : Int} {bs : List Int} (g : 0 < b) {x k : Int} {ks : List Int} (p : Pap b bs x k ks) : Ord b bs x ↔ 0 ≤ k := by
  constructor
  · rintro ⟨k', ks', h, p'⟩
    rw [(p.uniq g p').1]
    exact h
  · intro h
    exact ⟨k, ks, h, p⟩
def Mul (b : Int) (x : Int) : Prop := ∃ k, 0 ≤ k ∧ x = k * b
theorem ord_ls {b : Int} {bs : List Int} {x : Int} : Ord b bs x ↔ Ls (Mul b) b bs x := by
  constructor
  · rintro ⟨k, ks, h, p⟩
    exact ⟨k * b, ks, ⟨k, h, rfl⟩, p.bnd, p.eq⟩
  · rintro ⟨z, ks, ⟨k, h, rfl⟩, hb, e⟩
    exact ⟨k, ks, h, hb, e⟩
theorem Gen.cl {b : Int} {bs : List Int} (g : Gen b bs) {x y : Int} (hx : Ord b bs x) (hy : Ord b bs y) : Ord b bs (x + y) := by
  have c : Cl (Mul b) := by
    rintro x y ⟨k, h, rfl⟩ ⟨k', h', rfl⟩
    exact ⟨k + k', by omega, by rw [Int.add_mul]⟩
  have f : Full (Mul b) b 0 := by
    rintro x ⟨k, rfl⟩ hx
    refine ⟨k, ?_, Int.mul_comm ..⟩
    exact Int.nonneg_of_mul_nonneg_right hx g.pos
  exact ord_ls.mpr (ls_cl bs b _ 0 b g.pos g.gd g.up c f (by have := g.pos; omega) _ _ (ord_ls.mp hx) (ord_ls.mp hy))
theorem Gen.zero {b : Int} {bs : List Int} (g : Gen b bs) : Ord b bs 0 := ⟨0, _, by omega, bnd_zero bs b g.gd, by rw [dot_zero]; omega⟩
theorem Gen.unit {b : Int} {bs : List Int} (g : Gen b bs) : ∀ c ∈ b :: bs, Ord b bs c := by
  intro c hc
  rcases List.mem_cons.mp hc with rfl | hc
  · exact ⟨1, _, by omega, bnd_zero bs _ g.gd, by rw [dot_zero]; omega⟩
  · obtain ⟨ks, h1, h2⟩ := bnd_unit bs b g.gd c hc
    exact ⟨0, ks, by omega, h1, by rw [h2]; omega⟩
theorem Gen.nn {b : Int} {bs : List Int} (g : Gen b bs) {x : Int} (h : Ord b bs x) : 0 ≤ x := by
  obtain ⟨k, ks, hk, p⟩ := h
  have h1 := dot_nn bs b ks g.gd p.bnd
  have h2 := Int.mul_nonneg hk (Int.le_of_lt g.pos)
  rw [p.eq]
  omega
theorem Gen.down {b : Int} {bs : List Int} (g : Gen b bs) {x : Int} (h : Ord b bs x) (h0 : x ≠ 0) : ∃ c ∈ b :: bs, Ord b bs (x - c) := by
  obtain ⟨k, ks, hk, p⟩ := h
  by_cases hd : dot ks bs = 0
  · have : k ≠ 0 := fun e => by
      have := p.eq
      rw [e, hd] at this
      omega
    exact ⟨b, List.mem_cons_self, k - 1, ks, by omega, p.bnd, by rw [p.eq, Int.sub_mul]; omega⟩
  · obtain ⟨c, hc, ks', h1, h2⟩ := bnd_down bs b ks p.bnd hd
    exact ⟨c, List.mem_cons_of_mem _ hc, k, ks', hk, h1, by rw [p.eq, h2]; omega⟩
/-- the sieve's turn -/
theorem Gen.sieve {b : Int} {bs : List Int} (g : Gen b bs) {x : Int} (h0 : 0 < x) : Ord b bs x ↔ ∃ c ∈ b :: bs, c ≤ x ∧ Ord b bs (x - c) := by
  constructor
  · intro h
    obtain ⟨c, hc, h1⟩ := g.down h (by omega)
    have := g.nn h1
    exact ⟨c, hc, by omega, h1⟩
  · rintro ⟨c, hc, _, h⟩
    have := g.cl h (g.unit c hc)
    rwa [show x - c + c = x by omega] at this
end K33
set_option maxRecDepth 100000
set_option maxHeartbeats 4000000
/-! k33: rules that the layer lacks: repr of a bool, sum of a tuple, t[::-1], many things laid at once. -/
namespace K33
open PySem PySem.Spec PyProof.Rows L2
/-! ### repr(bool), sum(tuple) -/
def txB (k : Bool) : Str := if k then "True" else "False"
theorem txB_inj {a b : Bool} : decide (V.str (txB a) = V.str (txB b)) = decide (a = b) := by
  cases a <;> cases b <;> decide
section
variable {X : Cx}
theorem call_repr_bl : CallR X (.builtin "repr") (fun xs H Q => ∃ k, xs = [.bl k] ∧ Q (.str (txB k)) H) := by
  intro pins s σ H xs us Q I r h
  obtain ⟨k, rfl, q⟩ := h
  obtain ⟨u, rfl, ru⟩ := vals1 r
  cases (show u = Value.bool k from ru)
  exact PySem.P.repr_of_bool ⟨.str (txB k), H, I.tok _, ⟨_, rfl⟩, q⟩
theorem cr_sumT (hc : X.calm = true) : CallR X (.builtin "sum") (fun xs H Q => ∃ (a : Addr) (ns : List Int), xs = [V.ref a] ∧ SqT X.K H a (ns.map V.int) ∧ Q (.int ns.sum) H) := by
  intro pins s σ H vs us Q I r h
  obtain ⟨a, ns, rfl, hs, q⟩ := h
  obtain ⟨its, rv, hl, _⟩ := I.tuple hs
  rw [Vals.ref1 r]
  have hi := rv.ints
  obtain ⟨xs, hx⟩ := hi.allInts.items
  have hn : numsOf (intItems xs).toList = ns := by rw [← hx]; exact hi.numsOf
  rw [nums_intItems] at hn
  rw [hx] at hl
  refine PySem.W.ktm_sumG (I.ok.hd hc) hl fun h' tk t' hk => ?_
  have e : preSum (numAt xs) xs.size = ns.sum := by
    rw [preSum_eq, List.take_of_length_le (by simp), hn]
  rw [e]
  exact ⟨.int _, H, I.kept hk, ⟨_, rfl⟩, q⟩
end
/-! ### t[::-1] -/
section
variable {prog : Program} {w : World} {A : Around} {E : Value → Shared → Prop} {s : Shared}
theorem applied_rev {sl : Addr} {t : Tok} {n : Nat} {Q : Int × Int × Nat → Shared → Prop} (hs : s.heap.IsSliceOf sl .none .none (.int (-1) t))
    (h : Q ((n : Int) - 1, -1, n) s) : wpAny (model prog w) A (Builtin.Slice.sliceApplied (.ref sl) (pure (n : Int))) Q E s := by
  obtain ⟨os, hos, hcs, hds⟩ := id hs
  unfold Builtin.Slice.sliceApplied Builtin.Slice.sliceFields
  refine wpAny_bind (wpAny_bind (wpAny_field hos hds (x := .none) rfl (wpAny_bind (wpAny_field hos hds (x := .none) rfl (wpAny_bind (wpAny_field hos hds (x := .int (-1) t) rfl (wpAny_pure ?_)))))))
  refine wpAny_bind (slicePart_int ?_)
  show wpAny _ _ (if ((-1 : Int) == 0) = true then _ else _) _ _ s
  rw [if_neg (by decide)]
  refine wpAny_bind (slicePart_none (wpAny_bind (slicePart_none (wpAny_bind (wpAny_pure ?_)))))
  show wpAny _ _ (match Builtin.Slice.sliceAdjust none none (-1) (n : Int) with | (lo, hi) => pure (lo, (-1 : Int), Builtin.Slice.slicePlaces lo hi (-1))) _ _ s
  have e1 : Builtin.Slice.sliceAdjust none none (-1) (n : Int) = ((n : Int) - 1, -1) := by
    unfold Builtin.Slice.sliceAdjust
    simp
  rw [e1]
  have e2 : Builtin.Slice.slicePlaces ((n : Int) - 1) (-1) (-1) = n := by
    unfold Builtin.Slice.slicePlaces
    simp
    omega
  show wpAny _ _ (pure ((n : Int) - 1, (-1 : Int), Builtin.Slice.slicePlaces ((n : Int) - 1) (-1) (-1))) _ _ s
  rw [e2]
  exact wpAny_pure h
theorem fm_congr {α β : Type} {f g : α → Option β} : ∀ {l : List α}, (∀ a ∈ l, f a = g a) → l.filterMap f = l.filterMap g
  | [], _ => rfl
  | a :: r, h => by
    rw [List.filterMap_cons, List.filterMap_cons, h a List.mem_cons_self, fm_congr fun b hb => h b (List.mem_cons_of_mem _ hb)]
theorem part_int {v : Value} {i : Int} (p : IsPart v (some i)) : ∃ t, v = .int i t := by
  cases p with
  | int i t => exact ⟨t, rfl⟩
theorem pick_rev (xs : Array Value) : ((List.range xs.size).filterMap fun (m : Nat) => xs[(((xs.size : Int) - 1) + (m : Int) * (-1)).toNat]?).toArray = xs.toList.reverse.toArray := by
  have e : (List.range xs.size).filterMap (fun (m : Nat) => xs[(((xs.size : Int) - 1) + (m : Int) * (-1)).toNat]?) = ((List.range xs.size).map fun k => xs.size - 1 - k).filterMap (xs[·]?) := by
    rw [List.filterMap_map]
    refine fm_congr fun m hm => ?_
    have := List.mem_range.mp hm
    have e3 : (((xs.size : Int) - 1) + (m : Int) * (-1)).toNat = xs.size - 1 - m := by omega
    simp only [Function.comp, e3]
  rw [e, PySem.W.krv_range, List.filterMap_reverse, PySem.W.krv_all]
theorem getItem_tuple_rev {t sl : Addr} {items : Array Value} {tk : Tok} {Q : Value → Shared → Prop} (ht : IsTup s.heap t items) (hs : s.heap.IsSliceOf sl .none .none (.int (-1) tk))
    (h : Q (.ref s.heap.objs.size) { s with heap := s.heap.push { cls := .type "tuple", data := .seq items.toList.reverse.toArray } })
    (hsz : items.size ≤ sizeLine) : wpAny (model prog w) A (getItem (.ref t) (.ref sl)) Q E s := by
  have htake : sizeOk (.seq items.toList.reverse.toArray) := by
    show items.toList.reverse.toArray.size ≤ sizeLine
    rw [List.size_toArray, List.length_reverse, Array.length_toList]
    exact hsz
  obtain ⟨os, hos, hcs, hds⟩ := id hs
  have hTs : s.TypeIs (.ref sl) "slice" := ⟨os, hos, hcs⟩
  unfold getItem
  try with_reducible refine wpAny_holding ?_
  first | refine wpAny_bind (wpAny_pure ?_) | skip
  refine wpAny_bind (wpAny_sequenceKey ht.typeIs (by decide) ?_)
  refine wpAny_bind (wpAny_callSpecial?_slot (name := Str.ofString "__getitem__") ht.typeIs PyProof.Rows.slot_tuple_getitem
    (wpAny_call_entry PyProof.Rows.slot_tuple_getitem ht.typeIs entry_tuple_getitem ?_ (args_tuple_getitem _ _)))
  show wpAny _ _ (Builtin.Tuple.tupleItemsOf (.ref t) >>= _) _ _ s
  refine wpAny_bind (tupleItemsOf_ ht ?_)
  refine wpAny_bind (wpAny_typeOf hTs ?_)
  rw [if_pos (by decide)]
  refine wpAny_bind (applied_rev hs ?_)
  show wpAny _ _ (if (((items.size : Int) - 1) == 0 && (-1 : Int) == 1 && (items.size == items.size)) = true then _ else _) _ _ s
  rw [if_neg (by simp), pick_rev]
  first
    | exact wpAny_bind (m := Builtin.Tuple.tupleExact _) (wpAny_newObj_type (wpAny_pure ⟨_, rfl, wpAny_pure h⟩) htake)
    | exact wpAny_bind (m := Builtin.Tuple.tupleExact _) (wpAny_newObj_type (wpAny_bind (wpAny_pure (wpAny_pure ⟨_, rfl, wpAny_pure h⟩))) htake)
    | exact wpAny_bind (wpAny_bind (m := Builtin.Tuple.tupleExact _) (wpAny_newObj_type (wpAny_pure (wpAny_pure ⟨_, rfl, wpAny_pure h⟩)) htake))
    | exact wpAny_bind (wpAny_bind (m := Builtin.Tuple.tupleExact _) (wpAny_newObj_type (wpAny_pure ⟨_, rfl, wpAny_pure h⟩) htake))
end
def tRevT (K : PySem.W.Frag) (te : TE) : TE := fun σ H Q => te σ H fun x H1 => ∃ a xs, x = .ref a ∧ SqT K H1 a xs ∧ ∀ p, H1 p = none → Q (.ref p) (upd H1 p (.tup xs.reverse))
section
variable {X : Cx}
theorem pe_revT {e : Expr} {te : TE} {k : Nat} {p1 p2 p3 pos : Pos} (he : PE X e te) : PE X (.Subscript e (.Slice none none (some (.UnaryOp .USub (.Constant (.int 1) k p1) p2)) p3) pos) (tRevT X.K te) := by
  refine ⟨fun pins s σ H Q I h => ?_⟩
  refine Subscript_ (thn (he.run pins s σ H _ I h) fun v s1 ⟨x, H1, I1, r1, q1⟩ => ?_)
  obtain ⟨a, xs, ex, hx, q⟩ := q1
  subst ex
  cases r1
  have hst : PO X (some (.UnaryOp .USub (.Constant (.int 1) k p1) p2)) (tPart (tUn (rU fun i => .int (-i)) (tC (.int 1)))) := po_some (pe_un un_neg pe_int)
  refine wpAny_Slice (thn (po_none.run pins s1 σ H1 (fun o H2 => o = none ∧ H2 = H1) I1 ⟨rfl, rfl⟩) fun vl s2 ⟨l, H2, I2, pl, el, e2⟩ => ?_)
  subst el e2
  refine thn (po_none.run pins s2 σ H2 (fun o H3 => o = none ∧ H3 = H2) I2 ⟨rfl, rfl⟩) fun vu s3 ⟨u, H3, I3, pu, eu, e3⟩ => ?_
  subst eu e3
  refine thn (hst.run pins s3 σ H3 (fun o H4 => o = some (-1) ∧ H4 = H3) I3 ⟨1, rfl, -1, rfl, rfl, rfl⟩) fun vs s4 ⟨o, H4, I4, ps, eo, e4⟩ => ?_
  subst eo e4
  cases pl
  cases pu
  obtain ⟨tk, rfl⟩ := part_int ps
  have I5 : L2.Inv X pins σ H4 { s4 with heap := s4.heap.push { cls := .type "slice", data := .fields #[.none, .none, .int (-1) tk] } } := I4.kept (t' := s4.toks) fun b ob q => Heap.get?_push_of_some _ q
  obtain ⟨its, r, ht, hz⟩ := I5.tuple hx
  have hlen := r.length
  show wpAny (model X.prog X.w) X.A (subscriptTail e (.Slice none none (some (.UnaryOp .USub (.Constant (.int 1) k p1) p2)) p3) (.ref a) (.ref s4.heap.objs.size)) (EP X pins σ Q) X.xe { s4 with heap := s4.heap.push { cls := .type "slice", data := .fields #[.none, .none, .int (-1) tk] } }
  refine tail_any (ops := [.ref a, .ref s4.heap.objs.size]) ht.typeIs PyProof.Rows.slot_tuple_getitem.lookup ?_ (by with_unfolding_all rfl)
  refine getItem_tuple_rev ht (Heap.IsSliceOf.new _ .none .none (.int (-1) tk)) ?_ (by rw [List.size_toArray]; omega)
  refine ⟨.ref _, _, I5.laid (t' := s4.toks) (o := .tup xs.reverse) (fun b ob q => Heap.get?_push_of_some _ q) (Nat.le_refl _) ?_, rfl, q _ (I5.hok.fresh (Nat.le_refl _))⟩
  exact ⟨by rw [List.length_reverse]; exact hz, _, by simpa using r.reverse, IsTup.new _ _⟩
end
/-! ### many things laid at once -/
section
variable {X : Cx} {pins : List (Addr × Obj)} {σ : L2.St} {H H' : Hp} {s : Shared} {h' : Heap}
theorem laidL {t' : Nat} (I : L2.Inv X pins σ H s) (k : ∀ b u, s.heap.get? b = some u → h'.get? b = some u) (old : ∀ b u, H b = some u → H' b = some u)
    (new : ∀ b u, H' b = some u → H b = some u ∨ (s.heap.objs.size ≤ b ∧ ObjOk X.prog X.w H' h' b u)) : L2.Inv X pins σ H' { s with heap := h', toks := t' } := by
  refine I.un (t' := t') ⟨fun b o e _ _ _ => k b o e, fun b o e _ _ _ => ⟨o.slots, k b o e⟩, fun b o e n _ => ?_, fun b o e _ => ⟨o, k b o e⟩, fun b xs e => old b _ e, fun b o u e => old b _ e, fun b ps e => ⟨#[], by rw [old b _ e]; simp⟩⟩ fun b u e => ?_
  · cases q : H' b with
    | none => rfl
    | some u =>
      rcases new b u q with z | ⟨z, _⟩
      · rw [n] at z; cases z
      · exact absurd (Nat.lt_of_lt_of_le (Heap.lt_size e) z) (Nat.lt_irrefl _)
  · rcases new b u e with z | ⟨_, z⟩
    · exact (I.hok b u z).stay (fun c v _ q => k c v q) (fun c q => old c _ q) fun c xs q => old c _ q
    · exact z
/-- forgetting tracked things that may turn -/
def dropL (H : Hp) (fp : List Addr) : Hp := fun b => if b ∈ fp then none else H b
theorem dropL_in {fp : List Addr} {b : Addr} (h : b ∈ fp) : dropL H fp b = none := by unfold dropL; rw [if_pos h]
theorem dropL_out {fp : List Addr} {b : Addr} (h : b ∉ fp) : dropL H fp b = H b := by unfold dropL; rw [if_neg h]
theorem inv_dropL {fp : List Addr} (I : L2.Inv X pins σ H s) (h : ∀ b ∈ fp, ∃ φ, H b = some (.ext φ)) : L2.Inv X pins σ (dropL H fp) s := by
  have other : ∀ b u, H b = some u → (∀ ψ, u ≠ .ext ψ) → dropL H fp b = some u := fun b u e n => by
    have hb : b ∉ fp := fun z => by
      obtain ⟨φ, q⟩ := h b z
      rw [e] at q
      exact n φ (Option.some.inj q)
    rw [dropL_out hb]
    exact e
  have non : ∀ b, H b = Option.none → dropL H fp b = Option.none := fun b e => by
    by_cases hb : b ∈ fp
    · exact dropL_in hb
    · rw [dropL_out hb]
      exact e
  have hok : HOk X.prog X.w (dropL H fp) s.heap := fun b u e => by
    have hb : b ∉ fp := fun z => by
      rw [dropL_in z] at e
      cases e
    rw [dropL_out hb] at e
    exact (I.hok b u e).stay (fun _ _ _ z => z) (fun c z => other c _ z fun _ w => (nomatch w)) fun c xs z => other c _ z fun _ w => (nomatch w)
  have u : Un X.fs [] H (dropL H fp) s.heap s.heap := ⟨fun _ _ e _ _ _ => e, fun _ o e _ _ _ => ⟨o.slots, e⟩, fun b _ _ z _ => non b z, fun _ o e _ => ⟨o, e⟩, fun b xs z => other b _ z fun _ w => (nomatch w),
    fun b o x z => other b _ z fun _ w => (nomatch w), fun b ps z => ⟨#[], by rw [other b _ z fun _ w => (nomatch w)]; simp⟩⟩
  exact I.un (t' := s.toks) u hok
theorem inv_fpL {fp : List Addr} {a : Addr} {φ : Heap → Prop} (I : L2.Inv X pins σ H s) (ha : a ∈ fp) (h : H a = some (.ext φ)) (hn : X.s_0.heap.objs.size ≤ a) : FpOk X pins (dropL H fp) a := by
  refine ⟨dropL_in ha, fun z => ?_, fun z => ?_, .inr hn, fun x c e z => ?_, fun p hp z => ?_⟩
  · rw [z, I.free] at h
    cases h
  · obtain ⟨_, o, ho, _⟩ := I.ok.funs.mem z
    exact absurd (Nat.lt_of_lt_of_le (Heap.lt_size ho) hn) (Nat.lt_irrefl _)
  · have q := I.freeC x c e
    rw [z, h] at q
    cases q
  · have q := (I.pin p hp).2.1
    rw [z, h] at q
    cases q
end
end K33
set_option maxRecDepth 100000
set_option maxHeartbeats 4000000
/-! k33: zip over four iterators, zip over three whose tuple is still held (printed by gen_zip.py, after the pattern of the library's zip over two). -/
namespace K33
open PySem
abbrev IsTupOf4 (h : Heap) (T : Addr) (a1 a2 a3 a4 : Value) : Prop := h.get? T = some { cls := .type "tuple", data := .seq #[a1, a2, a3, a4] }
structure ZipSep4 (z TI TO i1 i2 i3 i4 : Addr) (fp1 fp2 fp3 fp4 : List Addr) : Prop where
  TIz : TI ≠ z
  TOz : TO ≠ z
  TITO : TI ≠ TO
  TIi1 : TI ≠ i1
  mem1 : i1 ∈ fp1
  zf1 : z ∉ fp1
  Tf1 : TO ∉ fp1
  TIi2 : TI ≠ i2
  mem2 : i2 ∈ fp2
  zf2 : z ∉ fp2
  Tf2 : TO ∉ fp2
  TIi3 : TI ≠ i3
  mem3 : i3 ∈ fp3
  zf3 : z ∉ fp3
  Tf3 : TO ∉ fp3
  TIi4 : TI ≠ i4
  mem4 : i4 ∈ fp4
  zf4 : z ∉ fp4
  Tf4 : TO ∉ fp4
  sep1_2 : i1 ∉ fp2
  sep1_3 : i1 ∉ fp3
  sep1_4 : i1 ∉ fp4
  sep2_1 : i2 ∉ fp1
  sep2_3 : i2 ∉ fp3
  sep2_4 : i2 ∉ fp4
  sep3_1 : i3 ∉ fp1
  sep3_2 : i3 ∉ fp2
  sep3_4 : i3 ∉ fp4
  sep4_1 : i4 ∉ fp1
  sep4_2 : i4 ∉ fp2
  sep4_3 : i4 ∉ fp3
section
variable {prog : Program} {w : World} {A : Around} {E : Value → Shared → Prop} {s : Shared} {z TI TO i1 i2 i3 i4 : Addr} {fp1 fp2 fp3 fp4 : List Addr} {n1 n2 n3 n4 i : Nat} {P1 P2 P3 P4 : Nat → Value → Prop} {St1 St2 St3 St4 : Nat → Heap → Prop} {a1 a2 a3 a4 : Value}
theorem ZipSep4.zi1 (D : ZipSep4 z TI TO i1 i2 i3 i4 fp1 fp2 fp3 fp4) : z ≠ i1 := fun e => D.zf1 (by rw [e]; exact D.mem1)
theorem ZipSep4.Ti1 (D : ZipSep4 z TI TO i1 i2 i3 i4 fp1 fp2 fp3 fp4) : TO ≠ i1 := fun e => D.Tf1 (by rw [e]; exact D.mem1)
theorem ZipSep4.zi2 (D : ZipSep4 z TI TO i1 i2 i3 i4 fp1 fp2 fp3 fp4) : z ≠ i2 := fun e => D.zf2 (by rw [e]; exact D.mem2)
theorem ZipSep4.Ti2 (D : ZipSep4 z TI TO i1 i2 i3 i4 fp1 fp2 fp3 fp4) : TO ≠ i2 := fun e => D.Tf2 (by rw [e]; exact D.mem2)
theorem ZipSep4.zi3 (D : ZipSep4 z TI TO i1 i2 i3 i4 fp1 fp2 fp3 fp4) : z ≠ i3 := fun e => D.zf3 (by rw [e]; exact D.mem3)
theorem ZipSep4.Ti3 (D : ZipSep4 z TI TO i1 i2 i3 i4 fp1 fp2 fp3 fp4) : TO ≠ i3 := fun e => D.Tf3 (by rw [e]; exact D.mem3)
theorem ZipSep4.zi4 (D : ZipSep4 z TI TO i1 i2 i3 i4 fp1 fp2 fp3 fp4) : z ≠ i4 := fun e => D.zf4 (by rw [e]; exact D.mem4)
theorem ZipSep4.Ti4 (D : ZipSep4 z TI TO i1 i2 i3 i4 fp1 fp2 fp3 fp4) : TO ≠ i4 := fun e => D.Tf4 (by rw [e]; exact D.mem4)
theorem updateSeq_IsTupOf4 {T : Addr} {x : Value} {k : Nat} {Q : Unit → Shared → Prop} (hT : IsTupOf4 s.heap T a1 a2 a3 a4)
    (h : ∀ h', h'.get? T = some { cls := .type "tuple", data := .seq ((#[a1, a2, a3, a4] : Array Value).setIfInBounds k x) } → Heap.SameBut T s.heap h' → Q () { s with heap := h' }) :
    wpAny (model prog w) A (updateSeq T (·.setIfInBounds k x)) Q E s := by
  refine wpAny_updateSeq hT rfl (h _ ?_ (Heap.SameBut.update ..))
  rw [Heap.get?_update_self _ hT rfl]
  simp [Obj.mapSeq]
theorem zipD4_next_item' {Q : Value → Shared → Prop} (S : ZipSep4 z TI TO i1 i2 i3 i4 fp1 fp2 fp3 fp4) (D1 : Draws prog w A i1 fp1 n1 P1 St1) (D2 : Draws prog w A i2 fp2 n2 P2 St2) (D3 : Draws prog w A i3 fp3 n3 P3 St3) (D4 : Draws prog w A i4 fp4 n4 P4 St4)
    (hz : IsZip s.heap z TI TO .none) (hTI : IsTupOf4 s.heap TI (.ref i1) (.ref i2) (.ref i3) (.ref i4)) (hTO : IsTupOf4 s.heap TO a1 a2 a3 a4) (st1 : St1 i s.heap) (st2 : St2 i s.heap) (st3 : St3 i s.heap) (st4 : St4 i s.heap) (hlt1 : i < n1) (hlt2 : i < n2) (hlt3 : i < n3) (hlt4 : i < n4)
    (hQ : ∀ x1 x2 x3 x4 h' tk, P1 i x1 → P2 i x2 → P3 i x3 → P4 i x4 → IsZip h' z TI TO (rawInt s.heap.objs.size) → IsTupOf4 h' TO x1 x2 x3 x4 → St1 (i + 1) h' → St2 (i + 1) h' → St3 (i + 1) h' → St4 (i + 1) h' → IsTupOf4 h' s.heap.objs.size x1 x2 x3 x4 → h'.objs.size = s.heap.objs.size + 1 →
      (∀ c o, c ≠ z → c ≠ TO → c ≠ i1 → c ≠ i2 → c ≠ i3 → c ≠ i4 → s.heap.get? c = some o → h'.get? c = some o) → Q (.ref s.heap.objs.size) { s with heap := h', toks := tk }) :
    wpAny (model prog w) A (Builtin.«zip.__next__» ⟨[.ref z], []⟩) (fun fin s' => ∃ v, fin = .done (.ret v) ∧ Q v s') E s := by
  obtain ⟨hp, g, d, tk0, os⟩ := s
  show wpAny _ _ (field (.ref z) 2 >>= _) _ _ _
  refine wpAny_bind (wpAny_field hz rfl (x := .bool false) rfl ?_)
  show wpAny _ _ (field (.ref z) 3 >>= _) _ _ _
  refine wpAny_bind (wpAny_field hz rfl (x := .ref TI) rfl ?_)
  refine wpAny_bind (wpAny_seqItems hTI rfl ?_)
  show wpAny _ _ (Builtin.SmallTypes.ownedTupleIsFree (.ref z) >>= _) _ _ _
  refine wpAny_bind ?_
  unfold Builtin.SmallTypes.ownedTupleIsFree
  refine wpAny_bind (wpAny_field hz rfl (x := .none) rfl (wpAny_pure ?_))
  simp only [if_true]
  refine wpAny_bind (wpAny_rule ?_)
  refine wpAny_bind (wpAny_field hz rfl (x := .ref TO) rfl ?_)
  refine wpAny_bind (wpAny_setField_rec hz (by simp) fun g0 hz0 hs0 => ?_)
  replace hz0 : IsZip g0 z TI TO .ellipsis := hz0
  replace hs0 : Heap.SameBut z hp g0 := hs0
  refine wpAny_bind ?_
  simp only [List.zipIdx_cons, List.zipIdx_nil, List.forIn_cons, List.forIn_nil]
  refine wpAny_bind (wpAny_bind (wpAny_onRaise ?_))
  show wpAny _ _ (Builtin.SmallTypes.nextOf (.ref i1) >>= _) _ _ ⟨g0, g, d, tk0, os⟩
  refine wpAny_bind (D1.item i _ _ _ hlt1 (D1.over st1 hs0 S.zf1) fun x1 p1 tk1 hx1 sn1 hp1 => wpAny_pure ?_)
  replace hp1 : Heap.SameBut i1 g0 p1 := hp1
  have hU1 : IsTupOf4 p1 TO a1 a2 a3 a4 := hp1.extBut _ _ S.Ti1 (hs0.extBut _ _ S.TOz hTO)
  refine wpAny_bind (wpAny_seqItems (s := ⟨p1, g, d, tk1, os⟩) hU1 rfl ?_)
  refine wpAny_bind (updateSeq_IsTupOf4 (s := ⟨p1, g, d, tk1, os⟩) hU1 fun g1 hT1 hs1 => ?_)
  replace hT1 : IsTupOf4 g1 TO x1 a2 a3 a4 := hT1
  replace hs1 : Heap.SameBut TO p1 g1 := hs1
  refine wpAny_bind (wpAny_letGo (wpAny_pure ?_))
  refine wpAny_bind (wpAny_bind (wpAny_onRaise ?_))
  show wpAny _ _ (Builtin.SmallTypes.nextOf (.ref i2) >>= _) _ _ ⟨g1, g, d, tk1, os⟩
  refine wpAny_bind (D2.item i _ _ _ hlt2 (D2.over (D2.over (D2.over st2 hs0 S.zf2) hp1 S.sep1_2) hs1 S.Tf2) fun x2 p2 tk2 hx2 sn2 hp2 => wpAny_pure ?_)
  replace hp2 : Heap.SameBut i2 g1 p2 := hp2
  have hU2 : IsTupOf4 p2 TO x1 a2 a3 a4 := hp2.extBut _ _ S.Ti2 hT1
  refine wpAny_bind (wpAny_seqItems (s := ⟨p2, g, d, tk2, os⟩) hU2 rfl ?_)
  refine wpAny_bind (updateSeq_IsTupOf4 (s := ⟨p2, g, d, tk2, os⟩) hU2 fun g2 hT2 hs2 => ?_)
  replace hT2 : IsTupOf4 g2 TO x1 x2 a3 a4 := hT2
  replace hs2 : Heap.SameBut TO p2 g2 := hs2
  refine wpAny_bind (wpAny_letGo (wpAny_pure ?_))
  refine wpAny_bind (wpAny_bind (wpAny_onRaise ?_))
  show wpAny _ _ (Builtin.SmallTypes.nextOf (.ref i3) >>= _) _ _ ⟨g2, g, d, tk2, os⟩
  refine wpAny_bind (D3.item i _ _ _ hlt3 (D3.over (D3.over (D3.over (D3.over (D3.over st3 hs0 S.zf3) hp1 S.sep1_3) hs1 S.Tf3) hp2 S.sep2_3) hs2 S.Tf3) fun x3 p3 tk3 hx3 sn3 hp3 => wpAny_pure ?_)
  replace hp3 : Heap.SameBut i3 g2 p3 := hp3
  have hU3 : IsTupOf4 p3 TO x1 x2 a3 a4 := hp3.extBut _ _ S.Ti3 hT2
  refine wpAny_bind (wpAny_seqItems (s := ⟨p3, g, d, tk3, os⟩) hU3 rfl ?_)
  refine wpAny_bind (updateSeq_IsTupOf4 (s := ⟨p3, g, d, tk3, os⟩) hU3 fun g3 hT3 hs3 => ?_)
  replace hT3 : IsTupOf4 g3 TO x1 x2 x3 a4 := hT3
  replace hs3 : Heap.SameBut TO p3 g3 := hs3
  refine wpAny_bind (wpAny_letGo (wpAny_pure ?_))
  refine wpAny_bind (wpAny_bind (wpAny_onRaise ?_))
  show wpAny _ _ (Builtin.SmallTypes.nextOf (.ref i4) >>= _) _ _ ⟨g3, g, d, tk3, os⟩
  refine wpAny_bind (D4.item i _ _ _ hlt4 (D4.over (D4.over (D4.over (D4.over (D4.over (D4.over (D4.over st4 hs0 S.zf4) hp1 S.sep1_4) hs1 S.Tf4) hp2 S.sep2_4) hs2 S.Tf4) hp3 S.sep3_4) hs3 S.Tf4) fun x4 p4 tk4 hx4 sn4 hp4 => wpAny_pure ?_)
  replace hp4 : Heap.SameBut i4 g3 p4 := hp4
  have hU4 : IsTupOf4 p4 TO x1 x2 x3 a4 := hp4.extBut _ _ S.Ti4 hT3
  refine wpAny_bind (wpAny_seqItems (s := ⟨p4, g, d, tk4, os⟩) hU4 rfl ?_)
  refine wpAny_bind (updateSeq_IsTupOf4 (s := ⟨p4, g, d, tk4, os⟩) hU4 fun g4 hT4 hs4 => ?_)
  replace hT4 : IsTupOf4 g4 TO x1 x2 x3 x4 := hT4
  replace hs4 : Heap.SameBut TO p4 g4 := hs4
  refine wpAny_bind (wpAny_letGo (wpAny_pure (wpAny_pure ?_)))
  refine wpAny_bind (wpAny_seqItems (s := ⟨g4, g, d, tk4, os⟩) hT4 rfl ?_)
  refine wpAny_bind (wpAny_newTuple ?_)
  have hsz : g4.objs.size = hp.objs.size := by rw [hs4.1, hp4.1, hs3.1, hp3.1, hs2.1, hp2.1, hs1.1, hp1.1, hs0.1]
  have hzz : IsZip g4 z TI TO .ellipsis := hs4.extBut _ _ S.TOz.symm (hp4.extBut _ _ S.zi4 (hs3.extBut _ _ S.TOz.symm (hp3.extBut _ _ S.zi3 (hs2.extBut _ _ S.TOz.symm (hp2.extBut _ _ S.zi2 (hs1.extBut _ _ S.TOz.symm (hp1.extBut _ _ S.zi1 (hz0))))))))
  have hkk : ∀ c o, c ≠ z → c ≠ TO → c ≠ i1 → c ≠ i2 → c ≠ i3 → c ≠ i4 → hp.get? c = some o → g4.get? c = some o := fun c o cz cT c1 c2 c3 c4 e => hs4.extBut _ _ cT (hp4.extBut _ _ c4 (hs3.extBut _ _ cT (hp3.extBut _ _ c3 (hs2.extBut _ _ cT (hp2.extBut _ _ c2 (hs1.extBut _ _ cT (hp1.extBut _ _ c1 (hs0.extBut _ _ cz e))))))))
  have hj1 : St1 (i + 1) g4 := D1.over (D1.over (D1.over (D1.over (D1.over (D1.over (D1.over sn1 hs1 S.Tf1) hp2 S.sep2_1) hs2 S.Tf1) hp3 S.sep3_1) hs3 S.Tf1) hp4 S.sep4_1) hs4 S.Tf1
  have hj2 : St2 (i + 1) g4 := D2.over (D2.over (D2.over (D2.over (D2.over sn2 hs2 S.Tf2) hp3 S.sep3_2) hs3 S.Tf2) hp4 S.sep4_2) hs4 S.Tf2
  have hj3 : St3 (i + 1) g4 := D3.over (D3.over (D3.over sn3 hs3 S.Tf3) hp4 S.sep4_3) hs4 S.Tf3
  have hj4 : St4 (i + 1) g4 := D4.over sn4 hs4 S.Tf4
  have hzlt : z < g4.objs.size := Heap.lt_size hzz
  show wpAny _ _ (Builtin.SmallTypes.ownedTupleHandOut (.ref z) (.ref g4.objs.size) >>= _) _ _ ⟨g4.push { cls := .type "tuple", data := .seq #[x1, x2, x3, x4] }, g, d, tk4, os⟩
  refine wpAny_bind ?_
  unfold Builtin.SmallTypes.ownedTupleHandOut
  have hz₆ : IsZip (g4.push { cls := .type "tuple", data := .seq #[x1, x2, x3, x4] }) z TI TO .ellipsis := Heap.get?_push_of_some _ hzz
  refine wpAny_bind (wpAny_setField_rec hz₆ (by simp) fun h₇ hz₇ hs₇ => ?_)
  replace hz₇ : IsZip h₇ z TI TO (rawInt g4.objs.size) := hz₇
  refine wpAny_setField_rec hz₇ (by simp) fun h₈ hz₈ hs₈ => ?_
  replace hz₈ : IsZip h₈ z TI TO (rawInt g4.objs.size) := hz₈
  replace hs₇ : Heap.SameBut z (g4.push { cls := .type "tuple", data := .seq #[x1, x2, x3, x4] }) h₇ := hs₇
  replace hs₈ : Heap.SameBut z h₇ h₈ := hs₈
  have up : ∀ c o, c ≠ z → g4.get? c = some o → h₈.get? c = some o := fun c o c1 e => hs₈.extBut _ _ c1 (hs₇.extBut _ _ c1 (Heap.get?_push_of_some _ e))
  have hT₈ : IsTupOf4 h₈ g4.objs.size x1 x2 x3 x4 := hs₈.extBut _ _ (Nat.ne_of_gt hzlt) (hs₇.extBut _ _ (Nat.ne_of_gt hzlt) (Heap.get?_push_size _ rfl))
  have hz8 : h₈.objs.size = g4.objs.size + 1 := by rw [hs₈.1, hs₇.1, Heap.size_push]
  rw [hsz] at hz₈ hT₈ hz8
  refine wpAny_pure ⟨_, rfl, ?_⟩
  show Q (.ref g4.objs.size) ⟨h₈, g, d, tk4, os⟩
  rw [hsz]
  exact hQ x1 x2 x3 x4 h₈ tk4 hx1 hx2 hx3 hx4 hz₈ (up _ _ S.TOz hT4) (D1.frame _ _ _ hj1 fun b hb o e => up b o (fun q => S.zf1 (q ▸ hb)) e) (D2.frame _ _ _ hj2 fun b hb o e => up b o (fun q => S.zf2 (q ▸ hb)) e) (D3.frame _ _ _ hj3 fun b hb o e => up b o (fun q => S.zf3 (q ▸ hb)) e) (D4.frame _ _ _ hj4 fun b hb o e => up b o (fun q => S.zf4 (q ▸ hb)) e) hT₈ hz8 fun c o cz cT c1 c2 c3 c4 e => up c o cz (hkk c o cz cT c1 c2 c3 c4 e)
theorem zipD4_next_end' {Q : Fin → Shared → Prop} (S : ZipSep4 z TI TO i1 i2 i3 i4 fp1 fp2 fp3 fp4) (D1 : Draws prog w A i1 fp1 n1 P1 St1) (D2 : Draws prog w A i2 fp2 n2 P2 St2) (D3 : Draws prog w A i3 fp3 n3 P3 St3) (D4 : Draws prog w A i4 fp4 n4 P4 St4)
    (hz : IsZip s.heap z TI TO .none) (hTI : IsTupOf4 s.heap TI (.ref i1) (.ref i2) (.ref i3) (.ref i4)) (hTO : IsTupOf4 s.heap TO a1 a2 a3 a4) (st1 : St1 i s.heap) (st2 : St2 i s.heap) (st3 : St3 i s.heap) (st4 : St4 i s.heap) (hle1 : i ≤ n1) (hle2 : i ≤ n2) (hle3 : i ≤ n3) (hle4 : i ≤ n4) (hend : i = n1 ∨ i = n2 ∨ i = n3 ∨ i = n4)
    (hE : ∀ h' tk e, (∀ c o, c ≠ z → c ≠ TO → c ≠ i1 → c ≠ i2 → c ≠ i3 → c ≠ i4 → s.heap.get? c = some o → h'.get? c = some o) → (∃ o, h'.get? e = some o ∧ o.cls = .type "StopIteration") → E (.ref e) { s with heap := h', toks := tk }) :
    wpAny (model prog w) A (Builtin.«zip.__next__» ⟨[.ref z], []⟩) Q E s := by
  obtain ⟨hp, g, d, tk0, os⟩ := s
  show wpAny _ _ (field (.ref z) 2 >>= _) _ _ _
  refine wpAny_bind (wpAny_field hz rfl (x := .bool false) rfl ?_)
  show wpAny _ _ (field (.ref z) 3 >>= _) _ _ _
  refine wpAny_bind (wpAny_field hz rfl (x := .ref TI) rfl ?_)
  refine wpAny_bind (wpAny_seqItems hTI rfl ?_)
  show wpAny _ _ (Builtin.SmallTypes.ownedTupleIsFree (.ref z) >>= _) _ _ _
  refine wpAny_bind ?_
  unfold Builtin.SmallTypes.ownedTupleIsFree
  refine wpAny_bind (wpAny_field hz rfl (x := .none) rfl (wpAny_pure ?_))
  simp only [if_true]
  refine wpAny_bind (wpAny_rule ?_)
  refine wpAny_bind (wpAny_field hz rfl (x := .ref TO) rfl ?_)
  refine wpAny_bind (wpAny_setField_rec hz (by simp) fun g0 hz0 hs0 => ?_)
  replace hz0 : IsZip g0 z TI TO .ellipsis := hz0
  replace hs0 : Heap.SameBut z hp g0 := hs0
  refine wpAny_bind ?_
  simp only [List.zipIdx_cons, List.zipIdx_nil, List.forIn_cons, List.forIn_nil]
  refine wpAny_bind (wpAny_bind (wpAny_onRaise ?_))
  show wpAny _ _ (Builtin.SmallTypes.nextOf (.ref i1) >>= _) _ _ ⟨g0, g, d, tk0, os⟩
  by_cases hlt1 : i < n1
  · refine wpAny_bind (D1.item i _ _ _ hlt1 (D1.over st1 hs0 S.zf1) fun x1 p1 tk1 hx1 sn1 hp1 => wpAny_pure ?_)
    replace hp1 : Heap.SameBut i1 g0 p1 := hp1
    have hU1 : IsTupOf4 p1 TO a1 a2 a3 a4 := hp1.extBut _ _ S.Ti1 (hs0.extBut _ _ S.TOz hTO)
    refine wpAny_bind (wpAny_seqItems (s := ⟨p1, g, d, tk1, os⟩) hU1 rfl ?_)
    refine wpAny_bind (updateSeq_IsTupOf4 (s := ⟨p1, g, d, tk1, os⟩) hU1 fun g1 hT1 hs1 => ?_)
    replace hT1 : IsTupOf4 g1 TO x1 a2 a3 a4 := hT1
    replace hs1 : Heap.SameBut TO p1 g1 := hs1
    refine wpAny_bind (wpAny_letGo (wpAny_pure ?_))
    refine wpAny_bind (wpAny_bind (wpAny_onRaise ?_))
    show wpAny _ _ (Builtin.SmallTypes.nextOf (.ref i2) >>= _) _ _ ⟨g1, g, d, tk1, os⟩
    by_cases hlt2 : i < n2
    · refine wpAny_bind (D2.item i _ _ _ hlt2 (D2.over (D2.over (D2.over st2 hs0 S.zf2) hp1 S.sep1_2) hs1 S.Tf2) fun x2 p2 tk2 hx2 sn2 hp2 => wpAny_pure ?_)
      replace hp2 : Heap.SameBut i2 g1 p2 := hp2
      have hU2 : IsTupOf4 p2 TO x1 a2 a3 a4 := hp2.extBut _ _ S.Ti2 hT1
      refine wpAny_bind (wpAny_seqItems (s := ⟨p2, g, d, tk2, os⟩) hU2 rfl ?_)
      refine wpAny_bind (updateSeq_IsTupOf4 (s := ⟨p2, g, d, tk2, os⟩) hU2 fun g2 hT2 hs2 => ?_)
      replace hT2 : IsTupOf4 g2 TO x1 x2 a3 a4 := hT2
      replace hs2 : Heap.SameBut TO p2 g2 := hs2
      refine wpAny_bind (wpAny_letGo (wpAny_pure ?_))
      refine wpAny_bind (wpAny_bind (wpAny_onRaise ?_))
      show wpAny _ _ (Builtin.SmallTypes.nextOf (.ref i3) >>= _) _ _ ⟨g2, g, d, tk2, os⟩
      by_cases hlt3 : i < n3
      · refine wpAny_bind (D3.item i _ _ _ hlt3 (D3.over (D3.over (D3.over (D3.over (D3.over st3 hs0 S.zf3) hp1 S.sep1_3) hs1 S.Tf3) hp2 S.sep2_3) hs2 S.Tf3) fun x3 p3 tk3 hx3 sn3 hp3 => wpAny_pure ?_)
        replace hp3 : Heap.SameBut i3 g2 p3 := hp3
        have hU3 : IsTupOf4 p3 TO x1 x2 a3 a4 := hp3.extBut _ _ S.Ti3 hT2
        refine wpAny_bind (wpAny_seqItems (s := ⟨p3, g, d, tk3, os⟩) hU3 rfl ?_)
        refine wpAny_bind (updateSeq_IsTupOf4 (s := ⟨p3, g, d, tk3, os⟩) hU3 fun g3 hT3 hs3 => ?_)
        replace hT3 : IsTupOf4 g3 TO x1 x2 x3 a4 := hT3
        replace hs3 : Heap.SameBut TO p3 g3 := hs3
        refine wpAny_bind (wpAny_letGo (wpAny_pure ?_))
        refine wpAny_bind (wpAny_bind (wpAny_onRaise ?_))
        show wpAny _ _ (Builtin.SmallTypes.nextOf (.ref i4) >>= _) _ _ ⟨g3, g, d, tk3, os⟩
        have hi4 : i = n4 := by omega
        refine wpAny_bind (D4.done ⟨g3, g, d, tk3, os⟩ _ _ (by rw [← hi4]; exact (D4.over (D4.over (D4.over (D4.over (D4.over (D4.over (D4.over st4 hs0 S.zf4) hp1 S.sep1_4) hs1 S.Tf4) hp2 S.sep2_4) hs2 S.Tf4) hp3 S.sep3_4) hs3 S.Tf4)) fun q e hq he => ?_)
        replace hq : Heap.ExtBut i4 g3 q := hq
        obtain ⟨oe, hoe, hce⟩ := he
        replace hoe : q.get? e = some oe := hoe
        have hzq : IsZip q z TI TO .ellipsis := hq _ _ S.zi4 (hs3.extBut _ _ S.TOz.symm (hp3.extBut _ _ S.zi3 (hs2.extBut _ _ S.TOz.symm (hp2.extBut _ _ S.zi2 (hs1.extBut _ _ S.TOz.symm (hp1.extBut _ _ S.zi1 (hz0)))))))
        have hez : e ≠ z := fun x => by subst x; rw [hzq] at hoe; cases hoe; simp at hce
        refine wpAny_setField_rec (s := ⟨q, g, d, tk3, os⟩) hzq (by simp) fun q' _ hq' => ?_
        replace hq' : Heap.SameBut z q q' := hq'
        exact hE q' tk3 e (fun c o cz cT c1 c2 c3 c4 x => hq'.extBut _ _ cz (hq _ _ c4 (hs3.extBut _ _ cT (hp3.extBut _ _ c3 (hs2.extBut _ _ cT (hp2.extBut _ _ c2 (hs1.extBut _ _ cT (hp1.extBut _ _ c1 (hs0.extBut _ _ cz x))))))))) ⟨oe, hq'.extBut _ _ hez hoe, hce⟩
      · have hi3 : i = n3 := by omega
        refine wpAny_bind (D3.done ⟨g2, g, d, tk2, os⟩ _ _ (by rw [← hi3]; exact (D3.over (D3.over (D3.over (D3.over (D3.over st3 hs0 S.zf3) hp1 S.sep1_3) hs1 S.Tf3) hp2 S.sep2_3) hs2 S.Tf3)) fun q e hq he => ?_)
        replace hq : Heap.ExtBut i3 g2 q := hq
        obtain ⟨oe, hoe, hce⟩ := he
        replace hoe : q.get? e = some oe := hoe
        have hzq : IsZip q z TI TO .ellipsis := hq _ _ S.zi3 (hs2.extBut _ _ S.TOz.symm (hp2.extBut _ _ S.zi2 (hs1.extBut _ _ S.TOz.symm (hp1.extBut _ _ S.zi1 (hz0)))))
        have hez : e ≠ z := fun x => by subst x; rw [hzq] at hoe; cases hoe; simp at hce
        refine wpAny_setField_rec (s := ⟨q, g, d, tk2, os⟩) hzq (by simp) fun q' _ hq' => ?_
        replace hq' : Heap.SameBut z q q' := hq'
        exact hE q' tk2 e (fun c o cz cT c1 c2 c3 c4 x => hq'.extBut _ _ cz (hq _ _ c3 (hs2.extBut _ _ cT (hp2.extBut _ _ c2 (hs1.extBut _ _ cT (hp1.extBut _ _ c1 (hs0.extBut _ _ cz x))))))) ⟨oe, hq'.extBut _ _ hez hoe, hce⟩
    · have hi2 : i = n2 := by omega
      refine wpAny_bind (D2.done ⟨g1, g, d, tk1, os⟩ _ _ (by rw [← hi2]; exact (D2.over (D2.over (D2.over st2 hs0 S.zf2) hp1 S.sep1_2) hs1 S.Tf2)) fun q e hq he => ?_)
      replace hq : Heap.ExtBut i2 g1 q := hq
      obtain ⟨oe, hoe, hce⟩ := he
      replace hoe : q.get? e = some oe := hoe
      have hzq : IsZip q z TI TO .ellipsis := hq _ _ S.zi2 (hs1.extBut _ _ S.TOz.symm (hp1.extBut _ _ S.zi1 (hz0)))
      have hez : e ≠ z := fun x => by subst x; rw [hzq] at hoe; cases hoe; simp at hce
      refine wpAny_setField_rec (s := ⟨q, g, d, tk1, os⟩) hzq (by simp) fun q' _ hq' => ?_
      replace hq' : Heap.SameBut z q q' := hq'
      exact hE q' tk1 e (fun c o cz cT c1 c2 c3 c4 x => hq'.extBut _ _ cz (hq _ _ c2 (hs1.extBut _ _ cT (hp1.extBut _ _ c1 (hs0.extBut _ _ cz x))))) ⟨oe, hq'.extBut _ _ hez hoe, hce⟩
  · have hi1 : i = n1 := by omega
    refine wpAny_bind (D1.done ⟨g0, g, d, tk0, os⟩ _ _ (by rw [← hi1]; exact (D1.over st1 hs0 S.zf1)) fun q e hq he => ?_)
    replace hq : Heap.ExtBut i1 g0 q := hq
    obtain ⟨oe, hoe, hce⟩ := he
    replace hoe : q.get? e = some oe := hoe
    have hzq : IsZip q z TI TO .ellipsis := hq _ _ S.zi1 (hz0)
    have hez : e ≠ z := fun x => by subst x; rw [hzq] at hoe; cases hoe; simp at hce
    refine wpAny_setField_rec (s := ⟨q, g, d, tk0, os⟩) hzq (by simp) fun q' _ hq' => ?_
    replace hq' : Heap.SameBut z q q' := hq'
    exact hE q' tk0 e (fun c o cz cT c1 c2 c3 c4 x => hq'.extBut _ _ cz (hq _ _ c1 (hs0.extBut _ _ cz x))) ⟨oe, hq'.extBut _ _ hez hoe, hce⟩
theorem pyNext_zipD4_item {Q : Option Value → Shared → Prop} (S : ZipSep4 z TI TO i1 i2 i3 i4 fp1 fp2 fp3 fp4) (D1 : Draws prog w A.in1 i1 fp1 n1 P1 St1) (D2 : Draws prog w A.in1 i2 fp2 n2 P2 St2) (D3 : Draws prog w A.in1 i3 fp3 n3 P3 St3) (D4 : Draws prog w A.in1 i4 fp4 n4 P4 St4)
    (hz : IsZip s.heap z TI TO .none) (hTI : IsTupOf4 s.heap TI (.ref i1) (.ref i2) (.ref i3) (.ref i4)) (hTO : IsTupOf4 s.heap TO a1 a2 a3 a4) (st1 : St1 i s.heap) (st2 : St2 i s.heap) (st3 : St3 i s.heap) (st4 : St4 i s.heap) (hlt1 : i < n1) (hlt2 : i < n2) (hlt3 : i < n3) (hlt4 : i < n4)
    (hQ : ∀ x1 x2 x3 x4 h' tk, P1 i x1 → P2 i x2 → P3 i x3 → P4 i x4 → IsZip h' z TI TO (rawInt s.heap.objs.size) → IsTupOf4 h' TO x1 x2 x3 x4 → St1 (i + 1) h' → St2 (i + 1) h' → St3 (i + 1) h' → St4 (i + 1) h' → IsTupOf4 h' s.heap.objs.size x1 x2 x3 x4 → h'.objs.size = s.heap.objs.size + 1 →
      (∀ c o, c ≠ z → c ≠ TO → c ≠ i1 → c ≠ i2 → c ≠ i3 → c ≠ i4 → s.heap.get? c = some o → h'.get? c = some o) → Q (some (.ref s.heap.objs.size)) { s with heap := h', toks := tk }) :
    wpAny (model prog w) A (pyNext (.ref z)) Q E s := by
  have hT : s.TypeIs (.ref z) "zip" := ⟨_, hz, rfl⟩
  unfold pyNext
  exact wpAny_bind (wpAny_attempt (wpAny_callSpecial?_slot (name := Str.ofString "__next__") hT F.slot_zip_next (wpAny_call_entry F.slot_zip_next hT F.entry_zip_next
      (zipD4_next_item' S D1 D2 D3 D4 hz hTI hTO st1 st2 st3 st4 hlt1 hlt2 hlt3 hlt4 fun x1 x2 x3 x4 h' tk y1 y2 y3 y4 b1 b2 d1 d2 d3 d4 b5 b6 b7 => wpAny_pure (hQ x1 x2 x3 x4 h' tk y1 y2 y3 y4 b1 b2 d1 d2 d3 d4 b5 b6 b7)) (F.args_zip_next_1 _))))
theorem pyNext_zipD4_end {Q : Option Value → Shared → Prop} (S : ZipSep4 z TI TO i1 i2 i3 i4 fp1 fp2 fp3 fp4) (D1 : Draws prog w A.in1 i1 fp1 n1 P1 St1) (D2 : Draws prog w A.in1 i2 fp2 n2 P2 St2) (D3 : Draws prog w A.in1 i3 fp3 n3 P3 St3) (D4 : Draws prog w A.in1 i4 fp4 n4 P4 St4)
    (hz : IsZip s.heap z TI TO .none) (hTI : IsTupOf4 s.heap TI (.ref i1) (.ref i2) (.ref i3) (.ref i4)) (hTO : IsTupOf4 s.heap TO a1 a2 a3 a4) (st1 : St1 i s.heap) (st2 : St2 i s.heap) (st3 : St3 i s.heap) (st4 : St4 i s.heap) (hle1 : i ≤ n1) (hle2 : i ≤ n2) (hle3 : i ≤ n3) (hle4 : i ≤ n4) (hend : i = n1 ∨ i = n2 ∨ i = n3 ∨ i = n4)
    (hQ : ∀ h' tk, (∀ c o, c ≠ z → c ≠ TO → c ≠ i1 → c ≠ i2 → c ≠ i3 → c ≠ i4 → s.heap.get? c = some o → h'.get? c = some o) → Q none { s with heap := h', toks := tk }) : wpAny (model prog w) A (pyNext (.ref z)) Q E s := by
  have hT : s.TypeIs (.ref z) "zip" := ⟨_, hz, rfl⟩
  unfold pyNext
  refine wpAny_bind (wpAny_attempt (wpAny_callSpecial?_slot (name := Str.ofString "__next__") hT F.slot_zip_next
    (wpAny_call_entry F.slot_zip_next hT F.entry_zip_next (zipD4_next_end' S D1 D2 D3 D4 hz hTI hTO st1 st2 st3 st4 hle1 hle2 hle3 hle4 hend fun h' tk e hk he => ?_) (F.args_zip_next_1 _))))
  obtain ⟨o, ho, hc⟩ := he
  refine wpAny_bind (wpAny_isInstance (T := "StopIteration") (b := true) ⟨o, ho, hc⟩ isSubtype_stop ?_)
  exact wpAny_pure (hQ _ _ hk)
end
section
variable {prog : Program} {w : World} {A : Around} {E : Value → Shared → Prop} {s : Shared} {z TI TO T i1 i2 i3 : Addr} {f : Bool} {oT : Obj} {fp1 fp2 fp3 : List Addr} {n1 n2 n3 i : Nat} {P1 P2 P3 : Nat → Value → Prop} {St1 St2 St3 : Nat → Heap → Prop}
theorem zipD3_held_item {Q : Value → Shared → Prop} (S : ZipSep3 z TI TO i1 i2 i3 fp1 fp2 fp3) (D1 : Draws prog w A i1 fp1 n1 P1 St1) (D2 : Draws prog w A i2 fp2 n2 P2 St2) (D3 : Draws prog w A i3 fp3 n3 P3 St3)
    (hz : IsZipHeld s.heap z TI TO T f) (hT : s.heap.get? T = some oT) (hTI : IsTupOf3 s.heap TI (.ref i1) (.ref i2) (.ref i3)) (st1 : St1 i s.heap) (st2 : St2 i s.heap) (st3 : St3 i s.heap) (hlt1 : i < n1) (hlt2 : i < n2) (hlt3 : i < n3)
    (hQ : ∀ x1 x2 x3 h' tk, P1 i x1 → P2 i x2 → P3 i x3 → IsZipHeld h' z TI TO T true → St1 (i + 1) h' → St2 (i + 1) h' → St3 (i + 1) h' → IsTupOf3 h' s.heap.objs.size x1 x2 x3 → h'.objs.size = s.heap.objs.size + 1 →
      (∀ c o, c ≠ z → c ≠ i1 → c ≠ i2 → c ≠ i3 → s.heap.get? c = some o → h'.get? c = some o) → Q (.ref s.heap.objs.size) { s with heap := h', toks := tk }) :
    wpAny (model prog w) A (Builtin.«zip.__next__» ⟨[.ref z], []⟩) (fun fin s' => ∃ v, fin = .done (.ret v) ∧ Q v s') E s := by
  obtain ⟨hp, g, d, tk0, os⟩ := s
  show wpAny _ _ (field (.ref z) 2 >>= _) _ _ _
  refine wpAny_bind (wpAny_field hz rfl (x := .bool false) rfl ?_)
  show wpAny _ _ (field (.ref z) 3 >>= _) _ _ _
  refine wpAny_bind (wpAny_field hz rfl (x := .ref TI) rfl ?_)
  refine wpAny_bind (wpAny_seqItems hTI rfl ?_)
  show wpAny _ _ (Builtin.SmallTypes.ownedTupleIsFree (.ref z) >>= _) _ _ _
  refine wpAny_bind (wpAny_tupleHeld_zip (s := ⟨hp, g, d, tk0, os⟩) hz hT fun p0 hz0 hs0 => ?_)
  replace hz0 : IsZipHeld p0 z TI TO T true := hz0
  replace hs0 : Heap.SameBut z hp p0 := hs0
  simp only [Bool.false_eq_true, if_false]
  refine wpAny_bind ?_
  rw [← Array.forIn_toList]
  simp only [List.forIn_cons, List.forIn_nil]
  refine wpAny_bind (wpAny_bind (wpAny_holding ?_))
  show wpAny _ _ (Builtin.SmallTypes.nextOf (.ref i1) >>= _) _ _ ⟨p0, g, d, tk0, os⟩
  refine wpAny_bind (D1.item i ⟨p0, g, d, tk0, os⟩ _ _ hlt1 (D1.over st1 hs0 S.zf1) fun x1 p1 tk1 hx1 sn1 hp1 => wpAny_pure ?_)
  replace hp1 : Heap.SameBut i1 p0 p1 := hp1
  refine wpAny_pure ?_
  refine wpAny_bind (wpAny_bind (wpAny_holding ?_))
  show wpAny _ _ (Builtin.SmallTypes.nextOf (.ref i2) >>= _) _ _ ⟨p1, g, d, tk1, os⟩
  refine wpAny_bind (D2.item i ⟨p1, g, d, tk1, os⟩ _ _ hlt2 (D2.over (D2.over st2 hs0 S.zf2) hp1 S.sep1_2) fun x2 p2 tk2 hx2 sn2 hp2 => wpAny_pure ?_)
  replace hp2 : Heap.SameBut i2 p1 p2 := hp2
  refine wpAny_pure ?_
  refine wpAny_bind (wpAny_bind (wpAny_holding ?_))
  show wpAny _ _ (Builtin.SmallTypes.nextOf (.ref i3) >>= _) _ _ ⟨p2, g, d, tk2, os⟩
  refine wpAny_bind (D3.item i ⟨p2, g, d, tk2, os⟩ _ _ hlt3 (D3.over (D3.over (D3.over st3 hs0 S.zf3) hp1 S.sep1_3) hp2 S.sep2_3) fun x3 p3 tk3 hx3 sn3 hp3 => wpAny_pure ?_)
  replace hp3 : Heap.SameBut i3 p2 p3 := hp3
  refine wpAny_pure (wpAny_pure ?_)
  show wpAny _ _ (newTuple [x1, x2, x3] >>= _) _ _ ⟨p3, g, d, tk3, os⟩
  refine wpAny_bind (wpAny_newTuple ?_)
  have hsz : p3.objs.size = hp.objs.size := by rw [hp3.1, hp2.1, hp1.1, hs0.1]
  have hzz : IsZipHeld p3 z TI TO T true := hp3.extBut _ _ S.zi3 (hp2.extBut _ _ S.zi2 (hp1.extBut _ _ S.zi1 (hz0)))
  have hkk : ∀ c o, c ≠ z → c ≠ i1 → c ≠ i2 → c ≠ i3 → hp.get? c = some o → p3.get? c = some o := fun c o cz c1 c2 c3 e => hp3.extBut _ _ c3 (hp2.extBut _ _ c2 (hp1.extBut _ _ c1 (hs0.extBut _ _ cz e)))
  have hj1 : St1 (i + 1) p3 := D1.over (D1.over (sn1) hp2 S.sep2_1) hp3 S.sep3_1
  have hj2 : St2 (i + 1) p3 := D2.over (sn2) hp3 S.sep3_2
  have hj3 : St3 (i + 1) p3 := sn3
  refine wpAny_pure ⟨_, rfl, ?_⟩
  show Q (.ref p3.objs.size) ⟨p3.push { cls := .type "tuple", data := .seq #[x1, x2, x3] }, g, d, tk3, os⟩
  have hpp : IsTupOf3 (p3.push { cls := .type "tuple", data := .seq #[x1, x2, x3] }) p3.objs.size x1 x2 x3 := Heap.get?_push_size _ rfl
  have hz4 : (p3.push { cls := .type "tuple", data := .seq #[x1, x2, x3] }).objs.size = p3.objs.size + 1 := Heap.size_push ..
  rw [hsz] at hpp hz4 ⊢
  exact hQ x1 x2 x3 _ tk3 hx1 hx2 hx3 (Heap.get?_push_of_some _ hzz) (D1.frame _ _ _ hj1 fun b _ o e => Heap.get?_push_of_some _ e) (D2.frame _ _ _ hj2 fun b _ o e => Heap.get?_push_of_some _ e) (D3.frame _ _ _ hj3 fun b _ o e => Heap.get?_push_of_some _ e) hpp hz4 fun c o cz c1 c2 c3 e => Heap.get?_push_of_some _ (hkk c o cz c1 c2 c3 e)
theorem zipD3_held_end {Q : Fin → Shared → Prop} (S : ZipSep3 z TI TO i1 i2 i3 fp1 fp2 fp3) (D1 : Draws prog w A i1 fp1 n1 P1 St1) (D2 : Draws prog w A i2 fp2 n2 P2 St2) (D3 : Draws prog w A i3 fp3 n3 P3 St3)
    (hz : IsZipHeld s.heap z TI TO T f) (hT : s.heap.get? T = some oT) (hTI : IsTupOf3 s.heap TI (.ref i1) (.ref i2) (.ref i3)) (st1 : St1 i s.heap) (st2 : St2 i s.heap) (st3 : St3 i s.heap) (hle1 : i ≤ n1) (hle2 : i ≤ n2) (hle3 : i ≤ n3) (hend : i = n1 ∨ i = n2 ∨ i = n3)
    (hE : ∀ h' tk e, (∀ c o, c ≠ z → c ≠ i1 → c ≠ i2 → c ≠ i3 → s.heap.get? c = some o → h'.get? c = some o) → (∃ o, h'.get? e = some o ∧ o.cls = .type "StopIteration") → E (.ref e) { s with heap := h', toks := tk }) :
    wpAny (model prog w) A (Builtin.«zip.__next__» ⟨[.ref z], []⟩) Q E s := by
  obtain ⟨hp, g, d, tk0, os⟩ := s
  show wpAny _ _ (field (.ref z) 2 >>= _) _ _ _
  refine wpAny_bind (wpAny_field hz rfl (x := .bool false) rfl ?_)
  show wpAny _ _ (field (.ref z) 3 >>= _) _ _ _
  refine wpAny_bind (wpAny_field hz rfl (x := .ref TI) rfl ?_)
  refine wpAny_bind (wpAny_seqItems hTI rfl ?_)
  show wpAny _ _ (Builtin.SmallTypes.ownedTupleIsFree (.ref z) >>= _) _ _ _
  refine wpAny_bind (wpAny_tupleHeld_zip (s := ⟨hp, g, d, tk0, os⟩) hz hT fun p0 hz0 hs0 => ?_)
  replace hz0 : IsZipHeld p0 z TI TO T true := hz0
  replace hs0 : Heap.SameBut z hp p0 := hs0
  simp only [Bool.false_eq_true, if_false]
  refine wpAny_bind ?_
  rw [← Array.forIn_toList]
  simp only [List.forIn_cons, List.forIn_nil]
  refine wpAny_bind (wpAny_bind (wpAny_holding ?_))
  show wpAny _ _ (Builtin.SmallTypes.nextOf (.ref i1) >>= _) _ _ ⟨p0, g, d, tk0, os⟩
  by_cases hlt1 : i < n1
  · refine wpAny_bind (D1.item i ⟨p0, g, d, tk0, os⟩ _ _ hlt1 (D1.over st1 hs0 S.zf1) fun x1 p1 tk1 hx1 sn1 hp1 => wpAny_pure ?_)
    replace hp1 : Heap.SameBut i1 p0 p1 := hp1
    refine wpAny_pure ?_
    refine wpAny_bind (wpAny_bind (wpAny_holding ?_))
    show wpAny _ _ (Builtin.SmallTypes.nextOf (.ref i2) >>= _) _ _ ⟨p1, g, d, tk1, os⟩
    by_cases hlt2 : i < n2
    · refine wpAny_bind (D2.item i ⟨p1, g, d, tk1, os⟩ _ _ hlt2 (D2.over (D2.over st2 hs0 S.zf2) hp1 S.sep1_2) fun x2 p2 tk2 hx2 sn2 hp2 => wpAny_pure ?_)
      replace hp2 : Heap.SameBut i2 p1 p2 := hp2
      refine wpAny_pure ?_
      refine wpAny_bind (wpAny_bind (wpAny_holding ?_))
      show wpAny _ _ (Builtin.SmallTypes.nextOf (.ref i3) >>= _) _ _ ⟨p2, g, d, tk2, os⟩
      have hi3 : i = n3 := by omega
      refine wpAny_bind (D3.done ⟨p2, g, d, tk2, os⟩ _ _ (by rw [← hi3]; exact (D3.over (D3.over (D3.over st3 hs0 S.zf3) hp1 S.sep1_3) hp2 S.sep2_3)) fun q e hq he => ?_)
      replace hq : Heap.ExtBut i3 p2 q := hq
      exact hE q tk2 e (fun c o cz c1 c2 c3 x => hq _ _ c3 (hp2.extBut _ _ c2 (hp1.extBut _ _ c1 (hs0.extBut _ _ cz x)))) he
    · have hi2 : i = n2 := by omega
      refine wpAny_bind (D2.done ⟨p1, g, d, tk1, os⟩ _ _ (by rw [← hi2]; exact (D2.over (D2.over st2 hs0 S.zf2) hp1 S.sep1_2)) fun q e hq he => ?_)
      replace hq : Heap.ExtBut i2 p1 q := hq
      exact hE q tk1 e (fun c o cz c1 c2 c3 x => hq _ _ c2 (hp1.extBut _ _ c1 (hs0.extBut _ _ cz x))) he
  · have hi1 : i = n1 := by omega
    refine wpAny_bind (D1.done ⟨p0, g, d, tk0, os⟩ _ _ (by rw [← hi1]; exact (D1.over st1 hs0 S.zf1)) fun q e hq he => ?_)
    replace hq : Heap.ExtBut i1 p0 q := hq
    exact hE q tk0 e (fun c o cz c1 c2 c3 x => hq _ _ c1 (hs0.extBut _ _ cz x)) he
theorem pyNext_heldD3_item {Q : Option Value → Shared → Prop} (S : ZipSep3 z TI TO i1 i2 i3 fp1 fp2 fp3) (D1 : Draws prog w A.in1 i1 fp1 n1 P1 St1) (D2 : Draws prog w A.in1 i2 fp2 n2 P2 St2) (D3 : Draws prog w A.in1 i3 fp3 n3 P3 St3)
    (hz : IsZipHeld s.heap z TI TO T f) (hT : s.heap.get? T = some oT) (hTI : IsTupOf3 s.heap TI (.ref i1) (.ref i2) (.ref i3)) (st1 : St1 i s.heap) (st2 : St2 i s.heap) (st3 : St3 i s.heap) (hlt1 : i < n1) (hlt2 : i < n2) (hlt3 : i < n3)
    (hQ : ∀ x1 x2 x3 h' tk, P1 i x1 → P2 i x2 → P3 i x3 → IsZipHeld h' z TI TO T true → St1 (i + 1) h' → St2 (i + 1) h' → St3 (i + 1) h' → IsTupOf3 h' s.heap.objs.size x1 x2 x3 → h'.objs.size = s.heap.objs.size + 1 →
      (∀ c o, c ≠ z → c ≠ i1 → c ≠ i2 → c ≠ i3 → s.heap.get? c = some o → h'.get? c = some o) → Q (some (.ref s.heap.objs.size)) { s with heap := h', toks := tk }) :
    wpAny (model prog w) A (pyNext (.ref z)) Q E s := by
  have hTy : s.TypeIs (.ref z) "zip" := ⟨_, hz, rfl⟩
  unfold pyNext
  exact wpAny_bind (wpAny_attempt (wpAny_callSpecial?_slot (name := Str.ofString "__next__") hTy F.slot_zip_next (wpAny_call_entry F.slot_zip_next hTy F.entry_zip_next
      (zipD3_held_item S D1 D2 D3 hz hT hTI st1 st2 st3 hlt1 hlt2 hlt3 fun x1 x2 x3 h' tk y1 y2 y3 b1 d1 d2 d3 b5 b6 b7 => wpAny_pure (hQ x1 x2 x3 h' tk y1 y2 y3 b1 d1 d2 d3 b5 b6 b7)) (F.args_zip_next_1 _))))
theorem pyNext_heldD3_end {Q : Option Value → Shared → Prop} (S : ZipSep3 z TI TO i1 i2 i3 fp1 fp2 fp3) (D1 : Draws prog w A.in1 i1 fp1 n1 P1 St1) (D2 : Draws prog w A.in1 i2 fp2 n2 P2 St2) (D3 : Draws prog w A.in1 i3 fp3 n3 P3 St3)
    (hz : IsZipHeld s.heap z TI TO T f) (hT : s.heap.get? T = some oT) (hTI : IsTupOf3 s.heap TI (.ref i1) (.ref i2) (.ref i3)) (st1 : St1 i s.heap) (st2 : St2 i s.heap) (st3 : St3 i s.heap) (hle1 : i ≤ n1) (hle2 : i ≤ n2) (hle3 : i ≤ n3) (hend : i = n1 ∨ i = n2 ∨ i = n3)
    (hQ : ∀ h' tk, (∀ c o, c ≠ z → c ≠ i1 → c ≠ i2 → c ≠ i3 → s.heap.get? c = some o → h'.get? c = some o) → Q none { s with heap := h', toks := tk }) : wpAny (model prog w) A (pyNext (.ref z)) Q E s := by
  have hTy : s.TypeIs (.ref z) "zip" := ⟨_, hz, rfl⟩
  unfold pyNext
  refine wpAny_bind (wpAny_attempt (wpAny_callSpecial?_slot (name := Str.ofString "__next__") hTy F.slot_zip_next
    (wpAny_call_entry F.slot_zip_next hTy F.entry_zip_next (zipD3_held_end S D1 D2 D3 hz hT hTI st1 st2 st3 hle1 hle2 hle3 hend fun h' tk e hk he => ?_) (F.args_zip_next_1 _))))
  obtain ⟨o, ho, hc⟩ := he
  refine wpAny_bind (wpAny_isInstance (T := "StopIteration") (b := true) ⟨o, ho, hc⟩ isSubtype_stop ?_)
  exact wpAny_pure (hQ _ _ hk)
end
abbrev gzT4 (h : Heap) (o1 o2 o3 o4 : Obj) : Heap := ((((h.push o1).push o2).push o3).push o4).push { cls := .type "tuple", data := .seq #[.ref h.objs.size, .ref (h.push o1).objs.size, .ref ((h.push o1).push o2).objs.size, .ref (((h.push o1).push o2).push o3).objs.size] }
abbrev gzO4 (h : Heap) (o1 o2 o3 o4 : Obj) : Heap := (gzT4 h o1 o2 o3 o4).push { cls := .type "tuple", data := .seq #[.none, .none, .none, .none] }
abbrev gzZ4 (h : Heap) (o1 o2 o3 o4 : Obj) : Heap := (gzO4 h o1 o2 o3 o4).push { cls := .type "zip", data := .fields #[.none, .bool false, .bool false, .ref ((((h.push o1).push o2).push o3).push o4).objs.size, .ref (gzT4 h o1 o2 o3 o4).objs.size] }
theorem typeCall_zip_4 (v1 v2 v3 v4 : Value) : checkTypeCall "zip" ⟨[v1, v2, v3, v4], []⟩ = pure () := by kernel_rfl
theorem newCall_zip_4 (v1 v2 v3 v4 : Value) : checkBuiltinCall "zip.__new__" ⟨[.type "zip", v1, v2, v3, v4], []⟩ = pure () := by kernel_rfl
theorem args_object_init_5 (obj v1 v2 v3 v4 : Value) : argsOk "object.__init__" ⟨[obj, v1, v2, v3, v4], []⟩ := by unfold argsOk; kernel_rfl
theorem meets_zip_newB4 {v1 v2 v3 v4 : Value} {o1 o2 o3 o4 : Obj} {H1 H2 H3 H4 : Heap → Prop} (B1 : Begins v1 o1 H1) (B2 : Begins v2 o2 H2) (B3 : Begins v3 o3 H3) (B4 : Begins v4 o4 H4) :
    Meets (Builtin.«zip.__new__» ⟨[.type "zip", v1, v2, v3, v4], []⟩) (fun _ R s => (H1 s.heap ∧ H2 s.heap ∧ H3 s.heap ∧ H4 s.heap) ∧
      R (.ok (.ret (.ref (gzO4 s.heap o1 o2 o3 o4).objs.size))) { s with heap := gzZ4 s.heap o1 o2 o3 o4 }) :=
  .of_wp fun prog w A R s h => by
    obtain ⟨hp, g, d, tk, os⟩ := s; obtain ⟨⟨h1, h2, h3, h4⟩, h⟩ := h
    have hsub := sub_zip
    have q1 : ∀ {A' : Around} {E : Value → Shared → Prop} {Q : Value → Shared → Prop}, Q (.ref hp.objs.size) ⟨(hp.push o1), g, d, tk, os⟩ → wpAny (model prog w) A' (pyIter v1) Q E ⟨hp, g, d, tk, os⟩ :=
      fun q => B1.iter prog w _ _ ⟨hp, g, d, tk, os⟩ _ (B1.keeps _ _ h1 fun b o' e => e) q
    have q2 : ∀ {A' : Around} {E : Value → Shared → Prop} {Q : Value → Shared → Prop}, Q (.ref (hp.push o1).objs.size) ⟨((hp.push o1).push o2), g, d, tk, os⟩ → wpAny (model prog w) A' (pyIter v2) Q E ⟨(hp.push o1), g, d, tk, os⟩ :=
      fun q => B2.iter prog w _ _ ⟨(hp.push o1), g, d, tk, os⟩ _ (B2.keeps _ _ h2 fun b o' e => (Heap.get?_push_of_some _ e)) q
    have q3 : ∀ {A' : Around} {E : Value → Shared → Prop} {Q : Value → Shared → Prop}, Q (.ref ((hp.push o1).push o2).objs.size) ⟨(((hp.push o1).push o2).push o3), g, d, tk, os⟩ → wpAny (model prog w) A' (pyIter v3) Q E ⟨((hp.push o1).push o2), g, d, tk, os⟩ :=
      fun q => B3.iter prog w _ _ ⟨((hp.push o1).push o2), g, d, tk, os⟩ _ (B3.keeps _ _ h3 fun b o' e => (Heap.get?_push_of_some _ (Heap.get?_push_of_some _ e))) q
    have q4 : ∀ {A' : Around} {E : Value → Shared → Prop} {Q : Value → Shared → Prop}, Q (.ref (((hp.push o1).push o2).push o3).objs.size) ⟨((((hp.push o1).push o2).push o3).push o4), g, d, tk, os⟩ → wpAny (model prog w) A' (pyIter v4) Q E ⟨(((hp.push o1).push o2).push o3), g, d, tk, os⟩ :=
      fun q => B4.iter prog w _ _ ⟨(((hp.push o1).push o2).push o3), g, d, tk, os⟩ _ (B4.keeps _ _ h4 fun b o' e => (Heap.get?_push_of_some _ (Heap.get?_push_of_some _ (Heap.get?_push_of_some _ e)))) q
    wp_walk using q1, q2, q3, q4
    exact ⟨_, rfl, h⟩
section
variable {prog : Program} {w : World} {A : Around} {E : Value → Shared → Prop} {s : Shared}
theorem zip_begins4 {v1 v2 v3 v4 : Value} {o1 o2 o3 o4 : Obj} {H1 H2 H3 H4 : Heap → Prop} {Q : Value → Shared → Prop} (B1 : Begins v1 o1 H1) (B2 : Begins v2 o2 H2) (B3 : Begins v3 o3 H3) (B4 : Begins v4 o4 H4) (h1 : H1 s.heap) (h2 : H2 s.heap) (h3 : H3 s.heap) (h4 : H4 s.heap)
    (h : ∀ h', IsZip h' (s.heap.objs.size + 6) (s.heap.objs.size + 4) (s.heap.objs.size + 5) .none → IsTupOf4 h' (s.heap.objs.size + 4) (.ref s.heap.objs.size) (.ref (s.heap.objs.size + 1)) (.ref (s.heap.objs.size + 2)) (.ref (s.heap.objs.size + 3)) →
      IsTupOf4 h' (s.heap.objs.size + 5) .none .none .none .none → h'.get? s.heap.objs.size = some o1 → h'.get? (s.heap.objs.size + 1) = some o2 → h'.get? (s.heap.objs.size + 2) = some o3 → h'.get? (s.heap.objs.size + 3) = some o4 → h'.objs.size = s.heap.objs.size + 7 →
      (∀ c o, s.heap.get? c = some o → h'.get? c = some o) → Q (.ref (s.heap.objs.size + 6)) { s with heap := h' }) :
    wpAny (model prog w) A (call (.type "zip") [v1, v2, v3, v4]) Q E s := by
  refine callType_new F.called_zip (by decide) (typeCall_zip_4 _ _ _ _) (newCall_zip_4 _ _ _ _) (fun obj => args_object_init_5 obj _ _ _ _) F.entry_zip_new
    (meets_zip_newB4 B1 B2 B3 B4) ⟨⟨h1, h2, h3, h4⟩, ?_⟩
  have z1 : (s.heap.push o1).objs.size = s.heap.objs.size + 1 := by rw [Heap.size_push]
  have z2 : ((s.heap.push o1).push o2).objs.size = s.heap.objs.size + 2 := by rw [Heap.size_push, z1]
  have z3 : (((s.heap.push o1).push o2).push o3).objs.size = s.heap.objs.size + 3 := by rw [Heap.size_push, z2]
  have z4 : ((((s.heap.push o1).push o2).push o3).push o4).objs.size = s.heap.objs.size + 4 := by rw [Heap.size_push, z3]
  have zT : (gzT4 s.heap o1 o2 o3 o4).objs.size = s.heap.objs.size + 5 := by rw [Heap.size_push, z4]
  have zO : (gzO4 s.heap o1 o2 o3 o4).objs.size = s.heap.objs.size + 6 := by rw [Heap.size_push, zT]
  have zZ : (gzZ4 s.heap o1 o2 o3 o4).objs.size = s.heap.objs.size + 7 := by rw [Heap.size_push, zO]
  have gZ : (gzZ4 s.heap o1 o2 o3 o4).get? (gzO4 s.heap o1 o2 o3 o4).objs.size = some { cls := .type "zip", data := .fields #[.none, .bool false, .bool false, .ref ((((s.heap.push o1).push o2).push o3).push o4).objs.size, .ref (gzT4 s.heap o1 o2 o3 o4).objs.size] } := Heap.get?_push_size _ rfl
  have gO : (gzZ4 s.heap o1 o2 o3 o4).get? (gzT4 s.heap o1 o2 o3 o4).objs.size = some { cls := .type "tuple", data := .seq #[.none, .none, .none, .none] } := Heap.get?_push_of_some _ (Heap.get?_push_size _ rfl)
  have gT : (gzZ4 s.heap o1 o2 o3 o4).get? ((((s.heap.push o1).push o2).push o3).push o4).objs.size = some { cls := .type "tuple", data := .seq #[.ref s.heap.objs.size, .ref (s.heap.push o1).objs.size, .ref ((s.heap.push o1).push o2).objs.size, .ref (((s.heap.push o1).push o2).push o3).objs.size] } := Heap.get?_push_of_some _ (Heap.get?_push_of_some _ (Heap.get?_push_size _ rfl))
  have g1 : (gzZ4 s.heap o1 o2 o3 o4).get? s.heap.objs.size = some o1 := Heap.get?_push_of_some _ (Heap.get?_push_of_some _ (Heap.get?_push_of_some _ (Heap.get?_push_of_some _ (Heap.get?_push_of_some _ (Heap.get?_push_of_some _ (Heap.get?_push_size _ B1.free))))))
  have g2 : (gzZ4 s.heap o1 o2 o3 o4).get? (s.heap.push o1).objs.size = some o2 := Heap.get?_push_of_some _ (Heap.get?_push_of_some _ (Heap.get?_push_of_some _ (Heap.get?_push_of_some _ (Heap.get?_push_of_some _ (Heap.get?_push_size _ B2.free)))))
  have g3 : (gzZ4 s.heap o1 o2 o3 o4).get? ((s.heap.push o1).push o2).objs.size = some o3 := Heap.get?_push_of_some _ (Heap.get?_push_of_some _ (Heap.get?_push_of_some _ (Heap.get?_push_of_some _ (Heap.get?_push_size _ B3.free))))
  have g4 : (gzZ4 s.heap o1 o2 o3 o4).get? (((s.heap.push o1).push o2).push o3).objs.size = some o4 := Heap.get?_push_of_some _ (Heap.get?_push_of_some _ (Heap.get?_push_of_some _ (Heap.get?_push_size _ B4.free)))
  rw [zO, zT, z4] at gZ
  rw [zT] at gO
  rw [z4, z3, z2, z1] at gT
  rw [z1] at g2
  rw [z2] at g3
  rw [z3] at g4
  show _ ∧ _
  rw [zO]
  exact ⟨⟨_, gZ, rfl⟩, h _ gZ gT gO g1 g2 g3 g4 zZ fun c o e => Heap.get?_push_of_some _ (Heap.get?_push_of_some _ (Heap.get?_push_of_some _ (Heap.get?_push_of_some _ (Heap.get?_push_of_some _ (Heap.get?_push_of_some _ (Heap.get?_push_of_some _ (e)))))))⟩
end
end K33
set_option maxRecDepth 100000
set_option maxHeartbeats 4000000
/-! k33: zip of tuples and lists as a value, walked by its name (printed by gen_zipk.py). -/
namespace K33
open PySem PySem.Spec PyProof.Rows L2
/-- several things laid -/
def layA (H : Hp) (l : List (Addr × HO)) : Hp := fun b => match l.lookup b with
  | some o => some o
  | none => H b
theorem lookup_mem {α β : Type} [BEq α] [LawfulBEq α] : ∀ {l : List (α × β)} {a : α} {b : β}, l.lookup a = some b → (a, b) ∈ l
  | [], a, b, h => by simp at h
  | (x, y) :: r, a, b, h => by
    rw [List.lookup_cons] at h
    by_cases e : a == x
    · rw [e] at h
      have e1 : a = x := eq_of_beq e
      subst e1
      have e2 : y = b := Option.some.inj h
      subst e2
      exact List.mem_cons_self
    · have e' : (a == x) = false := by simpa using e
      rw [e'] at h
      exact List.mem_cons_of_mem _ (lookup_mem h)
theorem lookup_nd {α β : Type} [BEq α] [LawfulBEq α] : ∀ {l : List (α × β)} {a : α} {b : β}, (l.map (·.1)).Nodup → (a, b) ∈ l → l.lookup a = some b
  | [], a, b, _, h => by simp at h
  | (x, y) :: r, a, b, nd, h => by
    rw [List.lookup_cons]
    rw [List.map_cons, List.nodup_cons] at nd
    rcases List.mem_cons.mp h with e | h2
    · cases e
      simp
    · have ne : (a == x) = false := by
        apply beq_eq_false_iff_ne.mpr
        intro e
        subst e
        exact nd.1 (List.mem_map.mpr ⟨_, h2, rfl⟩)
      rw [ne]
      exact lookup_nd nd.2 h2
theorem lookup_out {α β : Type} [BEq α] [LawfulBEq α] {l : List (α × β)} {a : α} (h : ∀ p ∈ l, a ≠ p.1) : l.lookup a = none := by
  cases e : l.lookup a with
  | none => rfl
  | some b => exact absurd rfl (h _ (lookup_mem e))
theorem layA_in {H : Hp} {l : List (Addr × HO)} {p : Addr × HO} (nd : (l.map (·.1)).Nodup) (h : p ∈ l) : layA H l p.1 = some p.2 := by
  unfold layA
  rw [lookup_nd (b := p.2) nd h]
theorem layA_old {H : Hp} {l : List (Addr × HO)} {b : Addr} (h : ∀ p ∈ l, b ≠ p.1) : layA H l b = H b := by
  unfold layA
  rw [lookup_out h]
theorem laidA {X : Cx} {pins : List (Addr × Obj)} {σ : L2.St} {H : Hp} {s : Shared} {h' : Heap} {t' : Nat} {l : List (Addr × HO)} (I : L2.Inv X pins σ H s) (k : ∀ b u, s.heap.get? b = some u → h'.get? b = some u)
    (new : ∀ p ∈ l, s.heap.objs.size ≤ p.1 ∧ ObjOk X.prog X.w (layA H l) h' p.1 p.2) : L2.Inv X pins σ (layA H l) { s with heap := h', toks := t' } := by
  refine laidL I k (fun b u e => ?_) fun b u e => ?_
  · refine (layA_old fun p hp => ?_).trans e
    exact Nat.ne_of_lt (Nat.lt_of_lt_of_le (I.hok.lt e) (new p hp).1)
  · unfold layA at e
    cases ho : l.lookup b with
    | none =>
      rw [ho] at e
      exact .inl e
    | some o =>
      rw [ho] at e
      cases e
      exact .inr (new (b, u) (lookup_mem ho))
/-! ### kinds TL -/
def ItzTL (K : PySem.W.Frag) (c1 c2 : Addr) : It :=
  ⟨fun i H => ∃ (xs1 xs2 : List V) (x1 x2 : V), SqT K H c1 xs1 ∧ SqL K H c2 xs2 ∧ xs1[i]? = some x1 ∧ xs2[i]? = some x2,
    fun i H v H' => ∃ (T : Addr) (x1 x2 : V), v = .ref T ∧ H T = none ∧ H' = upd H T (.tup [x1, x2]) ∧ (∀ xs, SqT K H c1 xs → xs[i]? = some x1) ∧ (∀ xs, SqL K H c2 xs → xs[i]? = some x2),
    fun i H => ∃ (xs1 xs2 : List V), SqT K H c1 xs1 ∧ SqL K H c2 xs2 ∧ (i ≤ xs1.length ∧ i ≤ xs2.length) ∧ (i = xs1.length ∨ i = xs2.length)⟩
theorem turn_zTL {P : Program} {w : World} {K : PySem.W.Frag} {elts : List Expr} {kk : Nat} {tpos : Pos} {N c1 c2 : Addr} (l1 : c1 < N) (l2 : c2 < N) :
    Turn P w K (.Tuple elts kk tpos) (ItzTL K c1 c2) [N, (N + 1), (N + 2), (N + 3), (N + 4)] (N + 4) (fun i h => IsZip h (N + 4) (N + 2) (N + 3) .none ∧ IsTupOf2 h (N + 2) (.ref N) (.ref (N + 1)) ∧ (∃ e1 e2, IsTupOf2 h (N + 3) e1 e2) ∧ h.IsTupleIter N c1 i ∧ h.IsListIter (N + 1) c2 i) where
  mem := by simp
  obj := fun i h st c hc => by
    obtain ⟨hz, hTI, ⟨e1, e2, hTO⟩, h1, h2⟩ := st
    obtain ⟨ob1, eb1, _, db1⟩ := h1
    obtain ⟨ob2, eb2, _, db2⟩ := h2
    have e' : c = N ∨ c = (N + 1) ∨ c = (N + 2) ∨ c = (N + 3) ∨ c = (N + 4) := by simpa using hc
    rcases e' with q | q | q | q | q
    · rw [q]; exact ⟨ob1, eb1, fun v q => by rw [db1] at q; cases q⟩
    · rw [q]; exact ⟨ob2, eb2, fun v q => by rw [db2] at q; cases q⟩
    · rw [q]; exact ⟨_, hTI, fun v q => nomatch q⟩
    · rw [q]; exact ⟨_, hTO, fun v q => nomatch q⟩
    · rw [q]; exact ⟨_, hz, fun v q => nomatch q⟩
  keep := fun i h h' st k => by
    obtain ⟨hz, hTI, ⟨e1, e2, hTO⟩, h1, h2⟩ := st
    exact ⟨k _ (by simp) _ hz, k _ (by simp) _ hTI, ⟨e1, e2, k _ (by simp) _ hTO⟩, h1.at fun o q => k _ (by simp) o q, h2.at fun o q => k _ (by simp) o q⟩
  item := by
    intro X hP hw hK hc i pins s σ H E I hf st hg
    subst hP hw hK
    obtain ⟨hz, hTI, ⟨e1, e2, hTO⟩, h1, h2⟩ := st
    obtain ⟨xs1, xs2, x1, x2, hq1, hq2, hx1, hx2⟩ := hg
    obtain ⟨its1, rv1, p1, _⟩ := I.tuple hq1
    obtain ⟨u1, hu1, ru1⟩ := rv1.get hx1
    have hlt1 : i < its1.toArray.size := by rw [List.size_toArray]; exact (List.getElem?_eq_some_iff.mp hu1).1
    have q1 : s.heap.IsTuple c1 its1.toArray := p1
    obtain ⟨its2, rv2, p2, _⟩ := I.list hq2
    obtain ⟨u2, hu2, ru2⟩ := rv2.get hx2
    have hlt2 : i < its2.toArray.size := by rw [List.size_toArray]; exact (List.getElem?_eq_some_iff.mp hu2).1
    have q2 : s.heap.IsList c2 its2.toArray := p2.isList
    have hh := I.ok.hd hc
    have SP := zip_sep2 (fp1 := [c1]) (fp2 := [c2]) (fun b hb => by rw [List.mem_singleton.mp hb]; exact l1) (fun b hb => by rw [List.mem_singleton.mp hb]; exact l2)
    have D1 := Draws.tuple (prog := X.prog) (w := X.w) (A := X.A.in1) hh N c1 (Nat.ne_of_lt l1) its1.toArray
    have D2 := Draws.list (prog := X.prog) (w := X.w) (A := X.A.in1) hh (N + 1) c2 (Nat.ne_of_lt (Nat.lt_of_lt_of_le l2 (Nat.le_add_right _ _))) its2.toArray
    have hzl : (N + 4) < s.heap.objs.size := Heap.lt_size hz
    refine wpAny_pyNext_zipD2_item SP D1 D2 hz hTI hTO ⟨h1, q1⟩ ⟨h2, q2⟩ hlt1 hlt2 fun v1 v2 h' tk pv1 pv2 z' TO' sn1 sn2 hT hsz hk => ?_
    have ev1 : v1 = u1 := by
      have e : its1.toArray[i]? = some v1 := pv1
      rw [List.getElem?_toArray, hu1] at e
      exact (Option.some.inj e).symm
    subst ev1
    have ev2 : v2 = u2 := by
      have e : its2.toArray[i]? = some v2 := pv2
      rw [List.getElem?_toArray, hu2] at e
      exact (Option.some.inj e).symm
    subst ev2
    refine ⟨_, rfl, wpAny_letOwnedTupleGo_zip (s := { s with heap := h', toks := tk }) z' fun h'' z'' sb => ?_⟩
    have hT2 : h''.get? s.heap.objs.size = some { cls := .type "tuple", data := .seq #[v1, v2] } := (sb.2 _ (Nat.ne_of_gt hzl)).trans hT
    have new : ObjOk X.prog X.w (upd H s.heap.objs.size (.tup [x1, x2])) h'' s.heap.objs.size (.tup [x1, x2]) :=
      ⟨by show 2 ≤ sizeLine; decide, [v1, v2], .cons ru1 (.cons ru2 .nil), ⟨_, hT2, rfl, _, rfl⟩⟩
    have I1 : L2.Inv X pins σ (upd H s.heap.objs.size (.tup [x1, x2])) { s with heap := h'', toks := tk } :=
      I.turnedNew (t' := tk) (ch := [N, (N + 1), (N + 2), (N + 3), (N + 4)]) (fun c o hb q => (sb.2 c (fun q' => hb (by simp [q']))).trans (hk c o (fun q' => hb (by simp [q'])) (fun q' => hb (by simp [q'])) (fun q' => hb (by simp [q'])) (fun q' => hb (by simp [q'])) q)) hf (Nat.le_refl _) new
    refine ⟨.ref s.heap.objs.size, _, I1, rfl, ⟨_, x1, x2, rfl, I.hok.fresh (Nat.le_refl _), rfl, fun l hl => by rw [I.tuple_inj hl hq1]; exact hx1, fun l hl => by rw [I.list_inj hl hq2]; exact hx2⟩, ⟨z'', ?_, ⟨v1, v2, ?_⟩, ?_, ?_⟩, fun c hcm => ?_⟩
    · exact (sb.2 _ SP.TIz).trans (hk _ _ SP.TIz SP.TITO SP.TIi1 SP.TIi2 hTI)
    · exact (sb.2 _ SP.TOz).trans TO'
    · exact (sn1.1).at fun o q => (sb.2 _ SP.zi1.symm).trans q
    · exact (sn2.1).at fun o q => (sb.2 _ SP.zi2.symm).trans q
    · have hlt : c < s.heap.objs.size := by
        obtain ⟨o, e, _⟩ : ∃ o, s.heap.get? c = some o ∧ True := by
          have e' : c = N ∨ c = (N + 1) ∨ c = (N + 2) ∨ c = (N + 3) ∨ c = (N + 4) := by simpa using hcm
          rcases e' with q | q | q | q | q
          · rw [q]; obtain ⟨o, e, _⟩ := h1; exact ⟨o, e, trivial⟩
          · rw [q]; obtain ⟨o, e, _⟩ := h2; exact ⟨o, e, trivial⟩
          · rw [q]; exact ⟨_, hTI, trivial⟩
          · rw [q]; exact ⟨_, hTO, trivial⟩
          · rw [q]; exact ⟨_, hz, trivial⟩
        exact Heap.lt_size e
      rw [upd_ne (Nat.ne_of_lt hlt)]
      exact (hf c hcm).1
  done := by
    intro X hP hw hK hc i pins s σ H E I hf st hg
    subst hP hw hK
    obtain ⟨hz, hTI, ⟨e1, e2, hTO⟩, h1, h2⟩ := st
    obtain ⟨xs1, xs2, hq1, hq2, ⟨hn1, hn2⟩, hend⟩ := hg
    obtain ⟨its1, rv1, p1, _⟩ := I.tuple hq1
    have hsz1 : its1.toArray.size = xs1.length := by rw [List.size_toArray]; exact rv1.length.symm
    have hle1 : i ≤ its1.toArray.size := by omega
    have q1 : s.heap.IsTuple c1 its1.toArray := p1
    obtain ⟨its2, rv2, p2, _⟩ := I.list hq2
    have hsz2 : its2.toArray.size = xs2.length := by rw [List.size_toArray]; exact rv2.length.symm
    have hle2 : i ≤ its2.toArray.size := by omega
    have q2 : s.heap.IsList c2 its2.toArray := p2.isList
    have hh := I.ok.hd hc
    have SP := zip_sep2 (fp1 := [c1]) (fp2 := [c2]) (fun b hb => by rw [List.mem_singleton.mp hb]; exact l1) (fun b hb => by rw [List.mem_singleton.mp hb]; exact l2)
    have D1 := Draws.tuple (prog := X.prog) (w := X.w) (A := X.A.in1) hh N c1 (Nat.ne_of_lt l1) its1.toArray
    have D2 := Draws.list (prog := X.prog) (w := X.w) (A := X.A.in1) hh (N + 1) c2 (Nat.ne_of_lt (Nat.lt_of_lt_of_le l2 (Nat.le_add_right _ _))) its2.toArray
    exact wpAny_pyNext_zipD2_end SP D1 D2 hz hTI hTO ⟨h1, q1⟩ ⟨h2, q2⟩ hle1 hle2 (by omega) fun h' tk hk => ⟨rfl, I.turnedL (t' := tk) (ch := [N, (N + 1), (N + 2), (N + 3), (N + 4)]) (fun c o hb q => hk c o (fun q' => hb (by simp [q'])) (fun q' => hb (by simp [q'])) (fun q' => hb (by simp [q'])) (fun q' => hb (by simp [q'])) q) hf⟩
  self := fun A i s Q E st h => wpAny_pyIter_zip st.1 h
def zATL (N c1 c2 : Addr) : List (Addr × HO) := [(N, .ext fun h => h.IsTupleIter N c1 0), ((N + 1), .ext fun h => h.IsListIter (N + 1) c2 0), ((N + 2), .ext fun h => IsTupOf2 h (N + 2) (.ref N) (.ref (N + 1))), ((N + 3), .ext fun h => IsTupOf2 h (N + 3) .none .none), ((N + 4), .ext fun h => IsZip h (N + 4) (N + 2) (N + 3) .none)]
/-- a zip just made, tracked -/
structure ZdTL (H : Hp) (n N c1 c2 : Addr) : Prop where
  young : n ≤ N
  l1 : c1 < N
  l2 : c2 < N
  at_ : ∀ p ∈ zATL N c1 c2, H p.1 = some p.2
def tZipTL (K : PySem.W.Frag) (n : Nat) (ta : TA) : TE := fun σ H Q => ta σ H fun vs H1 => ∃ (c1 c2 : Addr) (xs1 xs2 : List V), vs = [.ref c1, .ref c2] ∧ SqT K H1 c1 xs1 ∧ SqL K H1 c2 xs2 ∧
  ∀ (N : Addr) H', ZdTL H' n N c1 c2 → Same H1 H' → (∀ j, j < 5 → H1 (N + j) = none) → Q (.ref (N + 4)) H'
theorem pe_zipTL {X : Cx} {a1 a2 : Expr} {ta : TA} {p pos : Pos} (hg : Gl X "zip") (hm : X.mg "zip" = none) (ha : PA X [a1, a2] ta)
    (hs : starEach [a1, a2] X.env = (false, eval a1 X.env) :: starEach [a2] X.env := by rfl) (hpl : (backTo pos (starEach [a2] X.env)).any (·.1) = false := by rfl) :
    PE X (.Call (.Name "zip" p) [a1, a2] [] pos) (tZipTL X.K X.s_0.heap.objs.size ta) := by
  refine ⟨fun pins s σ H Q I h => ?_⟩
  refine Call_ (ld_blt I hg hm PyProof.Rows.boot_zip (PyProof.Rows.callWith_type1 (thn (ha.run pos pins s σ H _ I h) fun us s1 ⟨vs, H1, I1, r1, q1⟩ => ?_) hs hpl))
  obtain ⟨c1, c2, xs1, xs2, ex, hq1, hq2, q⟩ := q1
  subst ex
  obtain ⟨w1, ur1, e1, g1, r1⟩ : ∃ w ur, us = w :: ur ∧ RelV (.ref c1) w ∧ Vals [.ref c2] ur := by cases r1 with | cons a b => exact ⟨_, _, rfl, a, b⟩
  cases (show w1 = Value.ref c1 from g1)
  obtain ⟨w2, ur2, e2, g2, r1⟩ : ∃ w ur, ur1 = w :: ur ∧ RelV (.ref c2) w ∧ Vals [] ur := by cases r1 with | cons a b => exact ⟨_, _, rfl, a, b⟩
  cases (show w2 = Value.ref c2 from g2)
  cases r1
  subst e2 e1
  obtain ⟨its1, rv1, p1, _⟩ := I1.tuple hq1
  have pq1 : s1.heap.IsTuple c1 its1.toArray := p1
  have lt1 : c1 < s1.heap.objs.size := p1.lt
  obtain ⟨its2, rv2, p2, _⟩ := I1.list hq2
  have pq2 : s1.heap.IsList c2 its2.toArray := p2.isList
  have lt2 : c2 < s1.heap.objs.size := p2.lt
  refine zip_begins2 (begins_tuple c1 its1.toArray) (begins_list c2 its2.toArray) pq1 pq2 fun h' hz hTI hTO g1 g2 hsz hk => ?_
  have I2 : L2.Inv X pins σ (layA H1 (zATL s1.heap.objs.size c1 c2)) { s1 with heap := h' } := by
    refine laidA (t' := s1.toks) I1 hk fun p hp => ?_
    have hp' : p = (s1.heap.objs.size, HO.ext fun h => h.IsTupleIter s1.heap.objs.size c1 0) ∨ p = ((s1.heap.objs.size + 1), HO.ext fun h => h.IsListIter (s1.heap.objs.size + 1) c2 0) ∨ p = ((s1.heap.objs.size + 2), HO.ext fun h => IsTupOf2 h (s1.heap.objs.size + 2) (.ref s1.heap.objs.size) (.ref (s1.heap.objs.size + 1))) ∨ p = ((s1.heap.objs.size + 3), HO.ext fun h => IsTupOf2 h (s1.heap.objs.size + 3) .none .none) ∨ p = ((s1.heap.objs.size + 4), HO.ext fun h => IsZip h (s1.heap.objs.size + 4) (s1.heap.objs.size + 2) (s1.heap.objs.size + 3) .none) := by simpa [zATL] using hp
    rcases hp' with rfl | rfl | rfl | rfl | rfl
    · exact ⟨Nat.le_refl _, ⟨_, g1, rfl, rfl⟩, ⟨_, g1⟩, fun h1 h2 st kp => st.at kp⟩
    · exact ⟨Nat.le_add_right _ _, ⟨_, g2, rfl, rfl⟩, ⟨_, g2⟩, fun h1 h2 st kp => st.at kp⟩
    · exact ⟨Nat.le_add_right _ _, hTI, ⟨_, hTI⟩, fun h1 h2 st kp => kp _ st⟩
    · exact ⟨Nat.le_add_right _ _, hTO, ⟨_, hTO⟩, fun h1 h2 st kp => kp _ st⟩
    · exact ⟨Nat.le_add_right _ _, hz, ⟨_, hz⟩, fun h1 h2 st kp => kp _ st⟩
  refine ⟨.ref (s1.heap.objs.size + 4), _, I2, rfl, q s1.heap.objs.size _ ⟨I1.sz, lt1, lt2, fun p hp => ?_⟩ (fun b o e => ?_) fun j hj => I1.hok.fresh (Nat.le_add_right _ _)⟩
  · refine layA_in ?_ hp
    show List.Nodup [s1.heap.objs.size, (s1.heap.objs.size + 1), (s1.heap.objs.size + 2), (s1.heap.objs.size + 3), (s1.heap.objs.size + 4)]
    simp <;> omega
  · refine (layA_old fun p hp => ?_).trans e
    have hp' : p.1 = s1.heap.objs.size ∨ p.1 = (s1.heap.objs.size + 1) ∨ p.1 = (s1.heap.objs.size + 2) ∨ p.1 = (s1.heap.objs.size + 3) ∨ p.1 = (s1.heap.objs.size + 4) := by
      have z : p.1 ∈ (zATL s1.heap.objs.size c1 c2).map (·.1) := List.mem_map_of_mem hp
      simpa [zATL] using z
    have lb := I1.hok.lt e
    have : s1.heap.objs.size ≤ p.1 := by
      rcases hp' with q | q | q | q | q <;> rw [q] <;> first | exact Nat.le_refl _ | exact Nat.le_add_right _ _
    exact Nat.ne_of_lt (Nat.lt_of_lt_of_le lb this)
def iZipTL (K : PySem.W.Frag) (n : Nat) (k : Nat) : TI := fun σ H R => ∃ (N c1 c2 : Addr), σ[k]? = some (some (.ref (N + 4))) ∧ ZdTL H n N c1 c2 ∧ R (ItzTL K c1 c2) (dropL H [N, (N + 1), (N + 2), (N + 3), (N + 4)])
theorem pi_zipTL {X : Cx} {k : Nat} {x : Str} {p : Pos} {elts : List Expr} {kk : Nat} {tpos : Pos} (hN : X.N[k]? = some x) (hv : Vis X.env.scope x) (hd : (x == ("__debug__" : Str)) = false := by decide) (hcd : (x == ("__classdict__" : Str)) = false := by decide) :
    PI X (.Tuple elts kk tpos) (.Name x p) (iZipTL X.K X.s_0.heap.objs.size k) := by
  refine ⟨fun pins s σ H R I h => ?_⟩
  obtain ⟨N, c1, c2, hs, hz, q⟩ := h
  refine thn ((pe_var (pos := p) (i := k) hN hv hd hcd).run pins s σ H (fun v H1 => v = .ref (N + 4) ∧ H1 = H) I ⟨.ref (N + 4), hs, rfl, rfl⟩) fun u s1 ⟨v, H1, I1, r1, ev, eH⟩ => ?_
  subst ev
  rw [eH] at I1
  cases r1
  have e0 : H N = some (.ext fun h => h.IsTupleIter N c1 0) := hz.at_ (N, .ext fun h => h.IsTupleIter N c1 0) (by simp [zATL])
  have f0 : s1.heap.IsTupleIter N c1 0 := (I1.hok _ _ e0).1
  have e1 : H (N + 1) = some (.ext fun h => h.IsListIter (N + 1) c2 0) := hz.at_ ((N + 1), .ext fun h => h.IsListIter (N + 1) c2 0) (by simp [zATL])
  have f1 : s1.heap.IsListIter (N + 1) c2 0 := (I1.hok _ _ e1).1
  have e2 : H (N + 2) = some (.ext fun h => IsTupOf2 h (N + 2) (.ref N) (.ref (N + 1))) := hz.at_ ((N + 2), .ext fun h => IsTupOf2 h (N + 2) (.ref N) (.ref (N + 1))) (by simp [zATL])
  have f2 : IsTupOf2 s1.heap (N + 2) (.ref N) (.ref (N + 1)) := (I1.hok _ _ e2).1
  have e3 : H (N + 3) = some (.ext fun h => IsTupOf2 h (N + 3) .none .none) := hz.at_ ((N + 3), .ext fun h => IsTupOf2 h (N + 3) .none .none) (by simp [zATL])
  have f3 : IsTupOf2 s1.heap (N + 3) .none .none := (I1.hok _ _ e3).1
  have e4 : H (N + 4) = some (.ext fun h => IsZip h (N + 4) (N + 2) (N + 3) .none) := hz.at_ ((N + 4), .ext fun h => IsZip h (N + 4) (N + 2) (N + 3) .none) (by simp [zATL])
  have f4 : IsZip s1.heap (N + 4) (N + 2) (N + 3) .none := (I1.hok _ _ e4).1
  have st : (fun (i : Nat) (h : Heap) => IsZip h (N + 4) (N + 2) (N + 3) .none ∧ IsTupOf2 h (N + 2) (.ref N) (.ref (N + 1)) ∧ (∃ e1 e2, IsTupOf2 h (N + 3) e1 e2) ∧ h.IsTupleIter N c1 i ∧ h.IsListIter (N + 1) c2 i) 0 s1.heap := ⟨f4, f2, ⟨.none, .none, f3⟩, f0, f1⟩
  have T := turn_zTL (P := X.prog) (w := X.w) (K := X.K) (elts := elts) (kk := kk) (tpos := tpos) hz.l1 hz.l2
  refine T.self X.A 0 s1 _ _ st ?_
  have mem : ∀ b ∈ [N, (N + 1), (N + 2), (N + 3), (N + 4)], (∃ φ, H b = some (.ext φ)) ∧ X.s_0.heap.objs.size ≤ b := by
    intro b hb
    have e' : b = N ∨ b = (N + 1) ∨ b = (N + 2) ∨ b = (N + 3) ∨ b = (N + 4) := by simpa using hb
    rcases e' with rfl | rfl | rfl | rfl | rfl
    · exact ⟨⟨_, e0⟩, hz.young⟩
    · exact ⟨⟨_, e1⟩, Nat.le_trans hz.young (Nat.le_add_right _ _)⟩
    · exact ⟨⟨_, e2⟩, Nat.le_trans hz.young (Nat.le_add_right _ _)⟩
    · exact ⟨⟨_, e3⟩, Nat.le_trans hz.young (Nat.le_add_right _ _)⟩
    · exact ⟨⟨_, e4⟩, Nat.le_trans hz.young (Nat.le_add_right _ _)⟩
  refine ⟨(N + 4), [N, (N + 1), (N + 2), (N + 3), (N + 4)], _, _, dropL H [N, (N + 1), (N + 2), (N + 3), (N + 4)], rfl, inv_dropL I1 fun b hb => (mem b hb).1, T, st, fun b hb => ?_, q⟩
  obtain ⟨⟨φ, e⟩, hn⟩ := mem b hb
  exact inv_fpL I1 hb e hn
theorem walk_zTL {K : PySem.W.Frag} {c1 c2 : Addr} {xs1 xs2 : List V} {n : Nat} (e1 : n ≤ xs1.length) (e2 : n ≤ xs2.length) (he : n = xs1.length ∨ n = xs2.length) : Walk (ItzTL K c1 c2) n (fun H => SqT K H c1 xs1 ∧ SqL K H c2 xs2)
    (fun i H v H' => ∃ (T : Addr) (x1 x2 : V), v = .ref T ∧ H T = none ∧ H' = upd H T (.tup [x1, x2]) ∧ xs1[i]? = some x1 ∧ xs2[i]? = some x2) := by
  refine ⟨fun i H hi ⟨q1, q2⟩ => ⟨xs1, xs2, xs1[i]'(by omega), xs2[i]'(by omega), q1, q2, List.getElem?_eq_getElem _, List.getElem?_eq_getElem _⟩, fun H ⟨q1, q2⟩ => ⟨xs1, xs2, q1, q2, ⟨e1, e2⟩, he⟩, fun i H v H' _ ⟨q1, q2⟩ y => ?_⟩
  obtain ⟨T, x1, x2, h1, h2, h3, g1, g2⟩ := y
  exact ⟨T, x1, x2, h1, h2, h3, g1 _ q1, g2 _ q2⟩
/-! ### kinds TTLL -/
def ItzTTLL (K : PySem.W.Frag) (c1 c2 c3 c4 : Addr) : It :=
  ⟨fun i H => ∃ (xs1 xs2 xs3 xs4 : List V) (x1 x2 x3 x4 : V), SqT K H c1 xs1 ∧ SqT K H c2 xs2 ∧ SqL K H c3 xs3 ∧ SqL K H c4 xs4 ∧ xs1[i]? = some x1 ∧ xs2[i]? = some x2 ∧ xs3[i]? = some x3 ∧ xs4[i]? = some x4,
    fun i H v H' => ∃ (T : Addr) (x1 x2 x3 x4 : V), v = .ref T ∧ H T = none ∧ H' = upd H T (.tup [x1, x2, x3, x4]) ∧ (∀ xs, SqT K H c1 xs → xs[i]? = some x1) ∧ (∀ xs, SqT K H c2 xs → xs[i]? = some x2) ∧ (∀ xs, SqL K H c3 xs → xs[i]? = some x3) ∧ (∀ xs, SqL K H c4 xs → xs[i]? = some x4),
    fun i H => ∃ (xs1 xs2 xs3 xs4 : List V), SqT K H c1 xs1 ∧ SqT K H c2 xs2 ∧ SqL K H c3 xs3 ∧ SqL K H c4 xs4 ∧ (i ≤ xs1.length ∧ i ≤ xs2.length ∧ i ≤ xs3.length ∧ i ≤ xs4.length) ∧ (i = xs1.length ∨ i = xs2.length ∨ i = xs3.length ∨ i = xs4.length)⟩
theorem zip_sep4' {N : Nat} {fp1 fp2 fp3 fp4 : List Addr} (h1 : ∀ b ∈ fp1, b < N) (h2 : ∀ b ∈ fp2, b < N) (h3 : ∀ b ∈ fp3, b < N) (h4 : ∀ b ∈ fp4, b < N) : ZipSep4 (N + 6) (N + 4) (N + 5) N (N + 1) (N + 2) (N + 3) (N :: fp1) ((N + 1) :: fp2) ((N + 2) :: fp3) ((N + 3) :: fp4) :=
  { TIz := show (N + 4 : Nat) ≠ N + 6 by omega, TOz := show (N + 5 : Nat) ≠ N + 6 by omega, TITO := show (N + 4 : Nat) ≠ N + 5 by omega, TIi1 := show (N + 4 : Nat) ≠ N by omega, mem1 := List.mem_cons_self .., zf1 := notIn_new (i := 0) h1 (by omega), Tf1 := notIn_new (i := 0) h1 (by omega), TIi2 := show (N + 4 : Nat) ≠ N + 1 by omega, mem2 := List.mem_cons_self .., zf2 := notIn_new (i := 1) h2 (by omega), Tf2 := notIn_new (i := 1) h2 (by omega), TIi3 := show (N + 4 : Nat) ≠ N + 2 by omega, mem3 := List.mem_cons_self .., zf3 := notIn_new (i := 2) h3 (by omega), Tf3 := notIn_new (i := 2) h3 (by omega), TIi4 := show (N + 4 : Nat) ≠ N + 3 by omega, mem4 := List.mem_cons_self .., zf4 := notIn_new (i := 3) h4 (by omega), Tf4 := notIn_new (i := 3) h4 (by omega), sep1_2 := notIn_new (j := 0) (i := 1) h2 (by omega), sep1_3 := notIn_new (j := 0) (i := 2) h3 (by omega), sep1_4 := notIn_new (j := 0) (i := 3) h4 (by omega), sep2_1 := notIn_new (j := 1) (i := 0) h1 (by omega), sep2_3 := notIn_new (j := 1) (i := 2) h3 (by omega), sep2_4 := notIn_new (j := 1) (i := 3) h4 (by omega), sep3_1 := notIn_new (j := 2) (i := 0) h1 (by omega), sep3_2 := notIn_new (j := 2) (i := 1) h2 (by omega), sep3_4 := notIn_new (j := 2) (i := 3) h4 (by omega), sep4_1 := notIn_new (j := 3) (i := 0) h1 (by omega), sep4_2 := notIn_new (j := 3) (i := 1) h2 (by omega), sep4_3 := notIn_new (j := 3) (i := 2) h3 (by omega) }
theorem turn_zTTLL {P : Program} {w : World} {K : PySem.W.Frag} {elts : List Expr} {kk : Nat} {tpos : Pos} {N c1 c2 c3 c4 : Addr} (l1 : c1 < N) (l2 : c2 < N) (l3 : c3 < N) (l4 : c4 < N) :
    Turn P w K (.Tuple elts kk tpos) (ItzTTLL K c1 c2 c3 c4) [N, (N + 1), (N + 2), (N + 3), (N + 4), (N + 5), (N + 6)] (N + 6) (fun i h => IsZip h (N + 6) (N + 4) (N + 5) .none ∧ IsTupOf4 h (N + 4) (.ref N) (.ref (N + 1)) (.ref (N + 2)) (.ref (N + 3)) ∧ (∃ e1 e2 e3 e4, IsTupOf4 h (N + 5) e1 e2 e3 e4) ∧ h.IsTupleIter N c1 i ∧ h.IsTupleIter (N + 1) c2 i ∧ h.IsListIter (N + 2) c3 i ∧ h.IsListIter (N + 3) c4 i) where
  mem := by simp
  obj := fun i h st c hc => by
    obtain ⟨hz, hTI, ⟨e1, e2, e3, e4, hTO⟩, h1, h2, h3, h4⟩ := st
    obtain ⟨ob1, eb1, _, db1⟩ := h1
    obtain ⟨ob2, eb2, _, db2⟩ := h2
    obtain ⟨ob3, eb3, _, db3⟩ := h3
    obtain ⟨ob4, eb4, _, db4⟩ := h4
    have e' : c = N ∨ c = (N + 1) ∨ c = (N + 2) ∨ c = (N + 3) ∨ c = (N + 4) ∨ c = (N + 5) ∨ c = (N + 6) := by simpa using hc
    rcases e' with q | q | q | q | q | q | q
    · rw [q]; exact ⟨ob1, eb1, fun v q => by rw [db1] at q; cases q⟩
    · rw [q]; exact ⟨ob2, eb2, fun v q => by rw [db2] at q; cases q⟩
    · rw [q]; exact ⟨ob3, eb3, fun v q => by rw [db3] at q; cases q⟩
    · rw [q]; exact ⟨ob4, eb4, fun v q => by rw [db4] at q; cases q⟩
    · rw [q]; exact ⟨_, hTI, fun v q => nomatch q⟩
    · rw [q]; exact ⟨_, hTO, fun v q => nomatch q⟩
    · rw [q]; exact ⟨_, hz, fun v q => nomatch q⟩
  keep := fun i h h' st k => by
    obtain ⟨hz, hTI, ⟨e1, e2, e3, e4, hTO⟩, h1, h2, h3, h4⟩ := st
    exact ⟨k _ (by simp) _ hz, k _ (by simp) _ hTI, ⟨e1, e2, e3, e4, k _ (by simp) _ hTO⟩, h1.at fun o q => k _ (by simp) o q, h2.at fun o q => k _ (by simp) o q, h3.at fun o q => k _ (by simp) o q, h4.at fun o q => k _ (by simp) o q⟩
  item := by
    intro X hP hw hK hc i pins s σ H E I hf st hg
    subst hP hw hK
    obtain ⟨hz, hTI, ⟨e1, e2, e3, e4, hTO⟩, h1, h2, h3, h4⟩ := st
    obtain ⟨xs1, xs2, xs3, xs4, x1, x2, x3, x4, hq1, hq2, hq3, hq4, hx1, hx2, hx3, hx4⟩ := hg
    obtain ⟨its1, rv1, p1, _⟩ := I.tuple hq1
    obtain ⟨u1, hu1, ru1⟩ := rv1.get hx1
    have hlt1 : i < its1.toArray.size := by rw [List.size_toArray]; exact (List.getElem?_eq_some_iff.mp hu1).1
    have q1 : s.heap.IsTuple c1 its1.toArray := p1
    obtain ⟨its2, rv2, p2, _⟩ := I.tuple hq2
    obtain ⟨u2, hu2, ru2⟩ := rv2.get hx2
    have hlt2 : i < its2.toArray.size := by rw [List.size_toArray]; exact (List.getElem?_eq_some_iff.mp hu2).1
    have q2 : s.heap.IsTuple c2 its2.toArray := p2
    obtain ⟨its3, rv3, p3, _⟩ := I.list hq3
    obtain ⟨u3, hu3, ru3⟩ := rv3.get hx3
    have hlt3 : i < its3.toArray.size := by rw [List.size_toArray]; exact (List.getElem?_eq_some_iff.mp hu3).1
    have q3 : s.heap.IsList c3 its3.toArray := p3.isList
    obtain ⟨its4, rv4, p4, _⟩ := I.list hq4
    obtain ⟨u4, hu4, ru4⟩ := rv4.get hx4
    have hlt4 : i < its4.toArray.size := by rw [List.size_toArray]; exact (List.getElem?_eq_some_iff.mp hu4).1
    have q4 : s.heap.IsList c4 its4.toArray := p4.isList
    have hh := I.ok.hd hc
    have SP := zip_sep4' (fp1 := [c1]) (fp2 := [c2]) (fp3 := [c3]) (fp4 := [c4]) (fun b hb => by rw [List.mem_singleton.mp hb]; exact l1) (fun b hb => by rw [List.mem_singleton.mp hb]; exact l2) (fun b hb => by rw [List.mem_singleton.mp hb]; exact l3) (fun b hb => by rw [List.mem_singleton.mp hb]; exact l4)
    have D1 := Draws.tuple (prog := X.prog) (w := X.w) (A := X.A.in1) hh N c1 (Nat.ne_of_lt l1) its1.toArray
    have D2 := Draws.tuple (prog := X.prog) (w := X.w) (A := X.A.in1) hh (N + 1) c2 (Nat.ne_of_lt (Nat.lt_of_lt_of_le l2 (Nat.le_add_right _ _))) its2.toArray
    have D3 := Draws.list (prog := X.prog) (w := X.w) (A := X.A.in1) hh (N + 2) c3 (Nat.ne_of_lt (Nat.lt_of_lt_of_le l3 (Nat.le_add_right _ _))) its3.toArray
    have D4 := Draws.list (prog := X.prog) (w := X.w) (A := X.A.in1) hh (N + 3) c4 (Nat.ne_of_lt (Nat.lt_of_lt_of_le l4 (Nat.le_add_right _ _))) its4.toArray
    have hzl : (N + 6) < s.heap.objs.size := Heap.lt_size hz
    refine pyNext_zipD4_item SP D1 D2 D3 D4 hz hTI hTO ⟨h1, q1⟩ ⟨h2, q2⟩ ⟨h3, q3⟩ ⟨h4, q4⟩ hlt1 hlt2 hlt3 hlt4 fun v1 v2 v3 v4 h' tk pv1 pv2 pv3 pv4 z' TO' sn1 sn2 sn3 sn4 hT hsz hk => ?_
    have ev1 : v1 = u1 := by
      have e : its1.toArray[i]? = some v1 := pv1
      rw [List.getElem?_toArray, hu1] at e
      exact (Option.some.inj e).symm
    subst ev1
    have ev2 : v2 = u2 := by
      have e : its2.toArray[i]? = some v2 := pv2
      rw [List.getElem?_toArray, hu2] at e
      exact (Option.some.inj e).symm
    subst ev2
    have ev3 : v3 = u3 := by
      have e : its3.toArray[i]? = some v3 := pv3
      rw [List.getElem?_toArray, hu3] at e
      exact (Option.some.inj e).symm
    subst ev3
    have ev4 : v4 = u4 := by
      have e : its4.toArray[i]? = some v4 := pv4
      rw [List.getElem?_toArray, hu4] at e
      exact (Option.some.inj e).symm
    subst ev4
    refine ⟨_, rfl, wpAny_letOwnedTupleGo_zip (s := { s with heap := h', toks := tk }) z' fun h'' z'' sb => ?_⟩
    have hT2 : h''.get? s.heap.objs.size = some { cls := .type "tuple", data := .seq #[v1, v2, v3, v4] } := (sb.2 _ (Nat.ne_of_gt hzl)).trans hT
    have new : ObjOk X.prog X.w (upd H s.heap.objs.size (.tup [x1, x2, x3, x4])) h'' s.heap.objs.size (.tup [x1, x2, x3, x4]) :=
      ⟨by show 4 ≤ sizeLine; decide, [v1, v2, v3, v4], .cons ru1 (.cons ru2 (.cons ru3 (.cons ru4 .nil))), ⟨_, hT2, rfl, _, rfl⟩⟩
    have I1 : L2.Inv X pins σ (upd H s.heap.objs.size (.tup [x1, x2, x3, x4])) { s with heap := h'', toks := tk } :=
      I.turnedNew (t' := tk) (ch := [N, (N + 1), (N + 2), (N + 3), (N + 4), (N + 5), (N + 6)]) (fun c o hb q => (sb.2 c (fun q' => hb (by simp [q']))).trans (hk c o (fun q' => hb (by simp [q'])) (fun q' => hb (by simp [q'])) (fun q' => hb (by simp [q'])) (fun q' => hb (by simp [q'])) (fun q' => hb (by simp [q'])) (fun q' => hb (by simp [q'])) q)) hf (Nat.le_refl _) new
    refine ⟨.ref s.heap.objs.size, _, I1, rfl, ⟨_, x1, x2, x3, x4, rfl, I.hok.fresh (Nat.le_refl _), rfl, fun l hl => by rw [I.tuple_inj hl hq1]; exact hx1, fun l hl => by rw [I.tuple_inj hl hq2]; exact hx2, fun l hl => by rw [I.list_inj hl hq3]; exact hx3, fun l hl => by rw [I.list_inj hl hq4]; exact hx4⟩, ⟨z'', ?_, ⟨v1, v2, v3, v4, ?_⟩, ?_, ?_, ?_, ?_⟩, fun c hcm => ?_⟩
    · exact (sb.2 _ SP.TIz).trans (hk _ _ SP.TIz SP.TITO SP.TIi1 SP.TIi2 SP.TIi3 SP.TIi4 hTI)
    · exact (sb.2 _ SP.TOz).trans TO'
    · exact (sn1.1).at fun o q => (sb.2 _ SP.zi1.symm).trans q
    · exact (sn2.1).at fun o q => (sb.2 _ SP.zi2.symm).trans q
    · exact (sn3.1).at fun o q => (sb.2 _ SP.zi3.symm).trans q
    · exact (sn4.1).at fun o q => (sb.2 _ SP.zi4.symm).trans q
    · have hlt : c < s.heap.objs.size := by
        obtain ⟨o, e, _⟩ : ∃ o, s.heap.get? c = some o ∧ True := by
          have e' : c = N ∨ c = (N + 1) ∨ c = (N + 2) ∨ c = (N + 3) ∨ c = (N + 4) ∨ c = (N + 5) ∨ c = (N + 6) := by simpa using hcm
          rcases e' with q | q | q | q | q | q | q
          · rw [q]; obtain ⟨o, e, _⟩ := h1; exact ⟨o, e, trivial⟩
          · rw [q]; obtain ⟨o, e, _⟩ := h2; exact ⟨o, e, trivial⟩
          · rw [q]; obtain ⟨o, e, _⟩ := h3; exact ⟨o, e, trivial⟩
          · rw [q]; obtain ⟨o, e, _⟩ := h4; exact ⟨o, e, trivial⟩
          · rw [q]; exact ⟨_, hTI, trivial⟩
          · rw [q]; exact ⟨_, hTO, trivial⟩
          · rw [q]; exact ⟨_, hz, trivial⟩
        exact Heap.lt_size e
      rw [upd_ne (Nat.ne_of_lt hlt)]
      exact (hf c hcm).1
  done := by
    intro X hP hw hK hc i pins s σ H E I hf st hg
    subst hP hw hK
    obtain ⟨hz, hTI, ⟨e1, e2, e3, e4, hTO⟩, h1, h2, h3, h4⟩ := st
    obtain ⟨xs1, xs2, xs3, xs4, hq1, hq2, hq3, hq4, ⟨hn1, hn2, hn3, hn4⟩, hend⟩ := hg
    obtain ⟨its1, rv1, p1, _⟩ := I.tuple hq1
    have hsz1 : its1.toArray.size = xs1.length := by rw [List.size_toArray]; exact rv1.length.symm
    have hle1 : i ≤ its1.toArray.size := by omega
    have q1 : s.heap.IsTuple c1 its1.toArray := p1
    obtain ⟨its2, rv2, p2, _⟩ := I.tuple hq2
    have hsz2 : its2.toArray.size = xs2.length := by rw [List.size_toArray]; exact rv2.length.symm
    have hle2 : i ≤ its2.toArray.size := by omega
    have q2 : s.heap.IsTuple c2 its2.toArray := p2
    obtain ⟨its3, rv3, p3, _⟩ := I.list hq3
    have hsz3 : its3.toArray.size = xs3.length := by rw [List.size_toArray]; exact rv3.length.symm
    have hle3 : i ≤ its3.toArray.size := by omega
    have q3 : s.heap.IsList c3 its3.toArray := p3.isList
    obtain ⟨its4, rv4, p4, _⟩ := I.list hq4
    have hsz4 : its4.toArray.size = xs4.length := by rw [List.size_toArray]; exact rv4.length.symm
    have hle4 : i ≤ its4.toArray.size := by omega
    have q4 : s.heap.IsList c4 its4.toArray := p4.isList
    have hh := I.ok.hd hc
    have SP := zip_sep4' (fp1 := [c1]) (fp2 := [c2]) (fp3 := [c3]) (fp4 := [c4]) (fun b hb => by rw [List.mem_singleton.mp hb]; exact l1) (fun b hb => by rw [List.mem_singleton.mp hb]; exact l2) (fun b hb => by rw [List.mem_singleton.mp hb]; exact l3) (fun b hb => by rw [List.mem_singleton.mp hb]; exact l4)
    have D1 := Draws.tuple (prog := X.prog) (w := X.w) (A := X.A.in1) hh N c1 (Nat.ne_of_lt l1) its1.toArray
    have D2 := Draws.tuple (prog := X.prog) (w := X.w) (A := X.A.in1) hh (N + 1) c2 (Nat.ne_of_lt (Nat.lt_of_lt_of_le l2 (Nat.le_add_right _ _))) its2.toArray
    have D3 := Draws.list (prog := X.prog) (w := X.w) (A := X.A.in1) hh (N + 2) c3 (Nat.ne_of_lt (Nat.lt_of_lt_of_le l3 (Nat.le_add_right _ _))) its3.toArray
    have D4 := Draws.list (prog := X.prog) (w := X.w) (A := X.A.in1) hh (N + 3) c4 (Nat.ne_of_lt (Nat.lt_of_lt_of_le l4 (Nat.le_add_right _ _))) its4.toArray
    exact pyNext_zipD4_end SP D1 D2 D3 D4 hz hTI hTO ⟨h1, q1⟩ ⟨h2, q2⟩ ⟨h3, q3⟩ ⟨h4, q4⟩ hle1 hle2 hle3 hle4 (by omega) fun h' tk hk => ⟨rfl, I.turnedL (t' := tk) (ch := [N, (N + 1), (N + 2), (N + 3), (N + 4), (N + 5), (N + 6)]) (fun c o hb q => hk c o (fun q' => hb (by simp [q'])) (fun q' => hb (by simp [q'])) (fun q' => hb (by simp [q'])) (fun q' => hb (by simp [q'])) (fun q' => hb (by simp [q'])) (fun q' => hb (by simp [q'])) q) hf⟩
  self := fun A i s Q E st h => wpAny_pyIter_zip st.1 h
def zATTLL (N c1 c2 c3 c4 : Addr) : List (Addr × HO) := [(N, .ext fun h => h.IsTupleIter N c1 0), ((N + 1), .ext fun h => h.IsTupleIter (N + 1) c2 0), ((N + 2), .ext fun h => h.IsListIter (N + 2) c3 0), ((N + 3), .ext fun h => h.IsListIter (N + 3) c4 0), ((N + 4), .ext fun h => IsTupOf4 h (N + 4) (.ref N) (.ref (N + 1)) (.ref (N + 2)) (.ref (N + 3))), ((N + 5), .ext fun h => IsTupOf4 h (N + 5) .none .none .none .none), ((N + 6), .ext fun h => IsZip h (N + 6) (N + 4) (N + 5) .none)]
/-- a zip just made, tracked -/
structure ZdTTLL (H : Hp) (n N c1 c2 c3 c4 : Addr) : Prop where
  young : n ≤ N
  l1 : c1 < N
  l2 : c2 < N
  l3 : c3 < N
  l4 : c4 < N
  at_ : ∀ p ∈ zATTLL N c1 c2 c3 c4, H p.1 = some p.2
def tZipTTLL (K : PySem.W.Frag) (n : Nat) (ta : TA) : TE := fun σ H Q => ta σ H fun vs H1 => ∃ (c1 c2 c3 c4 : Addr) (xs1 xs2 xs3 xs4 : List V), vs = [.ref c1, .ref c2, .ref c3, .ref c4] ∧ SqT K H1 c1 xs1 ∧ SqT K H1 c2 xs2 ∧ SqL K H1 c3 xs3 ∧ SqL K H1 c4 xs4 ∧
  ∀ (N : Addr) H', ZdTTLL H' n N c1 c2 c3 c4 → Same H1 H' → (∀ j, j < 7 → H1 (N + j) = none) → Q (.ref (N + 6)) H'
theorem pe_zipTTLL {X : Cx} {a1 a2 a3 a4 : Expr} {ta : TA} {p pos : Pos} (hg : Gl X "zip") (hm : X.mg "zip" = none) (ha : PA X [a1, a2, a3, a4] ta)
    (hs : starEach [a1, a2, a3, a4] X.env = (false, eval a1 X.env) :: starEach [a2, a3, a4] X.env := by rfl) (hpl : (backTo pos (starEach [a2, a3, a4] X.env)).any (·.1) = false := by rfl) :
    PE X (.Call (.Name "zip" p) [a1, a2, a3, a4] [] pos) (tZipTTLL X.K X.s_0.heap.objs.size ta) := by
  refine ⟨fun pins s σ H Q I h => ?_⟩
  refine Call_ (ld_blt I hg hm PyProof.Rows.boot_zip (PyProof.Rows.callWith_type1 (thn (ha.run pos pins s σ H _ I h) fun us s1 ⟨vs, H1, I1, r1, q1⟩ => ?_) hs hpl))
  obtain ⟨c1, c2, c3, c4, xs1, xs2, xs3, xs4, ex, hq1, hq2, hq3, hq4, q⟩ := q1
  subst ex
  obtain ⟨w1, ur1, e1, g1, r1⟩ : ∃ w ur, us = w :: ur ∧ RelV (.ref c1) w ∧ Vals [.ref c2, .ref c3, .ref c4] ur := by cases r1 with | cons a b => exact ⟨_, _, rfl, a, b⟩
  cases (show w1 = Value.ref c1 from g1)
  obtain ⟨w2, ur2, e2, g2, r1⟩ : ∃ w ur, ur1 = w :: ur ∧ RelV (.ref c2) w ∧ Vals [.ref c3, .ref c4] ur := by cases r1 with | cons a b => exact ⟨_, _, rfl, a, b⟩
  cases (show w2 = Value.ref c2 from g2)
  obtain ⟨w3, ur3, e3, g3, r1⟩ : ∃ w ur, ur2 = w :: ur ∧ RelV (.ref c3) w ∧ Vals [.ref c4] ur := by cases r1 with | cons a b => exact ⟨_, _, rfl, a, b⟩
  cases (show w3 = Value.ref c3 from g3)
  obtain ⟨w4, ur4, e4, g4, r1⟩ : ∃ w ur, ur3 = w :: ur ∧ RelV (.ref c4) w ∧ Vals [] ur := by cases r1 with | cons a b => exact ⟨_, _, rfl, a, b⟩
  cases (show w4 = Value.ref c4 from g4)
  cases r1
  subst e4 e3 e2 e1
  obtain ⟨its1, rv1, p1, _⟩ := I1.tuple hq1
  have pq1 : s1.heap.IsTuple c1 its1.toArray := p1
  have lt1 : c1 < s1.heap.objs.size := p1.lt
  obtain ⟨its2, rv2, p2, _⟩ := I1.tuple hq2
  have pq2 : s1.heap.IsTuple c2 its2.toArray := p2
  have lt2 : c2 < s1.heap.objs.size := p2.lt
  obtain ⟨its3, rv3, p3, _⟩ := I1.list hq3
  have pq3 : s1.heap.IsList c3 its3.toArray := p3.isList
  have lt3 : c3 < s1.heap.objs.size := p3.lt
  obtain ⟨its4, rv4, p4, _⟩ := I1.list hq4
  have pq4 : s1.heap.IsList c4 its4.toArray := p4.isList
  have lt4 : c4 < s1.heap.objs.size := p4.lt
  refine zip_begins4 (begins_tuple c1 its1.toArray) (begins_tuple c2 its2.toArray) (begins_list c3 its3.toArray) (begins_list c4 its4.toArray) pq1 pq2 pq3 pq4 fun h' hz hTI hTO g1 g2 g3 g4 hsz hk => ?_
  have I2 : L2.Inv X pins σ (layA H1 (zATTLL s1.heap.objs.size c1 c2 c3 c4)) { s1 with heap := h' } := by
    refine laidA (t' := s1.toks) I1 hk fun p hp => ?_
    have hp' : p = (s1.heap.objs.size, HO.ext fun h => h.IsTupleIter s1.heap.objs.size c1 0) ∨ p = ((s1.heap.objs.size + 1), HO.ext fun h => h.IsTupleIter (s1.heap.objs.size + 1) c2 0) ∨ p = ((s1.heap.objs.size + 2), HO.ext fun h => h.IsListIter (s1.heap.objs.size + 2) c3 0) ∨ p = ((s1.heap.objs.size + 3), HO.ext fun h => h.IsListIter (s1.heap.objs.size + 3) c4 0) ∨ p = ((s1.heap.objs.size + 4), HO.ext fun h => IsTupOf4 h (s1.heap.objs.size + 4) (.ref s1.heap.objs.size) (.ref (s1.heap.objs.size + 1)) (.ref (s1.heap.objs.size + 2)) (.ref (s1.heap.objs.size + 3))) ∨ p = ((s1.heap.objs.size + 5), HO.ext fun h => IsTupOf4 h (s1.heap.objs.size + 5) .none .none .none .none) ∨ p = ((s1.heap.objs.size + 6), HO.ext fun h => IsZip h (s1.heap.objs.size + 6) (s1.heap.objs.size + 4) (s1.heap.objs.size + 5) .none) := by simpa [zATTLL] using hp
    rcases hp' with rfl | rfl | rfl | rfl | rfl | rfl | rfl
    · exact ⟨Nat.le_refl _, ⟨_, g1, rfl, rfl⟩, ⟨_, g1⟩, fun h1 h2 st kp => st.at kp⟩
    · exact ⟨Nat.le_add_right _ _, ⟨_, g2, rfl, rfl⟩, ⟨_, g2⟩, fun h1 h2 st kp => st.at kp⟩
    · exact ⟨Nat.le_add_right _ _, ⟨_, g3, rfl, rfl⟩, ⟨_, g3⟩, fun h1 h2 st kp => st.at kp⟩
    · exact ⟨Nat.le_add_right _ _, ⟨_, g4, rfl, rfl⟩, ⟨_, g4⟩, fun h1 h2 st kp => st.at kp⟩
    · exact ⟨Nat.le_add_right _ _, hTI, ⟨_, hTI⟩, fun h1 h2 st kp => kp _ st⟩
    · exact ⟨Nat.le_add_right _ _, hTO, ⟨_, hTO⟩, fun h1 h2 st kp => kp _ st⟩
    · exact ⟨Nat.le_add_right _ _, hz, ⟨_, hz⟩, fun h1 h2 st kp => kp _ st⟩
  refine ⟨.ref (s1.heap.objs.size + 6), _, I2, rfl, q s1.heap.objs.size _ ⟨I1.sz, lt1, lt2, lt3, lt4, fun p hp => ?_⟩ (fun b o e => ?_) fun j hj => I1.hok.fresh (Nat.le_add_right _ _)⟩
  · refine layA_in ?_ hp
    show List.Nodup [s1.heap.objs.size, (s1.heap.objs.size + 1), (s1.heap.objs.size + 2), (s1.heap.objs.size + 3), (s1.heap.objs.size + 4), (s1.heap.objs.size + 5), (s1.heap.objs.size + 6)]
    simp <;> omega
  · refine (layA_old fun p hp => ?_).trans e
    have hp' : p.1 = s1.heap.objs.size ∨ p.1 = (s1.heap.objs.size + 1) ∨ p.1 = (s1.heap.objs.size + 2) ∨ p.1 = (s1.heap.objs.size + 3) ∨ p.1 = (s1.heap.objs.size + 4) ∨ p.1 = (s1.heap.objs.size + 5) ∨ p.1 = (s1.heap.objs.size + 6) := by
      have z : p.1 ∈ (zATTLL s1.heap.objs.size c1 c2 c3 c4).map (·.1) := List.mem_map_of_mem hp
      simpa [zATTLL] using z
    have lb := I1.hok.lt e
    have : s1.heap.objs.size ≤ p.1 := by
      rcases hp' with q | q | q | q | q | q | q <;> rw [q] <;> first | exact Nat.le_refl _ | exact Nat.le_add_right _ _
    exact Nat.ne_of_lt (Nat.lt_of_lt_of_le lb this)
def iZipTTLL (K : PySem.W.Frag) (n : Nat) (k : Nat) : TI := fun σ H R => ∃ (N c1 c2 c3 c4 : Addr), σ[k]? = some (some (.ref (N + 6))) ∧ ZdTTLL H n N c1 c2 c3 c4 ∧ R (ItzTTLL K c1 c2 c3 c4) (dropL H [N, (N + 1), (N + 2), (N + 3), (N + 4), (N + 5), (N + 6)])
theorem pi_zipTTLL {X : Cx} {k : Nat} {x : Str} {p : Pos} {elts : List Expr} {kk : Nat} {tpos : Pos} (hN : X.N[k]? = some x) (hv : Vis X.env.scope x) (hd : (x == ("__debug__" : Str)) = false := by decide) (hcd : (x == ("__classdict__" : Str)) = false := by decide) :
    PI X (.Tuple elts kk tpos) (.Name x p) (iZipTTLL X.K X.s_0.heap.objs.size k) := by
  refine ⟨fun pins s σ H R I h => ?_⟩
  obtain ⟨N, c1, c2, c3, c4, hs, hz, q⟩ := h
  refine thn ((pe_var (pos := p) (i := k) hN hv hd hcd).run pins s σ H (fun v H1 => v = .ref (N + 6) ∧ H1 = H) I ⟨.ref (N + 6), hs, rfl, rfl⟩) fun u s1 ⟨v, H1, I1, r1, ev, eH⟩ => ?_
  subst ev
  rw [eH] at I1
  cases r1
  have e0 : H N = some (.ext fun h => h.IsTupleIter N c1 0) := hz.at_ (N, .ext fun h => h.IsTupleIter N c1 0) (by simp [zATTLL])
  have f0 : s1.heap.IsTupleIter N c1 0 := (I1.hok _ _ e0).1
  have e1 : H (N + 1) = some (.ext fun h => h.IsTupleIter (N + 1) c2 0) := hz.at_ ((N + 1), .ext fun h => h.IsTupleIter (N + 1) c2 0) (by simp [zATTLL])
  have f1 : s1.heap.IsTupleIter (N + 1) c2 0 := (I1.hok _ _ e1).1
  have e2 : H (N + 2) = some (.ext fun h => h.IsListIter (N + 2) c3 0) := hz.at_ ((N + 2), .ext fun h => h.IsListIter (N + 2) c3 0) (by simp [zATTLL])
  have f2 : s1.heap.IsListIter (N + 2) c3 0 := (I1.hok _ _ e2).1
  have e3 : H (N + 3) = some (.ext fun h => h.IsListIter (N + 3) c4 0) := hz.at_ ((N + 3), .ext fun h => h.IsListIter (N + 3) c4 0) (by simp [zATTLL])
  have f3 : s1.heap.IsListIter (N + 3) c4 0 := (I1.hok _ _ e3).1
  have e4 : H (N + 4) = some (.ext fun h => IsTupOf4 h (N + 4) (.ref N) (.ref (N + 1)) (.ref (N + 2)) (.ref (N + 3))) := hz.at_ ((N + 4), .ext fun h => IsTupOf4 h (N + 4) (.ref N) (.ref (N + 1)) (.ref (N + 2)) (.ref (N + 3))) (by simp [zATTLL])
  have f4 : IsTupOf4 s1.heap (N + 4) (.ref N) (.ref (N + 1)) (.ref (N + 2)) (.ref (N + 3)) := (I1.hok _ _ e4).1
  have e5 : H (N + 5) = some (.ext fun h => IsTupOf4 h (N + 5) .none .none .none .none) := hz.at_ ((N + 5), .ext fun h => IsTupOf4 h (N + 5) .none .none .none .none) (by simp [zATTLL])
  have f5 : IsTupOf4 s1.heap (N + 5) .none .none .none .none := (I1.hok _ _ e5).1
  have e6 : H (N + 6) = some (.ext fun h => IsZip h (N + 6) (N + 4) (N + 5) .none) := hz.at_ ((N + 6), .ext fun h => IsZip h (N + 6) (N + 4) (N + 5) .none) (by simp [zATTLL])
  have f6 : IsZip s1.heap (N + 6) (N + 4) (N + 5) .none := (I1.hok _ _ e6).1
  have st : (fun (i : Nat) (h : Heap) => IsZip h (N + 6) (N + 4) (N + 5) .none ∧ IsTupOf4 h (N + 4) (.ref N) (.ref (N + 1)) (.ref (N + 2)) (.ref (N + 3)) ∧ (∃ e1 e2 e3 e4, IsTupOf4 h (N + 5) e1 e2 e3 e4) ∧ h.IsTupleIter N c1 i ∧ h.IsTupleIter (N + 1) c2 i ∧ h.IsListIter (N + 2) c3 i ∧ h.IsListIter (N + 3) c4 i) 0 s1.heap := ⟨f6, f4, ⟨.none, .none, .none, .none, f5⟩, f0, f1, f2, f3⟩
  have T := turn_zTTLL (P := X.prog) (w := X.w) (K := X.K) (elts := elts) (kk := kk) (tpos := tpos) hz.l1 hz.l2 hz.l3 hz.l4
  refine T.self X.A 0 s1 _ _ st ?_
  have mem : ∀ b ∈ [N, (N + 1), (N + 2), (N + 3), (N + 4), (N + 5), (N + 6)], (∃ φ, H b = some (.ext φ)) ∧ X.s_0.heap.objs.size ≤ b := by
    intro b hb
    have e' : b = N ∨ b = (N + 1) ∨ b = (N + 2) ∨ b = (N + 3) ∨ b = (N + 4) ∨ b = (N + 5) ∨ b = (N + 6) := by simpa using hb
    rcases e' with rfl | rfl | rfl | rfl | rfl | rfl | rfl
    · exact ⟨⟨_, e0⟩, hz.young⟩
    · exact ⟨⟨_, e1⟩, Nat.le_trans hz.young (Nat.le_add_right _ _)⟩
    · exact ⟨⟨_, e2⟩, Nat.le_trans hz.young (Nat.le_add_right _ _)⟩
    · exact ⟨⟨_, e3⟩, Nat.le_trans hz.young (Nat.le_add_right _ _)⟩
    · exact ⟨⟨_, e4⟩, Nat.le_trans hz.young (Nat.le_add_right _ _)⟩
    · exact ⟨⟨_, e5⟩, Nat.le_trans hz.young (Nat.le_add_right _ _)⟩
    · exact ⟨⟨_, e6⟩, Nat.le_trans hz.young (Nat.le_add_right _ _)⟩
  refine ⟨(N + 6), [N, (N + 1), (N + 2), (N + 3), (N + 4), (N + 5), (N + 6)], _, _, dropL H [N, (N + 1), (N + 2), (N + 3), (N + 4), (N + 5), (N + 6)], rfl, inv_dropL I1 fun b hb => (mem b hb).1, T, st, fun b hb => ?_, q⟩
  obtain ⟨⟨φ, e⟩, hn⟩ := mem b hb
  exact inv_fpL I1 hb e hn
theorem walk_zTTLL {K : PySem.W.Frag} {c1 c2 c3 c4 : Addr} {xs1 xs2 xs3 xs4 : List V} {n : Nat} (e1 : n ≤ xs1.length) (e2 : n ≤ xs2.length) (e3 : n ≤ xs3.length) (e4 : n ≤ xs4.length) (he : n = xs1.length ∨ n = xs2.length ∨ n = xs3.length ∨ n = xs4.length) : Walk (ItzTTLL K c1 c2 c3 c4) n (fun H => SqT K H c1 xs1 ∧ SqT K H c2 xs2 ∧ SqL K H c3 xs3 ∧ SqL K H c4 xs4)
    (fun i H v H' => ∃ (T : Addr) (x1 x2 x3 x4 : V), v = .ref T ∧ H T = none ∧ H' = upd H T (.tup [x1, x2, x3, x4]) ∧ xs1[i]? = some x1 ∧ xs2[i]? = some x2 ∧ xs3[i]? = some x3 ∧ xs4[i]? = some x4) := by
  refine ⟨fun i H hi ⟨q1, q2, q3, q4⟩ => ⟨xs1, xs2, xs3, xs4, xs1[i]'(by omega), xs2[i]'(by omega), xs3[i]'(by omega), xs4[i]'(by omega), q1, q2, q3, q4, List.getElem?_eq_getElem _, List.getElem?_eq_getElem _, List.getElem?_eq_getElem _, List.getElem?_eq_getElem _⟩, fun H ⟨q1, q2, q3, q4⟩ => ⟨xs1, xs2, xs3, xs4, q1, q2, q3, q4, ⟨e1, e2, e3, e4⟩, he⟩, fun i H v H' _ ⟨q1, q2, q3, q4⟩ y => ?_⟩
  obtain ⟨T, x1, x2, x3, x4, h1, h2, h3, g1, g2, g3, g4⟩ := y
  exact ⟨T, x1, x2, x3, x4, h1, h2, h3, g1 _ q1, g2 _ q2, g3 _ q3, g4 _ q4⟩
end K33
set_option maxRecDepth 100000
set_option maxHeartbeats 4000000
/-! k33: list(zip(a tuple, a list, a list)). -/
namespace K33
open PySem PySem.Spec PyProof.Rows L2
theorem zip_no_len : typeLookup (.type "zip") "__len__" = pure none := PySem.am_miss_of_fast (by decide +kernel)
theorem zip_no_hint : typeLookup (.type "zip") "__length_hint__" = pure none := PySem.am_miss_of_fast (by decide +kernel)
section
variable {prog : Program} {w : World} {A : Around} {E : Value → Shared → Prop} {s : Shared}
theorem zip_hint {r : Addr} (hT : s.TypeIs (.ref r) "zip") {Q : Bool → Shared → Prop} (h : Q true s) : wpAny (model prog w) A (Builtin.List.listLengthHint (.ref r)) Q E s := by
  unfold Builtin.List.listLengthHint
  refine wpAny_bind (wpAny_specialOf hT zip_no_len ?_)
  refine wpAny_ite_split (fun hab => absurd hab (by decide +kernel)) (fun _ => ?_)
  refine wpAny_ite_split (fun hab => absurd hab (by decide)) (fun _ => ?_)
  refine wpAny_bind (wpAny_specialOf hT zip_no_hint ?_)
  exact wpAny_pure h
variable {z TI TO i1 i2 i3 : Addr} {fp1 fp2 fp3 : List Addr} {n : Nat} {P1 P2 P3 : Nat → Value → Prop} {St1 St2 St3 : Nat → Heap → Prop}
/-- the tuples that were given out -/
def TupsG (P1 P2 P3 : Nat → Value → Prop) (h : Heap) (as : List Addr) : Prop := ∀ j a, as[j]? = some a → ∃ x1 x2 x3, P1 j x1 ∧ P2 j x2 ∧ P3 j x3 ∧ IsTupOf3 h a x1 x2 x3
def ZS (h : Heap) (z TI TO : Addr) (as : List Addr) : Prop := (as = [] ∧ IsZip h z TI TO .none) ∨ ∃ T f, T ∈ as ∧ IsZipHeld h z TI TO T f
/-- the state of the loop -/
structure LZ (h₁ : Heap) (SP : ZipSep3 z TI TO i1 i2 i3 fp1 fp2 fp3) (n : Nat) (P1 P2 P3 : Nat → Value → Prop) (St1 St2 St3 : Nat → Heap → Prop) (S : Addr) (i : Nat) (h : Heap) (acc : Array Value) (c : Nat) (as : List Addr) : Prop where
  le : i ≤ n
  zs : ZS h z TI TO as
  ti : IsTupOf3 h TI (.ref i1) (.ref i2) (.ref i3)
  to : ∃ a1 a2 a3, IsTupOf3 h TO a1 a2 a3
  s1 : St1 i h
  s2 : St2 i h
  s3 : St3 i h
  kp : ∀ b o, b ≠ S → b ≠ z → b ≠ TO → b ≠ i1 → b ≠ i2 → b ≠ i3 → h₁.get? b = some o → h.get? b = some o
  hS : h.get? S = some { cls := .type "list", dict := none, data := .seq acc c, slots := #[] }
  ac : acc.toList = as.map Value.ref
  ln : as.length = i
  rise : as.Pairwise (· < ·)
  above : ∀ a ∈ as, S < a
  tups : TupsG P1 P2 P3 h as
theorem lz_loop (SP : ZipSep3 z TI TO i1 i2 i3 fp1 fp2 fp3) (D1 : ∀ A' : Around, A'.handled = none → Draws prog w A' i1 fp1 n P1 St1) (D2 : ∀ A' : Around, A'.handled = none → Draws prog w A' i2 fp2 n P2 St2) (D3 : ∀ A' : Around, A'.handled = none → Draws prog w A' i3 fp3 n P3 St3)
    (hh : A.handled = none) {S : Addr} (sz : z < S) (sTI : TI < S) (sTO : TO < S) (sf1 : ∀ b ∈ fp1, b < S) (sf2 : ∀ b ∈ fp2, b < S) (sf3 : ∀ b ∈ fp3, b < S) (hn : n ≤ sizeLine) (res : Value) {h₁ : Heap} {R : Result → Shared → Prop}
    (hR : ∀ h' tk acc c as, (∀ b o, b ≠ S → b ≠ z → b ≠ TO → b ≠ i1 → b ≠ i2 → b ≠ i3 → h₁.get? b = some o → h'.get? b = some o) → h'.get? S = some { cls := .type "list", dict := none, data := .seq acc c, slots := #[] } →
      acc.toList = as.map Value.ref → as.length = n → as.Pairwise (· < ·) → (∀ a ∈ as, S < a) → TupsG P1 P2 P3 h' as → R (.ok (.ret res)) { s with heap := h', toks := tk }) :
    ∀ (k i : Nat) (h : Heap) (tk c : Nat) (acc : Array Value) (as : List Addr), n - i = k → LZ h₁ SP n P1 P2 P3 St1 St2 St3 S i h acc c as →
      codeAny (model prog w) A (.builtin "list.extend.loop" ⟨[.ref S, .ref z, res], []⟩) R { s with heap := h, toks := tk } := by
  have l1 : i1 < S := sf1 _ SP.mem1
  have l2 : i2 < S := sf2 _ SP.mem2
  have l3 : i3 < S := sf3 _ SP.mem3
  have d1 := D1 A.in1.in1 hh
  have d2 := D2 A.in1.in1 hh
  have d3 := D3 A.in1.in1 hh
  have tupK : ∀ {h h' : Heap} {as : List Addr}, (∀ c o, c ≠ z → c ≠ TO → c ≠ i1 → c ≠ i2 → c ≠ i3 → h.get? c = some o → h'.get? c = some o) → (∀ a ∈ as, S < a) → TupsG P1 P2 P3 h as → TupsG P1 P2 P3 h' as := fun {h h' as} hk' ab tp j a hj => by
    obtain ⟨x1, x2, x3, p1, p2, p3, e⟩ := tp j a hj
    have ha := ab a (List.mem_of_getElem? hj)
    exact ⟨x1, x2, x3, p1, p2, p3, hk' _ _ (Nat.ne_of_gt (Nat.lt_trans sz ha)) (Nat.ne_of_gt (Nat.lt_trans sTO ha)) (Nat.ne_of_gt (Nat.lt_trans l1 ha)) (Nat.ne_of_gt (Nat.lt_trans l2 ha)) (Nat.ne_of_gt (Nat.lt_trans l3 ha)) e⟩
  intro k
  induction k with
  | zero =>
    intro i h tk c acc as hk L
    have hin : i = n := by have := L.le; omega
    subst hin
    refine codeAny_builtin PySem.F.entry_extend_loop ?_
    rw [Around.under_plainId PySem.F.plain_extend_loop _]
    show wpAny _ A.in1 (pyNext (.ref z) >>= _) _ _ _
    have fin : ∀ h' tk', (∀ c o, c ≠ z → c ≠ TO → c ≠ i1 → c ≠ i2 → c ≠ i3 → h.get? c = some o → h'.get? c = some o) → R (.ok (.ret res)) { s with heap := h', toks := tk' } := fun h' tk' hk' => by
      exact hR h' tk' acc c as (fun b o b0 b1 b2 b3 b4 b5 e => hk' b o b1 b2 b3 b4 b5 (L.kp b o b0 b1 b2 b3 b4 b5 e))
        (hk' _ _ (Nat.ne_of_gt sz) (Nat.ne_of_gt sTO) (Nat.ne_of_gt l1) (Nat.ne_of_gt l2) (Nat.ne_of_gt l3) L.hS) L.ac L.ln L.rise L.above (tupK hk' L.above L.tups)
    rcases L.zs with ⟨_, hz⟩ | ⟨T, f, hT, hz⟩
    · obtain ⟨a1, a2, a3, hTO⟩ := L.to
      exact wpAny_bind (wpAny_pyNext_zipD3_end (s := { s with heap := h, toks := tk }) SP d1 d2 d3 hz L.ti hTO L.s1 L.s2 L.s3 (Nat.le_refl _) (Nat.le_refl _) (Nat.le_refl _) (.inl rfl) fun h' tk' hk' => wpAny_pure (fin h' tk' hk'))
    · obtain ⟨j, hj⟩ := List.getElem?_of_mem hT
      obtain ⟨x1, x2, x3, _, _, _, e⟩ := L.tups j T hj
      exact wpAny_bind (pyNext_heldD3_end (s := { s with heap := h, toks := tk }) SP d1 d2 d3 hz e L.ti L.s1 L.s2 L.s3 (Nat.le_refl _) (Nat.le_refl _) (Nat.le_refl _) (.inl rfl) fun h' tk' hk' => wpAny_pure (fin h' tk' fun c o c1 _ c3 c4 c5 => hk' c o c1 c3 c4 c5))
  | succ k ih =>
    intro i h tk c acc as hk L
    have hlt : i < n := by omega
    have hsz : acc.size = i := by rw [← Array.length_toList, L.ac, List.length_map, L.ln]
    refine codeAny_builtin PySem.F.entry_extend_loop ?_
    rw [Around.under_plainId PySem.F.plain_extend_loop _]
    show wpAny _ A.in1 (pyNext (.ref z) >>= _) _ _ _
    have hSl : S < h.objs.size := Heap.lt_size L.hS
    have next : ∀ h' tk' x1 x2 x3, P1 i x1 → P2 i x2 → P3 i x3 → (∃ T f, T ∈ as ++ [h.objs.size] ∧ IsZipHeld h' z TI TO T f) → (∃ a1 a2 a3, IsTupOf3 h' TO a1 a2 a3) → St1 (i + 1) h' → St2 (i + 1) h' → St3 (i + 1) h' → IsTupOf3 h' h.objs.size x1 x2 x3 →
        (∀ c o, c ≠ z → c ≠ TO → c ≠ i1 → c ≠ i2 → c ≠ i3 → h.get? c = some o → h'.get? c = some o) →
        wpAny (model prog w) A.in1 (updateSeq S (·.push (Value.ref h.objs.size)) >>= fun _ => again (.builtin "list.extend.loop" ⟨[.ref S, .ref z, res], []⟩))
          (fun fin s' => match fin with | .done f => R (.ok f) s' | .again c' => c'.quiet = true ∧ codeAny (model prog w) A c' R s') (fun e s' => R (.error e) s') { s with heap := h', toks := tk' } := by
      intro h' tk' x1 x2 x3 p1 p2 p3 hzs hTO g1 g2 g3 hT hk'
      have hS' := hk' _ _ (Nat.ne_of_gt sz) (Nat.ne_of_gt sTO) (Nat.ne_of_gt l1) (Nat.ne_of_gt l2) (Nat.ne_of_gt l3) L.hS
      have up : ∀ b o, b ≠ S → h'.get? b = some o → (h'.update S (Obj.mapSeq (·.push (Value.ref h.objs.size)))).get? b = some o := fun b o hb e => (Heap.get?_update_other _ _ (Ne.symm hb)).trans e
      refine wpAny_bind ?_
      refine wpAny_updateSeq hS' rfl (wpAny_pure ⟨plainId_quiet PySem.F.plain_extend_loop _, ih (i + 1) _ tk' _ (acc.push (Value.ref h.objs.size)) (as ++ [h.objs.size]) (by omega) ⟨hlt, ?_, ?_, ?_, ?_, ?_, ?_, ?_, Heap.get?_update_self _ hS' rfl, ?_, ?_, ?_, ?_, ?_⟩⟩) (by rw [hsz]; omega) (by show (acc.push (Value.ref h.objs.size)).size ≤ sizeLine + 1; rw [Array.size_push, hsz]; omega)
      · obtain ⟨T, f, hm, e⟩ := hzs
        exact .inr ⟨T, f, hm, up _ _ (Nat.ne_of_lt sz) e⟩
      · exact up _ _ (Nat.ne_of_lt sTI) (hk' _ _ SP.TIz SP.TITO SP.TIi1 SP.TIi2 SP.TIi3 L.ti)
      · obtain ⟨a1, a2, a3, e⟩ := hTO
        exact ⟨a1, a2, a3, up _ _ (Nat.ne_of_lt sTO) e⟩
      · exact d1.frame _ _ _ g1 fun b hb o e => up b o (Nat.ne_of_lt (sf1 b hb)) e
      · exact d2.frame _ _ _ g2 fun b hb o e => up b o (Nat.ne_of_lt (sf2 b hb)) e
      · exact d3.frame _ _ _ g3 fun b hb o e => up b o (Nat.ne_of_lt (sf3 b hb)) e
      · exact fun b o b0 b1 b2 b3 b4 b5 e => up b o b0 (hk' b o b1 b2 b3 b4 b5 (L.kp b o b0 b1 b2 b3 b4 b5 e))
      · rw [Array.toList_push, L.ac, List.map_append]; rfl
      · rw [List.length_append, L.ln]; rfl
      · refine List.pairwise_append.mpr ⟨L.rise, List.pairwise_singleton _ _, fun a ha b hb => ?_⟩
        rw [List.mem_singleton.mp hb]
        obtain ⟨j, hj⟩ := List.getElem?_of_mem ha
        obtain ⟨_, _, _, _, _, _, e⟩ := L.tups j a hj
        exact Heap.lt_size e
      · intro a ha
        rcases List.mem_append.mp ha with ha | ha
        · exact L.above a ha
        · rw [List.mem_singleton.mp ha]; exact hSl
      · intro j b hj
        rcases Nat.lt_trichotomy j as.length with h1 | h1 | h1
        · rw [List.getElem?_append_left h1] at hj
          obtain ⟨y1, y2, y3, q1, q2, q3, e3⟩ := tupK hk' L.above L.tups j b hj
          have hb := L.above b (List.mem_of_getElem? hj)
          exact ⟨y1, y2, y3, q1, q2, q3, up b _ (Nat.ne_of_gt hb) e3⟩
        · subst h1
          have hb : h.objs.size = b := by simpa using hj
          subst hb
          rw [L.ln]
          exact ⟨x1, x2, x3, p1, p2, p3, up _ _ (Nat.ne_of_gt hSl) hT⟩
        · have hnone : (as ++ [h.objs.size])[j]? = none := List.getElem?_eq_none (by rw [List.length_append, List.length_singleton]; omega)
          rw [hnone] at hj; cases hj
    rcases L.zs with ⟨_, hz⟩ | ⟨T, f, hT, hz⟩
    · obtain ⟨a1, a2, a3, hTO⟩ := L.to
      exact wpAny_bind (wpAny_pyNext_zipD3_item (s := { s with heap := h, toks := tk }) SP d1 d2 d3 hz L.ti hTO L.s1 L.s2 L.s3 hlt hlt hlt fun x1 x2 x3 h' tk' p1 p2 p3 z' TO' g1 g2 g3 hT' hsz' hk' =>
        next h' tk' x1 x2 x3 p1 p2 p3 ⟨_, false, List.mem_append_right _ (List.mem_singleton.mpr rfl), z'⟩ ⟨_, _, _, TO'⟩ g1 g2 g3 hT' hk')
    · obtain ⟨j, hj⟩ := List.getElem?_of_mem hT
      obtain ⟨y1, y2, y3, _, _, _, e⟩ := L.tups j T hj
      obtain ⟨a1, a2, a3, hTO⟩ := L.to
      exact wpAny_bind (pyNext_heldD3_item (s := { s with heap := h, toks := tk }) SP d1 d2 d3 hz e L.ti L.s1 L.s2 L.s3 hlt hlt hlt fun x1 x2 x3 h' tk' p1 p2 p3 z' g1 g2 g3 hT' hsz' hk' =>
        next h' tk' x1 x2 x3 p1 p2 p3 ⟨T, true, List.mem_append_left _ hT, z'⟩ ⟨a1, a2, a3, hk' _ _ SP.TOz SP.Ti1 SP.Ti2 SP.Ti3 hTO⟩ g1 g2 g3 hT' fun c o c1 _ c3 c4 c5 => hk' c o c1 c3 c4 c5)
/-- what stands ahead of the list's making -/
structure LZ0 (h : Heap) (SP : ZipSep3 z TI TO i1 i2 i3 fp1 fp2 fp3) (St1 St2 St3 : Nat → Heap → Prop) : Prop where
  hz : IsZip h z TI TO .none
  ti : IsTupOf3 h TI (.ref i1) (.ref i2) (.ref i3)
  to : ∃ a1 a2 a3, IsTupOf3 h TO a1 a2 a3
  s1 : St1 0 h
  s2 : St2 0 h
  s3 : St3 0 h
theorem LZ0.up {h h' : Heap} {SP : ZipSep3 z TI TO i1 i2 i3 fp1 fp2 fp3} {S : Addr} (L : LZ0 h SP St1 St2 St3) (D1 : Draws prog w A i1 fp1 n P1 St1) (D2 : Draws prog w A i2 fp2 n P2 St2) (D3 : Draws prog w A i3 fp3 n P3 St3) (sz : z < S) (sTI : TI < S) (sTO : TO < S) (sf1 : ∀ b ∈ fp1, b < S) (sf2 : ∀ b ∈ fp2, b < S) (sf3 : ∀ b ∈ fp3, b < S)
    (k : ∀ b o, b ≠ S → h.get? b = some o → h'.get? b = some o) : LZ0 h' SP St1 St2 St3 := by
  obtain ⟨a1, a2, a3, e⟩ := L.to
  exact ⟨k _ _ (Nat.ne_of_lt sz) L.hz, k _ _ (Nat.ne_of_lt sTI) L.ti, ⟨a1, a2, a3, k _ _ (Nat.ne_of_lt sTO) e⟩, D1.frame _ _ _ L.s1 fun b hb o e => k b o (Nat.ne_of_lt (sf1 b hb)) e, D2.frame _ _ _ L.s2 fun b hb o e => k b o (Nat.ne_of_lt (sf2 b hb)) e,
    D3.frame _ _ _ L.s3 fun b hb o e => k b o (Nat.ne_of_lt (sf3 b hb)) e⟩
theorem lz_extend (SP : ZipSep3 z TI TO i1 i2 i3 fp1 fp2 fp3) (D1 : ∀ A' : Around, A'.handled = none → Draws prog w A' i1 fp1 n P1 St1) (D2 : ∀ A' : Around, A'.handled = none → Draws prog w A' i2 fp2 n P2 St2) (D3 : ∀ A' : Around, A'.handled = none → Draws prog w A' i3 fp3 n P3 St3)
    (hh : A.handled = none) {S : Addr} (sz : z < S) (sTI : TI < S) (sTO : TO < S) (sf1 : ∀ b ∈ fp1, b < S) (sf2 : ∀ b ∈ fp2, b < S) (sf3 : ∀ b ∈ fp3, b < S) (hn : n ≤ sizeLine) (res : Value) {R : Result → Shared → Prop} (L : LZ0 s.heap SP St1 St2 St3) {c₀ : Nat}
    (hS : s.heap.get? S = some { cls := .type "list", data := .seq #[] c₀ })
    (hR : ∀ h' tk acc c as, (∀ b o, b ≠ S → b ≠ z → b ≠ TO → b ≠ i1 → b ≠ i2 → b ≠ i3 → s.heap.get? b = some o → h'.get? b = some o) → h'.get? S = some { cls := .type "list", dict := none, data := .seq acc c, slots := #[] } →
      acc.toList = as.map Value.ref → as.length = n → as.Pairwise (· < ·) → (∀ a ∈ as, S < a) → TupsG P1 P2 P3 h' as → R (.ok (.ret res)) { s with heap := h', toks := tk }) :
    wpAny (model prog w) A.in1 (Builtin.List.listExtendWith (.ref S) (.ref z) res)
      (fun fin s' => match fin with | .done f => R (.ok f) s' | .again c' => c'.quiet = true ∧ codeAny (model prog w) A c' R s') (fun e s' => R (.error e) s') s := by
  have hT : s.TypeIs (.ref z) "zip" := ⟨_, L.hz, rfl⟩
  unfold Builtin.List.listExtendWith
  refine wpAny_bind (wpAny_typeOf (T := "zip") hT ?_)
  have h1 : Builtin.List.listSameRef (.ref S) (.ref z) = false := by simp [Builtin.List.listSameRef, Nat.ne_of_gt sz]
  have h2 : (Value.type "zip" == Value.type "list") = false := by decide
  have h3 : (Value.type "zip" == Value.type "tuple") = false := by decide
  simp only [h1, h2, h3, Bool.or_false, Bool.false_eq_true, if_false]
  refine wpAny_bind (wpAny_pyIter_zip L.hz ?_)
  refine wpAny_bind (wpAny_holding (zip_hint hT ?_))
  refine wpAny_ite_split (fun _ => ?_) (fun hab => absurd (by rfl) hab)
  refine wpAny_bind (wpAny_rule ?_)
  refine wpAny_bind ?_
  show wpAny _ _ (updateSeq S (·.push .none) >>= fun _ => updateSeq S (·.pop)) _ _ _
  refine wpAny_bind (wpAny_updateSeq hS rfl ?_)
  have hS₂ := Heap.get?_update_self (Obj.mapSeq (·.push Value.none)) hS rfl
  refine wpAny_updateSeq (hz := by seq_fits) hS₂ rfl ?_
  have hS₃ := Heap.get?_update_self (Obj.mapSeq (·.pop)) hS₂ rfl
  have oth : ∀ b o, b ≠ S → s.heap.get? b = some o → ((s.heap.update S (Obj.mapSeq (·.push Value.none))).update S (Obj.mapSeq (·.pop))).get? b = some o := fun b o hb e =>
    (Heap.get?_update_other _ _ (Ne.symm hb)).trans ((Heap.get?_update_other _ _ (Ne.symm hb)).trans e)
  have L' := L.up (D1 A hh) (D2 A hh) (D3 A hh) sz sTI sTO sf1 sf2 sf3 oth
  refine wpAny_pure ⟨plainId_quiet PySem.F.plain_extend_loop _, ?_⟩
  exact lz_loop (s := s) (h₁ := s.heap) SP D1 D2 D3 hh sz sTI sTO sf1 sf2 sf3 hn res hR n 0 _ s.toks _ #[] [] (Nat.sub_zero _)
    ⟨Nat.zero_le _, .inl ⟨rfl, L'.hz⟩, L'.ti, L'.to, L'.s1, L'.s2, L'.s3, fun b o b0 _ _ _ _ _ e => oth b o b0 e, hS₃, rfl, rfl, List.Pairwise.nil, (fun _ ha => nomatch ha), fun j a hj => by simp at hj⟩
theorem lz_init (SP : ZipSep3 z TI TO i1 i2 i3 fp1 fp2 fp3) (D1 : ∀ A' : Around, A'.handled = none → Draws prog w A' i1 fp1 n P1 St1) (D2 : ∀ A' : Around, A'.handled = none → Draws prog w A' i2 fp2 n P2 St2) (D3 : ∀ A' : Around, A'.handled = none → Draws prog w A' i3 fp3 n P3 St3)
    (hh : A.handled = none) {S : Addr} (sz : z < S) (sTI : TI < S) (sTO : TO < S) (sf1 : ∀ b ∈ fp1, b < S) (sf2 : ∀ b ∈ fp2, b < S) (sf3 : ∀ b ∈ fp3, b < S) (hn : n ≤ sizeLine) {R : Result → Shared → Prop} (L : LZ0 s.heap SP St1 St2 St3)
    (hS : s.heap.get? S = some { cls := .type "list", data := .seq #[] })
    (hR : ∀ h' tk acc c as, (∀ b o, b ≠ S → b ≠ z → b ≠ TO → b ≠ i1 → b ≠ i2 → b ≠ i3 → s.heap.get? b = some o → h'.get? b = some o) → h'.get? S = some { cls := .type "list", dict := none, data := .seq acc c, slots := #[] } →
      acc.toList = as.map Value.ref → as.length = n → as.Pairwise (· < ·) → (∀ a ∈ as, S < a) → TupsG P1 P2 P3 h' as → R (.ok (.ret .none)) { s with heap := h', toks := tk }) :
    wpAny (model prog w) A.in1 (Builtin.«list.__init__» ⟨[.ref S, .ref z], []⟩)
      (fun fin s' => match fin with | .done f => R (.ok f) s' | .again c' => c'.quiet = true ∧ codeAny (model prog w) A c' R s') (fun e s' => R (.error e) s') s := by
  show wpAny _ _ (do let old ← Builtin.List.listItems (.ref S); Builtin.List.listUpdate (.ref S) (fun _ => #[]); letGo old.toList.reverse; Builtin.List.listExtendWith (.ref S) (.ref z) .none) _ _ s
  refine wpAny_bind ?_
  unfold Builtin.List.listItems
  refine wpAny_bind (wpAny_seqItems hS rfl (wpAny_pure ?_))
  show wpAny _ _ (updateSeq S (fun _ => #[]) >>= fun _ => letGo (#[] : Array Value).toList.reverse >>= fun _ => Builtin.List.listExtendWith (.ref S) (.ref z) .none) _ _ s
  refine wpAny_bind (wpAny_updateSeq hS rfl ?_)
  have hS₂ := Heap.get?_update_self (Obj.mapSeq (fun _ => (#[] : Array Value))) hS rfl
  have oth : ∀ b o, b ≠ S → s.heap.get? b = some o → (s.heap.update S (Obj.mapSeq (fun _ => (#[] : Array Value)))).get? b = some o :=
    fun b o hb e => (Heap.get?_update_other _ _ (Ne.symm hb)).trans e
  refine wpAny_bind (wpAny_letGo ?_)
  have L' := L.up (D1 A hh) (D2 A hh) (D3 A hh) sz sTI sTO sf1 sf2 sf3 oth
  refine lz_extend (s := { s with heap := _ }) SP D1 D2 D3 hh sz sTI sTO sf1 sf2 sf3 hn .none L' hS₂ (fun h' tk acc c as hk => ?_)
  exact hR h' tk acc c as fun b o b0 b1 b2 b3 b4 b5 e => hk b o b0 b1 b2 b3 b4 b5 (oth b o b0 e)
theorem lz_call (SP : ZipSep3 z TI TO i1 i2 i3 fp1 fp2 fp3) (D1 : ∀ A' : Around, A'.handled = none → Draws prog w A' i1 fp1 n P1 St1) (D2 : ∀ A' : Around, A'.handled = none → Draws prog w A' i2 fp2 n P2 St2) (D3 : ∀ A' : Around, A'.handled = none → Draws prog w A' i3 fp3 n P3 St3)
    (hh : A.handled = none) (sz : z < s.heap.objs.size) (sTI : TI < s.heap.objs.size) (sTO : TO < s.heap.objs.size) (sf1 : ∀ b ∈ fp1, b < s.heap.objs.size) (sf2 : ∀ b ∈ fp2, b < s.heap.objs.size) (sf3 : ∀ b ∈ fp3, b < s.heap.objs.size) (hn : n ≤ sizeLine) {Q : Value → Shared → Prop} (L : LZ0 s.heap SP St1 St2 St3)
    (hQ : ∀ h' tk acc c as, (∀ b o, b ≠ z → b ≠ TO → b ≠ i1 → b ≠ i2 → b ≠ i3 → s.heap.get? b = some o → h'.get? b = some o) → h'.get? s.heap.objs.size = some { cls := .type "list", dict := none, data := .seq acc c, slots := #[] } →
      acc.toList = as.map Value.ref → as.length = n → as.Pairwise (· < ·) → (∀ a ∈ as, s.heap.objs.size < a) → TupsG P1 P2 P3 h' as → Q (.ref s.heap.objs.size) { s with heap := h', toks := tk }) :
    wpAny (model prog w) A (call (.type "list") [.ref z]) Q E s := by
  refine callType_codes (Q₁ := fun obj s₁ => obj = .ref s.heap.objs.size ∧ s₁ = { s with heap := s.heap.push { cls := .type "list", data := .seq #[] } }) PySem.F.called_list (PySem.F.typeCall_list_1 _) PySem.F.entry_list_init
    (code_list_new _ ⟨rfl, rfl⟩) fun obj s₁ h₁ => ?_
  obtain ⟨rfl, rfl⟩ := h₁
  have hS : (s.heap.push { cls := .type "list", data := .seq #[] }).get? s.heap.objs.size = some { cls := .type "list", data := .seq #[] } := Heap.get?_push_size _ rfl
  have L' := L.up (h' := s.heap.push { cls := .type "list", data := .seq #[] }) (D1 A hh) (D2 A hh) (D3 A hh) sz sTI sTO sf1 sf2 sf3 fun b o _ e => Heap.get?_push_of_some _ e
  refine ⟨⟨_, hS, rfl⟩, PySem.F.args_list_init_2 _ _, lz_init (A := A.in1) (s := { s with heap := s.heap.push { cls := .type "list", data := .seq #[] } }) SP D1 D2 D3 hh sz sTI sTO sf1 sf2 sf3 hn L' hS fun h' tk acc c as hk hS' hacc hl hr ha ht => ?_⟩
  exact ⟨rfl, hQ h' tk acc c as (fun b o b1 b2 b3 b4 b5 e => hk b o (Nat.ne_of_lt (Heap.lt_size e)) b1 b2 b3 b4 b5 (Heap.get?_push_of_some _ e)) hS' hacc hl hr ha ht⟩
end
/-! ### list(zip(t, l, l2)) -/
/-- the heap behind it -/
structure ListZip (H1 H' : Hp) (l : Addr) (ts : List Addr) (xs ys zs : List V) : Prop where
  same : Same H1 H'
  free : H1 l = none
  at_ : H' l = some (.lst (ts.map V.ref))
  len : ts.length = xs.length
  tup : ∀ (j : Nat) (a : Addr) (x y z : V), ts[j]? = some a → xs[j]? = some x → ys[j]? = some y → zs[j]? = some z → H' a = some (.tup [x, y, z])
def tListZip (K : PySem.W.Frag) (ta : TA) : TE := fun σ H Q => ta σ H fun vs H1 => ∃ (c1 c2 c3 : Addr) (xs ys zs : List V), vs = [.ref c1, .ref c2, .ref c3] ∧ SqT K H1 c1 xs ∧ SqL K H1 c2 ys ∧ SqL K H1 c3 zs ∧ ys.length = xs.length ∧ zs.length = xs.length ∧
  ∀ l ts H', ListZip H1 H' l ts xs ys zs → Q (.ref l) H'
theorem vals_refs {as : List Addr} {us : List Value} (h : us = as.map Value.ref) : Vals (as.map V.ref) us := by
  subst h
  induction as with
  | nil => exact .nil
  | cons a r ih => exact .cons rfl ih
theorem pe_listzip {X : Cx} {a1 a2 a3 : Expr} {ta : TA} {p p2 q pos : Pos} (hc : X.calm = true) (hg : Gl X "list") (hm : X.mg "list" = none) (hg2 : Gl X "zip") (hm2 : X.mg "zip" = none) (ha : PA X [a1, a2, a3] ta)
    (hs : starEach [a1, a2, a3] X.env = (false, eval a1 X.env) :: starEach [a2, a3] X.env := by rfl) (hpl : (backTo q (starEach [a2, a3] X.env)).any (·.1) = false := by rfl)
    (hs2 : starEach [.Call (.Name "zip" p2) [a1, a2, a3] [] q] X.env = (false, eval (.Call (.Name "zip" p2) [a1, a2, a3] [] q) X.env) :: starEach [] X.env := by rfl) :
    PE X (.Call (.Name "list" p) [.Call (.Name "zip" p2) [a1, a2, a3] [] q] [] pos) (tListZip X.K ta) := by
  refine ⟨fun pins s σ H Q I h => ?_⟩
  refine wpAny_Call_Name_kw (ld_blt I hg hm (u := .type "list") (by decide +kernel) ?_)
  refine PyProof.Rows.callWith_type1 ?_ hs2 (by rfl)
  rw [hs2]
  show wpAny _ _ (spliced ((false, eval (.Call (.Name "zip" p2) [a1, a2, a3] [] q) X.env) :: backTo pos (starEach [] X.env))) _ _ s
  refine Calls.spliced_cons ?_
  refine Call_ (ld_blt I hg2 hm2 PyProof.Rows.boot_zip (PyProof.Rows.callWith_type1 (thn (ha.run q pins s σ H _ I h) fun us s1 ⟨vs, H1, I1, r1, q1⟩ => ?_) hs hpl))
  obtain ⟨c1, c2, c3, xs, ys, zs, ex, hq1, hq2, hq3, ly, lz, qq⟩ := q1
  subst ex
  obtain ⟨w1, ur1, e1, g1, r1⟩ : ∃ w ur, us = w :: ur ∧ RelV (.ref c1) w ∧ Vals [.ref c2, .ref c3] ur := by cases r1 with | cons a b => exact ⟨_, _, rfl, a, b⟩
  cases (show w1 = Value.ref c1 from g1)
  obtain ⟨w2, ur2, e2, g2, r1⟩ : ∃ w ur, ur1 = w :: ur ∧ RelV (.ref c2) w ∧ Vals [.ref c3] ur := by cases r1 with | cons a b => exact ⟨_, _, rfl, a, b⟩
  cases (show w2 = Value.ref c2 from g2)
  obtain ⟨w3, ur3, e3, g3, r1⟩ : ∃ w ur, ur2 = w :: ur ∧ RelV (.ref c3) w ∧ Vals [] ur := by cases r1 with | cons a b => exact ⟨_, _, rfl, a, b⟩
  cases (show w3 = Value.ref c3 from g3)
  cases r1
  subst e3 e2 e1
  obtain ⟨its1, rv1, p1, zx⟩ := I1.tuple hq1
  obtain ⟨its2, rv2, p2', _⟩ := I1.list hq2
  obtain ⟨its3, rv3, p3, _⟩ := I1.list hq3
  have pq1 : s1.heap.IsTuple c1 its1.toArray := p1
  have pq2 : s1.heap.IsList c2 its2.toArray := p2'.isList
  have pq3 : s1.heap.IsList c3 its3.toArray := p3.isList
  have lt1 : c1 < s1.heap.objs.size := p1.lt
  have lt2 : c2 < s1.heap.objs.size := p2'.lt
  have lt3 : c3 < s1.heap.objs.size := p3.lt
  have n1 : its1.toArray.size = xs.length := by rw [List.size_toArray, rv1.length]
  have n2 : its2.toArray.size = xs.length := by rw [List.size_toArray, ← rv2.length, ly]
  have n3 : its3.toArray.size = xs.length := by rw [List.size_toArray, ← rv3.length, lz]
  have hh := I1.ok.hd hc
  refine zip_begins3 (begins_tuple c1 its1.toArray) (begins_list c2 its2.toArray) (begins_list c3 its3.toArray) pq1 pq2 pq3 fun h' hz hTI hTO gg1 gg2 gg3 hsz hk => ?_
  refine Calls.spliced_nil ?_
  have SP := zip_sep3 (N := s1.heap.objs.size) (fp1 := [c1]) (fp2 := [c2]) (fp3 := [c3]) (fun b hb => by rw [List.mem_singleton.mp hb]; exact lt1) (fun b hb => by rw [List.mem_singleton.mp hb]; exact lt2) (fun b hb => by rw [List.mem_singleton.mp hb]; exact lt3)
  have D1 : ∀ A' : Around, A'.handled = none → Draws X.prog X.w A' s1.heap.objs.size [s1.heap.objs.size, c1] xs.length (fun i v => its1.toArray[i]? = some v) (fun i h => h.IsTupleIter s1.heap.objs.size c1 i ∧ h.IsTuple c1 its1.toArray) := fun A' hA => by
    have := Draws.tuple (prog := X.prog) (w := X.w) hA s1.heap.objs.size c1 (Nat.ne_of_lt lt1) its1.toArray
    rwa [n1] at this
  have D2 : ∀ A' : Around, A'.handled = none → Draws X.prog X.w A' (s1.heap.objs.size + 1) [s1.heap.objs.size + 1, c2] xs.length (fun i v => its2.toArray[i]? = some v) (fun i h => h.IsListIter (s1.heap.objs.size + 1) c2 i ∧ h.IsList c2 its2.toArray) := fun A' hA => by
    have := Draws.list (prog := X.prog) (w := X.w) hA (s1.heap.objs.size + 1) c2 (Nat.ne_of_lt (Nat.lt_succ_of_lt lt2)) its2.toArray
    rwa [n2] at this
  have D3 : ∀ A' : Around, A'.handled = none → Draws X.prog X.w A' (s1.heap.objs.size + 2) [s1.heap.objs.size + 2, c3] xs.length (fun i v => its3.toArray[i]? = some v) (fun i h => h.IsListIter (s1.heap.objs.size + 2) c3 i ∧ h.IsList c3 its3.toArray) := fun A' hA => by
    have := Draws.list (prog := X.prog) (w := X.w) hA (s1.heap.objs.size + 2) c3 (Nat.ne_of_lt (Nat.lt_succ_of_lt (Nat.lt_succ_of_lt lt3))) its3.toArray
    rwa [n3] at this
  have big : ∀ {j : Nat}, j < 6 → s1.heap.objs.size + j < h'.objs.size := fun {j} hj => by
    rw [hsz]
    exact Nat.add_lt_add_left hj _
  have bigc : ∀ {c : Addr}, c < s1.heap.objs.size → c < h'.objs.size := fun {c} hj => by
    rw [hsz]
    exact Nat.lt_of_lt_of_le hj (Nat.le_add_right _ _)
  refine lz_call (s := { s1 with heap := h' }) SP D1 D2 D3 hh (big (j := 5) (by decide)) (big (j := 3) (by decide)) (big (j := 4) (by decide))
    (fun b hb => ?_) (fun b hb => ?_) (fun b hb => ?_) zx
    ⟨hz, hTI, ⟨_, _, _, hTO⟩, ⟨⟨_, gg1, rfl, rfl⟩, pq1.at fun o e => hk _ o e⟩, ⟨⟨_, gg2, rfl, rfl⟩, pq2.at fun o e => hk _ o e⟩, ⟨⟨_, gg3, rfl, rfl⟩, pq3.at fun o e => hk _ o e⟩⟩ fun h2 tk acc c as hk2 hS hacc hl hr hab ht => ?_
  · have e : b = s1.heap.objs.size ∨ b = c1 := by simpa using hb
    rcases e with e | e
    · rw [e]; exact big (j := 0) (by decide)
    · rw [e]; exact bigc lt1
  · have e : b = s1.heap.objs.size + 1 ∨ b = c2 := by simpa using hb
    rcases e with e | e
    · rw [e]; exact big (j := 1) (by decide)
    · rw [e]; exact bigc lt2
  · have e : b = s1.heap.objs.size + 2 ∨ b = c3 := by simpa using hb
    rcases e with e | e
    · rw [e]; exact big (j := 2) (by decide)
    · rw [e]; exact bigc lt3
  have hab' : ∀ a ∈ as, h'.objs.size < a := hab
  have hS' : h2.get? h'.objs.size = some { cls := .type "list", dict := none, data := .seq acc c, slots := #[] } := hS
  have young : s1.heap.objs.size ≤ h'.objs.size := by rw [hsz]; exact Nat.le_add_right _ _
  have keep : ∀ b u, s1.heap.get? b = some u → h2.get? b = some u := fun b u e => by
    have hb := Heap.lt_size e
    have ne : ∀ j, b ≠ s1.heap.objs.size + j := fun j => Nat.ne_of_lt (Nat.lt_of_lt_of_le hb (Nat.le_add_right _ _))
    exact hk2 b u (ne 5) (ne 4) (ne 0) (ne 1) (ne 2) (hk b u e)
  -- the values of the j-th tuple
  have el : ∀ j, j < xs.length → ∃ x y z u1 u2 u3, xs[j]? = some x ∧ ys[j]? = some y ∧ zs[j]? = some z ∧ its1[j]? = some u1 ∧ its2[j]? = some u2 ∧ its3[j]? = some u3 ∧ RelV x u1 ∧ RelV y u2 ∧ RelV z u3 := fun j hj => by
    have b1 : xs[j]? = some xs[j] := List.getElem?_eq_getElem hj
    have b2 : ys[j]? = some (ys[j]'(by omega)) := List.getElem?_eq_getElem _
    have b3 : zs[j]? = some (zs[j]'(by omega)) := List.getElem?_eq_getElem _
    obtain ⟨u1, k1, m1⟩ := rv1.get b1
    obtain ⟨u2, k2, m2⟩ := rv2.get b2
    obtain ⟨u3, k3, m3⟩ := rv3.get b3
    exact ⟨_, _, _, u1, u2, u3, b1, b2, b3, k1, k2, k3, m1, m2, m3⟩
  let tupV : Nat → HO := fun j => .tup [xs.getD j .non, ys.getD j .non, zs.getD j .non]
  let lay : List (Addr × HO) := (h'.objs.size, .lst (as.map V.ref)) :: (List.range as.length).map fun j => (as.getD j 0, tupV j)
  have mem : ∀ p ∈ lay, p = (h'.objs.size, .lst (as.map V.ref)) ∨ ∃ j a, as[j]? = some a ∧ p = (a, tupV j) := fun p hp => by
    rcases List.mem_cons.mp hp with e | hp
    · exact .inl e
    · obtain ⟨j, hj, e⟩ := List.mem_map.mp hp
      have hj' := List.mem_range.mp hj
      refine .inr ⟨j, as[j], List.getElem?_eq_getElem hj', ?_⟩
      rw [← e]
      simp [List.getD, List.getElem?_eq_getElem hj']
  have I2 : L2.Inv X pins σ (layA H1 lay) { s1 with heap := h2, toks := tk } := by
    refine laidA (t' := tk) I1 keep fun p hp => ?_
    rcases mem p hp with rfl | ⟨j, a, hj, rfl⟩
    · refine ⟨young, ⟨?_, acc.toList, c, vals_refs hacc, hS'⟩⟩
      rw [List.length_map, hl]
      exact zx
    · have ha := hab' a (List.mem_of_getElem? hj)
      have hj' : j < xs.length := by rw [← hl]; exact (List.getElem?_eq_some_iff.mp hj).1
      obtain ⟨x, y, z, u1, u2, u3, b1, b2, b3, k1, k2, k3, m1, m2, m3⟩ := el j hj'
      obtain ⟨v1, v2, v3, t1, t2, t3, e⟩ := ht j a hj
      rw [List.getElem?_toArray, k1] at t1
      rw [List.getElem?_toArray, k2] at t2
      rw [List.getElem?_toArray, k3] at t3
      cases t1
      cases t2
      cases t3
      refine ⟨Nat.le_of_lt (Nat.lt_of_le_of_lt young ha), ?_⟩
      show 3 ≤ sizeLine ∧ _
      refine ⟨by decide, [u1, u2, u3], ?_, ⟨_, e, rfl, _, rfl⟩⟩
      have e1 : xs.getD j .non = x := by rw [List.getD_eq_getElem?_getD, b1]; rfl
      have e2 : ys.getD j .non = y := by rw [List.getD_eq_getElem?_getD, b2]; rfl
      have e3 : zs.getD j .non = z := by rw [List.getD_eq_getElem?_getD, b3]; rfl
      rw [e1, e2, e3]
      exact .cons m1 (.cons m2 (.cons m3 .nil))
  have nd : (lay.map (·.1)).Nodup := by
    have em : lay.map (·.1) = h'.objs.size :: as := by
      show h'.objs.size :: ((List.range as.length).map fun j => (as.getD j 0, tupV j)).map (·.1) = _
      rw [List.map_map]
      congr 1
      apply List.ext_getElem
      · simp
      · intro i h1 h2
        simp [List.getD, List.getElem?_eq_getElem h2]
    rw [em]
    refine List.nodup_cons.mpr ⟨fun hm => Nat.lt_irrefl _ (hab' _ hm), hr.imp fun h => Nat.ne_of_lt h⟩
  refine ⟨.ref h'.objs.size, _, I2, rfl, qq h'.objs.size as _ ⟨fun b o e => ?_, I1.hok.fresh young, ?_, hl, fun j a x y z hj hx hy hzz => ?_⟩⟩
  · refine (layA_old fun p hp => ?_).trans e
    have hb := I1.hok.lt e
    rcases mem p hp with rfl | ⟨j, a, hj, rfl⟩
    · exact Nat.ne_of_lt (Nat.lt_of_lt_of_le hb young)
    · exact Nat.ne_of_lt (Nat.lt_trans (Nat.lt_of_lt_of_le hb young) (hab' a (List.mem_of_getElem? hj)))
  · exact layA_in (p := (h'.objs.size, .lst (as.map V.ref))) nd List.mem_cons_self
  · have hj' := (List.getElem?_eq_some_iff.mp hj).1
    have hm : (a, tupV j) ∈ lay := List.mem_cons_of_mem _ (List.mem_map.mpr ⟨j, List.mem_range.mpr hj', by simp [List.getD, hj]⟩)
    have := layA_in (H := H1) nd hm
    rw [this]
    show some (HO.tup [xs.getD j .non, ys.getD j .non, zs.getD j .non]) = _
    rw [List.getD_eq_getElem?_getD, List.getD_eq_getElem?_getD, List.getD_eq_getElem?_getD, hx, hy, hzz]
    rfl
end K33
/-! k33: the plain law, lists by their places. -/
namespace K33
def cl : Int → List Int → Int
  | e, [] => e
  | e, b :: r => cl (gc e b) r
theorem coms_append : ∀ (bs : List Int) (e x : Int), coms e (bs ++ [x]) = coms e bs ++ [gc (cl e bs) x]
  | [], e, x => rfl
  | b :: r, e, x => by
    show e :: coms (gc e b) (r ++ [x]) = e :: (coms (gc e b) r ++ [gc (cl (gc e b) r) x])
    rw [coms_append r]
theorem coms_last : ∀ (bs : List Int) (e : Int), ∃ init, coms e bs = init ++ [cl e bs]
  | [], e => ⟨[], rfl⟩
  | b :: r, e => by
    obtain ⟨init, h⟩ := coms_last r (gc e b)
    exact ⟨e :: init, by show e :: coms (gc e b) r = _; rw [h]; rfl⟩
theorem coms_len : ∀ (bs : List Int) (e : Int), (coms e bs).length = bs.length + 1
  | [], e => rfl
  | b :: r, e => by show (coms (gc e b) r).length + 1 = _; rw [coms_len r]; rfl
theorem shs_len : ∀ (bs : List Int) (e : Int), (shs e bs).length = bs.length
  | [], e => rfl
  | b :: r, e => by show (shs (gc e b) r).length + 1 = _; rw [shs_len r]; rfl
theorem gc_nn (a b : Int) : 0 ≤ gc a b := by unfold gc; omega
theorem cl_nn : ∀ (bs : List Int) (e : Int), 0 ≤ e → 0 ≤ cl e bs
  | [], e, h => h
  | b :: r, e, _ => cl_nn r _ (gc_nn e b)
theorem gc_le {e b : Int} (h : 0 < e) : gc e b ≤ e := Int.le_of_dvd h (gc_dvd_l e b)
theorem cl_le : ∀ (bs : List Int) (e : Int), 0 < e → cl e bs ≤ e
  | [], e, h => Int.le_refl e
  | b :: r, e, h => Int.le_trans (cl_le r _ (gc_pos h)) (gc_le h)
theorem cl_one : ∀ (bs : List Int) (e : Int), Gd e bs → cl e bs = 1
  | [], e, h => h
  | b :: r, e, h => cl_one r _ h.2.2
theorem coms_pos : ∀ (bs : List Int) (e : Int), 0 < e → ∀ x ∈ coms e bs, 0 < x ∧ x ≤ e
  | [], e, h, x, hx => by
    rw [List.mem_singleton.mp hx]
    exact ⟨h, Int.le_refl e⟩
  | b :: r, e, h, x, hx => by
    rcases List.mem_cons.mp hx with e1 | hx
    · rw [e1]
      exact ⟨h, Int.le_refl e⟩
    · obtain ⟨h1, h2⟩ := coms_pos r _ (gc_pos h) x hx
      exact ⟨h1, Int.le_trans h2 (gc_le h)⟩
theorem coms_zero (bs : List Int) (e : Int) : (coms e bs)[0]? = some e := by cases bs <;> rfl
theorem shs_get : ∀ (bs : List Int) (e : Int) (i : Nat) (x y : Int), (coms e bs)[i]? = some x → (coms e bs)[i + 1]? = some y → (shs e bs)[i]? = some (x / y)
  | [], e, i, x, y, _, h => by simp [coms] at h
  | b :: r, e, 0, x, y, h, h2 => by
    have e1 : e = x := Option.some.inj h
    have e2 : (coms (gc e b) r)[0]? = some y := h2
    rw [coms_zero] at e2
    have e3 : gc e b = y := Option.some.inj e2
    rw [← e1, ← e3]
    rfl
  | b :: r, e, i + 1, x, y, h, h2 => shs_get r _ i x y h h2
/-- what stands at the places of good generators -/
structure At (b : Int) (bs : List Int) (i : Nat) (x n e e' : Int) : Prop where
  hx : bs[i]? = some x
  hn : (shs b bs)[i]? = some n
  he : (coms b bs)[i]? = some e
  he' : (coms b bs)[i + 1]? = some e'
  px : 0 < x
  pe : 0 < e
  n2 : 2 ≤ n
  en : n = e / gc e x
  eg : e' = gc e x
  gd' : Gd e' (bs.drop (i + 1))
theorem at_of : ∀ (bs : List Int) (b : Int) (i : Nat), 0 < b → Gd b bs → i < bs.length → ∃ x n e e', At b bs i x n e e'
  | [], b, i, _, _, h => absurd h (Nat.not_lt_zero _)
  | x :: r, b, 0, hb, h, _ => ⟨x, _, b, gc b x, rfl, rfl, rfl, by show (coms (gc b x) r)[0]? = _; exact coms_zero _ _, h.1, hb, h.2.1, rfl, rfl, h.2.2⟩
  | x :: r, b, i + 1, hb, h, hi => by
    obtain ⟨y, n, e, e', a⟩ := at_of r (gc b x) i (gc_pos hb) h.2.2 (Nat.lt_of_succ_lt_succ hi)
    exact ⟨y, n, e, e', a.hx, a.hn, a.he, a.he', a.px, a.pe, a.n2, a.en, a.eg, a.gd'⟩
theorem At.mul {b : Int} {bs : List Int} {i : Nat} {x n e e' : Int} (a : At b bs i x n e e') : n * e' = e := by
  rw [a.en, a.eg]
  exact gc_mul
theorem At.pos' {b : Int} {bs : List Int} {i : Nat} {x n e e' : Int} (a : At b bs i x n e e') : 0 < e' := by
  rw [a.eg]
  exact gc_pos a.pe
theorem At.lt {b : Int} {bs : List Int} {i : Nat} {x n e e' : Int} (a : At b bs i x n e e') : e' < e := by
  have h1 := a.mul
  have h2 := a.pos'
  have h3 : 2 * e' ≤ n * e' := Int.mul_le_mul_of_nonneg_right a.n2 (Int.le_of_lt h2)
  omega
theorem At.le {b : Int} {bs : List Int} {i : Nat} {x n e e' : Int} (hb : 0 < b) (a : At b bs i x n e e') : e ≤ b ∧ n ≤ b := by
  have h1 := (coms_pos bs b hb e (List.mem_of_getElem? a.he)).2
  refine ⟨h1, ?_⟩
  rw [a.en]
  exact Int.le_trans (Int.ediv_le_self _ (Int.le_of_lt a.pe)) h1
/-- each one is greater than the elder one times its share -/
theorem up_get : ∀ (bs : List Int) (L e : Int), Up L e bs → ∀ (i : Nat) (x y n : Int), bs[i]? = some x → bs[i + 1]? = some y → (shs e bs)[i]? = some n → x * n < y
  | [], _, _, _, i, x, y, n, h, _, _ => by simp at h
  | [b], _, _, _, i, x, y, n, _, h, _ => by simp at h
  | b :: c :: r, L, e, h, 0, x, y, n, h1, h2, h3 => by
    have e1 : b = x := Option.some.inj h1
    have e2 : c = y := Option.some.inj h2
    have e3 : e / gc e b = n := Option.some.inj h3
    rw [← e1, ← e2, ← e3]
    exact h.2.1
  | b :: c :: r, L, e, h, i + 1, x, y, n, h1, h2, h3 => up_get (c :: r) _ _ h.2 i x y n h1 h2 h3
theorem dot_nil (bs : List Int) : dot [] bs = 0 := by cases bs <;> rfl
/-- bounds by places -/
theorem bnd_len : ∀ (bs : List Int) (e : Int) (ks : List Int), Bnd e bs ks → ks.length = bs.length
  | [], _, [], _ => rfl
  | [], _, _ :: _, h => h.elim
  | _ :: _, _, [], h => h.elim
  | b :: r, e, k :: ks, h => by show ks.length + 1 = r.length + 1; rw [bnd_len r _ ks h.2]
theorem bnd_iff : ∀ (bs : List Int) (e : Int) (ks : List Int), ks.length = bs.length → (Bnd e bs ks ↔ ∀ (i : Nat) (k n : Int), ks[i]? = some k → (shs e bs)[i]? = some n → 0 ≤ k ∧ k < n)
  | [], e, [], _ => ⟨fun _ i k n h => by simp at h, fun _ => trivial⟩
  | [], _, _ :: _, h => by simp at h
  | _ :: _, _, [], h => by simp at h
  | b :: r, e, k :: ks, h => by
    have ih := bnd_iff r (gc e b) ks (Nat.succ.inj h)
    constructor
    · rintro ⟨h1, h2⟩ i k' n hk hn
      cases i with
      | zero =>
        have e1 : k = k' := Option.some.inj hk
        have e2 : e / gc e b = n := Option.some.inj hn
        rw [← e1, ← e2]
        exact h1
      | succ i => exact ih.mp h2 i k' n hk hn
    · intro h
      exact ⟨h 0 k _ rfl rfl, ih.mpr fun i k' n hk hn => h (i + 1) k' n hk hn⟩
theorem dot_zip : ∀ (ks bs : List Int), ks.length = bs.length → dot ks bs = (List.zipWith (· * ·) ks bs).sum
  | [], [], _ => rfl
  | [], _ :: _, h => by simp at h
  | _ :: _, [], h => by simp at h
  | k :: ks, b :: bs, h => by
    rw [dot_cons, List.zipWith_cons_cons, List.sum_cons, dot_zip ks bs (Nat.succ.inj h)]
theorem top_zip : ∀ (bs : List Int) (e : Int), top e bs = (List.zipWith (fun n b => (n - 1) * b) (shs e bs) bs).sum
  | [], _ => rfl
  | b :: r, e => by
    show (e / gc e b - 1) * b + top (gc e b) r = _
    rw [top_zip r]
    show _ = (List.zipWith (fun n b => (n - 1) * b) ((e / gc e b) :: shs (gc e b) r) (b :: r)).sum
    rw [List.zipWith_cons_cons, List.sum_cons]
/-- one step down a paper's making: from the places behind j to those from j on -/
theorem peel {b : Int} {bs : List Int} {j : Nat} {x n e e' : Int} (a : At b bs j x n e e') {left number v : Int} {ks : List Int} (hb : Bnd e' (bs.drop (j + 1)) ks) (d : e' ∣ left) (q : number = left + dot ks (bs.drop (j + 1))) (hv : n ∣ v * (x / e') - 1) :
    Bnd e (bs.drop j) ((left / e' * v % n) :: ks) ∧ e ∣ left - left / e' * v % n * x ∧ number = left - left / e' * v % n * x + dot ((left / e' * v % n) :: ks) (bs.drop j) := by
  have hd : bs.drop j = x :: bs.drop (j + 1) := by
    obtain ⟨h1, h2⟩ := List.getElem?_eq_some_iff.mp a.hx
    rw [← h2]
    exact List.drop_eq_getElem_cons h1
  have n2 := a.n2
  have h0 := Int.emod_nonneg (left / e' * v) (show n ≠ 0 by omega)
  have h1 := Int.emod_lt_of_pos (left / e' * v) (show 0 < n by omega)
  have st : e ∣ left - left / e' * v % n * x := by
    have := step (e := e) (b := x) (l := left) (v := v) a.pe (by rw [← a.eg]; exact d) (by rw [← a.en, ← a.eg]; exact hv)
    rwa [← a.en, ← a.eg] at this
  rw [hd]
  refine ⟨⟨⟨h0, by rw [← a.en]; exact h1⟩, by rw [← a.eg]; exact hb⟩, st, ?_⟩
  rw [dot_cons, q]
  omega
theorem At.cop {b : Int} {bs : List Int} {i : Nat} {x n e e' : Int} (a : At b bs i x n e e') : Int.gcd n (x / e') = 1 := by
  rw [a.en, a.eg]
  exact gc_cop a.pe
end K33
set_option maxRecDepth 100000
set_option maxHeartbeats 4000000
/-! k33: the text by places, what the top leaves, how a def is called, the promises. -/
namespace K33
open PySem PySem.Spec PyProof.Rows L2
def topS (i : Nat) : Stmt := PySem.Challenge.pw_touchtowers_k33_whole_papers_of_orders.main.body.getD i (.Pass ⟨0, 0, 0, 0⟩)
abbrev sWhole : Stmt := topS 6
abbrev sInteger : Stmt := topS 7
abbrev sCommonOf : Stmt := topS 9
abbrev sCommonsIn : Stmt := topS 10
abbrev sAreOrders : Stmt := topS 11
abbrev sReqGen : Stmt := topS 12
abbrev sReqNum : Stmt := topS 13
abbrev sSharesIn : Stmt := topS 14
abbrev sInverse : Stmt := topS 15
abbrev sPaperIn : Stmt := topS 16
abbrev sIsOrder : Stmt := topS 17
abbrev sOrderPaper : Stmt := topS 18
abbrev sIsPaper : Stmt := topS 19
abbrev sLastIn : Stmt := topS 20
abbrev sLastGap : Stmt := topS 21
abbrev sDice : Stmt := topS 23
abbrev sRoll : Stmt := topS 24
abbrev sPick : Stmt := topS 25
abbrev sLCommon : Stmt := topS 26
abbrev sLCommons : Stmt := topS 27
abbrev sDrawn : Stmt := topS 28
abbrev sSums : Stmt := topS 29
abbrev sLLast : Stmt := topS 30
abbrev sLPaper : Stmt := topS 31
abbrev sNear : Stmt := topS 32
abbrev sNumbers : Stmt := topS 33
abbrev sRight : Stmt := topS 34
abbrev sLaw : Stmt := topS 35
abbrev nmWhole : List Str := ["value"]
abbrev nmCommonOf : List Str := ["one", "other"]
abbrev nmCommonsIn : List Str := ["generators", "found", "number"]
abbrev nmAreOrders : List Str := ["value", "found", "rows", "number", "one", "other", "later", "more", "less"]
abbrev nmSharesIn : List Str := ["generators", "found", "more", "less"]
abbrev nmInverse : List Str := ["number", "modulus", "one", "other", "first", "second", "quotient"]
abbrev nmPaperIn : List Str := ["generators", "number", "left", "found", "rows", "generator", "share", "common", "many"]
abbrev nmGN : List Str := ["generators", "number"]
abbrev nmIsPaper : List Str := ["generators", "number", "value", "many"]
abbrev nmLastIn : List Str := ["generators", "rows", "generator", "share"]
abbrev nmG : List Str := ["generators"]
abbrev nmDice : List Str := ["_law_script", "_law_spot", "_law_cell", "_law_left"]
abbrev nmRoll : List Str := ["_law_dice_here", "_law_total", "_law_found", "_law_one", "_law_two"]
abbrev nmPick : List Str := ["_law_dice_here", "_law_items"]
abbrev nmLCommon : List Str := ["_law_one", "_law_other", "_law_turn"]
abbrev nmLCommons : List Str := ["_law_numbers_here", "_law_found", "_law_number"]
abbrev nmDrawn : List Str := ["_law_dice_here", "_law_most", "_law_turn", "_law_portions", "_law_shared", "_law_share", "_law_found", "_law_least", "_law_number"]
abbrev nmSums : List Str := ["_law_makers", "_law_size", "_law_found", "_law_number", "_law_one"]
abbrev nmLLast : List Str := ["_law_makers", "_law_divisors", "_law_total", "_law_at"]
abbrev nmLPaper : List Str := ["_law_generators", "_law_number", "_law_value", "_law_divisors", "_law_at", "_law_one", "_law_other"]
abbrev nmNear : List Str := ["_law_dice_here", "_law_generators", "_law_paper", "_law_at", "_law_found", "_law_number"]
abbrev nmNumbers : List Str := ["_law_dice_here", "_law_last", "_law_found", "_law_turn"]
abbrev nmRight : List Str := ["_law_dice_here", "_law_generators", "_law_last", "_law_sums", "_law_number", "_law_paper", "_law_value"]
abbrev nmLaw : List Str := ["_law_script", "_law_spot", "_law_told"]
theorem scWhole : FnScope nmWhole ["value"] (defScope sWhole) := ⟨rfl, rfl, rfl, by decide +kernel, rfl, by decide +kernel, by decide +kernel⟩
theorem scInteger : FnScope nmWhole ["value"] (defScope sInteger) := ⟨rfl, rfl, rfl, by decide +kernel, rfl, by decide +kernel, by decide +kernel⟩
theorem scCommonOf : FnScope nmCommonOf ["one", "other"] (defScope sCommonOf) := ⟨rfl, rfl, rfl, by decide +kernel, rfl, by decide +kernel, by decide +kernel⟩
theorem scCommonsIn : FnScope nmCommonsIn ["generators"] (defScope sCommonsIn) := ⟨rfl, rfl, rfl, by decide +kernel, rfl, by decide +kernel, by decide +kernel⟩
theorem scAreOrders : FnScope nmAreOrders ["value"] (defScope sAreOrders) := ⟨rfl, rfl, rfl, by decide +kernel, rfl, by decide +kernel, by decide +kernel⟩
theorem scReqGen : FnScope nmWhole ["value"] (defScope sReqGen) := ⟨rfl, rfl, rfl, by decide +kernel, rfl, by decide +kernel, by decide +kernel⟩
theorem scReqNum : FnScope nmWhole ["value"] (defScope sReqNum) := ⟨rfl, rfl, rfl, by decide +kernel, rfl, by decide +kernel, by decide +kernel⟩
theorem scSharesIn : FnScope nmSharesIn ["generators"] (defScope sSharesIn) := ⟨rfl, rfl, rfl, by decide +kernel, rfl, by decide +kernel, by decide +kernel⟩
theorem scInverse : FnScope nmInverse ["number", "modulus"] (defScope sInverse) := ⟨rfl, rfl, rfl, by decide +kernel, rfl, by decide +kernel, by decide +kernel⟩
theorem scPaperIn : FnScope nmPaperIn ["generators", "number"] (defScope sPaperIn) := ⟨rfl, rfl, rfl, by decide +kernel, rfl, by decide +kernel, by decide +kernel⟩
theorem scIsOrder : FnScope nmGN ["generators", "number"] (defScope sIsOrder) := ⟨rfl, rfl, rfl, by decide +kernel, rfl, by decide +kernel, by decide +kernel⟩
theorem scOrderPaper : FnScope nmGN ["generators", "number"] (defScope sOrderPaper) := ⟨rfl, rfl, rfl, by decide +kernel, rfl, by decide +kernel, by decide +kernel⟩
theorem scIsPaper : FnScope nmIsPaper ["generators", "number", "value"] (defScope sIsPaper) := ⟨rfl, rfl, rfl, by decide +kernel, rfl, by decide +kernel, by decide +kernel⟩
theorem scLastIn : FnScope nmLastIn ["generators"] (defScope sLastIn) := ⟨rfl, rfl, rfl, by decide +kernel, rfl, by decide +kernel, by decide +kernel⟩
theorem scLastGap : FnScope nmG ["generators"] (defScope sLastGap) := ⟨rfl, rfl, rfl, by decide +kernel, rfl, by decide +kernel, by decide +kernel⟩
theorem scDice : FnScope nmDice ["_law_script", "_law_spot"] (defScope sDice) := ⟨rfl, rfl, rfl, by decide +kernel, rfl, by decide +kernel, by decide +kernel⟩
theorem scRoll : FnScope nmRoll ["_law_dice_here", "_law_total"] (defScope sRoll) := ⟨rfl, rfl, rfl, by decide +kernel, rfl, by decide +kernel, by decide +kernel⟩
theorem scPick : FnScope nmPick ["_law_dice_here", "_law_items"] (defScope sPick) := ⟨rfl, rfl, rfl, by decide +kernel, rfl, by decide +kernel, by decide +kernel⟩
theorem scLCommon : FnScope nmLCommon ["_law_one", "_law_other"] (defScope sLCommon) := ⟨rfl, rfl, rfl, by decide +kernel, rfl, by decide +kernel, by decide +kernel⟩
theorem scLCommons : FnScope nmLCommons ["_law_numbers_here"] (defScope sLCommons) := ⟨rfl, rfl, rfl, by decide +kernel, rfl, by decide +kernel, by decide +kernel⟩
theorem scDrawn : FnScope nmDrawn ["_law_dice_here", "_law_most"] (defScope sDrawn) := ⟨rfl, rfl, rfl, by decide +kernel, rfl, by decide +kernel, by decide +kernel⟩
theorem scSums : FnScope nmSums ["_law_makers", "_law_size"] (defScope sSums) := ⟨rfl, rfl, rfl, by decide +kernel, rfl, by decide +kernel, by decide +kernel⟩
theorem scLLast : FnScope nmLLast ["_law_makers"] (defScope sLLast) := ⟨rfl, rfl, rfl, by decide +kernel, rfl, by decide +kernel, by decide +kernel⟩
theorem scLPaper : FnScope nmLPaper ["_law_generators", "_law_number", "_law_value"] (defScope sLPaper) := ⟨rfl, rfl, rfl, by decide +kernel, rfl, by decide +kernel, by decide +kernel⟩
theorem scNear : FnScope nmNear ["_law_dice_here", "_law_generators", "_law_paper"] (defScope sNear) := ⟨rfl, rfl, rfl, by decide +kernel, rfl, by decide +kernel, by decide +kernel⟩
theorem scNumbers : FnScope nmNumbers ["_law_dice_here", "_law_last"] (defScope sNumbers) := ⟨rfl, rfl, rfl, by decide +kernel, rfl, by decide +kernel, by decide +kernel⟩
theorem scRight : FnScope nmRight ["_law_dice_here"] (defScope sRight) := ⟨rfl, rfl, rfl, by decide +kernel, rfl, by decide +kernel, by decide +kernel⟩
theorem scLaw : FnScope nmLaw ["_law_script"] (defScope sLaw) := ⟨rfl, rfl, rfl, by decide +kernel, rfl, by decide +kernel, by decide +kernel⟩
/-! ### heaps -/
theorem same_upd {H : Hp} {p : Addr} {o : HO} (h : H p = none) : Same H (upd H p o) := fun b x e => by
  rw [upd_ne (ne_of_none e h)]
  exact e
theorem Same.seqT {K : PySem.W.Frag} {H H' : Hp} {a : Addr} {xs : List V} (e : Same H H') (h : SqT K H a xs) : SqT K H' a xs := by
  rcases h with (h | ⟨o, h⟩) | h
  · exact .inl (.inl (e _ _ h))
  · exact .inl (.inr ⟨o, e _ _ h⟩)
  · exact .inr h
theorem same_drop {H H' : Hp} {fp : List Addr} (s : Same H H') (h : ∀ b ∈ fp, H b = none) : Same H (dropL H' fp) := fun b o e => by
  by_cases hb : b ∈ fp
  · rw [h b hb] at e
    cases e
  · rw [dropL_out hb]
    exact s b o e
/-- all but the thing at a as it was -/
def SameB (a : Addr) (H H' : Hp) : Prop := ∀ b o, b ≠ a → H b = some o → H' b = some o
theorem SameB.refl (a : Addr) (H : Hp) : SameB a H H := fun _ _ _ h => h
theorem SameB.of {a : Addr} {H H' : Hp} (h : Same H H') : SameB a H H' := fun b o _ e => h b o e
theorem SameB.trans {a : Addr} {H H1 H2 : Hp} (x : SameB a H H1) (y : SameB a H1 H2) : SameB a H H2 := fun b o n e => y b o n (x b o n e)
theorem SameB.upd {a : Addr} {H : Hp} {o : HO} : SameB a H (upd H a o) := fun b x n e => by
  rw [upd_ne n]
  exact e
theorem SameB.seqT {K : PySem.W.Frag} {p : Addr} {H H' : Hp} {a : Addr} {xs : List V} (e : SameB p H H') (n : a ≠ p) (h : SqT K H a xs) : SqT K H' a xs := by
  rcases h with (h | ⟨o, h⟩) | h
  · exact .inl (.inl (e _ _ n h))
  · exact .inl (.inr ⟨o, e _ _ n h⟩)
  · exact .inr h
theorem SameB.seq {K : PySem.W.Frag} {p : Addr} {H H' : Hp} {a : Addr} {xs : List V} (e : SameB p H H') (n : a ≠ p) (h : SqL K H a xs) : SqL K H' a xs := by
  rcases h with (h | ⟨o, h⟩) | h
  · exact .inl (.inl (e _ _ n h))
  · exact .inl (.inr ⟨o, e _ _ n h⟩)
  · exact .inr h
/-- ints as values -/
abbrev iv (ns : List Int) : List V := ns.map V.int
theorem iv_get {ns : List Int} {i : Nat} (h : i < ns.length) : (iv ns)[i]? = some (.int ns[i]) := by
  rw [List.getElem?_map, List.getElem?_eq_getElem h]
  rfl
theorem iv_of {ns : List Int} {i : Nat} {v : V} (h : (iv ns)[i]? = some v) : ∃ n, ns[i]? = some n ∧ v = .int n := by
  rw [List.getElem?_map] at h
  cases e : ns[i]? with
  | none => rw [e] at h; cases h
  | some n =>
    rw [e] at h
    exact ⟨n, rfl, (Option.some.inj h).symm⟩
theorem cut1 (xs : List V) : cutV xs (some 1) none = xs.drop 1 := by
  unfold cutV
  rw [show HT.sIx xs.length 0 (some 1) = min 1 xs.length from HT.sIx_nat xs.length 0 1, HT.sIx_none]
  cases xs with
  | nil => rfl
  | cons x r =>
    rw [show min 1 (x :: r).length = 1 by
      rw [List.length_cons]
      omega]
    show (List.take ((x :: r).length - 1) r) = r
    rw [List.length_cons, Nat.add_sub_cancel]
    exact List.take_length
theorem cut1_not {xs : List V} (h : xs ≠ []) : ¬ (HT.sIx xs.length 0 (some 1) = 0 ∧ HT.sIx xs.length xs.length none = xs.length) := by
  rintro ⟨e, _⟩
  rw [show HT.sIx xs.length 0 (some 1) = min 1 xs.length from HT.sIx_nat xs.length 0 1] at e
  cases xs with
  | nil => exact h rfl
  | cons x r =>
    rw [List.length_cons] at e
    omega
theorem cut_from (xs : List V) (k : Nat) : cutV xs (some (k : Int)) none = xs.drop k := by
  unfold cutV
  rw [HT.sIx_nat xs.length 0 k, HT.sIx_none]
  by_cases h : k ≤ xs.length
  · rw [Nat.min_eq_left h]
    exact List.take_of_length_le (by rw [List.length_drop]; exact Nat.le_refl _)
  · rw [Nat.min_eq_right (by omega), List.drop_length, List.drop_eq_nil_of_le (by omega)]
    exact List.take_nil
theorem cut_not {xs : List V} {k : Nat} (hk : 0 < k) (h : 0 < xs.length) : ¬ (HT.sIx xs.length 0 (some (k : Int)) = 0 ∧ HT.sIx xs.length xs.length none = xs.length) := by
  rintro ⟨e, _⟩
  rw [HT.sIx_nat xs.length 0 k] at e
  omega
/-! ### what the top leaves -/
abbrev great : Int := 1000000000000000000000000000000000000000000000000000000000000
structure Txt (K : PySem.W.Frag) (mg : Str → Option Value) : Prop where
  isi : mg "isinstance" = none
  int : mg "int" = none
  bool : mg "bool" = none
  tuple : mg "tuple" = none
  all : mg "all" = none
  any : mg "any" = none
  len : mg "len" = none
  zip : mg "zip" = none
  list : mg "list" = none
  sum : mg "sum" = none
  max : mg "max" = none
  min : mg "min" = none
  abs : mg "abs" = none
  range : mg "range" = none
  repr : mg "repr" = none
  great : ∃ t, mg "GREAT" = some (.int great t)
/-- a def of the text, ready to be called -/
structure Cal (P : Program) (w : World) (K : PySem.W.Frag) (mg : Str → Option Value) (base : Heap) (k : Nat) (x : Str) (ps : List Str) (sp : Sp) : Prop where
  ex : ∃ f fd, FnOk P w K mg base CX0 k f fd ps sp ∧ mg x = some (.ref f) ∧ PySem.W.keepIn K (.ref f) = true ∧ Binds K fd ps []
/-- the reading of such a call -/
def tCal (sp : Sp) (t : TA) : TE := fun σ H Q => t σ H fun vs H1 => sp vs H1 Q E0
theorem pe_cal {X : Cx} {k : Nat} {x : Str} {ps : List Str} {sp : Sp} {e : Expr} {es : List Expr} {t : TA} {p pos : Pos} (C : Cal X.prog X.w X.K X.mg X.base k x ps sp) (hr : Room k X.A) (hg : Gl X x) (ha : PA X (e :: es) t)
    (hdb : (x == ("__debug__" : Str)) = false := by decide)
    (he : starEach (e :: es) X.env = (false, eval e X.env) :: starEach es X.env := by rfl) (hpl : (backTo pos (starEach es X.env)).any (·.1) = false := by rfl) :
    PE X (.Call (.Name x p) (e :: es) [] pos) (tCal sp t) := by
  obtain ⟨f, fd, F, hm, hk, hb⟩ := C.ex
  refine ⟨fun pins s σ H Q I h => ?_⟩
  have h2 : tCall sp [] E0 t σ H Q := by
    unfold tCall
    unfold tCal at h
    simpa only [List.append_nil] using h
  exact (pe_call F hr hg hm hk hb .nil pass0 ha hdb he hpl).run pins s σ H Q I h2
end K33
set_option maxRecDepth 100000
set_option maxHeartbeats 4000000
namespace K33
open PySem PySem.Spec PyProof.Rows L2
theorem boot_isi : bootBuiltins "isinstance" = some (.builtin "isinstance") := by decide +kernel
theorem boot_int' : bootBuiltins "int" = some (.type "int") := by decide +kernel
theorem boot_bool' : bootBuiltins "bool" = some (.type "bool") := by decide +kernel
theorem boot_tuple' : bootBuiltins "tuple" = some (.type "tuple") := by decide +kernel
section
variable {P : Program} {w : World} {K : PySem.W.Frag} {mg : Str → Option Value} {base : Heap}
/-! ### is_whole, is_integer -/
def spWhole : Sp := fun vs H Q _ => ∃ i, vs = [.int i] ∧ Q (.bl true) H
theorem ok_whole {f : Addr} {fd : FuncData} (F : Fun K "is_whole" "is_whole" sWhole f fd) (T : Txt K mg) : FnOk P w K mg base CX0 1 f fd ["value"] spWhole := by
  refine F.ok (k := 0) scWhole (fun vs H Q E h => ?_) (fun cdv A outer s H vs Q E hr h => ?_)
  · obtain ⟨i, rfl, _⟩ := h
    rfl
  · obtain ⟨i, rfl, q⟩ := h
    refine ⟨_, pss_one (ps_ret (pe_and (pe_callB call_isi (by rfl) T.isi boot_isi (pa_cons (pv 0) (pa_cons (pe_bltn (v := .ty "int") (by rfl) T.int boot_int' rfl) pa_nil)))
      (pe_one (pe_not (pe_callB call_isi (by rfl) T.isi boot_isi (pa_cons (pv 0) (pa_cons (pe_bltn (v := .ty "bool") (by rfl) T.bool boot_bool' rfl) pa_nil))))))), ?_⟩
    refine ⟨.int i, rfl, .int i, .ty "int", .type "int", .type "int", true, rfl, .ty _, .base (.int i), kit_ty (by decide +kernel), true, rfl, iteT ?_⟩
    exact ⟨.int i, rfl, .int i, .ty "bool", .type "int", .type "bool", false, rfl, .ty _, .base (.int i), kit_ty (by decide +kernel), false, rfl, q⟩
def InG (i : Int) : Prop := -great < i ∧ i < great
def spInteger : Sp := fun vs H Q _ => ∃ i, vs = [.int i] ∧ InG i ∧ Q (.bl true) H
theorem ok_integer {f : Addr} {fd : FuncData} (F : Fun K "is_integer" "is_integer" sInteger f fd) (T : Txt K mg) (C : Cal P w K mg base 1 "is_whole" ["value"] spWhole) : FnOk P w K mg base CX0 2 f fd ["value"] spInteger := by
  obtain ⟨tg, hg⟩ := T.great
  refine F.ok (k := 1) scInteger (fun vs H Q E h => ?_) (fun cdv A outer s H vs Q E hr h => ?_)
  · obtain ⟨i, rfl, _⟩ := h
    rfl
  · obtain ⟨i, rfl, ⟨g1, g2⟩, q⟩ := h
    refine ⟨_, pss_one (ps_ret (pe_and (pe_cal C hr (by rfl) (pa_cons (pv 0) pa_nil))
      (pe_one (pe_chain op_lt op_lt (pe_un un_neg (pe_glob (v := .int great) (by rfl) hg ⟨tg, rfl⟩)) (pv 0) (pe_glob (v := .int great) (by rfl) hg ⟨tg, rfl⟩))))), ?_⟩
    refine ⟨.int i, rfl, i, rfl, true, rfl, iteT ⟨great, rfl, .int i, rfl, -great, i, rfl, rfl, true, ?_, iteT ⟨i, great, rfl, rfl, ?_⟩⟩⟩
    · exact congrArg V.bl (decide_eq_true g1)
    · show Q (.bl (decide (i < great))) H
      rw [decide_eq_true g2]
      exact q
/-! ### common_of -/
def spCommonOf : Sp := fun vs H Q _ => ∃ a b, vs = [.int a, .int b] ∧ 0 ≤ a ∧ 0 ≤ b ∧ Q (.int (gc a b)) H
theorem ok_commonOf {f : Addr} {fd : FuncData} (F : Fun K "common_of" "common_of" sCommonOf f fd) : FnOk P w K mg base CX0 1 f fd ["one", "other"] spCommonOf := by
  refine F.ok (k := 0) scCommonOf (fun vs H Q E h => ?_) (fun cdv A outer s H vs Q E hr h => ?_)
  · obtain ⟨a, b, rfl, _⟩ := h
    rfl
  · obtain ⟨a, b, rfl, ha, hb, q⟩ := h
    refine ⟨_, pss_cons (ps_while PassesOwn.never (pt_cmpR op_ne (pv 1) pe_int (nomark _))
        (pss_one (ps_par (i := 0) (j := 1) (by rfl) scCommonOf.nd rfl rfl (by decide) rfl rfl (pa_cons (pv 1) (pa_cons (pe_op op_mod (pv 0) (pv 1)) pa_nil)) (by rfl))))
      (pss_one (ps_ret (pv 0))), ?_⟩
    refine ⟨fun m σ H' => ∃ x y, σ = [some (.int x), some (.int y)] ∧ 0 ≤ x ∧ 0 ≤ y ∧ gc x y = gc a b ∧ H' = H ∧ m = y.toNat, ⟨_, a, b, rfl, ha, hb, rfl, rfl, rfl⟩, fun m σ H' hW => ?_⟩
    obtain ⟨x, y, rfl, hx, hy, e, rfl, rfl⟩ := hW
    refine ⟨.int y, rfl, rfl, _, rfl, ite2 (fun c => ?_) (fun c => ?_)⟩
    · have hy0 : y ≠ 0 := fun z => by
        rw [z] at c
        exact absurd c (by decide)
      refine ⟨fun σ' H2 => σ' = [some (.int y), some (.int (x % y))] ∧ H2 = H', fun σ' H2 hN => ?_, ?_⟩
      · obtain ⟨rfl, rfl⟩ := hN
        have h0 := Int.emod_nonneg x hy0
        have h1 := Int.emod_lt_of_pos x (show 0 < y by omega)
        refine ⟨_, ?_, y, x % y, rfl, hy, h0, ?_, rfl, rfl⟩
        · omega
        · rw [← e]
          unfold gc
          rw [gcd_mod, Int.gcd_comm]
      · exact ⟨.int y, rfl, .int x, rfl, .int y, rfl, x, y, rfl, rfl, by omega, _, _, rfl, rfl, rfl⟩
    · have hy0 : y = 0 := by
        by_cases z : y = 0
        · exact z
        · exact absurd (by
            have : ¬ (V.int y = V.int 0) := fun e => z (V.int.inj e)
            rw [decide_eq_false this]
            rfl) c
      subst hy0
      have e2 : gc a b = x := by
        rw [← e]
        unfold gc
        rw [Int.gcd_zero_right]
        omega
      rw [e2] at q
      exact ⟨.int x, rfl, q⟩
/-! ### inverse_by -/
def spInverse : Sp := fun vs H Q _ => ∃ c n, vs = [.int c, .int n] ∧ 2 ≤ n ∧ n < 1000000 ∧ Int.gcd n c = 1 ∧ ∀ v H', 0 ≤ v → v < n → n ∣ v * c - 1 → Same H H' → Q (.int v) H'
theorem ok_inverse {f : Addr} {fd : FuncData} (F : Fun K "inverse_by" "inverse_by" sInverse f fd) : FnOk P w K mg base CX0 1 f fd ["number", "modulus"] spInverse := by
  refine F.ok (k := 0) scInverse (fun vs H Q E h => ?_) (fun cdv A outer s H vs Q E hr h => ?_)
  · obtain ⟨c, n, rfl, _⟩ := h
    rfl
  · obtain ⟨c, n, rfl, hn, hn2, hg, q⟩ := h
    refine ⟨_, pss_cons (ps_asg (pe_tup (pa_cons (pv 1) (pa_cons (pe_op op_mod (pv 0) (pv 1)) (pa_cons pe_int (pa_cons pe_int pa_nil)))))
        (pg_tup (by rfl) (pgs_cons (pg_name (i := 2) scInverse.nd rfl (.inl rfl)) (pgs_cons (pg_name (i := 3) scInverse.nd rfl (.inl rfl)) (pgs_cons (pg_name (i := 4) scInverse.nd rfl (.inl rfl)) (pgs_cons (pg_name (i := 5) scInverse.nd rfl (.inl rfl)) pgs_nil))))))
      (pss_cons (ps_while PassesOwn.never (pt_cmpR op_gt (pv 3) pe_int (nomark _))
        (pss_cons (ps_set (i := 6) scInverse.nd rfl (.inl rfl) (pe_op op_fdiv (pv 2) (pv 3)))
        (pss_one (ps_asg (pe_tup (pa_cons (pv 3) (pa_cons (pe_op op_sub (pv 2) (pe_op op_mul (pv 6) (pv 3))) (pa_cons (pv 5) (pa_cons (pe_op op_sub (pv 4) (pe_op op_mul (pv 6) (pv 5))) pa_nil)))))
          (pg_tup (by rfl) (pgs_cons (pg_name (i := 2) scInverse.nd rfl (.inl rfl)) (pgs_cons (pg_name (i := 3) scInverse.nd rfl (.inl rfl)) (pgs_cons (pg_name (i := 4) scInverse.nd rfl (.inl rfl)) (pgs_cons (pg_name (i := 5) scInverse.nd rfl (.inl rfl)) pgs_nil)))))))))
      (pss_one (ps_ret (pe_op op_mod (pv 5) (pv 1))))), ?_⟩
    refine ⟨.int n, rfl, .int c, rfl, .int n, rfl, c, n, rfl, rfl, by omega, by show 4 ≤ sizeLine; decide, fun t ht => ?_⟩
    refine ⟨t, _, rfl, .inl (.inl upd_same), rfl, _, _, rfl, _, _, rfl, _, _, rfl, _, _, rfl, rfl, ?_⟩
    refine ⟨fun m σ H' => ∃ one other first second y6, σ = [some (.int c), some (.int n), some (.int one), some (.int other), some (.int first), some (.int second), y6] ∧ InvSt n c one other first second ∧ other < one ∧ one ≤ n ∧ Same H H' ∧ m = other.toNat,
      ⟨_, n, c % n, 0, 1, none, rfl, InvSt.start hn hg, Int.emod_lt_of_pos c (by omega), Int.le_refl n, same_upd ht, rfl⟩, fun m σ H' hW => ?_⟩
    obtain ⟨one, other, first, second, y6, rfl, iv, lt, le, sm, rfl⟩ := hW
    refine ⟨.int other, rfl, other, 1, rfl, rfl, _, rfl, ite2 (fun z => ?_) (fun z => ?_)⟩
    · have z : 1 < other := of_decide_eq_true z
      refine ⟨fun σ' H2 => σ' = [some (.int c), some (.int n), some (.int other), some (.int (one - one / other * other)), some (.int second), some (.int (first - one / other * second)), some (.int (one / other))] ∧ Same H' H2, fun σ' H2 hN => ?_, ?_⟩
      · obtain ⟨rfl, sm2⟩ := hN
        refine ⟨_, InvSt.less z, other, _, second, _, _, rfl, iv.turn z, ?_, by omega, sm.trans sm2, rfl⟩
        have em : one - one / other * other = one % other := by
          have := Int.emod_add_mul_ediv one other
          rw [Int.mul_comm] at this
          omega
        rw [em]
        exact Int.emod_lt_of_pos one (by omega)
      · have qb : 0 ≤ one / other := Int.ediv_nonneg (by omega) (by omega)
        have qc : one / other ≤ one := Int.ediv_le_self other (by omega)
        refine ⟨.int one, rfl, .int other, rfl, one, other, rfl, rfl, ⟨by omega, by omega⟩, ?_⟩
        refine ⟨.int other, rfl, .int one, rfl, .int (one / other), rfl, .int other, rfl, one / other, other, rfl, rfl, .inl ⟨by omega, by omega⟩, one, _, rfl, rfl, .int second, rfl, .int first, rfl, .int (one / other), rfl, .int second, rfl, one / other, second, rfl, rfl, .inl ⟨by omega, by omega⟩, first, _, rfl, rfl,
          by show 4 ≤ sizeLine; decide, fun t' ht' => ?_⟩
        exact ⟨t', _, rfl, .inl (.inl upd_same), rfl, _, _, rfl, _, _, rfl, _, _, rfl, _, _, rfl, rfl, rfl, same_upd ht'⟩
    · have z : ¬ 1 < other := fun y => z (decide_eq_true y)
      have h0 := Int.emod_nonneg second (show n ≠ 0 by omega)
      have h1 := Int.emod_lt_of_pos second (show 0 < n by omega)
      refine ⟨.int second, rfl, .int n, rfl, second, n, rfl, rfl, by omega, q _ H' h0 h1 ?_ sm⟩
      have d := iv.done z
      have e : second % n * c - 1 = (second * c - 1) - n * (second / n * c) := by
        have := Int.emod_add_mul_ediv second n
        have e2 : second % n = second - n * (second / n) := by omega
        rw [e2, Int.sub_mul, Int.mul_assoc]
        omega
      rw [e]
      exact Int.dvd_sub d ⟨_, rfl⟩
end
end K33
set_option maxRecDepth 100000
set_option maxHeartbeats 4000000
namespace K33
open PySem PySem.Spec PyProof.Rows L2
section
variable {P : Program} {w : World} {K : PySem.W.Frag} {mg : Str → Option Value} {base : Heap}
/-! ### _law_common -/
def spLCommon : Sp := fun vs H Q _ => ∃ a b, vs = [.int a, .int b] ∧ 0 ≤ a ∧ 0 ≤ b ∧ (a < 300 ∨ b < 300) ∧ Q (.int (gc a b)) H
theorem ok_lcommon {f : Addr} {fd : FuncData} (F : Fun K "_law_common" "_law_common" sLCommon f fd) (T : Txt K mg) : FnOk P w K mg base CX0 1 f fd ["_law_one", "_law_other"] spLCommon := by
  refine F.ok (k := 0) scLCommon (fun vs H Q E h => ?_) (fun cdv A outer s H vs Q E hr h => ?_)
  · obtain ⟨a, b, rfl, _⟩ := h
    rfl
  · obtain ⟨a, b, rfl, ha, hb, hs, q⟩ := h
    refine ⟨_, pss_cons (ps_for PassesOwn.never rfl (pi_range1 rfl T.range (pa_cons pe_int pa_nil)) (pg_name (i := 2) scLCommon.nd rfl (.inl rfl))
        (pss_cons (ps_if (pt_cmpR op_eq (pv 1) pe_int (nomark _)) (pss_one ps_break) pss_nil)
        (pss_one (ps_par (i := 0) (j := 1) (by rfl) scLCommon.nd rfl rfl (by decide) rfl rfl (pa_cons (pv 1) (pa_cons (pe_op op_mod (pe_callTy call_int1 (by rfl) T.int boot_int' (pa_cons (pv 0) pa_nil)) (pv 1)) pa_nil)) (by rfl)))))
      (pss_one (ps_ret (pv 0))), ?_⟩
    have fin : ∀ (x : Int) (y2 : Option V), 0 ≤ x → gc x 0 = gc a b → tRet (tVar 0) { nx := fun _ H' => Q .non H', rt := Q } [some (.int x), some (.int 0), y2] H := fun x y2 hx e => by
      have e2 : gc a b = x := by
        rw [← e]
        unfold gc
        rw [Int.gcd_zero_right]
        omega
      rw [e2] at q
      exact ⟨.int x, rfl, q⟩
    refine ⟨400, rfl, by decide, by decide, for_range (n := 400) (fun i σ H' => ∃ x y y2, σ = [some (.int x), some (.int y), y2] ∧ 0 ≤ x ∧ 0 ≤ y ∧ gc x y = gc a b ∧ H' = H ∧ ((i = 0 ∧ x < 300) ∨ y + (i : Int) < 302))
      ⟨a, b, none, rfl, ha, hb, rfl, rfl, by omega⟩ (fun i σ H' hi hP => ?_) fun σ H' hP => ?_⟩
    · obtain ⟨x, y, y2, rfl, hx, hy, e, rfl, hm⟩ := hP
      refine ⟨.int y, rfl, rfl, _, rfl, ite2 (fun c => ?_) (fun c => ?_)⟩
      · have y0 : y = 0 := V.int.inj (of_decide_eq_true c)
        subst y0
        exact fin x _ hx e
      · have y0 : y ≠ 0 := fun z => by
          rw [z] at c
          exact absurd c (by decide)
        have h0 := Int.emod_nonneg x y0
        have h1 := Int.emod_lt_of_pos x (show 0 < y by omega)
        have h2 : x % y ≤ x := by
          have := Int.emod_add_mul_ediv x y
          have h3 := Int.mul_nonneg hy (Int.ediv_nonneg hx hy)
          omega
        refine ⟨.int y, rfl, .int x, rfl, .inl ⟨x, rfl, .int y, rfl, x, y, rfl, rfl, by omega, _, _, rfl, y, x % y, _, rfl, hy, h0, ?_, rfl, by omega⟩⟩
        rw [← e]
        unfold gc
        rw [gcd_mod, Int.gcd_comm]
    · obtain ⟨x, y, y2, rfl, hx, hy, e, rfl, hm⟩ := hP
      exfalso
      omega
/-! ### commons_in -/
def spCommonsIn (K : PySem.W.Frag) : Sp := fun vs H Q _ => ∃ (a : Addr) (b : Int) (bs : List Int), vs = [.ref a] ∧ SqT K H a (iv (b :: bs)) ∧ (∀ x ∈ b :: bs, 0 ≤ x) ∧ bs.length ≤ 100 ∧ ∀ H' p, Same H H' → H p = none → H' p = some (.lst (iv (coms b bs))) → Q (.ref p) H'
theorem ok_CommonsIn {f : Addr} {fd : FuncData} (F : Fun K "commons_in" "commons_in" sCommonsIn f fd) (C : Cal P w K mg base 1 "common_of" ["one", "other"] spCommonOf) : FnOk P w K mg base CX0 2 f fd ["generators"] (spCommonsIn K) := by
  refine F.ok (k := 1) scCommonsIn (fun vs H Q E h => ?_) (fun cdv A outer s H vs Q E hr h => ?_)
  · obtain ⟨a, b, bs, rfl, _⟩ := h
    rfl
  · obtain ⟨a, b, bs, rfl, hS, hp, hl, q⟩ := h
    refine ⟨_, pss_cons (ps_set (i := 1) scCommonsIn.nd rfl (.inl rfl) (pe_lst (pa_cons (pe_ix ix_tup (pv 0) pe_int (fun _ _ => rfl)) pa_nil)))
      (pss_cons (ps_for PassesOwn.never rfl (pi_tup (pe_slice sl_tup (pv 0) (po_some pe_int) po_none)) (pg_name (i := 2) scCommonsIn.nd rfl (.inl rfl))
        (pss_one (ps_expr (pe_bm PySem.F.plainAttrs_list PySem.F.slot_list_append PySem.F.type_list_append mt_append (pv 1)
          (pa_cons (pe_cal C hr (by rfl) (pa_cons (pe_ix ix_list (pv 1) (pe_un un_neg pe_int) (fun _ _ => rfl)) (pa_cons (pv 2) pa_nil))) pa_nil)))))
      (pss_one (ps_ret (pv 1)))), ?_⟩
    refine ⟨.ref a, rfl, a, iv (b :: bs), 0, .int b, rfl, rfl, hS, atI_nat (j := 0) rfl, by show 1 ≤ sizeLine; decide, fun o no => ?_⟩
    have s1 : Same H (upd H o (.lst [.int b])) := same_upd no
    refine ⟨.ref a, rfl, 1, rfl, a, _, rfl, Same.seqT s1 hS, cut1_not (by simp), fun c nc => ?_⟩
    have s2 : Same (upd H o (.lst [.int b])) (upd (upd H o (.lst [.int b])) c (.tup (cutV (iv (b :: bs)) (some 1) none))) := same_upd nc
    have nco : c ≠ o := fun e => by
      rw [e, upd_same] at nc
      cases nc
    have ec : cutV (iv (b :: bs)) (some 1) none = iv bs := by
      rw [cut1]
      rfl
    rw [ec] at s2
    rw [ec]
    refine ⟨c, rfl, ⟨_, .inl (.inl upd_same)⟩, for_tup (xs := iv bs) (fun i σ H3 => ∃ y2, σ = [some (.ref a), some (.ref o), y2] ∧ Same H H3 ∧ H3 c = some (.tup (iv bs)) ∧ H3 o = some (.lst (iv (coms b (bs.take i)))))
      ⟨none, rfl, s1.trans s2, upd_same, ?_⟩ (fun i σ H3 _ hP => ?_) (fun i x σ H3 hx hP => ?_) fun σ H3 hP => ?_⟩
    · rw [upd_ne nco.symm, upd_same]
      rfl
    · obtain ⟨_, _, _, e, _⟩ := hP
      exact .inl (.inl e)
    · obtain ⟨y2, rfl, sm, e1, e2⟩ := hP
      obtain ⟨n, hn, rfl⟩ := iv_of hx
      obtain ⟨init, hi⟩ := coms_last (bs.take i) b
      have eo : H3 o = some (.lst (iv init ++ [.int (cl b (bs.take i))])) := by
        rw [e2, hi]
        unfold iv
        rw [List.map_append]
        rfl
      have n0 : 0 ≤ n := hp n (List.mem_cons_of_mem _ (List.mem_of_getElem? hn))
      have b0 : 0 ≤ b := hp b List.mem_cons_self
      have c0 : 0 ≤ cl b (bs.take i) := cl_nn _ _ b0
      have hlen : (coms b (bs.take i)).length ≤ 101 := by
        rw [coms_len, List.length_take]
        omega
      refine ⟨.ref o, rfl, .inl ⟨rfl, _, .inl (.inl e2)⟩, .ref o, rfl, 1, rfl, o, _, -1, .int (cl b (bs.take i)), rfl, rfl, .inl (.inl eo), atI_last _ _, .int n, rfl, cl b (bs.take i), n, rfl, c0, n0, o, _, _, rfl, rfl, e2, ?_, ?_⟩
      · rw [List.length_map]
        exact small1000 (by omega)
      · refine ⟨_, rfl, fun x z e => ?_, ?_, ?_⟩
        · rw [upd_ne (ne_of_none e no)]
          exact sm _ _ e
        · rw [upd_ne nco]
          exact e1
        · rw [upd_same, List.take_add_one, hn]
          show some (HO.lst (iv (coms b (bs.take i)) ++ [V.int (gc (cl b (bs.take i)) n)])) = some (HO.lst (iv (coms b (bs.take i ++ [n]))))
          rw [coms_append]
          unfold iv
          rw [List.map_append]
          rfl
    · obtain ⟨y2, rfl, sm, e1, e2⟩ := hP
      rw [show (iv bs).length = bs.length from List.length_map _, List.take_length] at e2
      exact ⟨.ref o, rfl, q H3 o sm no e2⟩
/-! ### _law_commons -/
def spLCommons (K : PySem.W.Frag) : Sp := fun vs H Q _ => ∃ (a : Addr) (b : Int) (bs : List Int), vs = [.ref a] ∧ SqT K H a (iv (b :: bs)) ∧ (∀ x ∈ b :: bs, 0 ≤ x) ∧ bs.length ≤ 100 ∧ (0 < b ∧ b < 300) ∧ ∀ H' p, Same H H' → H p = none → H' p = some (.lst (iv (coms b bs))) → Q (.ref p) H'
theorem ok_LCommons {f : Addr} {fd : FuncData} (F : Fun K "_law_commons" "_law_commons" sLCommons f fd) (C : Cal P w K mg base 1 "_law_common" ["_law_one", "_law_other"] spLCommon) : FnOk P w K mg base CX0 2 f fd ["_law_numbers_here"] (spLCommons K) := by
  refine F.ok (k := 1) scLCommons (fun vs H Q E h => ?_) (fun cdv A outer s H vs Q E hr h => ?_)
  · obtain ⟨a, b, bs, rfl, _⟩ := h
    rfl
  · obtain ⟨a, b, bs, rfl, hS, hp, hl, ⟨bp, b3⟩, q⟩ := h
    refine ⟨_, pss_cons (ps_set (i := 1) scLCommons.nd rfl (.inl rfl) (pe_lst (pa_cons (pe_ix ix_tup (pv 0) pe_int (fun _ _ => rfl)) pa_nil)))
      (pss_cons (ps_for PassesOwn.never rfl (pi_tup (pe_slice sl_tup (pv 0) (po_some pe_int) po_none)) (pg_name (i := 2) scLCommons.nd rfl (.inl rfl))
        (pss_one (ps_expr (pe_bm PySem.F.plainAttrs_list PySem.F.slot_list_append PySem.F.type_list_append mt_append (pv 1)
          (pa_cons (pe_cal C hr (by rfl) (pa_cons (pe_ix ix_list (pv 1) (pe_un un_neg pe_int) (fun _ _ => rfl)) (pa_cons (pv 2) pa_nil))) pa_nil)))))
      (pss_one (ps_ret (pv 1)))), ?_⟩
    refine ⟨.ref a, rfl, a, iv (b :: bs), 0, .int b, rfl, rfl, hS, atI_nat (j := 0) rfl, by show 1 ≤ sizeLine; decide, fun o no => ?_⟩
    have s1 : Same H (upd H o (.lst [.int b])) := same_upd no
    refine ⟨.ref a, rfl, 1, rfl, a, _, rfl, Same.seqT s1 hS, cut1_not (by simp), fun c nc => ?_⟩
    have s2 : Same (upd H o (.lst [.int b])) (upd (upd H o (.lst [.int b])) c (.tup (cutV (iv (b :: bs)) (some 1) none))) := same_upd nc
    have nco : c ≠ o := fun e => by
      rw [e, upd_same] at nc
      cases nc
    have ec : cutV (iv (b :: bs)) (some 1) none = iv bs := by
      rw [cut1]
      rfl
    rw [ec] at s2
    rw [ec]
    refine ⟨c, rfl, ⟨_, .inl (.inl upd_same)⟩, for_tup (xs := iv bs) (fun i σ H3 => ∃ y2, σ = [some (.ref a), some (.ref o), y2] ∧ Same H H3 ∧ H3 c = some (.tup (iv bs)) ∧ H3 o = some (.lst (iv (coms b (bs.take i)))))
      ⟨none, rfl, s1.trans s2, upd_same, ?_⟩ (fun i σ H3 _ hP => ?_) (fun i x σ H3 hx hP => ?_) fun σ H3 hP => ?_⟩
    · rw [upd_ne nco.symm, upd_same]
      rfl
    · obtain ⟨_, _, _, e, _⟩ := hP
      exact .inl (.inl e)
    · obtain ⟨y2, rfl, sm, e1, e2⟩ := hP
      obtain ⟨n, hn, rfl⟩ := iv_of hx
      obtain ⟨init, hi⟩ := coms_last (bs.take i) b
      have eo : H3 o = some (.lst (iv init ++ [.int (cl b (bs.take i))])) := by
        rw [e2, hi]
        unfold iv
        rw [List.map_append]
        rfl
      have n0 : 0 ≤ n := hp n (List.mem_cons_of_mem _ (List.mem_of_getElem? hn))
      have b0 : 0 ≤ b := hp b List.mem_cons_self
      have c0 : 0 ≤ cl b (bs.take i) := cl_nn _ _ b0
      have hlen : (coms b (bs.take i)).length ≤ 101 := by
        rw [coms_len, List.length_take]
        omega
      refine ⟨.ref o, rfl, .inl ⟨rfl, _, .inl (.inl e2)⟩, .ref o, rfl, 1, rfl, o, _, -1, .int (cl b (bs.take i)), rfl, rfl, .inl (.inl eo), atI_last _ _, .int n, rfl, cl b (bs.take i), n, rfl, c0, n0, .inl (Int.lt_of_le_of_lt (cl_le _ _ bp) b3), o, _, _, rfl, rfl, e2, ?_, ?_⟩
      · rw [List.length_map]
        exact small1000 (by omega)
      · refine ⟨_, rfl, fun x z e => ?_, ?_, ?_⟩
        · rw [upd_ne (ne_of_none e no)]
          exact sm _ _ e
        · rw [upd_ne nco]
          exact e1
        · rw [upd_same, List.take_add_one, hn]
          show some (HO.lst (iv (coms b (bs.take i)) ++ [V.int (gc (cl b (bs.take i)) n)])) = some (HO.lst (iv (coms b (bs.take i ++ [n]))))
          rw [coms_append]
          unfold iv
          rw [List.map_append]
          rfl
    · obtain ⟨y2, rfl, sm, e1, e2⟩ := hP
      rw [show (iv bs).length = bs.length from List.length_map _, List.take_length] at e2
      exact ⟨.ref o, rfl, q H3 o sm no e2⟩
end
end K33
set_option maxRecDepth 100000
set_option maxHeartbeats 4000000
/-! k33: values compared. -/
namespace K33
open PySem PySem.Spec PyProof.Rows L2
/-- None, a bool, an int -/
def flat3 : V → Bool
  | .non => true
  | .bl _ => true
  | .int _ => true
  | _ => false
def dOf : V → PyData
  | .bl b => .bool b
  | .int i => .int i
  | _ => .none
theorem dp_flat {K : PySem.W.Frag} {H : Hp} : ∀ {v : V}, flat3 v = true → Dp K H v (dOf v)
  | .non, _ => .non
  | .bl b, _ => .bl b
  | .int i, _ => .int i
  | .str _, h => by cases h
  | .byt _, h => by cases h
  | .flt _, h => by cases h
  | .ref _, h => by cases h
  | .ty _, h => by cases h
theorem dpAll_flat {K : PySem.W.Frag} {H : Hp} : ∀ {vs : List V}, (∀ v ∈ vs, flat3 v = true) → DpAll K H vs (vs.map dOf)
  | [], _ => .nil
  | v :: r, h => .cons (dp_flat (h v List.mem_cons_self)) (dpAll_flat fun x hx => h x (List.mem_cons_of_mem _ hx))
theorem lay_flat : ∀ (vs : List V), PyData.canLayAll0 (vs.map dOf) = true
  | [] => rfl
  | v :: r => by
    have e : PyData.canLay0 (dOf v) = true := by cases v <;> rfl
    rw [List.map_cons, PyData.canLayAll0, lay_flat r, e]
    rfl
theorem depth_flat : ∀ (vs : List V), PyData.depthAll (vs.map dOf) = 0
  | [] => rfl
  | v :: r => by
    have e : PyData.depth (dOf v) = 0 := by cases v <;> rfl
    rw [List.map_cons, PyData.depthAll, depth_flat r, e]
    rfl
theorem shaped_tup (vs : List V) : SeqAt.shaped (.tuple (vs.map dOf)) = true := by
  simp [SeqAt.shaped, PyData.canLay0, PyData.depth, lay_flat, depth_flat]
theorem shaped_lst (vs : List V) : SeqAt.shaped (.list (vs.map dOf)) = true := by
  simp [SeqAt.shaped, PyData.canLay0, PyData.depth, lay_flat, depth_flat]
theorem flat_iv (ns : List Int) : ∀ v ∈ iv ns, flat3 v = true := by
  intro v hv
  obtain ⟨n, _, rfl⟩ := List.mem_map.mp hv
  rfl
theorem eqvAll_iv : ∀ (vs : List V) (ns : List Int), (∀ v ∈ vs, flat3 v = true) → (∀ v ∈ vs, ∀ b, v ≠ .bl b) → PyData.eqvAll (vs.map dOf) ((iv ns).map dOf) = decide (vs = iv ns)
  | [], [], _, _ => by simp [PyData.eqvAll]
  | [], _ :: _, _, _ => by simp [PyData.eqvAll]
  | _ :: _, [], _, _ => by simp [PyData.eqvAll]
  | v :: r, n :: t, h, hb => by
    have ih := eqvAll_iv r t (fun x hx => h x (List.mem_cons_of_mem _ hx)) fun x hx => hb x (List.mem_cons_of_mem _ hx)
    have e : PyData.eqv (dOf v) (.int n) = decide (v = .int n) := by
      have hv := h v List.mem_cons_self
      have hv2 := hb v List.mem_cons_self
      cases v with
      | non => simp [dOf, PyData.eqv]
      | bl b => exact absurd rfl (hv2 b)
      | int i =>
        simp [dOf, PyData.eqv]
        exact Bool.beq_eq_decide_eq i n
      | _ => cases hv
    show PyData.eqvAll (dOf v :: r.map dOf) (.int n :: (iv t).map dOf) = decide (v :: r = .int n :: iv t)
    rw [PyData.eqvAll, ih, e]
    by_cases h1 : v = .int n <;> by_cases h2 : r = iv t <;> simp [h1, h2]
theorem eqv_tup (vs : List V) (ns : List Int) (h : ∀ v ∈ vs, flat3 v = true) (hb : ∀ v ∈ vs, ∀ b, v ≠ .bl b) : PyData.eqv (.tuple (vs.map dOf)) (.tuple ((iv ns).map dOf)) = decide (vs = iv ns) := by
  rw [PyData.eqv, eqvAll_iv vs ns h hb]
theorem eqv_lst (vs : List V) (ns : List Int) (h : ∀ v ∈ vs, flat3 v = true) (hb : ∀ v ∈ vs, ∀ b, v ≠ .bl b) : PyData.eqv (.list (vs.map dOf)) (.list ((iv ns).map dOf)) = decide (vs = iv ns) := by
  rw [PyData.eqv, eqvAll_iv vs ns h hb]
theorem nobl_iv (ns : List Int) : ∀ v ∈ iv ns, ∀ b, v ≠ .bl b := by
  intro v hv b
  obtain ⟨n, _, rfl⟩ := List.mem_map.mp hv
  exact fun z => nomatch z
end K33
set_option maxRecDepth 100000
set_option maxHeartbeats 4000000
namespace K33
open PySem PySem.Spec PyProof.Rows L2
theorem small_size {n : Nat} (h : n ≤ 200) : n < sizeLine := small1000 (by omega)
section
variable {P : Program} {w : World} {K : PySem.W.Frag} {mg : Str → Option Value} {base : Heap}
/-- what callers say of generators -/
structure GOk (K : PySem.W.Frag) (H : Hp) (a : Addr) (b : Int) (bs : List Int) : Prop where
  at_ : H a = some (.tup (iv (b :: bs)))
  ing : ∀ x ∈ b :: bs, InG x
  gen : Gen b bs
  len : bs.length ≤ 100
  small : b < 300
theorem Gd.pos : ∀ {bs : List Int} {e : Int}, Gd e bs → ∀ x ∈ bs, 0 < x
  | b :: r, e, h, x, hx => by
    rcases List.mem_cons.mp hx with rfl | hx
    · exact h.1
    · exact Gd.pos h.2.2 x hx
theorem GOk.nn {H : Hp} {a : Addr} {b : Int} {bs : List Int} (g : GOk K H a b bs) : ∀ x ∈ b :: bs, 0 ≤ x := fun x hx => by
  rcases List.mem_cons.mp hx with rfl | hx
  · exact Int.le_of_lt g.gen.pos
  · exact Int.le_of_lt (g.gen.gd.pos x hx)
theorem GOk.same {H H' : Hp} {a : Addr} {b : Int} {bs : List Int} (g : GOk K H a b bs) (s : Same H H') : GOk K H' a b bs := ⟨s _ _ g.at_, g.ing, g.gen, g.len, g.small⟩
/-! ### shares_in -/
def spSharesIn (K : PySem.W.Frag) : Sp := fun vs H Q _ => ∃ (a : Addr) (b : Int) (bs : List Int), vs = [.ref a] ∧ GOk K H a b bs ∧ ∀ H' p, Same H H' → H p = none → H' p = some (.lst (iv (shs b bs))) → Q (.ref p) H'
theorem ok_sharesIn {f : Addr} {fd : FuncData} (F : Fun K "shares_in" "shares_in" sSharesIn f fd) (T : Txt K mg) (C : Cal P w K mg base 2 "commons_in" ["generators"] (spCommonsIn K)) : FnOk P w K mg base CX0 3 f fd ["generators"] (spSharesIn K) := by
  refine F.ok (k := 2) scSharesIn (fun vs H Q E h => ?_) (fun cdv A outer s H vs Q E hr h => ?_)
  · obtain ⟨a, b, bs, rfl, _⟩ := h
    rfl
  · obtain ⟨a, b, bs, rfl, hG, q⟩ := h
    refine ⟨_, pss_cons (ps_set (i := 1) scSharesIn.nd rfl (.inl rfl) (pe_cal C hr (by rfl) (pa_cons (pv 0) pa_nil)))
      (pss_one (ps_ret (pe_lc (own := [("more", 2), ("less", 3)]) (g := gTup K 2 (gCons (gName 2) (gCons (gName 3) gNil))) (tt := tYes) (by rfl) scSharesIn.nd (pi_zip (by rfl) T.zip (pa_cons (pv 1) (pa_cons (pe_slice sl_list (pv 1) (po_some pe_int) po_none) pa_nil)))
        (blkOk_by (N := nmSharesIn) (sc := defScope sSharesIn) (by decide +kernel))
        (fun _ _ _ _ _ => pg_tup rfl (pgs_cons (pg_name (i := 2) scSharesIn.nd rfl (.inl rfl)) (pgs_cons (pg_name (i := 3) scSharesIn.nd rfl (.inl rfl)) pgs_nil)))
        (fun _ _ _ _ _ => pts_nil) (fun _ _ _ _ _ => pe_op op_fdiv (pv 2) (pv 3))))), ?_⟩
    refine ⟨.ref a, rfl, a, b, bs, rfl, SqT.of hG.at_, hG.nn, hG.len, fun H1 o sm no eo => ?_⟩
    refine ⟨.ref o, rfl, .ref o, rfl, 1, rfl, o, _, rfl, .inl (.inl eo), fun c nc => ?_⟩
    rw [cut1]
    have nco : c ≠ o := fun e => by rw [e, eo] at nc; cases nc
    have s2 : Same H1 (upd H1 c (.lst ((iv (coms b bs)).drop 1))) := same_upd nc
    refine ⟨o, c, iv (coms b bs), (iv (coms b bs)).drop 1, rfl, .inl (.inl (s2 _ _ eo)), .inl (.inl upd_same), fun D nD => ?_⟩
    have lc : (iv (coms b bs)).length = bs.length + 1 := by rw [List.length_map, coms_len]
    have nDo : D ≠ o := fun e => by rw [e, s2 _ _ eo] at nD; cases nD
    have nDc : D ≠ c := fun e => by rw [e, upd_same] at nD; cases nD
    have n0 : H D = none := sm.free (s2.free nD)
    refine lc_it (walk_zip (n := bs.length) (xs := iv (coms b bs)) (ys := (iv (coms b bs)).drop 1) (by rw [List.length_drop, lc]; omega))
      (fun i H3 => Same H H3 ∧ H3 o = some (.lst (iv (coms b bs))) ∧ H3 c = some (.lst ((iv (coms b bs)).drop 1)) ∧ H3 D = some (.lst (iv ((shs b bs).take i))))
      ⟨(sm.trans s2).trans (same_upd nD), ?_, ?_, upd_same⟩ (fun i H3 _ hP => ⟨.inl (.inl hP.2.1), .inl (.inl hP.2.2.1)⟩) (fun i x H3 H4 hi hP hy => ?_) fun H3 hP => ?_
    · rw [upd_ne nDo.symm]
      exact s2 _ _ eo
    · rw [upd_ne nDc.symm, upd_same]
    · obtain ⟨sm3, e1, e2, e3⟩ := hP
      obtain ⟨Tt, v1, v2, rfl, nT, rfl, g1, g2⟩ := hy
      obtain ⟨x1, n1, e4, e5, at_⟩ := at_of bs b i hG.gen.pos hG.gen.gd hi
      have h1 : (iv (coms b bs))[i]? = some (.int e4) := by rw [List.getElem?_map, at_.he]; rfl
      have h2 : ((iv (coms b bs)).drop 1)[i]? = some (.int e5) := by rw [List.getElem?_drop, Nat.add_comm 1 i, List.getElem?_map, at_.he']; rfl
      have ev1 : v1 = .int e4 := Option.some.inj (g1.symm.trans h1)
      have ev2 : v2 = .int e5 := Option.some.inj (g2.symm.trans h2)
      subst ev1 ev2
      have nTo : o ≠ Tt := ne_of_none e1 nT
      have nTc : c ≠ Tt := ne_of_none e2 nT
      have nTD : D ≠ Tt := ne_of_none e3 nT
      have sT : Same H3 (upd H3 Tt (.tup [.int e4, .int e5])) := same_upd nT
      have p5 := at_.pos'
      have l5 := at_.lt
      have lb := (at_.le hG.gen.pos).1
      have hsm := hG.small
      refine ⟨Tt, [.int e4, .int e5], rfl, .inl (.inl upd_same), rfl, _, _, rfl, _, _, rfl, rfl, rfl, ?_⟩
      refine iteT (B := True) ⟨.int e4, rfl, .int e5, rfl, e4, e5, rfl, rfl, ⟨p5, by omega⟩, _, sT _ _ e3, ?_, ?_⟩
      · rw [List.length_map, List.length_take]
        have := hG.len
        rw [shs_len]
        exact small_size (by omega)
      · refine ⟨fun x z e => ?_, ?_, ?_, ?_⟩
        · rw [upd_ne (ne_of_none e n0)]
          exact sT _ _ (sm3 _ _ e)
        · rw [upd_ne nDo.symm]
          exact sT _ _ e1
        · rw [upd_ne nDc.symm]
          exact sT _ _ e2
        · rw [upd_same, List.take_add_one, shs_get bs b i _ _ at_.he at_.he']
          unfold iv
          rw [List.map_append]
          rfl
    · obtain ⟨sm3, e1, e2, e3⟩ := hP
      rw [List.take_of_length_le (by rw [shs_len]; exact Nat.le_refl _)] at e3
      exact q H3 D sm3 n0 e3
end
end K33
set_option maxRecDepth 100000
set_option maxHeartbeats 4000000
namespace K33
open PySem PySem.Spec PyProof.Rows L2
theorem boot_all' : bootBuiltins "all" = some (.builtin "all") := by decide +kernel
theorem boot_any' : bootBuiltins "any" = some (.builtin "any") := by decide +kernel
section
variable {P : Program} {w : World} {K : PySem.W.Frag} {mg : Str → Option Value} {base : Heap}
/-! ### are_orders -/
def spAreOrders (K : PySem.W.Frag) : Sp := fun vs H Q _ => ∃ (a : Addr) (b : Int) (bs : List Int), vs = [.ref a] ∧ GOk K H a b bs ∧ ∀ H', Same H H' → Q (.bl true) H'
/-- a list of True -/
abbrev trues (n : Nat) : List V := (List.replicate n true).map V.bl
theorem trues_succ (n : Nat) : trues n ++ [.bl true] = trues (n + 1) := by
  unfold trues
  rw [List.replicate_succ', List.map_append]
  rfl
theorem all_trues (n : Nat) : (List.replicate n true).all id = true := by
  induction n with
  | zero => rfl
  | succ n ih => rw [List.replicate_succ, List.all_cons, ih]; rfl
theorem ok_areOrders {f : Addr} {fd : FuncData} (F : Fun K "are_orders" "are_orders" sAreOrders f fd) (T : Txt K mg) (CI : Cal P w K mg base 2 "is_integer" ["value"] spInteger) (CC : Cal P w K mg base 2 "commons_in" ["generators"] (spCommonsIn K)) :
    FnOk P w K mg base CX0 3 f fd ["value"] (spAreOrders K) := by
  refine F.ok (k := 2) scAreOrders (fun vs H Q E h => ?_) (fun cdv A outer s H vs Q E hr h => ?_)
  · obtain ⟨a, b, bs, rfl, _⟩ := h
    rfl
  · obtain ⟨a, b, bs, rfl, hG, q⟩ := h
    refine ⟨_, pss_cons (ps_if (PW.pt (pw_or (pt_not (pt_val (pe_callB call_isi (by rfl) T.isi boot_isi (pa_cons (pv 0) (pa_cons (pe_bltn (v := .ty "tuple") (by rfl) T.tuple boot_tuple' rfl) pa_nil)))))
          (pw_or (pt_cmpR (op_eqD hr.units) (pv 0) (pe_tup pa_nil) (nomark _))
          (pw_or1 (pt_not (pt_val (pe_callB (cr_all rfl) (by rfl) T.all boot_all' (pa_cons
            (pe_lc (own := [("number", 3)]) (g := gName 3) (tt := tYes) (by rfl) scAreOrders.nd (pi_tup (pv 0)) (blkOk_by (N := nmAreOrders) (sc := defScope sAreOrders) (by decide +kernel))
              (fun _ _ _ _ _ => pg_name (i := 3) scAreOrders.nd rfl (.inl rfl)) (fun _ _ _ _ _ => pts_nil) (fun _ _ _ _ _ => pe_cal CI hr (by rfl) (pa_cons (pv 3) pa_nil))) pa_nil)))))))) (pss_one (ps_ret pe_bl)) pss_nil)
      (pss_cons (ps_if (pt_cmpR op_eq (pe_callB call_len_seq (by rfl) T.len PySem.boot_len (pa_cons (pv 0) pa_nil)) pe_int (nomark _)) (pss_one (ps_ret (pe_cmpR op_eq (pe_ix ix_tup (pv 0) pe_int (fun _ _ => rfl)) pe_int (nomark _)))) pss_nil)
      (pss_cons (ps_if (pt_not (pt_chain op_le op_lt pe_int (pe_ix ix_tup (pv 0) pe_int (fun _ _ => rfl)) (pe_ix ix_tup (pv 0) pe_int (fun _ _ => rfl)))) (pss_one (ps_ret pe_bl)) pss_nil)
      (pss_cons (ps_set (i := 1) scAreOrders.nd rfl (.inl rfl) (pe_cal CC hr (by rfl) (pa_cons (pv 0) pa_nil)))
      (pss_cons (ps_if (PW.pt (pw_or (pt_cmpR op_ne (pe_ix ix_list (pv 1) (pe_un un_neg pe_int) (fun _ _ => rfl)) pe_int (nomark _))
          (pw_or1 (pt_not (pt_val (pe_callB (cr_all rfl) (by rfl) T.all boot_all' (pa_cons
            (pe_lc (own := [("one", 4), ("other", 5)]) (g := gTup K 2 (gCons (gName 4) (gCons (gName 5) gNil))) (tt := tYes) (by rfl) scAreOrders.nd (pi_zip (by rfl) T.zip (pa_cons (pv 1) (pa_cons (pe_slice sl_list (pv 1) (po_some pe_int) po_none) pa_nil)))
              (blkOk_by (N := nmAreOrders) (sc := defScope sAreOrders) (by decide +kernel))
              (fun _ _ _ _ _ => pg_tup rfl (pgs_cons (pg_name (i := 4) scAreOrders.nd rfl (.inl rfl)) (pgs_cons (pg_name (i := 5) scAreOrders.nd rfl (.inl rfl)) pgs_nil)))
              (fun _ _ _ _ _ => pts_nil) (fun _ _ _ _ _ => pe_cmpR op_gt (pv 4) (pv 5) (nomark _))) pa_nil))))))) (pss_one (ps_ret pe_bl)) pss_nil)
      (pss_cons (ps_set (i := 2) scAreOrders.nd rfl (.inl rfl) (pe_zipTTLL (by rfl) T.zip (pa_cons (pe_slice sl_tup (pv 0) (po_some pe_int) po_none) (pa_cons (pe_slice sl_tup (pv 0) (po_some pe_int) po_none) (pa_cons (pv 1) (pa_cons (pe_slice sl_list (pv 1) (po_some pe_int) po_none) pa_nil))))))
      (pss_one (ps_ret (pe_callB (cr_all rfl) (by rfl) T.all boot_all' (pa_cons
            (pe_lc (own := [("number", 3), ("later", 6), ("more", 7), ("less", 8)]) (g := gTup K 4 (gCons (gName 3) (gCons (gName 6) (gCons (gName 7) (gCons (gName 8) gNil))))) (tt := tYes) (by rfl) scAreOrders.nd (pi_zipTTLL (k := 2) rfl (.inl rfl))
              (blkOk_by (N := nmAreOrders) (sc := defScope sAreOrders) (by decide +kernel))
              (fun _ _ _ _ _ => pg_tup rfl (pgs_cons (pg_name (i := 3) scAreOrders.nd rfl (.inl rfl)) (pgs_cons (pg_name (i := 6) scAreOrders.nd rfl (.inl rfl)) (pgs_cons (pg_name (i := 7) scAreOrders.nd rfl (.inl rfl)) (pgs_cons (pg_name (i := 8) scAreOrders.nd rfl (.inl rfl)) pgs_nil)))))
              (fun _ _ _ _ _ => pts_nil) (fun _ _ _ _ _ => pe_cmpR op_gt (pe_op op_mul (pv 6) (pv 8)) (pe_op op_mul (pv 3) (pv 7)) (nomark _))) pa_nil))))))))), ?_⟩
    -- isinstance(value, tuple)
    refine ⟨.ref a, rfl, .ref a, .ty "tuple", .type "tuple", .type "tuple", true, rfl, .ty _, .base (.tup hG.at_), kit_ty (by decide +kernel), true, rfl, iteF ?_⟩
    -- value == ()
    refine ⟨.ref a, rfl, Nat.zero_le _, fun p np => ?_⟩
    have sp : Same H (upd H p (.tup [])) := same_upd np
    refine ⟨.tuple ((iv (b :: bs)).map dOf), .tuple (([] : List V).map dOf), .tup (.inl (.inl (sp _ _ hG.at_))) (dpAll_flat (flat_iv _)), .tup (.inl (.inl upd_same)) .nil, shaped_tup _, shaped_tup _, false, ?_, iteF ?_⟩
    · rw [show ([] : List V) = iv [] from rfl, eqv_tup _ _ (flat_iv _) (nobl_iv _)]
      rfl
    -- all([is_integer(number) for number in value])
    refine ⟨.ref a, rfl, a, rfl, ⟨_, .inl (.inl (sp _ _ hG.at_))⟩, fun D nD => ?_⟩
    have nDa : a ≠ D := ne_of_none (sp _ _ hG.at_) nD
    refine lc_it (walk_tup (K := K) (a := a) (xs := iv (b :: bs))) (fun i H3 => Same H H3 ∧ H3 D = some (.lst (trues i))) ⟨sp.trans (same_upd nD), upd_same⟩ (fun i H3 _ hP => .inl (.inl (hP.1 _ _ hG.at_)))
      (fun i x H3 H4 hi hP hy => ?_) fun H3 hP => ?_
    · obtain ⟨rfl, hx⟩ := hy
      obtain ⟨n, hn, rfl⟩ := iv_of hx
      refine ⟨rfl, ?_⟩
      refine iteT (B := True) ⟨.int n, rfl, n, rfl, hG.ing n (List.mem_of_getElem? hn), _, hP.2, ?_, ?_⟩
      · have := hG.len
        rw [List.length_map, List.length_replicate]
        rw [List.length_map, List.length_cons] at hi
        exact small_size (by omega)
      · rw [trues_succ]
        refine ⟨fun x z e => ?_, upd_same⟩
        rw [upd_ne (ne_of_none e (sp.free nD))]
        exact hP.1 _ _ e
    obtain ⟨s3, e3⟩ := hP
    refine ⟨D, _, rfl, .inl (.inl e3), true, congrArg V.bl (all_trues _), iteF ?_⟩
    -- len(value) == 1
    refine ⟨.ref a, rfl, a, iv (b :: bs), rfl, .inr (.inl (.inl (s3 _ _ hG.at_))), rfl, _, rfl, ite2 (fun e => ?_) (fun e => ?_)⟩
    · have e1 : ((iv (b :: bs)).length : Int) = 1 := V.int.inj (of_decide_eq_true e)
      have e2 : bs = [] := by
        cases bs with
        | nil => rfl
        | cons x r =>
          rw [List.length_map, List.length_cons, List.length_cons] at e1
          omega
      subst e2
      have e4 : b = 1 := hG.gen.gd
      refine ⟨.ref a, rfl, a, _, 0, .int b, rfl, rfl, .inl (.inl (s3 _ _ hG.at_)), atI_nat (j := 0) rfl, rfl, ?_⟩
      rw [decide_eq_true (congrArg V.int e4)]
      exact q H3 s3
    · obtain ⟨c, r, rfl⟩ : ∃ c r, bs = c :: r := by
        cases bs with
        | nil => exact absurd (decide_eq_true rfl) e
        | cons c r => exact ⟨c, r, rfl⟩
      have aH3 := s3 _ _ hG.at_
      obtain ⟨x0, n0, f0, f0', at0⟩ := at_of (c :: r) b 0 hG.gen.pos hG.gen.gd (Nat.zero_lt_succ _)
      have b2 : 2 ≤ b := by
        have := (at0.le hG.gen.pos).2
        have := at0.n2
        omega
      have bc : b < c := hG.gen.up.1
      -- not 2 <= value[0] < value[1]
      refine ⟨.ref a, rfl, a, _, 0, .int b, rfl, rfl, .inl (.inl aH3), atI_nat (j := 0) rfl, 2, b, rfl, rfl, true, congrArg V.bl (decide_eq_true b2), iteT ⟨.ref a, rfl, a, _, 1, .int c, rfl, rfl, .inl (.inl aH3), atI_nat (j := 1) rfl, b, c, rfl, rfl, true, congrArg V.bl (decide_eq_true bc), iteF ?_⟩⟩
      -- found = commons_in(value)
      refine ⟨.ref a, rfl, a, b, c :: r, rfl, .inl (.inl aH3), hG.nn, hG.len, fun H4 o s4 no eo => ?_⟩
      have s04 : Same H H4 := s3.trans s4
      obtain ⟨init, hini⟩ := coms_last (c :: r) b
      rw [cl_one _ _ hG.gen.gd] at hini
      have eo1 : H4 o = some (.lst (iv init ++ [.int 1])) := by
        rw [eo, hini]
        unfold iv
        rw [List.map_append]
        rfl
      -- found[-1] != 1
      refine ⟨.ref o, rfl, 1, rfl, o, _, -1, .int 1, rfl, rfl, .inl (.inl eo1), atI_last _ _, rfl, false, rfl, iteF ?_⟩
      -- all one > other
      refine ⟨.ref o, rfl, .ref o, rfl, 1, rfl, o, _, rfl, .inl (.inl eo), fun c2 nc => ?_⟩
      rw [cut1]
      have nco : c2 ≠ o := fun e => by rw [e, eo] at nc; cases nc
      have s5 : Same H4 (upd H4 c2 (.lst ((iv (coms b (c :: r))).drop 1))) := same_upd nc
      refine ⟨o, c2, iv (coms b (c :: r)), (iv (coms b (c :: r))).drop 1, rfl, .inl (.inl (s5 _ _ eo)), .inl (.inl upd_same), fun D2 nD2 => ?_⟩
      have lc : (iv (coms b (c :: r))).length = r.length + 2 := by rw [List.length_map, coms_len]; rfl
      have nDo : D2 ≠ o := fun e => by rw [e, s5 _ _ eo] at nD2; cases nD2
      have nDc : D2 ≠ c2 := fun e => by rw [e, upd_same] at nD2; cases nD2
      have hlr : r.length + 1 ≤ 100 := hG.len
      have hsm := hG.small
      refine lc_it (walk_zip (n := r.length + 1) (xs := iv (coms b (c :: r))) (ys := (iv (coms b (c :: r))).drop 1) (by rw [List.length_drop, lc]; omega))
        (fun i H5 => Same H4 H5 ∧ H5 c2 = some (.lst ((iv (coms b (c :: r))).drop 1)) ∧ H5 D2 = some (.lst (trues i)))
        ⟨s5.trans (same_upd nD2), ?_, upd_same⟩ (fun i H5 _ hP => ⟨.inl (.inl (hP.1 _ _ eo)), .inl (.inl hP.2.1)⟩) (fun i x H5 H6 hi hP hy => ?_) fun H5 hP => ?_
      · rw [upd_ne nDc.symm, upd_same]
      · obtain ⟨sm5, e2, e3⟩ := hP
        obtain ⟨Tt, v1, v2, rfl, nT, rfl, g1, g2⟩ := hy
        obtain ⟨x1, n1, e4, e5, at_⟩ := at_of (c :: r) b i hG.gen.pos hG.gen.gd hi
        have h1 : (iv (coms b (c :: r)))[i]? = some (.int e4) := by rw [List.getElem?_map, at_.he]; rfl
        have h2 : ((iv (coms b (c :: r))).drop 1)[i]? = some (.int e5) := by rw [List.getElem?_drop, Nat.add_comm 1 i, List.getElem?_map, at_.he']; rfl
        have ev1 : v1 = .int e4 := Option.some.inj (g1.symm.trans h1)
        have ev2 : v2 = .int e5 := Option.some.inj (g2.symm.trans h2)
        subst ev1 ev2
        have nTc : c2 ≠ Tt := ne_of_none e2 nT
        have sT : Same H5 (upd H5 Tt (.tup [.int e4, .int e5])) := same_upd nT
        refine ⟨Tt, [.int e4, .int e5], rfl, .inl (.inl upd_same), rfl, _, _, rfl, _, _, rfl, rfl, rfl, ?_⟩
        refine iteT (B := True) ⟨.int e4, rfl, .int e5, rfl, e4, e5, rfl, rfl, _, sT _ _ e3, ?_, ?_⟩
        · rw [List.length_map, List.length_replicate]
          exact small_size (by omega)
        · have z : (fun i j => V.bl (decide (j < i))) e4 e5 = V.bl true := congrArg V.bl (decide_eq_true at_.lt)
          rw [z, trues_succ]
          refine ⟨fun x z e => ?_, ?_, upd_same⟩
          · rw [upd_ne (ne_of_none e (s5.free nD2))]
            exact sT _ _ (sm5 _ _ e)
          · rw [upd_ne nDc.symm]
            exact sT _ _ e2
      obtain ⟨s5', _, e5⟩ := hP
      refine ⟨D2, _, rfl, .inl (.inl e5), true, congrArg V.bl (all_trues _), iteF ?_⟩
      -- rows = zip(..)
      have s05 : Same H H5 := s04.trans s5'
      have aH5 := s05 _ _ hG.at_
      have oH5 := s5' _ _ eo
      refine ⟨.ref a, rfl, 1, rfl, a, _, rfl, .inl (.inl aH5), cut1_not (by simp), fun t1 nt1 => ?_⟩
      rw [cut1]
      have st1 : Same H5 (upd H5 t1 (.tup ((iv (b :: c :: r)).drop 1))) := same_upd nt1
      refine ⟨.ref a, rfl, 2, rfl, a, _, rfl, .inl (.inl (st1 _ _ aH5)), cut_not (k := 2) (by decide) (by rw [List.length_map]; exact Nat.zero_lt_succ _), fun t2 nt2 => ?_⟩
      rw [show cutV (iv (b :: c :: r)) (some 2) none = (iv (b :: c :: r)).drop 2 from cut_from _ 2]
      have st2 : Same (upd H5 t1 (.tup ((iv (b :: c :: r)).drop 1))) (upd (upd H5 t1 (.tup ((iv (b :: c :: r)).drop 1))) t2 (.tup ((iv (b :: c :: r)).drop 2))) := same_upd nt2
      have st12 := st1.trans st2
      refine ⟨.ref o, rfl, .ref o, rfl, 1, rfl, o, _, rfl, .inl (.inl (st12 _ _ oH5)), fun l4 nl4 => ?_⟩
      rw [cut1]
      refine ⟨t1, t2, o, l4, iv (c :: r), iv r, iv (coms b (c :: r)), (iv (coms b (c :: r))).drop 1, rfl, .inl (.inl (same_upd nl4 _ _ (st2 _ _ upd_same))), .inl (.inl (same_upd nl4 _ _ upd_same)), .inl (.inl (same_upd nl4 _ _ (st12 _ _ oH5))), .inl (.inl upd_same), fun N H6 hz s6 hfr => ?_⟩
      -- the same facts at H6
      have s46 := (st12.trans (same_upd nl4)).trans s6
      have f1 : H6 t1 = some (.tup (iv (c :: r))) := s6 _ _ (same_upd nl4 _ _ (st2 _ _ upd_same))
      have f2 : H6 t2 = some (.tup (iv r)) := s6 _ _ (same_upd nl4 _ _ upd_same)
      have f3 : H6 o = some (.lst (iv (coms b (c :: r)))) := s46 _ _ oH5
      have f4 : H6 l4 = some (.lst ((iv (coms b (c :: r))).drop 1)) := s6 _ _ upd_same
      have s57 : ∀ {G : Hp}, Same G H5 → Same G H6 := fun z => z.trans s46
      have s1f : ∀ fp : List Addr, (∀ x ∈ fp, ∃ j, j < 7 ∧ x = N + j) → ∀ x ∈ fp, (upd (upd (upd H5 t1 (.tup ((iv (b :: c :: r)).drop 1))) t2 (.tup ((iv (b :: c :: r)).drop 2))) l4 (.lst ((iv (coms b (c :: r))).drop 1))) x = none := fun fp h x hx => by
        obtain ⟨j, hj, rfl⟩ := h x hx
        exact hfr j hj
      refine ⟨N, t1, t2, o, l4, rfl, hz, fun D3 nD3 => ?_⟩
      obtain ⟨H7, hH7⟩ : ∃ H7, H7 = dropL H6 [N, N + 1, N + 2, N + 3, N + 4, N + 5, N + 6] := ⟨_, rfl⟩
      have s67 : Same (upd (upd (upd H5 t1 (.tup ((iv (b :: c :: r)).drop 1))) t2 (.tup ((iv (b :: c :: r)).drop 2))) l4 (.lst ((iv (coms b (c :: r))).drop 1))) H7 := by
        rw [hH7]
        refine same_drop s6 (s1f _ fun x hx => ?_)
        have e' : x = N ∨ x = N + 1 ∨ x = N + 2 ∨ x = N + 3 ∨ x = N + 4 ∨ x = N + 5 ∨ x = N + 6 := by simpa using hx
        rcases e' with e | e | e | e | e | e | e
        · exact ⟨0, by decide, e⟩
        · exact ⟨1, by decide, e⟩
        · exact ⟨2, by decide, e⟩
        · exact ⟨3, by decide, e⟩
        · exact ⟨4, by decide, e⟩
        · exact ⟨5, by decide, e⟩
        · exact ⟨6, by decide, e⟩
      rw [← hH7] at nD3
      rw [← hH7]
      have g1 : H7 t1 = some (.tup (iv (c :: r))) := s67 _ _ (same_upd nl4 _ _ (st2 _ _ upd_same))
      have g2 : H7 t2 = some (.tup (iv r)) := s67 _ _ (same_upd nl4 _ _ upd_same)
      have g3 : H7 o = some (.lst (iv (coms b (c :: r)))) := s67 _ _ (same_upd nl4 _ _ (st12 _ _ oH5))
      have g4 : H7 l4 = some (.lst ((iv (coms b (c :: r))).drop 1)) := s67 _ _ upd_same
      have s07 : Same H H7 := ((s05.trans st12).trans (same_upd nl4)).trans s67
      refine lc_it (walk_zTTLL (K := K) (c1 := t1) (c2 := t2) (c3 := o) (c4 := l4) (n := r.length) (xs1 := iv (c :: r)) (xs2 := iv r) (xs3 := iv (coms b (c :: r))) (xs4 := (iv (coms b (c :: r))).drop 1)
          (by rw [List.length_map]; exact Nat.le_succ _) (by rw [List.length_map]; exact Nat.le_refl _) (by rw [lc]; omega) (by rw [List.length_drop, lc]; omega) (.inr (.inl (by rw [List.length_map]))))
        (fun i H8 => Same H7 H8 ∧ H8 D3 = some (.lst (trues i)))
        ⟨same_upd nD3, upd_same⟩ (fun i H8 _ hP => ⟨.inl (.inl (hP.1 _ _ g1)), .inl (.inl (hP.1 _ _ g2)), .inl (.inl (hP.1 _ _ g3)), .inl (.inl (hP.1 _ _ g4))⟩) (fun i x H8 H9 hi hP hy => ?_) fun H8 hP => ?_
      · obtain ⟨sm8, e8⟩ := hP
        obtain ⟨Tt, v1, v2, v3, v4, rfl, nT, rfl, k1, k2, k3, k4⟩ := hy
        obtain ⟨x1, n1, e4, e5, at_⟩ := at_of (c :: r) b i hG.gen.pos hG.gen.gd (Nat.lt_succ_of_lt hi)
        have hy2 : (c :: r)[i + 1]? = some (r[i]'hi) := by
          show r[i]? = _
          exact List.getElem?_eq_getElem hi
        have lt := up_get (c :: r) b b hG.gen.up i _ _ _ at_.hx hy2 at_.hn
        have ev1 : v1 = .int x1 := Option.some.inj (k1.symm.trans (by rw [List.getElem?_map, at_.hx]; rfl))
        have ev2 : v2 = .int (r[i]'hi) := Option.some.inj (k2.symm.trans (by rw [List.getElem?_map, List.getElem?_eq_getElem hi]; rfl))
        have ev3 : v3 = .int e4 := Option.some.inj (k3.symm.trans (by rw [List.getElem?_map, at_.he]; rfl))
        have ev4 : v4 = .int e5 := Option.some.inj (k4.symm.trans (by rw [List.getElem?_drop, Nat.add_comm 1 i, List.getElem?_map, at_.he']; rfl))
        subst ev1 ev2 ev3 ev4
        have p5 := at_.pos'
        have l5 := at_.lt
        have lb := (at_.le hG.gen.pos).1
        have key : x1 * e4 < r[i]'hi * e5 := by
          rw [← at_.mul, ← Int.mul_assoc]
          exact Int.mul_lt_mul_of_pos_right lt p5
        refine ⟨Tt, [.int x1, .int (r[i]'hi), .int e4, .int e5], rfl, .inl (.inl upd_same), rfl, _, _, rfl, _, _, rfl, _, _, rfl, _, _, rfl, rfl, rfl, ?_⟩
        refine iteT (B := True) ⟨.int (r[i]'hi), rfl, .int e5, rfl, _, e5, rfl, rfl, .inr ⟨by omega, by omega⟩, .int x1, rfl, .int e4, rfl, x1, e4, rfl, rfl, .inr ⟨by omega, by omega⟩, _, _, rfl, rfl, _, same_upd nT _ _ e8, ?_, ?_⟩
        · rw [List.length_map, List.length_replicate]
          exact small_size (by omega)
        · have z : (fun i j => V.bl (decide (j < i))) (r[i]'hi * e5) (x1 * e4) = V.bl true := congrArg V.bl (decide_eq_true key)
          rw [z, trues_succ]
          refine ⟨fun y z e => ?_, upd_same⟩
          rw [upd_ne (ne_of_none e nD3)]
          exact same_upd nT _ _ (sm8 _ _ e)
      · refine ⟨D3, _, rfl, .inl (.inl hP.2), ?_⟩
        rw [all_trues]
        exact q H8 (s07.trans hP.1)
end
end K33
set_option maxRecDepth 100000
set_option maxHeartbeats 4000000
namespace K33
open PySem PySem.Spec PyProof.Rows L2
theorem boot_sum' : bootBuiltins "sum" = some (.builtin "sum") := by decide +kernel
section
variable {P : Program} {w : World} {K : PySem.W.Frag} {mg : Str → Option Value} {base : Heap}
/-! ### require_generators, require_number -/
def spReqGen (K : PySem.W.Frag) : Sp := fun vs H Q _ => ∃ (a : Addr) (b : Int) (bs : List Int), vs = [.ref a] ∧ GOk K H a b bs ∧ ∀ H', Same H H' → Q .non H'
theorem ok_reqGen {f : Addr} {fd : FuncData} (F : Fun K "require_generators" "require_generators" sReqGen f fd) (C : Cal P w K mg base 3 "are_orders" ["value"] (spAreOrders K)) : FnOk P w K mg base CX0 4 f fd ["value"] (spReqGen K) := by
  refine F.ok (k := 3) scReqGen (fun vs H Q E h => ?_) (fun cdv A outer s H vs Q E hr h => ?_)
  · obtain ⟨a, b, bs, rfl, _⟩ := h
    rfl
  · obtain ⟨a, b, bs, rfl, hG, q⟩ := h
    refine ⟨_, pss_one (ps_if (pt_not (pt_val (pe_cal C hr (by rfl) (pa_cons (pv 0) pa_nil)))) pss_never pss_nil), ?_⟩
    exact ⟨.ref a, rfl, a, b, bs, rfl, hG, fun H' s => ⟨true, rfl, iteF (A := False) (q H' s)⟩⟩
def spReqNum : Sp := fun vs H Q _ => ∃ i, vs = [.int i] ∧ InG i ∧ Q .non H
theorem ok_reqNum {f : Addr} {fd : FuncData} (F : Fun K "require_number" "require_number" sReqNum f fd) (C : Cal P w K mg base 2 "is_integer" ["value"] spInteger) : FnOk P w K mg base CX0 3 f fd ["value"] spReqNum := by
  refine F.ok (k := 2) scReqNum (fun vs H Q E h => ?_) (fun cdv A outer s H vs Q E hr h => ?_)
  · obtain ⟨i, rfl, _⟩ := h
    rfl
  · obtain ⟨i, rfl, g, q⟩ := h
    refine ⟨_, pss_one (ps_if (pt_not (pt_val (pe_cal C hr (by rfl) (pa_cons (pv 0) pa_nil)))) pss_never pss_nil), ?_⟩
    exact ⟨.int i, rfl, i, rfl, g, true, rfl, iteF (A := False) q⟩
/-! ### last_in, last_gap -/
def spLast (K : PySem.W.Frag) : Sp := fun vs H Q _ => ∃ (a : Addr) (b : Int) (bs : List Int), vs = [.ref a] ∧ GOk K H a b bs ∧ ∀ H', Same H H' → Q (.int (lastG b bs)) H'
theorem ok_lastIn {f : Addr} {fd : FuncData} (F : Fun K "last_in" "last_in" sLastIn f fd) (T : Txt K mg) (C : Cal P w K mg base 3 "shares_in" ["generators"] (spSharesIn K)) : FnOk P w K mg base CX0 4 f fd ["generators"] (spLast K) := by
  refine F.ok (k := 3) scLastIn (fun vs H Q E h => ?_) (fun cdv A outer s H vs Q E hr h => ?_)
  · obtain ⟨a, b, bs, rfl, _⟩ := h
    rfl
  · obtain ⟨a, b, bs, rfl, hG, q⟩ := h
    refine ⟨_, pss_cons (ps_set (i := 1) scLastIn.nd rfl (.inl rfl) (pe_zipTL (by rfl) T.zip (pa_cons (pe_slice sl_tup (pv 0) (po_some pe_int) po_none) (pa_cons (pe_cal C hr (by rfl) (pa_cons (pv 0) pa_nil)) pa_nil))))
      (pss_one (ps_ret (pe_op op_sub (pe_callB (cr_sum rfl) (by rfl) T.sum boot_sum' (pa_cons
          (pe_lc (own := [("generator", 2), ("share", 3)]) (g := gTup K 2 (gCons (gName 2) (gCons (gName 3) gNil))) (tt := tYes) (by rfl) scLastIn.nd (pi_zipTL (k := 1) rfl (.inl rfl))
            (blkOk_by (N := nmLastIn) (sc := defScope sLastIn) (by decide +kernel))
            (fun _ _ _ _ _ => pg_tup rfl (pgs_cons (pg_name (i := 2) scLastIn.nd rfl (.inl rfl)) (pgs_cons (pg_name (i := 3) scLastIn.nd rfl (.inl rfl)) pgs_nil)))
            (fun _ _ _ _ _ => pts_nil) (fun _ _ _ _ _ => pe_op op_mul (pe_op op_sub (pv 3) pe_int) (pv 2))) pa_nil))
        (pe_ix ix_tup (pv 0) pe_int (fun _ _ => rfl))))), ?_⟩
    refine ⟨.ref a, rfl, 1, rfl, a, _, rfl, .inl (.inl hG.at_), cut_not (k := 1) (by decide) (by rw [List.length_map]; exact Nat.zero_lt_succ _), fun t nt => ?_⟩
    rw [show cutV (iv (b :: bs)) (some 1) none = iv bs from cut_from _ 1]
    have s1 : Same H (upd H t (.tup (iv bs))) := same_upd nt
    refine ⟨.ref a, rfl, a, b, bs, rfl, hG.same s1, fun H2 l s2 nl el => ?_⟩
    have s02 := s1.trans s2
    refine ⟨t, l, iv bs, iv (shs b bs), rfl, .inl (.inl (s2 _ _ upd_same)), .inl (.inl el), fun N H3 hz s3 hfr => ?_⟩
    refine ⟨N, t, l, rfl, hz, fun D nD => ?_⟩
    obtain ⟨H4, hH4⟩ : ∃ H4, H4 = dropL H3 [N, N + 1, N + 2, N + 3, N + 4] := ⟨_, rfl⟩
    have s4 : Same H2 H4 := by
      rw [hH4]
      refine same_drop s3 fun x hx => ?_
      have e' : x = N ∨ x = N + 1 ∨ x = N + 2 ∨ x = N + 3 ∨ x = N + 4 := by simpa using hx
      rcases e' with e | e | e | e | e
      · rw [e]; exact hfr 0 (by decide)
      · rw [e]; exact hfr 1 (by decide)
      · rw [e]; exact hfr 2 (by decide)
      · rw [e]; exact hfr 3 (by decide)
      · rw [e]; exact hfr 4 (by decide)
    rw [← hH4] at nD
    rw [← hH4]
    have g1 : H4 t = some (.tup (iv bs)) := s4 _ _ (s2 _ _ upd_same)
    have g2 : H4 l = some (.lst (iv (shs b bs))) := s4 _ _ el
    have hlen := hG.len
    have hsm := hG.small
    refine lc_it (walk_zTL (K := K) (c1 := t) (c2 := l) (n := bs.length) (xs1 := iv bs) (xs2 := iv (shs b bs)) (by rw [List.length_map]; exact Nat.le_refl _) (by rw [List.length_map, shs_len]; exact Nat.le_refl _) (.inl (by rw [List.length_map])))
      (fun i H5 => Same H4 H5 ∧ H5 D = some (.lst (iv ((List.zipWith (fun n b => (n - 1) * b) (shs b bs) bs).take i))))
      ⟨same_upd nD, upd_same⟩ (fun i H5 _ hP => ⟨.inl (.inl (hP.1 _ _ g1)), .inl (.inl (hP.1 _ _ g2))⟩) (fun i x H5 H6 hi hP hy => ?_) fun H5 hP => ?_
    · obtain ⟨sm5, e5⟩ := hP
      obtain ⟨Tt, v1, v2, rfl, nT, rfl, k1, k2⟩ := hy
      obtain ⟨x1, n1, e4, e4', at_⟩ := at_of bs b i hG.gen.pos hG.gen.gd hi
      have ev1 : v1 = .int x1 := Option.some.inj (k1.symm.trans (by rw [List.getElem?_map, at_.hx]; rfl))
      have ev2 : v2 = .int n1 := Option.some.inj (k2.symm.trans (by rw [List.getElem?_map, at_.hn]; rfl))
      subst ev1 ev2
      have n2 := at_.n2
      have nb := (at_.le hG.gen.pos).2
      refine ⟨Tt, [.int x1, .int n1], rfl, .inl (.inl upd_same), rfl, _, _, rfl, _, _, rfl, rfl, rfl, ?_⟩
      refine iteT (B := True) ⟨.int n1, rfl, n1, 1, rfl, rfl, .int x1, rfl, _, x1, rfl, rfl, .inl ⟨by omega, by omega⟩, _, same_upd nT _ _ e5, ?_, ?_⟩
      · rw [List.length_map, List.length_take, List.length_zipWith, shs_len]
        exact small_size (by omega)
      · refine ⟨fun y z e => ?_, ?_⟩
        · rw [upd_ne (ne_of_none e nD)]
          exact same_upd nT _ _ (sm5 _ _ e)
        · rw [upd_same, List.take_add_one, List.getElem?_zipWith, at_.hn, at_.hx]
          unfold iv
          rw [List.map_append]
          rfl
    · obtain ⟨sm5, e5⟩ := hP
      rw [List.take_of_length_le (by rw [List.length_zipWith, shs_len]; omega)] at e5
      have s05 := (s02.trans s4).trans sm5
      refine ⟨D, _, rfl, .inl (.inl e5), .ref a, rfl, a, _, 0, .int b, rfl, rfl, .inl (.inl (s05 _ _ hG.at_)), atI_nat (j := 0) rfl, _, b, rfl, rfl, ?_⟩
      rw [← top_zip]
      exact q H5 s05
theorem ok_lastGap {f : Addr} {fd : FuncData} (F : Fun K "last_gap" "last_gap" sLastGap f fd) (CR : Cal P w K mg base 4 "require_generators" ["value"] (spReqGen K)) (C : Cal P w K mg base 4 "last_in" ["generators"] (spLast K)) : FnOk P w K mg base CX0 5 f fd ["generators"] (spLast K) := by
  refine F.ok (k := 4) scLastGap (fun vs H Q E h => ?_) (fun cdv A outer s H vs Q E hr h => ?_)
  · obtain ⟨a, b, bs, rfl, _⟩ := h
    rfl
  · obtain ⟨a, b, bs, rfl, hG, q⟩ := h
    refine ⟨_, pss_cons (ps_expr (pe_cal CR hr (by rfl) (pa_cons (pv 0) pa_nil))) (pss_one (ps_ret (pe_cal C hr (by rfl) (pa_cons (pv 0) pa_nil)))), ?_⟩
    exact ⟨.ref a, rfl, a, b, bs, rfl, hG, fun H' s => ⟨.ref a, rfl, a, b, bs, rfl, hG.same s, fun H2 s2 => q H2 (s.trans s2)⟩⟩
end
end K33
set_option maxRecDepth 100000
set_option maxHeartbeats 4000000
namespace K33
open PySem PySem.Spec PyProof.Rows L2
section
variable {P : Program} {w : World} {K : PySem.W.Frag} {mg : Str → Option Value} {base : Heap}
theorem Same.b {a : Addr} {H H1 H2 : Hp} (s : Same H H1) (t : SameB a H1 H2) (n : H a = none) : Same H H2 := fun b o e => t b o (ne_of_none e n) (s b o e)
/-! ### paper_in -/
def spPaper (K : PySem.W.Frag) : Sp := fun vs H Q _ => ∃ (a : Addr) (b : Int) (bs : List Int) (x : Int), vs = [.ref a, .int x] ∧ GOk K H a b bs ∧ ∀ H' p k ks, Pap b bs x k ks → Same H H' → H p = none → H' p = some (.tup (iv (k :: ks))) → Q (.ref p) H'
theorem ok_paperIn {f : Addr} {fd : FuncData} (F : Fun K "paper_in" "paper_in" sPaperIn f fd) (T : Txt K mg) (CS : Cal P w K mg base 3 "shares_in" ["generators"] (spSharesIn K)) (CC : Cal P w K mg base 2 "commons_in" ["generators"] (spCommonsIn K))
    (CI : Cal P w K mg base 1 "inverse_by" ["number", "modulus"] spInverse) : FnOk P w K mg base CX0 4 f fd ["generators", "number"] (spPaper K) := by
  refine F.ok (k := 3) scPaperIn (fun vs H Q E h => ?_) (fun cdv A outer s H vs Q E hr h => ?_)
  · obtain ⟨a, b, bs, x, rfl, _⟩ := h
    rfl
  · obtain ⟨a, b, bs, x, rfl, hG, q⟩ := h
    refine ⟨_, pss_cons (ps_par3 (i := 2) (j := 3) (l := 4) (by rfl) scPaperIn.nd rfl rfl rfl (by decide) (by decide) (by decide) rfl rfl rfl
        (pa_cons (pv 1) (pa_cons (pe_lst pa_nil) (pa_cons (pe_listzip (by rfl) (by rfl) T.list (by rfl) T.zip (pa_cons (pe_slice sl_tup (pv 0) (po_some pe_int) po_none) (pa_cons (pe_cal CS hr (by rfl) (pa_cons (pv 0) pa_nil))
          (pa_cons (pe_slice sl_list (pe_cal CC (hr.mono (by decide)) (by rfl) (pa_cons (pv 0) pa_nil)) (po_some pe_int) po_none) pa_nil)))) pa_nil))) (by rfl))
      (pss_cons (ps_for PassesOwn.never rfl (pi_list (pe_revL (pv 4))) (pg_tup rfl (pgs_cons (pg_name (i := 5) scPaperIn.nd rfl (.inl rfl)) (pgs_cons (pg_name (i := 6) scPaperIn.nd rfl (.inl rfl)) (pgs_cons (pg_name (i := 7) scPaperIn.nd rfl (.inl rfl)) pgs_nil))))
        (pss_cons (ps_set (i := 8) scPaperIn.nd rfl (.inl rfl) (pe_op op_mod (pe_op op_mul (pe_op op_fdiv (pv 2) (pv 7)) (pe_cal CI (hr.mono (by decide)) (by rfl) (pa_cons (pe_op op_fdiv (pv 5) (pv 7)) (pa_cons (pv 6) pa_nil)))) (pv 6)))
        (pss_cons (ps_expr (pe_bm PySem.F.plainAttrs_list PySem.F.slot_list_append PySem.F.type_list_append mt_append (pv 3) (pa_cons (pv 8) pa_nil)))
        (pss_one (ps_aug (i := 2) scPaperIn.nd rfl (.inl rfl) (pe_op op_mul (pv 8) (pv 5)) ip_sub)))))
      (pss_one (ps_ret (pe_tup (pa_cons (pe_op op_fdiv (pv 2) (pe_ix ix_tup (pv 0) pe_int (fun _ _ => rfl))) (StX.pa_star (pe_revL (pv 3)) pa_nil)))))), ?_⟩
    have hlen := hG.len
    have hsm := hG.small
    have bp := hG.gen.pos
    -- number, []
    refine ⟨.int x, rfl, Nat.zero_le _, fun fl nf => ?_⟩
    have s1 : Same H (upd H fl (.lst [])) := same_upd nf
    -- generators[1:]
    refine ⟨.ref a, rfl, 1, rfl, a, _, rfl, .inl (.inl (s1 _ _ hG.at_)), cut_not (k := 1) (by decide) (by rw [List.length_map]; exact Nat.zero_lt_succ _), fun t nt => ?_⟩
    rw [show cutV (iv (b :: bs)) (some 1) none = iv bs from cut_from _ 1]
    have s2 : Same (upd H fl (.lst [])) (upd (upd H fl (.lst [])) t (.tup (iv bs))) := same_upd nt
    -- shares_in, commons_in
    refine ⟨.ref a, rfl, a, b, bs, rfl, hG.same (s1.trans s2), fun H3 l s3 nl el => ?_⟩
    have s03 := (s1.trans s2).trans s3
    refine ⟨.ref a, rfl, a, b, bs, rfl, .inl (.inl (s03 _ _ hG.at_)), hG.nn, hG.len, fun H4 c s4 nc ec => ?_⟩
    have s04 := s03.trans s4
    refine ⟨1, rfl, c, _, rfl, .inl (.inl ec), fun c2 nc2 => ?_⟩
    rw [show cutV (iv (coms b bs)) (some 1) none = (iv (coms b bs)).drop 1 from cut_from _ 1]
    have s5 : Same H4 (upd H4 c2 (.lst ((iv (coms b bs)).drop 1))) := same_upd nc2
    refine ⟨t, l, c2, iv bs, iv (shs b bs), (iv (coms b bs)).drop 1, rfl, .inl (.inl (s5 _ _ (s4 _ _ (s3 _ _ upd_same)))), .inl (.inl (s5 _ _ (s4 _ _ el))), .inl (.inl upd_same), by rw [List.length_map, List.length_map, shs_len], by rw [List.length_drop, List.length_map, List.length_map, coms_len]; omega, fun rw_ ts H6 hz => ?_⟩
    have s06 : Same H H6 := (s04.trans s5).trans hz.same
    have s16 : Same (upd H fl (.lst [])) H6 := (((s2.trans s3).trans s4).trans s5).trans hz.same
    have hts : ts.length = bs.length := by rw [hz.len, List.length_map]
    refine ⟨.int x, .ref fl, .ref rw_, rfl, ?_⟩
    -- rows[::-1]
    refine ⟨.ref rw_, rfl, rw_, _, rfl, .inl (.inl hz.at_), fun rr nr => ?_⟩
    have s7 : Same H6 (upd H6 rr (.lst (ts.map V.ref).reverse)) := same_upd nr
    obtain ⟨H7, hH7⟩ : ∃ H7, H7 = upd H6 rr (.lst (ts.map V.ref).reverse) := ⟨_, rfl⟩
    have er : H7 rr = some (.lst (ts.map V.ref).reverse) := by rw [hH7]; exact upd_same
    rw [← hH7] at s7
    rw [← hH7]
    have s07 := s06.trans s7
    have ef7 : H7 fl = some (.lst []) := s7 _ _ (s16 _ _ upd_same)
    have rfl_ne : rr ≠ fl := fun e => by
      rw [e] at nr
      rw [s16 _ _ upd_same] at nr
      cases nr
    have anf : a ≠ fl := ne_of_none hG.at_ nf
    have lastOne : (coms b bs)[bs.length]? = some 1 := by
      obtain ⟨init, hi⟩ := coms_last bs b
      rw [cl_one _ _ hG.gen.gd] at hi
      have hl : init.length = bs.length := by
        have := coms_len bs b
        rw [hi, List.length_append] at this
        simpa using this
      rw [hi, ← hl]
      simp
    refine ⟨rr, rfl, ⟨_, .inl (.inl er)⟩, for_list (xs := (ts.map V.ref).reverse) (fun i σ H8 => ∃ left ks e y5 y6 y7 y8, σ = [some (.ref a), some (.int x), some (.int left), some (.ref fl), some (.ref rw_), y5, y6, y7, y8] ∧ SameB fl H7 H8 ∧ H8 fl = some (.lst (iv ks.reverse)) ∧
        (coms b bs)[bs.length - i]? = some e ∧ Bnd e (bs.drop (bs.length - i)) ks ∧ e ∣ left ∧ x = left + dot ks (bs.drop (bs.length - i)))
      ⟨x, [], 1, none, none, none, none, rfl, SameB.refl _ _, by exact ef7, lastOne, by rw [Nat.sub_zero, List.drop_length]; trivial, Int.one_dvd _, by rw [dot_nil]; omega⟩ (fun i σ H8 _ hP => ?_) (fun i v σ H8 hx hP => ?_) fun σ H8 hP => ?_⟩
    · obtain ⟨_, _, _, _, _, _, _, _, sb, _⟩ := hP
      exact .inl (.inl (sb _ _ rfl_ne er))
    · obtain ⟨left, ks, e', y5, y6, y7, y8, rfl, sb, ef, he', hb, hd, hq⟩ := hP
      have hi : i < ts.length := by
        have := (List.getElem?_eq_some_iff.mp hx).1
        rwa [List.length_reverse, List.length_map] at this
      -- the place
      obtain ⟨j, hj⟩ : ∃ j, j + 1 = bs.length - i := ⟨bs.length - i - 1, by omega⟩
      have hjl : j < bs.length := by omega
      obtain ⟨y, n, e, e2, at_⟩ := at_of bs b j bp hG.gen.gd hjl
      rw [← hj] at he' hb hq
      have ee : e2 = e' := Option.some.inj (at_.he'.symm.trans he')
      subst ee
      have hv : v = .ref (ts[j]'(by omega)) := by
        rw [List.getElem?_reverse (by rw [List.length_map]; exact hi), List.length_map, List.getElem?_map] at hx
        have e3 : ts.length - 1 - i = j := by omega
        rw [e3, List.getElem?_eq_getElem (by omega)] at hx
        exact (Option.some.inj hx).symm
      subst hv
      have htup : H6 (ts[j]'(by omega)) = some (.tup [.int y, .int n, .int e2]) := hz.tup j _ _ _ _ (List.getElem?_eq_getElem _) (by rw [List.getElem?_map, at_.hx]; rfl) (by rw [List.getElem?_map, at_.hn]; rfl) (by rw [List.getElem?_drop, Nat.add_comm 1 j, List.getElem?_map, at_.he']; rfl)
      have tnf : ts[j]'(by omega) ≠ fl := fun e3 => by
        rw [e3, s16 _ _ upd_same] at htup
        cases htup
      have n2 := at_.n2
      have p' := at_.pos'
      have le := at_.lt
      obtain ⟨lb, nb⟩ := at_.le bp
      refine ⟨_, _, rfl, .inl (.inl (sb _ _ tnf (s7 _ _ htup))), rfl, _, _, rfl, _, _, rfl, _, _, rfl, rfl, ?_⟩
      refine ⟨.int left, rfl, .int e2, rfl, left, e2, rfl, rfl, ⟨p', by omega⟩, .int y, rfl, .int e2, rfl, y, e2, rfl, rfl, ⟨p', by omega⟩, .int n, rfl, y / e2, n, rfl, n2, by omega, at_.cop, fun vv H9 v0 v1 vd s9 => ?_⟩
      obtain ⟨b1, d1, q1⟩ := peel at_ hb hd hq vd
      have m0 := Int.emod_nonneg (left / e2 * vv) (show n ≠ 0 by omega)
      have m1 := Int.emod_lt_of_pos (left / e2 * vv) (show 0 < n by omega)
      refine ⟨left / e2, vv, rfl, rfl, .inr ⟨by omega, by omega⟩, .int n, rfl, _, n, rfl, rfl, by omega, ?_⟩
      have ef9 := s9 _ _ ef
      refine ⟨.ref fl, rfl, .inl ⟨rfl, _, .inl (.inl ef9)⟩, .int (left / e2 * vv % n), rfl, fl, _, _, rfl, rfl, ef9, ?_, ?_⟩
      · rw [List.length_map, List.length_reverse, bnd_len _ _ _ hb, List.length_drop]
        exact small_size (by omega)
      · refine ⟨.int left, rfl, .int (left / e2 * vv % n), rfl, .int y, rfl, _, y, rfl, rfl, .inl ⟨by omega, by omega⟩, left, _, rfl, rfl, ?_⟩
        refine ⟨left - left / e2 * vv % n * y, (left / e2 * vv % n) :: ks, e, _, _, _, _, rfl, ?_, ?_, ?_, ?_, d1, ?_⟩
        · exact (sb.trans (SameB.of s9)).trans SameB.upd
        · rw [upd_same, List.reverse_cons]
          unfold iv
          rw [List.map_append]
          rfl
        · rw [show bs.length - (i + 1) = j by omega]
          exact at_.he
        · rw [show bs.length - (i + 1) = j by omega]
          exact b1
        · rw [show bs.length - (i + 1) = j by omega]
          exact q1
    · obtain ⟨left, ks, e, y5, y6, y7, y8, rfl, sb, ef, he, hb, hd, hq⟩ := hP
      rw [List.length_reverse, List.length_map, hts, Nat.sub_self] at he hb hq
      rw [coms_zero] at he
      have eb : b = e := Option.some.inj he
      subst eb
      have s08 : Same H H8 := Same.b s07 sb nf
      refine ⟨.int left, rfl, .ref a, rfl, a, _, 0, .int b, rfl, rfl, .inl (.inl (s08 _ _ hG.at_)), atI_nat (j := 0) rfl, left, b, rfl, rfl, ⟨bp, by omega⟩, ?_⟩
      refine ⟨.ref fl, rfl, fl, _, rfl, .inl (.inl ef), fun p2 np2 => ?_⟩
      refine ⟨p2, _, rfl, .inr (.inl (.inl upd_same)), ?_, fun p np => ?_⟩
      · rw [List.append_nil, List.length_cons, List.length_reverse, List.length_map, List.length_reverse, bnd_len _ _ _ hb, List.length_drop]
        exact Nat.le_of_lt (small_size (by omega))
      · have e1 : (iv ks.reverse).reverse = iv ks := by
          unfold iv
          rw [← List.map_reverse, List.reverse_reverse]
        refine q _ p (left / b) ks ⟨hb, ?_⟩ (s08.trans ((same_upd np2).trans (same_upd np))) (s08.free ((same_upd np2).free np)) ?_
        · rw [Int.ediv_mul_cancel hd]
          exact hq
        · rw [upd_same, List.append_nil, e1]
          rfl
end
end K33
set_option maxRecDepth 100000
set_option maxHeartbeats 4000000
namespace K33
open PySem PySem.Spec PyProof.Rows L2
/-- each integer has a paper -/
theorem pap_ex' : ∀ (bs : List Int) (e x : Int), 0 < e → Gd e bs → ∃ l ks, Bnd e bs ks ∧ e ∣ l ∧ x = l + dot ks bs
  | [], e, x, he, h => ⟨x, [], trivial, by rw [show e = 1 from h]; exact Int.one_dvd _, by rw [dot_nil]; omega⟩
  | b :: r, e, x, he, h => by
    obtain ⟨l, ks, hb, hd, hx⟩ := pap_ex' r (gc e b) x (gc_pos he) h.2.2
    have n2 := h.2.1
    obtain ⟨v, hv⟩ := inv_ex (n := e / gc e b) (by omega) (gc_cop (b := b) he)
    have hs := step he hd hv
    have h0 := Int.emod_nonneg (l / gc e b * v) (show e / gc e b ≠ 0 by omega)
    have h1 := Int.emod_lt_of_pos (l / gc e b * v) (show 0 < e / gc e b by omega)
    exact ⟨_, _ :: ks, ⟨⟨h0, h1⟩, hb⟩, hs, by rw [dot_cons, hx]; omega⟩
theorem pap_ex {b : Int} {bs : List Int} (g : Gen b bs) (x : Int) : ∃ k ks, Pap b bs x k ks := by
  obtain ⟨l, ks, hb, hd, hx⟩ := pap_ex' bs b x g.pos g.gd
  exact ⟨l / b, ks, hb, by rw [Int.ediv_mul_cancel hd]; exact hx⟩
/-- values near papers -/
inductive Vk (H : Hp) : V → Option (List V) → Prop where
  | tup {t : Addr} {ws : List V} (e : H t = some (.tup ws)) (fl : ∀ v ∈ ws, flat3 v = true) (len : ws.length ≤ 150) : Vk H (.ref t) (some ws)
  | lst {l : Addr} {xs : List V} (e : H l = some (.lst xs)) : Vk H (.ref l) none
  | dk {d : Addr} {kvs : List (Key × V)} (e : H d = some (.dK kvs)) : Vk H (.ref d) none
  | non : Vk H .non none
  | int (i : Int) : Vk H (.int i) none
theorem Vk.same {H H' : Hp} {v : V} {o : Option (List V)} (h : Vk H v o) (s : Same H H') : Vk H' v o := by
  cases h with
  | tup e fl len => exact .tup (s _ _ e) fl len
  | lst e => exact .lst (s _ _ e)
  | dk e => exact .dk (s _ _ e)
  | non => exact .non
  | int i => exact .int i
theorem Vk.isi {K : PySem.W.Frag} {H : Hp} {v : V} {o : Option (List V)} (h : Vk H v o) : ∃ t, TyX K H v t ∧ PySem.W.kitOne K t (.type "tuple") = some o.isSome := by
  cases h with
  | tup e fl => exact ⟨_, .base (.tup e), kit_ty (show kitB "tuple" "tuple" = some true by decide +kernel)⟩
  | lst e => exact ⟨_, .base (.lst e), kit_ty (show kitB "list" "tuple" = some false by decide +kernel)⟩
  | dk e => exact ⟨_, .base (.dK e), kit_ty (show kitB "dict" "tuple" = some false by decide +kernel)⟩
  | non => exact ⟨_, .base .non, kit_ty (show kitB "NoneType" "tuple" = some false by decide +kernel)⟩
  | int i => exact ⟨_, .base (.int i), kit_ty (show kitB "int" "tuple" = some false by decide +kernel)⟩
def isB : V → Bool
  | .bl _ => true
  | _ => false
theorem isi_bool {K : PySem.W.Frag} {H : Hp} {v : V} (h : flat3 v = true) : ∃ t, TyX K H v t ∧ PySem.W.kitOne K t (.type "bool") = some (isB v) := by
  cases v with
  | non => exact ⟨_, .base .non, kit_ty (by decide +kernel)⟩
  | bl b => exact ⟨_, .base (.bl b), kit_ty (show kitB "bool" "bool" = some true by decide +kernel)⟩
  | int i => exact ⟨_, .base (.int i), kit_ty (show kitB "int" "bool" = some false by decide +kernel)⟩
  | _ => cases h
theorem isB_iff {v : V} : isB v = true ↔ ∃ b, v = .bl b := by
  cases v <;> simp [isB]
/-- what is_order_paper answers -/
def isPapB (k : Int) (ks : List Int) : Option (List V) → Bool
  | some ws => decide (ws = iv (k :: ks))
  | none => false
section
variable {P : Program} {w : World} {K : PySem.W.Frag} {mg : Str → Option Value} {base : Heap}
/-! ### is_order, order_paper -/
def spIsOrder (K : PySem.W.Frag) : Sp := fun vs H Q _ => ∃ (a : Addr) (b : Int) (bs : List Int) (x : Int), vs = [.ref a, .int x] ∧ GOk K H a b bs ∧ InG x ∧ ∀ H' k ks, Pap b bs x k ks → Same H H' → Q (.bl (decide (0 ≤ k))) H'
theorem ok_isOrder {f : Addr} {fd : FuncData} (F : Fun K "is_order" "is_order" sIsOrder f fd) (CR : Cal P w K mg base 4 "require_generators" ["value"] (spReqGen K)) (CN : Cal P w K mg base 3 "require_number" ["value"] spReqNum)
    (C : Cal P w K mg base 4 "paper_in" ["generators", "number"] (spPaper K)) : FnOk P w K mg base CX0 5 f fd ["generators", "number"] (spIsOrder K) := by
  refine F.ok (k := 4) scIsOrder (fun vs H Q E h => ?_) (fun cdv A outer s H vs Q E hr h => ?_)
  · obtain ⟨a, b, bs, x, rfl, _⟩ := h
    rfl
  · obtain ⟨a, b, bs, x, rfl, hG, hx, q⟩ := h
    refine ⟨_, pss_cons (ps_expr (pe_cal CR hr (by rfl) (pa_cons (pv 0) pa_nil))) (pss_cons (ps_expr (pe_cal CN (hr.mono (by decide)) (by rfl) (pa_cons (pv 1) pa_nil)))
      (pss_one (ps_ret (pe_cmpR op_ge (pe_ix ix_tup (pe_cal C hr (by rfl) (pa_cons (pv 0) (pa_cons (pv 1) pa_nil))) pe_int (fun _ _ => rfl)) pe_int (nomark _))))), ?_⟩
    refine ⟨.ref a, rfl, a, b, bs, rfl, hG, fun H1 s1 => ?_⟩
    refine ⟨.int x, rfl, x, rfl, hx, ?_⟩
    refine ⟨.ref a, rfl, .int x, rfl, a, b, bs, x, rfl, hG.same s1, fun H2 p k ks hp s2 np ep => ?_⟩
    exact ⟨p, _, 0, .int k, rfl, rfl, .inl (.inl ep), atI_nat (j := 0) rfl, k, 0, rfl, rfl, q H2 k ks hp (s1.trans s2)⟩
def spOrderPaper (K : PySem.W.Frag) : Sp := fun vs H Q _ => ∃ (a : Addr) (b : Int) (bs : List Int) (x : Int), vs = [.ref a, .int x] ∧ GOk K H a b bs ∧ InG x ∧ ∀ H' p k ks, Pap b bs x k ks → Same H H' → H p = none → H' p = some (.tup (iv (k :: ks))) → Q (.ref p) H'
theorem ok_orderPaper {f : Addr} {fd : FuncData} (F : Fun K "order_paper" "order_paper" sOrderPaper f fd) (CR : Cal P w K mg base 4 "require_generators" ["value"] (spReqGen K)) (CN : Cal P w K mg base 3 "require_number" ["value"] spReqNum)
    (C : Cal P w K mg base 4 "paper_in" ["generators", "number"] (spPaper K)) : FnOk P w K mg base CX0 5 f fd ["generators", "number"] (spOrderPaper K) := by
  refine F.ok (k := 4) scOrderPaper (fun vs H Q E h => ?_) (fun cdv A outer s H vs Q E hr h => ?_)
  · obtain ⟨a, b, bs, x, rfl, _⟩ := h
    rfl
  · obtain ⟨a, b, bs, x, rfl, hG, hx, q⟩ := h
    refine ⟨_, pss_cons (ps_expr (pe_cal CR hr (by rfl) (pa_cons (pv 0) pa_nil))) (pss_cons (ps_expr (pe_cal CN (hr.mono (by decide)) (by rfl) (pa_cons (pv 1) pa_nil)))
      (pss_one (ps_ret (pe_cal C hr (by rfl) (pa_cons (pv 0) (pa_cons (pv 1) pa_nil)))))), ?_⟩
    refine ⟨.ref a, rfl, a, b, bs, rfl, hG, fun H1 s1 => ?_⟩
    refine ⟨.int x, rfl, x, rfl, hx, ?_⟩
    exact ⟨.ref a, rfl, .int x, rfl, a, b, bs, x, rfl, hG.same s1, fun H2 p k ks hp s2 np ep => q H2 p k ks hp (s1.trans s2) (s1.free np) ep⟩
/-! ### is_order_paper -/
def spIsPaper (K : PySem.W.Frag) : Sp := fun vs H Q _ => ∃ (a : Addr) (b : Int) (bs : List Int) (x : Int) (v : V) (o : Option (List V)), vs = [.ref a, .int x, v] ∧ GOk K H a b bs ∧ InG x ∧ Vk H v o ∧
  ∀ H' k ks, Pap b bs x k ks → Same H H' → Q (.bl (isPapB k ks o)) H'
theorem ok_isPaper {f : Addr} {fd : FuncData} (F : Fun K "is_order_paper" "is_order_paper" sIsPaper f fd) (T : Txt K mg) (CR : Cal P w K mg base 4 "require_generators" ["value"] (spReqGen K)) (CN : Cal P w K mg base 3 "require_number" ["value"] spReqNum)
    (C : Cal P w K mg base 4 "paper_in" ["generators", "number"] (spPaper K)) : FnOk P w K mg base CX0 5 f fd ["generators", "number", "value"] (spIsPaper K) := by
  refine F.ok (k := 4) scIsPaper (fun vs H Q E h => ?_) (fun cdv A outer s H vs Q E hr h => ?_)
  · obtain ⟨a, b, bs, x, v, o, rfl, _⟩ := h
    rfl
  · obtain ⟨a, b, bs, x, v, o, rfl, hG, hx, hv, q⟩ := h
    refine ⟨_, pss_cons (ps_expr (pe_cal CR hr (by rfl) (pa_cons (pv 0) pa_nil))) (pss_cons (ps_expr (pe_cal CN (hr.mono (by decide)) (by rfl) (pa_cons (pv 1) pa_nil)))
      (pss_cons (ps_if (PW.pt (pw_or (pt_not (pt_val (pe_callB call_isi (by rfl) T.isi boot_isi (pa_cons (pv 2) (pa_cons (pe_bltn (v := .ty "tuple") (by rfl) T.tuple boot_tuple' rfl) pa_nil)))))
          (pw_or1 (pt_val (pe_callB (cr_any rfl) (by rfl) T.any boot_any' (pa_cons
            (pe_lc (own := [("many", 3)]) (g := gName 3) (tt := tYes) (te := tCB (rIsi K) (tCons (tVar 3) (tCons (tC (.ty "bool")) tNil))) (by rfl) scIsPaper.nd (pi_tup (pv 2)) (blkOk_by (N := nmIsPaper) (sc := defScope sIsPaper) (by decide +kernel))
              (fun _ _ _ _ _ => pg_name (i := 3) scIsPaper.nd rfl (.inl rfl)) (fun _ _ _ _ _ => pts_nil)
              (fun _ _ _ _ _ => pe_callB call_isi (by rfl) T.isi boot_isi (pa_cons (pv 3) (pa_cons (pe_bltn (v := .ty "bool") (by rfl) T.bool boot_bool' rfl) pa_nil)))) pa_nil)))))) (pss_one (ps_ret pe_bl)) pss_nil)
      (pss_one (ps_ret (pe_cmpR (op_eqD hr.units) (pv 2) (pe_cal C hr (by rfl) (pa_cons (pv 0) (pa_cons (pv 1) pa_nil))) (nomark _)))))), ?_⟩
    refine ⟨.ref a, rfl, a, b, bs, rfl, hG, fun H1 s1 => ?_⟩
    refine ⟨.int x, rfl, x, rfl, hx, ?_⟩
    have hv1 := hv.same s1
    obtain ⟨t, ty, kt⟩ := hv1.isi (K := K)
    refine ⟨v, rfl, v, .ty "tuple", t, .type "tuple", o.isSome, rfl, .ty _, ty, kt, o.isSome, rfl, ?_⟩
    obtain ⟨k, ks, hp⟩ := pap_ex hG.gen x
    cases o with
    | none => exact iteT (B := True) (iteT (B := True) (q H1 k ks hp s1))
    | some ws =>
      refine iteF (A := True) ?_
      cases hv1 with
      | @tup t1 _ e fl hlen =>
        refine ⟨.ref t1, rfl, t1, rfl, ⟨_, .inl (.inl e)⟩, fun D nD => ?_⟩
        refine lc_it (walk_tup (K := K) (a := t1) (xs := ws)) (fun i H3 => Same H1 H3 ∧ H3 D = some (.lst (((ws.map isB).take i).map V.bl))) ⟨same_upd nD, upd_same⟩ (fun i H3 _ hP => .inl (.inl (hP.1 _ _ e)))
          (fun i y H3 H4 hi hP hy => ?_) fun H3 hP => ?_
        · obtain ⟨rfl, hy⟩ := hy
          obtain ⟨ty3, tx3, kt3⟩ := isi_bool (K := K) (H := H4) (fl y (List.mem_of_getElem? hy))
          refine ⟨rfl, ?_⟩
          refine iteT (B := True) ⟨y, rfl, y, .ty "bool", ty3, .type "bool", isB y, rfl, .ty _, tx3, kt3, _, hP.2, ?_, ?_⟩
          · rw [List.length_map, List.length_take, List.length_map]
            exact small_size (by omega)
          · refine ⟨fun z o e3 => ?_, ?_⟩
            · rw [upd_ne (ne_of_none e3 nD)]
              exact hP.1 _ _ e3
            · rw [upd_same, List.take_add_one, List.getElem?_map, hy, List.map_append]
              rfl
        · obtain ⟨s3, e3⟩ := hP
          rw [List.take_of_length_le (by rw [List.length_map]; exact Nat.le_refl _)] at e3
          have s03 := s1.trans s3
          refine ⟨D, ws.map isB, rfl, .inl (.inl e3), _, rfl, ite2 (fun c => ?_) (fun c => ?_)⟩
          · -- a bool within
            obtain ⟨y, hy, hb⟩ := List.any_eq_true.mp c
            obtain ⟨u, hu, rfl⟩ := List.mem_map.mp hy
            obtain ⟨bb, rfl⟩ := isB_iff.mp hb
            have e4 : isPapB k ks (some ws) = false := by
              unfold isPapB
              refine decide_eq_false fun z => ?_
              rw [z] at hu
              exact nobl_iv _ _ hu bb rfl
            have := q H3 k ks hp s03
            rw [e4] at this
            exact this
          · have nb : ∀ u ∈ ws, ∀ bb, u ≠ .bl bb := fun u hu bb z => c (List.any_eq_true.mpr ⟨isB u, List.mem_map.mpr ⟨u, hu, rfl⟩, by rw [z]; rfl⟩)
            refine ⟨.ref t1, rfl, .ref a, rfl, .int x, rfl, a, b, bs, x, rfl, hG.same s03, fun H4 p k ks hp s4 np ep => ?_⟩
            refine ⟨.tuple (ws.map dOf), .tuple ((iv (k :: ks)).map dOf), .tup (.inl (.inl (s4 _ _ (s3 _ _ e)))) (dpAll_flat fl), .tup (.inl (.inl ep)) (dpAll_flat (flat_iv _)), shaped_tup _, shaped_tup _, ?_⟩
            rw [eqv_tup _ _ fl nb]
            exact q H4 k ks hp (s03.trans s4)
end
end K33
set_option maxRecDepth 100000
set_option maxHeartbeats 4000000
namespace K33
open PySem PySem.Spec PyProof.Rows L2
theorem boot_max' : bootBuiltins "max" = some (.builtin "max") := by decide +kernel
theorem boot_min' : bootBuiltins "min" = some (.builtin "min") := by decide +kernel
theorem boot_abs' : bootBuiltins "abs" = some (.builtin "abs") := by decide +kernel
abbrev wideM : Int := (10 : Int) ^ (60 : Int).toNat * (10 : Int) ^ (60 : Int).toNat
/-- the dice: a list of three ints -/
def DiceO (o : HO) : Prop := ∃ x y z : Int, o = .lst [.int x, .int y, .int z] ∧ 0 ≤ x ∧ x < wideM
def DiceAt (H : Hp) (p : Addr) : Prop := ∃ o, H p = some o ∧ DiceO o
theorem wideM_pos : 0 < wideM := by decide +kernel
theorem pow60 : ((10 : Int) ^ (60 : Int).toNat).natAbs < 2 ^ 200 := by decide +kernel
section
variable {P : Program} {w : World} {K : PySem.W.Frag} {mg : Str → Option Value} {base : Heap}
/-! ### _law_dice -/
def spDice (K : PySem.W.Frag) : Sp := fun vs H Q _ => ∃ (s : Addr) (ns : List Int) (i : Nat), vs = [.ref s, .int i] ∧ SqL K H s (iv ns) ∧ i ≤ 3 ∧ ∀ p o, H p = none → DiceO o → Q (.ref p) (upd H p o)
theorem ok_dice {f : Addr} {fd : FuncData} (F : Fun K "_law_dice" "_law_dice" sDice f fd) (T : Txt K mg) : FnOk P w K mg base CX0 1 f fd ["_law_script", "_law_spot"] (spDice K) := by
  refine F.ok (k := 0) scDice (fun vs H Q E h => ?_) (fun cdv A outer s H vs Q E hr h => ?_)
  · obtain ⟨a, ns, i, rfl, _⟩ := h
    rfl
  · obtain ⟨a, ns, i, rfl, hS, hi, q⟩ := h
    refine ⟨_, C8.pss_cut (ps_set (i := 2) scDice.nd rfl (.inl rfl) (pe_ifExp (pt_cmpR op_lt (pv 1) (pe_callB call_len_seq (by rfl) T.len PySem.boot_len (pa_cons (pv 0) pa_nil)) (nomark _))
        (pe_callTy call_int1 (by rfl) T.int boot_int' (pa_cons (pe_ix ix_list (pv 0) (pv 1) (fun _ _ => rfl)) pa_nil)) (pe_op op_add (pe_op op_mul pe_int (pv 1)) pe_int)))
      (C8.pss_cut (ps_set (i := 3) scDice.nd rfl (.inl rfl) (pe_op op_mod (pe_callB (call_max2 rfl) (by rfl) T.max boot_max' (pa_cons pe_int (pa_cons (pe_op op_sub (pe_callB call_abs (by rfl) T.abs boot_abs' (pa_cons (pv 2) pa_nil)) (pe_op op_pow pe_int pe_int)) pa_nil)))
        (pe_op op_mulW (pe_op op_pow pe_int pe_int) (pe_op op_pow pe_int pe_int))))
      (pss_one (ps_ret (pe_lst (pa_cons (pv 3) (pa_cons (pe_op op_add (pe_op op_add (pe_op op_add (pe_op op_mul (pe_op op_mod (pe_callB call_abs (by rfl) T.abs boot_abs' (pa_cons (pv 2) pa_nil)) pe_int) pe_int) (pe_op op_mul pe_int (pv 1)))
        (pe_op op_mul pe_int (pe_callTy call_int1 (by rfl) T.int boot_int' (pa_cons (pe_cmpR op_lt (pv 2) pe_int (nomark _)) pa_nil)))) pe_int) (pa_cons pe_int pa_nil))))))), ?_⟩
    refine ⟨fun σ H' => ∃ c : Int, σ = [some (.ref a), some (.int i), some (.int c), none] ∧ H' = H, ?_, fun σ H' hM => ?_⟩
    · refine ⟨.int i, rfl, .ref a, rfl, a, iv ns, rfl, .inl hS, _, _, rfl, rfl, _, rfl, ite2 (fun c => ?_) (fun c => ?_)⟩
      · have c1 : (i : Int) < ((iv ns).length : Int) := of_decide_eq_true c
        rw [List.length_map] at c1
        have c2 : i < ns.length := by omega
        exact ⟨.ref a, rfl, .int i, rfl, a, _, _, _, rfl, rfl, hS, atI_nat (iv_get c2), .inl ⟨ns[i], rfl, ns[i], rfl, rfl⟩⟩
      · exact ⟨.int i, rfl, 83, _, rfl, rfl, .inl ⟨by decide, by decide⟩, _, 29, rfl, rfl, _, rfl, rfl⟩
    · obtain ⟨c, rfl, rfl⟩ := hM
      have cp : CPow 10 16 := ⟨by decide, by decide, by decide⟩
      have cp2 : CPow 10 60 := ⟨by decide, by decide, by decide⟩
      refine ⟨fun σ H2 => ∃ l : Int, σ = [some (.ref a), some (.int i), some (.int c), some (.int l)] ∧ H2 = H' ∧ 0 ≤ l ∧ l < wideM, ?_, fun σ H2 hM => ?_⟩
      · refine ⟨.int c, rfl, c, rfl, 10, 16, rfl, rfl, cp, _, _, rfl, rfl, 0, _, rfl, 10, 60, rfl, rfl, cp2, 10, 60, rfl, rfl, cp2, _, _, rfl, rfl, wide_mul pow60 pow60 (by decide) (by decide) (by decide), _, wideM, rfl, rfl, wideM_pos, _, rfl, rfl, ?_, ?_⟩
        · exact Int.emod_nonneg _ (Int.ne_of_gt wideM_pos)
        · exact Int.emod_lt_of_pos _ wideM_pos
      · obtain ⟨l, rfl, rfl, l0, l1⟩ := hM
        refine ⟨.int l, rfl, .int c, rfl, c, rfl, _, 1152921504606846899, rfl, rfl, (show (0 : Int) < 1152921504606846899 by decide), _, 47, rfl, rfl, .inr ⟨by decide, by decide⟩, .int i, rfl, 839, _, rfl, rfl, .inl ⟨by decide, by decide⟩, _, _, rfl, rfl, .int c, rfl, c, 0, rfl, rfl,
          .inr ⟨_, rfl, 41, _, rfl, rfl, .inl ⟨by decide, by decide⟩, _, _, rfl, rfl, _, 7, rfl, rfl, (show 3 ≤ sizeLine by decide), fun p np => q p _ np ⟨l, _, 0, rfl, l0, l1⟩⟩⟩
/-! ### _law_roll -/
def spRoll : Sp := fun vs H Q _ => ∃ (p : Addr) (t : Int), vs = [.ref p, .int t] ∧ DiceAt H p ∧ 0 < t ∧ t.natAbs < 2 ^ 140 ∧ ∀ r o, 0 ≤ r → r < t → DiceO o → Q (.int r) (upd H p o)
theorem ok_roll {f : Addr} {fd : FuncData} (F : Fun K "_law_roll" "_law_roll" sRoll f fd) (T : Txt K mg) : FnOk P w K mg base CX0 1 f fd ["_law_dice_here", "_law_total"] spRoll := by
  refine F.ok (k := 0) scRoll (fun vs H Q E h => ?_) (fun cdv A outer s H vs Q E hr h => ?_)
  · obtain ⟨p, t, rfl, _⟩ := h
    rfl
  · obtain ⟨p, t, rfl, ⟨_, hp, x, y, z, rfl, x0, x1⟩, t0, t1, q⟩ := h
    refine ⟨_, pss_cons (ps_if (pt_cmpR op_gt (pe_ix ix_list (pv 0) pe_int (fun _ _ => rfl)) pe_int (nomark _))
        (pss_cons (ps_set (i := 2) scRoll.nd rfl (.inl rfl) (pe_op op_mod (pe_callTy call_int1 (by rfl) T.int boot_int' (pa_cons (pe_ix ix_list (pv 0) pe_int (fun _ _ => rfl)) pa_nil)) (pv 1)))
        (pss_cons (ps_asg (pe_op op_fdivW (pe_ix ix_list (pv 0) pe_int (fun _ _ => rfl)) (pv 1)) (pg_sub (pv 0) pe_int set_list))
        (pss_one (ps_ret (pv 2))))) pss_nil)
      (pss_cons (ps_asg (pe_op op_add (pe_ix ix_list (pv 0) pe_int (fun _ _ => rfl)) pe_int) (pg_sub (pv 0) pe_int set_list))
      (C8.pss_cut (ps_set (i := 3) scRoll.nd rfl (.inl rfl) (pe_op op_mod (pe_callTy call_int1 (by rfl) T.int boot_int' (pa_cons (pe_op op_add (pe_ix ix_list (pv 0) pe_int (fun _ _ => rfl)) (pe_op op_mul pe_int (pe_ix ix_list (pv 0) pe_int (fun _ _ => rfl)))) pa_nil)) pe_int))
      (pss_cons (ps_set (i := 4) scRoll.nd rfl (.inl rfl) (pe_op op_add (pe_op op_mul (pe_op op_mod (pe_callTy call_int1 (by rfl) T.int boot_int' (pa_cons (pe_op op_add (pe_op op_mul (pv 3) (pv 3)) (pe_op op_mul pe_int (pe_ix ix_list (pv 0) pe_int (fun _ _ => rfl)))) pa_nil)) pe_int) pe_int) (pv 3)))
      (pss_one (ps_ret (pe_op op_mod (pe_callTy call_int1 (by rfl) T.int boot_int' (pa_cons (pe_op op_fdiv (pv 4) pe_int) pa_nil)) (pv 1))))))), ?_⟩
    have hq : SqL K H p [.int x, .int y, .int z] := .inl (.inl hp)
    refine ⟨.ref p, rfl, p, _, 0, .int x, rfl, rfl, hq, atI_nat (j := 0) rfl, x, 0, rfl, rfl, _, rfl, ite2 (fun c => ?_) (fun c => ?_)⟩
    · refine ⟨.ref p, rfl, p, _, 0, .int x, rfl, rfl, hq, atI_nat (j := 0) rfl, .inl ⟨x, rfl, .int t, rfl, x, t, rfl, rfl, t0, ?_⟩⟩
      refine ⟨.ref p, rfl, p, _, 0, .int x, rfl, rfl, hq, atI_nat (j := 0) rfl, .int t, rfl, x, t, rfl, rfl, wide_div t0 t1 (by decide) (by decide), .ref p, rfl, p, _, 0, 0, rfl, rfl, hp, rfl, .int (x % t), rfl, ?_⟩
      refine q _ _ (Int.emod_nonneg _ (by omega)) (Int.emod_lt_of_pos _ t0) ⟨x / t, y, z, rfl, Int.ediv_nonneg x0 (by omega), ?_⟩
      exact Int.lt_of_le_of_lt (Int.ediv_le_self _ x0) x1
    · have hq2 : SqL K (upd H p (.lst [.int x, .int y, .int (z + 1)])) p [.int x, .int y, .int (z + 1)] := .inl (.inl upd_same)
      refine ⟨.ref p, rfl, p, _, 2, .int z, rfl, rfl, hq, atI_nat (j := 2) rfl, z, 1, rfl, rfl, .ref p, rfl, p, _, 2, 2, rfl, rfl, hp, rfl, ?_⟩
      refine ⟨fun σ H' => ∃ one : Int, σ = [some (.ref p), some (.int t), none, some (.int one), none] ∧ H' = upd H p (.lst [.int x, .int y, .int (z + 1)]) ∧ 0 ≤ one ∧ one < 2305843009213693907, ?_, fun σ H' hM => ?_⟩
      · refine ⟨.ref p, rfl, p, _, 1, .int y, rfl, rfl, hq2, atI_nat (j := 1) rfl, .ref p, rfl, p, _, 2, .int (z + 1), rfl, rfl, hq2, atI_nat (j := 2) rfl, 32452867, z + 1, rfl, rfl, .inl ⟨by decide, by decide⟩, _, _, rfl, rfl, .inl ⟨_, rfl, _, 2305843009213693907, rfl, rfl, (show (0 : Int) < 2305843009213693907 by decide), _, rfl, rfl, ?_, ?_⟩⟩
        · exact Int.emod_nonneg _ (by decide)
        · exact Int.emod_lt_of_pos _ (by decide)
      · obtain ⟨one, rfl, rfl, o0, o1⟩ := hM
        refine ⟨.int one, rfl, .int one, rfl, one, one, rfl, rfl, .inl ⟨by omega, by omega⟩, .ref p, rfl, p, _, 2, .int (z + 1), rfl, rfl, hq2, atI_nat (j := 2) rfl, 97, z + 1, rfl, rfl, .inl ⟨by decide, by decide⟩, _, _, rfl, rfl,
          .inl ⟨_, rfl, _, 2305843009213693921, rfl, rfl, (show (0 : Int) < 2305843009213693921 by decide), _, 6700417, rfl, rfl, .inr ⟨by decide, by decide⟩, .int one, rfl, _, one, rfl, rfl, ?_⟩⟩
        refine ⟨_, rfl, _, 65536, rfl, rfl, ⟨by decide, by decide⟩, .inl ⟨_, rfl, .int t, rfl, _, t, rfl, rfl, t0, ?_⟩⟩
        exact q _ _ (Int.emod_nonneg _ (by omega)) (Int.emod_lt_of_pos _ t0) ⟨x, y, z + 1, rfl, x0, x1⟩
/-! ### _law_pick -/
def spPick (K : PySem.W.Frag) : Sp := fun vs H Q _ => ∃ (p l : Addr) (ns : List Int), vs = [.ref p, .ref l] ∧ DiceAt H p ∧ l ≠ p ∧ SqL K H l (iv ns) ∧ 0 < ns.length ∧ ns.length ≤ 1000 ∧ ∀ r o, r ∈ ns → DiceO o → Q (.int r) (upd H p o)
theorem ok_pick {f : Addr} {fd : FuncData} (F : Fun K "_law_pick" "_law_pick" sPick f fd) (T : Txt K mg) (C : Cal P w K mg base 1 "_law_roll" ["_law_dice_here", "_law_total"] spRoll) : FnOk P w K mg base CX0 2 f fd ["_law_dice_here", "_law_items"] (spPick K) := by
  refine F.ok (k := 1) scPick (fun vs H Q E h => ?_) (fun cdv A outer s H vs Q E hr h => ?_)
  · obtain ⟨p, l, ns, rfl, _⟩ := h
    rfl
  · obtain ⟨p, l, ns, rfl, hd, ne, hS, l0, l1, q⟩ := h
    refine ⟨_, pss_one (ps_ret (pe_ix ix_list (pv 1) (pe_cal C hr (by rfl) (pa_cons (pv 0) (pa_cons (pe_callB call_len_seq (by rfl) T.len PySem.boot_len (pa_cons (pv 1) pa_nil)) pa_nil))) (fun _ _ => rfl))), ?_⟩
    have el : (iv ns).length = ns.length := List.length_map _
    refine ⟨.ref l, rfl, .ref p, rfl, .ref l, rfl, l, iv ns, rfl, .inl hS, p, _, rfl, hd, by rw [el]; omega, ?_, fun r o r0 r1 ho => ?_⟩
    · rw [el, Int.natAbs_natCast]
      exact Nat.lt_of_le_of_lt l1 (by decide)
    · rw [el] at r1
      obtain ⟨j, rfl⟩ := Int.eq_ofNat_of_zero_le r0
      have hj : j < ns.length := by omega
      exact ⟨l, _, _, _, rfl, rfl, SameB.upd.seq ne hS, atI_nat (iv_get hj), q _ o (List.getElem_mem hj) ho⟩
end
end K33
/-! k33: the plain law, generators as they are drawn. -/
namespace K33
def pr : List Int → Int
  | [] => 1
  | s :: r => s * pr r
theorem foldl_pr : ∀ (l : List Int) (a : Int), l.foldl (· * ·) a = a * pr l
  | [], a => by show a = a * 1; omega
  | s :: r, a => by
    rw [List.foldl_cons, foldl_pr r]
    show a * s * pr r = a * (s * pr r)
    rw [Int.mul_assoc]
theorem pr_pos : ∀ (l : List Int), (∀ s ∈ l, 2 ≤ s ∧ s ≤ 5) → 0 < pr l
  | [], _ => by decide
  | s :: r, h => Int.mul_pos (by have := h s List.mem_cons_self; omega) (pr_pos r fun x hx => h x (List.mem_cons_of_mem _ hx))
theorem pr_le : ∀ (l : List Int), (∀ s ∈ l, 2 ≤ s ∧ s ≤ 5) → pr l ≤ 5 ^ l.length
  | [], _ => by decide
  | s :: r, h => by
    have h1 := h s List.mem_cons_self
    have h2 := pr_le r fun x hx => h x (List.mem_cons_of_mem _ hx)
    have h3 := pr_pos r fun x hx => h x (List.mem_cons_of_mem _ hx)
    have h4 : s * pr r ≤ 5 * pr r := Int.mul_le_mul_of_nonneg_right h1.2 (Int.le_of_lt h3)
    show s * pr r ≤ 5 ^ (r.length + 1)
    rw [Int.pow_succ]
    omega
/-- the beginning of good generators, with the divisor reached -/
def GdP : Int → List Int → Int → Prop
  | e, [], e' => e = e'
  | e, b :: r, e' => 0 < b ∧ 2 ≤ e / gc e b ∧ GdP (gc e b) r e'
theorem GdP.gd : ∀ {bs : List Int} {e : Int}, GdP e bs 1 → Gd e bs
  | [], _, h => h
  | _ :: _, _, h => ⟨h.1, h.2.1, GdP.gd h.2.2⟩
theorem GdP.snoc : ∀ {bs : List Int} {e e' b : Int}, GdP e bs e' → 0 < b → 2 ≤ e' / gc e' b → GdP e (bs ++ [b]) (gc e' b)
  | [], e, e', b, h, h1, h2 => by
    have h : e = e' := h
    subst h
    exact ⟨h1, h2, rfl⟩
  | c :: r, e, e', b, h, h1, h2 => ⟨h.1, h.2.1, h.2.2.snoc h1 h2⟩
def UpP : Int → Int → List Int → Int → Prop
  | L, _, [], L' => L = L'
  | L, e, b :: r, L' => L < b ∧ UpP (b * (e / gc e b)) (gc e b) r L'
theorem UpP.up : ∀ {bs : List Int} {L e L' : Int}, UpP L e bs L' → Up L e bs
  | [], _, _, _, _ => trivial
  | _ :: _, _, _, _, h => ⟨h.1, h.2.up⟩
theorem UpP.snoc : ∀ {bs : List Int} {L e e' L' b : Int}, UpP L e bs L' → GdP e bs e' → L' < b → UpP L e (bs ++ [b]) (b * (e' / gc e' b))
  | [], L, e, e', L', b, h, g, h1 => by
    have h : L = L' := h
    have g : e = e' := g
    subst h g
    exact ⟨h1, rfl⟩
  | c :: r, L, e, e', L', b, h, g, h1 => ⟨h.1, h.2.snoc g.2.2 h1⟩
theorem UpP.top : ∀ {bs : List Int} {L e L' c : Int}, UpP L e bs L' → c ≤ L → c + top e bs ≤ L'
  | [], L, e, L', c, h, hc => by
    have h : L = L' := h
    show c + 0 ≤ L'
    omega
  | b :: r, L, e, L', c, h, hc => by
    have h1 := h.1
    have ih := h.2.top (c := c + (e / gc e b - 1) * b) (by
      rw [Int.sub_mul, Int.mul_comm b]
      omega)
    show c + ((e / gc e b - 1) * b + K33.top (gc e b) r) ≤ L'
    omega
theorem top_nn : ∀ (bs : List Int) (e : Int), Gd e bs → 0 ≤ top e bs
  | [], _, _ => Int.le_refl _
  | b :: r, e, h => by
    have h1 := top_nn r _ h.2.2
    have h2 : 0 ≤ (e / gc e b - 1) * b := Int.mul_nonneg (by have := h.2.1; omega) (Int.le_of_lt h.1)
    show 0 ≤ (e / gc e b - 1) * b + top (gc e b) r
    omega
theorem lastG_lo {b : Int} {bs : List Int} (g : Gen b bs) : -1 ≤ lastG b bs := by
  cases bs with
  | nil =>
    have h : b = 1 := g.gd
    show -1 ≤ top b [] - b
    rw [h]
    decide
  | cons c r =>
    have h1 := top_nn r _ g.gd.2.2
    have h2 : 1 * c ≤ (b / gc b c - 1) * c := Int.mul_le_mul_of_nonneg_right (by have := g.gd.2.1; omega) (Int.le_of_lt g.gd.1)
    have h3 := g.up.1
    show -1 ≤ (b / gc b c - 1) * c + top (gc b c) r - b
    omega
/-- one of s integers in a row is coprime to s -/
theorem cop_near {n s : Int} (hs : 2 ≤ s) (hn : 0 ≤ n) : ∃ j : Nat, (j : Int) < s ∧ Int.gcd (n + j) s = 1 := by
  have h0 := Int.emod_nonneg (1 - n) (show s ≠ 0 by omega)
  have h1 := Int.emod_lt_of_pos (1 - n) (show 0 < s by omega)
  refine ⟨((1 - n) % s).toNat, by omega, ?_⟩
  rw [Int.toNat_of_nonneg h0]
  have e := Int.emod_add_mul_ediv (1 - n) s
  have e2 : n + (1 - n) % s = 1 + -((1 - n) / s) * s := by
    rw [Int.neg_mul, Int.mul_comm]
    omega
  rw [e2, Int.gcd_comm, Int.gcd_add_mul_right_right]
  exact Int.gcd_one_right s
theorem gc_scaled {s n e : Int} (he : 0 < e) (h : Int.gcd n s = 1) : gc (s * e) (n * e) = e := by
  unfold gc
  rw [Int.gcd_mul_right, Int.gcd_comm, h]
  omega
/-- the next drawn one -/
theorem drawn_next {b0 L e s e2 n : Int} {bs : List Int} (gp : GdP b0 bs e) (up : UpP b0 b0 bs L) (es : e = s * e2) (p2 : 0 < e2) (s2 : 2 ≤ s) (L0 : 0 < L) (hn : L / e2 + 1 ≤ n) (hc : Int.gcd n s = 1) :
    0 < n * e2 ∧ L < n * e2 ∧ GdP b0 (bs ++ [n * e2]) e2 ∧ UpP b0 b0 (bs ++ [n * e2]) (n * e2 * s) := by
  have g : gc e (n * e2) = e2 := by
    rw [es]
    exact gc_scaled p2 hc
  have q : e / e2 = s := by
    rw [es]
    exact Int.mul_ediv_cancel _ (by omega)
  have lt : L < n * e2 := by
    have h1 := Int.emod_add_mul_ediv L e2
    have h2 := Int.emod_lt_of_pos L p2
    have h3 : (L / e2 + 1) * e2 ≤ n * e2 := Int.mul_le_mul_of_nonneg_right hn (Int.le_of_lt p2)
    rw [Int.add_mul, Int.mul_comm (L / e2)] at h3
    omega
  have p : 0 < n * e2 := by omega
  have a := gp.snoc p (by rw [g, q]; exact s2)
  have c := up.snoc gp lt
  rw [g] at a
  rw [g, q] at c
  exact ⟨p, lt, a, c⟩
end K33
set_option maxRecDepth 100000
set_option maxHeartbeats 4000000
namespace K33
open PySem PySem.Spec PyProof.Rows L2
/-- drawn generators -/
structure GL (K : PySem.W.Frag) (H : Hp) (t : Addr) (b : Int) (bs : List Int) : Prop where
  ok : GOk K H t b bs
  len : bs.length ≤ 3
  sm : ∀ x ∈ b :: bs, x ≤ 10000000
  last : lastG b bs ≤ 2000000
theorem ing_small {x : Int} (h0 : 0 < x) (h1 : x ≤ 10000000) : InG x := by
  constructor
  · show -(1000000000000000000000000000000000000000000000000000000000000 : Int) < x
    omega
  · show x < 1000000000000000000000000000000000000000000000000000000000000
    omega
theorem pow8 (i : Nat) : (1 : Int) ≤ 8 ^ i := by
  induction i with
  | zero => decide
  | succ i ih => rw [Int.pow_succ]; omega
section
variable {P : Program} {w : World} {K : PySem.W.Frag} {mg : Str → Option Value} {base : Heap}
theorem DiceAt.same {H H' : Hp} {p : Addr} (h : DiceAt H p) (s : Same H H') : DiceAt H' p := by
  obtain ⟨o, e, d⟩ := h
  exact ⟨o, s _ _ e, d⟩
theorem DiceAt.set {H : Hp} {p : Addr} {o : HO} (d : DiceO o) : DiceAt (upd H p o) p := ⟨o, upd_same, d⟩
theorem DiceAt.ne {H : Hp} {p q : Addr} (h : DiceAt H p) (n : H q = none) : p ≠ q := by
  obtain ⟨o, e, _⟩ := h
  exact ne_of_none e n
/-! ### _law_generators_drawn -/
def spDrawn (K : PySem.W.Frag) : Sp := fun vs H Q _ => ∃ (p : Addr), vs = [.ref p, .int 3] ∧ DiceAt H p ∧ ∀ H' t b bs, GL K H' t b bs → SameB p H H' → DiceAt H' p → H t = none → Q (.ref t) H'
theorem ok_drawn {f : Addr} {fd : FuncData} (F : Fun K "_law_generators_drawn" "_law_generators_drawn" sDrawn f fd) (T : Txt K mg) (CP : Cal P w K mg base 2 "_law_pick" ["_law_dice_here", "_law_items"] (spPick K)) (CR : Cal P w K mg base 1 "_law_roll" ["_law_dice_here", "_law_total"] spRoll)
    (CC : Cal P w K mg base 1 "_law_common" ["_law_one", "_law_other"] spLCommon) : FnOk P w K mg base CX0 3 f fd ["_law_dice_here", "_law_most"] (spDrawn K) := by
  refine F.ok (k := 2) scDrawn (fun vs H Q E h => ?_) (fun cdv A outer s H vs Q E hr h => ?_)
  · obtain ⟨p, rfl, _⟩ := h
    rfl
  · obtain ⟨p, rfl, hd, q⟩ := h
    have hr1 := hr.mono (show 1 ≤ 2 by decide)
    refine ⟨_, C8.pss_cut (ps_setLc (i := 3) (own := [("_law_turn", 2)]) (g := gName 2) (tt := tYes) (by rfl) scDrawn.nd rfl rfl (sw_true rfl rfl rfl (by decide +kernel))
        (pi_range1 rfl T.range (pa_cons (pe_cal CR hr1 (by rfl) (pa_cons (pv 0) (pa_cons (pe_op op_add (pv 1) pe_int) pa_nil))) pa_nil)) (blkOk_by (N := nmDrawn) (sc := defScope sDrawn) (by decide +kernel))
        (fun _ _ _ _ _ => pg_name (i := 2) scDrawn.nd rfl (.inl rfl)) (fun _ _ _ _ _ => pts_nil)
        (fun _ _ _ _ _ => pe_cal CP hr (by rfl) (pa_cons (pv 0) (pa_cons (pe_lst (pa_cons pe_int (pa_cons pe_int (pa_cons pe_int (pa_cons pe_int (pa_cons pe_int (pa_cons pe_int pa_nil))))))) pa_nil))))
      (pss_cons (ps_if (pt_cmpR (op_eqD hr.units) (pv 3) (pe_lst pa_nil) (nomark _)) (pss_one (ps_ret (pe_tup (pa_cons pe_int pa_nil)))) pss_nil)
      (pss_cons (ps_set (i := 4) scDrawn.nd rfl (.inl rfl) pe_int)
      (C8.pss_cut (ps_for PassesOwn.never rfl (pi_list (pv 3)) (pg_name (i := 5) scDrawn.nd rfl (.inl rfl)) (pss_one (ps_set (i := 4) scDrawn.nd rfl (.inl rfl) (pe_op op_mul (pv 4) (pv 5)))))
      (pss_cons (ps_par (i := 6) (j := 7) (by rfl) scDrawn.nd rfl rfl (by decide) rfl rfl (pa_cons (pe_lst (pa_cons (pv 4) pa_nil)) (pa_cons (pv 4) pa_nil)) (by rfl))
      (pss_cons (ps_for PassesOwn.never rfl (pi_list (pv 3)) (pg_name (i := 5) scDrawn.nd rfl (.inl rfl))
        (pss_cons (ps_set (i := 4) scDrawn.nd rfl (.inl rfl) (pe_op op_fdiv (pv 4) (pv 5)))
        (pss_cons (ps_set (i := 8) scDrawn.nd rfl (.inl rfl) (pe_op op_add (pe_op op_add (pe_op op_fdiv (pv 7) (pv 4)) pe_int) (pe_cal CR hr1 (by rfl) (pa_cons (pv 0) (pa_cons pe_int pa_nil)))))
        (pss_cons (ps_for PassesOwn.never rfl (pi_range1 rfl T.range (pa_cons (pv 5) pa_nil)) (pg_name (i := 2) scDrawn.nd rfl (.inl rfl))
          (pss_cons (ps_if (pt_cmpR op_eq (pe_cal CC hr1 (by rfl) (pa_cons (pv 8) (pa_cons (pv 5) pa_nil))) pe_int (nomark _)) (pss_one ps_break) pss_nil)
          (pss_one (ps_set (i := 8) scDrawn.nd rfl (.inl rfl) (pe_op op_add (pv 8) pe_int)))))
        (pss_cons (ps_expr (pe_bm PySem.F.plainAttrs_list PySem.F.slot_list_append PySem.F.type_list_append mt_append (pv 6) (pa_cons (pe_op op_mul (pv 8) (pv 4)) pa_nil)))
        (pss_one (ps_set (i := 7) scDrawn.nd rfl (.inl rfl) (pe_op op_mul (pe_ix ix_list (pv 6) (pe_un un_neg pe_int) (fun _ _ => rfl)) (pv 5)))))))))
      (pss_one (ps_ret (pe_callTy call_tuple_of (by rfl) T.tuple boot_tuple' (pa_cons (pv 6) pa_nil))))))))), ?_⟩
    -- portions
    refine ⟨fun σ H1 => ∃ D ss, σ = [some (.ref p), some (.int 3), none, some (.ref D), none, none, none, none, none] ∧ (∀ s ∈ ss, (2 : Int) ≤ s ∧ s ≤ 5) ∧ ss.length ≤ 3 ∧ SameB p H H1 ∧ DiceAt H1 p ∧ H D = none ∧ H1 D = some (.lst (iv ss)), ?_, fun σ H1 hM => ?_⟩
    · refine ⟨.ref p, rfl, .int 3, rfl, 3, 1, rfl, rfl, p, _, rfl, hd, by decide, by decide, fun r o r0 r1 ho => ⟨r, rfl, by omega, ?_, fun D nD => ?_⟩⟩
      · have : r < 3 + 1 := r1
        omega
      have r1 : r < 3 + 1 := r1
      have nDp : D ≠ p := fun e => by rw [e, upd_same] at nD; cases nD
      have nDH : H D = none := by rwa [upd_ne nDp] at nD
      refine lc_it (walk_range (lo := 0) (n := r.toNat)) (fun i H3 => ∃ ss : List Int, ss.length = i ∧ (∀ s ∈ ss, (2 : Int) ≤ s ∧ s ≤ 5) ∧ SameB p H H3 ∧ DiceAt H3 p ∧ H3 D = some (.lst (iv ss)))
        ⟨[], rfl, fun s hs => (nomatch hs), SameB.upd.trans (SameB.of (same_upd nD)), (DiceAt.set ho).same (same_upd nD), upd_same⟩ (fun _ _ _ _ => trivial) (fun i x H3 H4 hi hP hy => ?_) fun H3 hP => ?_
      · obtain ⟨ss, hl, hb, sb, hd3, e3⟩ := hP
        obtain ⟨rfl, rfl⟩ := hy
        refine ⟨rfl, ?_⟩
        refine iteT (B := True) ⟨.ref p, rfl, (show 6 ≤ sizeLine by decide), fun l nl => ?_⟩
        have npl := hd3.ne nl
        have sl : Same H4 (upd H4 l (.lst (iv [2, 2, 3, 3, 4, 5]))) := same_upd nl
        refine ⟨p, l, [2, 2, 3, 3, 4, 5], rfl, hd3.same sl, npl.symm, .inl (.inl upd_same), by decide, by decide, fun v o2 hv ho2 => ?_⟩
        have nDl : D ≠ l := ne_of_none e3 nl
        refine ⟨iv ss, ?_, ?_, ss ++ [v], ?_, fun s hs => ?_, ?_, ?_, ?_⟩
        · rw [upd_ne nDp]
          exact sl _ _ e3
        · rw [List.length_map, hl]
          exact small_size (by omega)
        · rw [List.length_append, hl]
          rfl
        · rcases List.mem_append.mp hs with hs | hs
          · exact hb s hs
          · rw [List.mem_singleton.mp hs]
            have hv' : v = 2 ∨ v = 3 ∨ v = 4 ∨ v = 5 := by
              simp only [List.mem_cons, List.not_mem_nil, or_false] at hv
              omega
            omega
        · intro x z hx e
          rw [upd_ne (ne_of_none e nDH), upd_ne hx]
          exact sl _ _ (sb _ _ hx e)
        · obtain ⟨oo, eo, ho3⟩ := DiceAt.set (H := upd H4 l (.lst (iv [2, 2, 3, 3, 4, 5]))) (p := p) ho2
          exact ⟨oo, by rw [upd_ne nDp.symm]; exact eo, ho3⟩
        · rw [upd_same]
          unfold iv
          rw [List.map_append]
          rfl
      · obtain ⟨ss, hl, hb, sb, hd3, e3⟩ := hP
        exact ⟨D, ss, rfl, hb, by omega, sb, hd3, nDH, e3⟩
    obtain ⟨D, ss, rfl, hb, hl3, sb1, hd1, nDH, eD⟩ := hM
    have hDp : D ≠ p := fun e => by
      obtain ⟨o, eo, _⟩ := hd
      rw [← e, nDH] at eo
      cases eo
    -- portions == []
    refine ⟨.ref D, rfl, Nat.zero_le _, fun e1 ne1 => ?_⟩
    have s2 : Same H1 (upd H1 e1 (.lst [])) := same_upd ne1
    obtain ⟨H2, hH2⟩ : ∃ H2, H2 = upd H1 e1 (.lst []) := ⟨_, rfl⟩
    rw [← hH2] at s2
    have ee1 : H2 e1 = some (.lst (iv [])) := by rw [hH2]; exact upd_same
    rw [← hH2]
    have sb2 : SameB p H H2 := sb1.trans (SameB.of s2)
    have hd2 := hd1.same s2
    have eD2 := s2 _ _ eD
    refine ⟨.list ((iv ss).map dOf), .list ((iv []).map dOf), .lst (.inl (.inl eD2)) (dpAll_flat (flat_iv _)), .lst (.inl (.inl ee1)) .nil, shaped_lst _, shaped_lst _, _, rfl, ?_⟩
    rw [eqv_lst _ _ (flat_iv _) (nobl_iv _)]
    refine ite2 (fun c => ?_) (fun c => ?_)
    · refine ⟨(show 1 ≤ sizeLine by decide), fun t nt => ?_⟩
      have gn : Gen 1 [] := ⟨by decide, rfl, trivial⟩
      refine q _ t 1 [] ⟨⟨upd_same, fun x hx => ?_, gn, by decide, by decide⟩, by decide, fun x hx => by rw [List.mem_singleton.mp hx]; decide, by decide⟩ (sb2.trans (SameB.of (same_upd nt))) (hd2.same (same_upd nt)) ?_
      · rw [List.mem_singleton.mp hx]
        exact ing_small (by decide) (by decide)
      · cases z : H t with
        | none => rfl
        | some o =>
          by_cases htp : t = p
          · exact absurd htp (hd2.ne nt).symm
          · rw [sb2 t o htp z] at nt
            cases nt
    · have hne : ss ≠ [] := fun z => by
        rw [z] at c
        exact c (by decide)
      -- the product
      refine ⟨fun σ H3 => ∃ y5, σ = [some (.ref p), some (.int 3), none, some (.ref D), some (.int (pr ss)), y5, none, none, none] ∧ H3 = H2, ?_, fun σ H3 hM => ?_⟩
      · refine ⟨.ref D, rfl, D, rfl, ⟨_, .inl (.inl eD2)⟩, for_list (xs := iv ss) (fun i σ H3 => ∃ y5, σ = [some (.ref p), some (.int 3), none, some (.ref D), some (.int ((ss.take i).foldl (· * ·) 1)), y5, none, none, none] ∧ H3 = H2)
          ⟨none, rfl, rfl⟩ (fun i σ H3 _ hP => ?_) (fun i x σ H3 hx hP => ?_) fun σ H3 hP => ?_⟩
        · obtain ⟨_, _, rfl⟩ := hP
          exact .inl (.inl eD2)
        · obtain ⟨y5, rfl, rfl⟩ := hP
          obtain ⟨n, hn, rfl⟩ := iv_of hx
          have nb := hb n (List.mem_of_getElem? hn)
          refine ⟨_, rfl, .int n, rfl, _, n, rfl, rfl, .inr ⟨by omega, by omega⟩, some (.int n), ?_, rfl⟩
          rw [List.take_add_one, hn]
          show _ = [some (V.ref p), some (.int 3), none, some (.ref D), some (.int ((ss.take i ++ [n]).foldl (· * ·) 1)), some (.int n), none, none, none]
          rw [List.foldl_append]
          rfl
        · obtain ⟨y5, rfl, rfl⟩ := hP
          rw [List.length_map, List.take_length, foldl_pr, Int.one_mul]
          exact ⟨y5, rfl, rfl⟩
      obtain ⟨y5, rfl, rfl⟩ := hM
      have b0p := pr_pos ss hb
      have b0l : pr ss ≤ 125 := by
        have h1 := pr_le ss hb
        have h2 : (5 : Int) ^ ss.length ≤ 5 ^ 3 := by
          have : ss.length = 0 ∨ ss.length = 1 ∨ ss.length = 2 ∨ ss.length = 3 := by omega
          rcases this with z | z | z | z <;> rw [z] <;> decide
        have h3 : (5 : Int) ^ 3 = 125 := by decide
        omega
      -- found, least
      refine ⟨.int (pr ss), rfl, (show 1 ≤ sizeLine by decide), fun fl nf => ⟨.int (pr ss), rfl, .ref fl, .int (pr ss), rfl, ?_⟩⟩
      have nDf : D ≠ fl := ne_of_none eD2 nf
      have npf : p ≠ fl := hd2.ne nf
      have nfH : H fl = none := by
        cases z : H fl with
        | none => rfl
        | some o =>
          rw [sb2 fl o npf.symm z] at nf
          cases nf
      have sf : Same H3 (upd H3 fl (.lst [.int (pr ss)])) := same_upd nf
      refine ⟨.ref D, rfl, D, rfl, ⟨_, .inl (.inl (sf _ _ eD2))⟩, for_list (xs := iv ss) (fun i σ H4 => ∃ e bs L y2 y5 y8, σ = [some (.ref p), some (.int 3), y2, some (.ref D), some (.int e), y5, some (.ref fl), some (.int L), y8] ∧
          SameB p H H4 ∧ DiceAt H4 p ∧ H4 D = some (.lst (iv ss)) ∧ H4 fl = some (.lst (iv (pr ss :: bs))) ∧ e = pr (ss.drop i) ∧ GdP (pr ss) bs e ∧ UpP (pr ss) (pr ss) bs L ∧ 0 < L ∧ L ≤ 3000 * 8 ^ i ∧ bs.length = i ∧ ∀ x ∈ bs, 0 < x ∧ x ≤ 3000 * 8 ^ i)
        ⟨pr ss, [], pr ss, none, y5, none, rfl, sb2.trans (SameB.of sf), hd2.same sf, sf _ _ eD2, upd_same, rfl, rfl, rfl, b0p, by omega, rfl, fun x hx => (nomatch hx)⟩ (fun i σ H4 _ hP => ?_) (fun i x σ H4 hx hP => ?_) fun σ H4 hP => ?_⟩
      · obtain ⟨_, _, _, _, _, _, _, _, _, e, _⟩ := hP
        exact .inl (.inl e)
      · obtain ⟨e, bs, L, y2, y5', y8, rfl, sb4, hd4, eD4, ef4, he, gp, up, L0, L1, lb, hbs⟩ := hP
        obtain ⟨n, hn, rfl⟩ := iv_of hx
        obtain ⟨n2, n5⟩ := hb n (List.mem_of_getElem? hn)
        have hdr : ss.drop i = n :: ss.drop (i + 1) := by
          obtain ⟨h1, h2⟩ := List.getElem?_eq_some_iff.mp hn
          rw [← h2]
          exact List.drop_eq_getElem_cons h1
        have hb' : ∀ s ∈ ss.drop (i + 1), (2 : Int) ≤ s ∧ s ≤ 5 := fun s hs => hb s (List.mem_of_mem_drop hs)
        have p2 := pr_pos _ hb'
        have es : e = n * pr (ss.drop (i + 1)) := by rw [he, hdr]; rfl
        obtain ⟨e2, he2⟩ : ∃ e2, e2 = pr (ss.drop (i + 1)) := ⟨_, rfl⟩
        rw [← he2] at es p2
        have eq2 : e / n = e2 := by
          rw [es, Int.mul_comm]
          exact Int.mul_ediv_cancel _ (by omega)
        have e2l : e2 ≤ 125 := by
          have h1 := pr_le _ hb'
          rw [← he2] at h1
          have h2 : (5 : Int) ^ (ss.drop (i + 1)).length ≤ 5 ^ 3 := by
            have h4 : (ss.drop (i + 1)).length ≤ 3 := by rw [List.length_drop]; omega
            have : (ss.drop (i + 1)).length = 0 ∨ (ss.drop (i + 1)).length = 1 ∨ (ss.drop (i + 1)).length = 2 ∨ (ss.drop (i + 1)).length = 3 := by omega
            rcases this with z | z | z | z <;> rw [z] <;> decide
          have h3 : (5 : Int) ^ 3 = 125 := by decide
          omega
        -- shared // share
        refine ⟨.int e, rfl, .int n, rfl, e, n, rfl, rfl, ⟨by omega, by omega⟩, ?_⟩
        show _
        rw [show (fun i j : Int => V.int (i / j)) e n = V.int e2 from congrArg V.int eq2]
        refine ⟨.int L, rfl, .int e2, rfl, L, e2, rfl, rfl, ⟨p2, by omega⟩, _, 1, rfl, rfl, .ref p, rfl, p, 6, rfl, hd4, by decide, by decide, fun r o r0 r1 ho => ⟨_, r, rfl, rfl, ?_⟩⟩
        obtain ⟨N0, hN0⟩ : ∃ N0, N0 = L / e2 + 1 + r := ⟨_, rfl⟩
        have hN1 : L / e2 + 1 ≤ N0 := by omega
        have qn : 0 ≤ L / e2 := Int.ediv_nonneg (Int.le_of_lt L0) (Int.le_of_lt p2)
        have ef5 : (upd H4 p o) fl = some (.lst (iv (pr ss :: bs))) := by rw [upd_ne npf.symm]; exact ef4
        refine ⟨.int n, rfl, n, rfl, by omega, by omega, for_range (lo := 0) (n := n.toNat) (fun i2 σ H5 => ∃ y2 m, σ = [some (.ref p), some (.int 3), y2, some (.ref D), some (.int e2), some (.int n), some (.ref fl), some (.int L), some (.int m)] ∧ m = N0 + (i2 : Int) ∧ H5 = upd H4 p o ∧ ∀ j : Nat, j < i2 → Int.gcd (N0 + j) n ≠ 1)
          ⟨y2, N0, by rw [hN0]; rfl, by omega, rfl, fun j hj => absurd hj (Nat.not_lt_zero _)⟩ (fun i2 σ H5 hi2 hP => ?_) fun σ H5 hP => ?_⟩
        · obtain ⟨y2', m, rfl, hm, rfl, hj⟩ := hP
          refine ⟨.int m, rfl, .int n, rfl, m, n, rfl, by omega, by omega, .inr (by omega), rfl, _, rfl, ite2 (fun c2 => ?_) (fun c2 => ?_)⟩
          · have g1 : gc m n = 1 := V.int.inj (of_decide_eq_true c2)
            have g2 : Int.gcd m n = 1 := by
              unfold gc at g1
              omega
            obtain ⟨x0, xl, gp', up'⟩ := drawn_next gp up es p2 n2 L0 (show L / e2 + 1 ≤ m by omega) g2
            -- bounds
            have p8 := pow8 i
            have xb : m * e2 ≤ L + 1250 := by
              have h1 : m ≤ L / e2 + 10 := by omega
              have h2 : m * e2 ≤ (L / e2 + 10) * e2 := Int.mul_le_mul_of_nonneg_right h1 (Int.le_of_lt p2)
              have h3 := Int.emod_add_mul_ediv L e2
              have h4 := Int.emod_nonneg L (show e2 ≠ 0 by omega)
              rw [Int.add_mul, Int.mul_comm (L / e2)] at h2
              omega
            have p9 : (3000 : Int) * 8 ^ (i + 1) = 8 * (3000 * 8 ^ i) := by rw [Int.pow_succ]; omega
            have Lb : m * e2 * n ≤ 3000 * 8 ^ (i + 1) := by
              have h1 : m * e2 * n ≤ m * e2 * 5 := Int.mul_le_mul_of_nonneg_left n5 (Int.le_of_lt x0)
              omega
            have L2 : 0 < m * e2 * n := Int.mul_pos x0 (by omega)
            refine ⟨.ref fl, rfl, .inl ⟨rfl, _, .inl (.inl ef5)⟩, .int m, rfl, .int e2, rfl, m, e2, rfl, rfl, .inr ⟨by omega, by omega⟩, fl, _, _, rfl, rfl, ef5, ?_, ?_⟩
            · rw [List.length_map, List.length_cons]
              have : (iv ss).length = ss.length := List.length_map _
              have h3 := (List.getElem?_eq_some_iff.mp hn).1
              exact small_size (by omega)
            · refine ⟨.ref fl, rfl, 1, rfl, fl, _, -1, .int (m * e2), rfl, rfl, .inl (.inl upd_same), atI_last _ _, .int n, rfl, m * e2, n, rfl, rfl, .inr ⟨by omega, by omega⟩, ?_⟩
              refine ⟨e2, bs ++ [m * e2], m * e2 * n, _, _, _, rfl, ?_, ?_, ?_, ?_, he2, gp', up', L2, Lb, ?_, fun x hx => ?_⟩
              · intro x z hx e5
                rw [upd_ne (ne_of_none e5 nfH), upd_ne hx]
                exact sb4 _ _ hx e5
              · exact ⟨o, by rw [upd_ne npf]; exact upd_same, ho⟩
              · rw [upd_ne nDf, upd_ne hDp]
                exact eD4
              · rw [upd_same]
                show some (HO.lst (iv (pr ss :: bs) ++ [V.int (m * e2)])) = some (HO.lst (iv (pr ss :: (bs ++ [m * e2]))))
                unfold iv
                rw [← List.cons_append, List.map_append]
                rfl
              · rw [List.length_append, lb]
                rfl
              · rcases List.mem_append.mp hx with hx | hx
                · have := hbs x hx
                  omega
                · rw [List.mem_singleton.mp hx]
                  omega
          · have g1 : Int.gcd m n ≠ 1 := fun z => c2 (by
              refine decide_eq_true (congrArg V.int ?_)
              unfold gc
              rw [z]
              rfl)
            refine ⟨.int m, rfl, m, 1, rfl, rfl, _, m + 1, rfl, by omega, rfl, fun j hj2 => ?_⟩
            by_cases z : j = i2
            · rw [z, ← hm]
              exact g1
            · exact hj j (by omega)
        · obtain ⟨y2', m, rfl, hm, rfl, hj⟩ := hP
          obtain ⟨j, j1, j2⟩ := cop_near (n := N0) n2 (by omega)
          exact absurd j2 (hj j (by omega))
      · obtain ⟨e, bs, L, y2, y5', y8, rfl, sb4, hd4, eD4, ef4, he, gp, up, L0, L1, lb, hbs⟩ := hP
        have ll : (iv ss).length = ss.length := List.length_map _
        rw [ll] at he L1 lb hbs
        rw [List.drop_length] at he
        have he1 : e = 1 := he
        subst he1
        have gn : Gen (pr ss) bs := ⟨b0p, gp.gd, up.up⟩
        have top1 := up.top (c := 0) (Int.le_of_lt b0p)
        have b8 : (3000 : Int) * 8 ^ ss.length ≤ 1536000 := by
          have : ss.length = 0 ∨ ss.length = 1 ∨ ss.length = 2 ∨ ss.length = 3 := by omega
          rcases this with z | z | z | z <;> rw [z] <;> decide
        refine ⟨.ref fl, rfl, fl, _, rfl, .inl ⟨.inl (.inl ef4), fun t nt => ?_⟩⟩
        refine q _ t (pr ss) bs ⟨⟨upd_same, fun x hx => ?_, gn, by omega, by omega⟩, by omega, fun x hx => ?_, ?_⟩ (sb4.trans (SameB.of (same_upd nt))) (hd4.same (same_upd nt)) ?_
        · rcases List.mem_cons.mp hx with z | hx
          · rw [z]
            exact ing_small b0p (by omega)
          · obtain ⟨h1, h2⟩ := hbs x hx
            exact ing_small h1 (by omega)
        · rcases List.mem_cons.mp hx with z | hx
          · omega
          · have := (hbs x hx).2
            omega
        · unfold lastG
          omega
        · cases z : H t with
          | none => rfl
          | some o =>
            by_cases htp : t = p
            · exact absurd htp (hd4.ne nt).symm
            · rw [sb4 t o htp z] at nt
              cases nt
end
end K33
set_option maxRecDepth 100000
set_option maxHeartbeats 4000000
namespace K33
open PySem PySem.Spec PyProof.Rows L2
theorem ixN_nat' {n j : Nat} (hj : j < n) : ixN n (j : Int) = some j := by
  unfold ixN
  rw [if_pos (Int.natCast_nonneg j), if_pos (Int.ofNat_lt.mpr hj)]
  rfl
theorem cut_to (xs : List V) (k : Nat) : cutV xs none (some (k : Int)) = xs.take k := by
  unfold cutV
  rw [HT.sIx_nat xs.length xs.length k, HT.sIx_none]
  show (xs.drop 0).take (min k xs.length - 0) = xs.take k
  rw [List.drop_zero, Nat.sub_zero]
  by_cases h : k ≤ xs.length
  · rw [Nat.min_eq_left h]
  · rw [Nat.min_eq_right (by omega), List.take_of_length_le (Nat.le_refl _), List.take_of_length_le (by omega)]
section
variable {P : Program} {w : World} {K : PySem.W.Frag} {mg : Str → Option Value} {base : Heap}
/-! ### _law_sums_below -/
def spSums (K : PySem.W.Frag) : Sp := fun vs H Q _ => ∃ (a : Addr) (b : Int) (bs : List Int) (n : Nat), vs = [.ref a, .int n] ∧ GOk K H a b bs ∧ 1 ≤ n ∧ n ≤ 4000 ∧
  ∀ H' p (L : List Bool), Same H H' → H p = none → H' p = some (.lst (L.map V.bl)) → L.length = n → (∀ j : Nat, j < n → (L[j]? = some true ↔ Ord b bs j)) → Q (.ref p) H'
theorem ok_sums {f : Addr} {fd : FuncData} (F : Fun K "_law_sums_below" "_law_sums_below" sSums f fd) (T : Txt K mg) : FnOk P w K mg base CX0 1 f fd ["_law_makers", "_law_size"] (spSums K) := by
  refine F.ok (k := 0) scSums (fun vs H Q E h => ?_) (fun cdv A outer s H vs Q E hr h => ?_)
  · obtain ⟨a, b, bs, n, rfl, _⟩ := h
    rfl
  · obtain ⟨a, b, bs, n, rfl, hG, n1, n2, q⟩ := h
    refine ⟨_, pss_cons (ps_set (i := 2) scSums.nd rfl (Or.inr rfl) (pe_op op_cat (pe_lst (pa_cons pe_bl pa_nil)) (pe_op op_rep (pe_lst (pa_cons pe_bl pa_nil)) (pv 1))))
      (pss_cons (ps_for PassesOwn.never rfl (pi_range2 (by rfl) T.range (pa_cons pe_int (pa_cons (pv 1) pa_nil))) (pg_name (i := 3) scSums.nd rfl (Or.inr rfl))
        (pss_one (ps_asg (pe_cmpR (op_neD hr.units) (pe_lc (own := [("_law_one", 4)]) (g := gName 4)
            (tt := tAnd (tTest (tOp (rI0 fun i j => .bl (decide (i ≤ j))) (tVar 4) (tVar 3))) (tB (tOp (rIxL K) (tVar 2) (tOp (rI0 fun i j => .int (i - j)) (tVar 3) (tVar 4))))) (te := tVar 4) (by rfl) scSums.nd (pi_tup (pv 0))
            (blkOk_by (N := nmSums) (sc := defScope sSums) (by decide +kernel)) (fun _ _ _ _ _ => pg_name (i := 4) scSums.nd rfl (.inl rfl))
            (fun _ _ _ _ _ => pts_one (PW.pt (pw_and (pt_cmpR op_le (pv 4) (pv 3) (nomark _)) (pw_and1 (pt_val (pe_ix ix_list (pv 2) (pe_op op_sub (pv 3) (pv 4)) (fun _ _ => rfl)))))))
            (fun _ _ _ _ _ => pv 4)) (pe_lst pa_nil) (nomark _)) (pg_sub (pv 2) (pv 3) set_list))))
      (pss_one (ps_ret (pe_slice sl_list (pv 2) po_none (po_some (pv 1)))))), ?_⟩
    -- found
    refine ⟨(show 1 ≤ sizeLine by decide), fun l1 f1 => ⟨(show 1 ≤ sizeLine by decide), fun l2 f2 => ⟨.int n, rfl, l2, n, _, rfl, rfl, upd_same, by omega, by omega, ?_, fun l3 f3 => ⟨l1, l3, [V.bl true], _, rfl, rfl, ?_, upd_same, ?_, fun fl nf => ?_⟩⟩⟩⟩
    · rw [Int.toNat_natCast]
      show 1 * n ≤ sizeLine
      rw [Nat.one_mul, sizeLine_eq]
      omega
    · have e1 : (upd H l1 (.lst [V.bl true])) l1 = some (.lst [V.bl true]) := upd_same
      exact same_upd f3 _ _ (same_upd f2 _ _ e1)
    · rw [Int.toNat_natCast, List.flatten_replicate_singleton, List.length_replicate, sizeLine_eq]
      show 1 + n ≤ 16777216
      omega
    have s1 : Same H (upd (upd (upd H l1 (.lst [V.bl true])) l2 (.lst [V.bl false])) l3 (.lst (List.replicate (n : Int).toNat [V.bl false]).flatten)) := (same_upd f1).trans ((same_upd f2).trans (same_upd f3))
    obtain ⟨H1, hH1⟩ : ∃ H1, H1 = upd (upd (upd H l1 (.lst [V.bl true])) l2 (.lst [V.bl false])) l3 (.lst (List.replicate (n : Int).toNat [V.bl false]).flatten) := ⟨_, rfl⟩
    rw [← hH1] at s1 nf
    rw [← hH1]
    have nfH := Same.free s1 nf
    have e0 : ([V.bl true] ++ (List.replicate (n : Int).toNat [V.bl false]).flatten) = (true :: List.replicate n false).map V.bl := by
      rw [Int.toNat_natCast, List.flatten_replicate_singleton, List.map_cons, List.map_replicate]
      rfl
    rw [e0]
    have naf : a ≠ fl := ne_of_none hG.at_ nfH
    -- the sieve
    refine ⟨.int n, rfl, 1, n, rfl, ⟨by decide, by decide, by omega, by omega⟩, for_range (lo := 1) (n := ((n : Int) - 1).toNat) (fun i σ H3 => ∃ L y3 y4, σ = [some (.ref a), some (.int n), some (.ref fl), y3, y4] ∧ SameB fl H1 H3 ∧ H3 fl = some (.lst ((L : List Bool).map V.bl)) ∧ L.length = n + 1 ∧ ∀ j : Nat, j < 1 + i → (L[j]? = some true ↔ Ord b bs j))
      ⟨true :: List.replicate n false, none, none, rfl, SameB.of (same_upd nf), upd_same, by rw [List.length_cons, List.length_replicate], fun j hj => ?_⟩ (fun i σ H3 hi hP => ?_) fun σ H3 hP => ?_⟩
    · have hj0 : j = 0 := by omega
      subst hj0
      exact ⟨fun _ => hG.gen.zero, fun _ => rfl⟩
    · obtain ⟨L, y3, y4, rfl, sb, ef, hl, hL⟩ := hP
      obtain ⟨x, hx⟩ : ∃ x : Nat, x = 1 + i := ⟨_, rfl⟩
      have ex : (1 : Int) + (i : Int) = (x : Int) := by omega
      have xn : x < n := by omega
      rw [ex]
      have aH3 := sb _ _ naf (s1 _ _ hG.at_)
      refine ⟨.ref a, rfl, a, rfl, ⟨_, .inl (.inl aH3)⟩, fun D nD => ?_⟩
      have nDf : fl ≠ D := ne_of_none ef nD
      have hlen := hG.len
      refine lc_it (walk_tup (K := K) (a := a) (xs := iv (b :: bs))) (fun i2 H4 => ∃ ms, Same H3 H4 ∧ H4 D = some (.lst (iv ms)) ∧ ms.length ≤ i2 ∧ (ms ≠ [] ↔ ∃ c ∈ (b :: bs).take i2, c ≤ (x : Int) ∧ Ord b bs ((x : Int) - c)))
        ⟨[], same_upd nD, upd_same, Nat.le_refl _, ⟨fun h => absurd rfl h, fun ⟨c, hc, _⟩ => by simp at hc⟩⟩ (fun i2 H4 _ hP => .inl (.inl (by obtain ⟨_, sm, _⟩ := hP; exact sm _ _ aH3))) (fun i2 y H4 H5 hi2 hP hy => ?_) fun H4 hP => ?_
      · obtain ⟨ms, sm, eD, ml, hm⟩ := hP
        obtain ⟨rfl, hy⟩ := hy
        obtain ⟨c, hc, rfl⟩ := iv_of hy
        have hcm : c ∈ b :: bs := List.mem_of_getElem? hc
        have hcp : 0 < c := by
          rcases List.mem_cons.mp hcm with z | z
          · rw [z]; exact hG.gen.pos
          · exact hG.gen.gd.pos c z
        have tk : (b :: bs).take (i2 + 1) = (b :: bs).take i2 ++ [c] := by rw [List.take_add_one, hc]; rfl
        have keepF : ¬ (c ≤ (x : Int) ∧ Ord b bs ((x : Int) - c)) → ∃ ms, Same H3 H5 ∧ H5 D = some (.lst (iv ms)) ∧ ms.length ≤ i2 + 1 ∧ (ms ≠ [] ↔ ∃ c ∈ (b :: bs).take (i2 + 1), c ≤ (x : Int) ∧ Ord b bs ((x : Int) - c)) := fun hn => by
          refine ⟨ms, sm, eD, Nat.le_succ_of_le ml, hm.trans ⟨fun ⟨d, hd, h2⟩ => ⟨d, by rw [tk]; exact List.mem_append_left _ hd, h2⟩, fun ⟨d, hd, h2⟩ => ?_⟩⟩
          rw [tk] at hd
          rcases List.mem_append.mp hd with hd | hd
          · exact ⟨d, hd, h2⟩
          · rw [List.mem_singleton.mp hd] at h2
            exact absurd h2 hn
        refine ⟨rfl, ?_⟩
        refine ⟨.int c, rfl, .int x, rfl, c, x, rfl, rfl, _, rfl, ite2 (fun cc => ?_) (fun cc => ?_)⟩
        · have cx : c ≤ (x : Int) := of_decide_eq_true cc
          obtain ⟨j, hj⟩ : ∃ j : Nat, (x : Int) - c = (j : Int) := ⟨((x : Int) - c).toNat, by omega⟩
          have jx : j < 1 + i := by omega
          have jl : j < L.length := by omega
          refine ⟨.ref fl, rfl, .int x, rfl, .int c, rfl, x, c, rfl, rfl, fl, L.map V.bl, (x : Int) - c, .bl L[j], rfl, rfl, .inl (.inl (sm _ _ ef)), ?_, L[j], rfl, ?_⟩
          · rw [hj]
            refine atI_nat ?_
            rw [List.getElem?_map, List.getElem?_eq_getElem jl]
            rfl
          · refine ite2 (fun z => ?_) (fun z => ?_)
            · refine ⟨.int c, rfl, iv ms, eD, ?_, ms ++ [c], ?_, ?_, ?_, ?_⟩
              · rw [List.length_map]
                have : (iv (b :: bs)).length = bs.length + 1 := by rw [List.length_map, List.length_cons]
                exact small_size (by omega)
              · intro u o e
                rw [upd_ne (ne_of_none e nD)]
                exact sm _ _ e
              · rw [upd_same]
                unfold iv
                rw [List.map_append]
                rfl
              · rw [List.length_append]
                exact Nat.succ_le_succ ml
              · refine ⟨fun _ => ⟨c, by rw [tk]; exact List.mem_append_right _ (List.mem_singleton.mpr rfl), cx, ?_⟩, fun _ => by simp⟩
                rw [hj]
                exact (hL j jx).mp (by rw [List.getElem?_eq_getElem jl, z])
            · refine keepF fun ⟨_, ho⟩ => z ?_
              rw [hj] at ho
              have := (hL j jx).mpr ho
              rw [List.getElem?_eq_getElem jl] at this
              exact Option.some.inj this
        · exact iteF (A := True) (keepF fun ⟨h1, _⟩ => cc (decide_eq_true h1))
      · obtain ⟨ms, sm, eD, ml, hm⟩ := hP
        rw [show (iv (b :: bs)).length = (b :: bs).length from List.length_map _, List.take_length] at hm
        -- != []
        refine ⟨Nat.zero_le _, fun l4 f4 => ?_⟩
        have s4 : Same H4 (upd H4 l4 (.lst [])) := same_upd f4
        have ee : (upd H4 l4 (.lst [])) l4 = some (.lst (iv [])) := upd_same
        refine ⟨.list ((iv ms).map dOf), .list ((iv []).map dOf), .lst (.inl (.inl (s4 _ _ eD))) (dpAll_flat (flat_iv _)), .lst (.inl (.inl ee)) .nil, shaped_lst _, shaped_lst _, ?_⟩
        rw [eqv_lst _ _ (flat_iv _) (nobl_iv _)]
        have ef4 := s4 _ _ (sm _ _ ef)
        refine ⟨.ref fl, rfl, .int x, rfl, fl, L.map V.bl, x, x, rfl, rfl, ef4, ixN_nat' (by rw [List.length_map]; omega), L.set x (!decide (iv ms = iv [])), _, _, rfl, ?_, ?_, ?_, fun j hj => ?_⟩
        · exact (sb.trans (SameB.of (sm.trans s4))).trans SameB.upd
        · rw [upd_same, List.map_set]
        · rw [List.length_set]
          exact hl
        · by_cases z : j = x
          · subst z
            rw [List.getElem?_set_self (by omega)]
            have h1 := hG.gen.sieve (x := (j : Int)) (by omega)
            rw [h1, ← hm]
            cases ms with
            | nil => simp
            | cons m r => simp
          · rw [List.getElem?_set_ne (Ne.symm z)]
            exact hL j (by omega)
    · obtain ⟨L, y3, y4, rfl, sb, ef, hl, hL⟩ := hP
      refine ⟨.ref fl, rfl, .int n, rfl, n, rfl, fl, L.map V.bl, rfl, .inl (.inl ef), fun p np => ?_⟩
      rw [cut_to, ← List.map_take]
      have s13 : Same H H3 := s1.trans fun u o e => by
        exact sb u o (ne_of_none e nf) e
      refine q _ p (L.take n) (s13.trans (same_upd np)) (s13.free np) upd_same (by rw [List.length_take]; omega) fun j hj => ?_
      rw [List.getElem?_take_of_lt hj]
      exact hL j (by omega)
end
end K33
set_option maxRecDepth 100000
set_option maxHeartbeats 4000000
namespace K33
open PySem PySem.Spec PyProof.Rows L2
section
variable {P : Program} {w : World} {K : PySem.W.Frag} {mg : Str → Option Value} {base : Heap}
/-! ### _law_last_gap -/
theorem ok_llast {f : Addr} {fd : FuncData} (F : Fun K "_law_last_gap" "_law_last_gap" sLLast f fd) (T : Txt K mg) (C : Cal P w K mg base 2 "_law_commons" ["_law_numbers_here"] (spLCommons K)) : FnOk P w K mg base CX0 3 f fd ["_law_makers"] (spLast K) := by
  refine F.ok (k := 2) scLLast (fun vs H Q E h => ?_) (fun cdv A outer s H vs Q E hr h => ?_)
  · obtain ⟨a, b, bs, rfl, _⟩ := h
    rfl
  · obtain ⟨a, b, bs, rfl, hG, q⟩ := h
    refine ⟨_, pss_cons (ps_set (i := 1) scLLast.nd rfl (.inl rfl) (pe_cal C hr (by rfl) (pa_cons (pv 0) pa_nil)))
      (pss_cons (ps_set (i := 2) scLLast.nd rfl (.inl rfl) (pe_un un_neg (pe_ix ix_tup (pv 0) pe_int (fun _ _ => rfl))))
      (pss_cons (ps_for PassesOwn.never rfl (pi_range2 (by rfl) T.range (pa_cons pe_int (pa_cons (pe_callB call_len_seq (by rfl) T.len PySem.boot_len (pa_cons (pv 0) pa_nil)) pa_nil))) (pg_name (i := 3) scLLast.nd rfl (.inl rfl))
        (pss_one (ps_set (i := 2) scLLast.nd rfl (.inl rfl) (pe_op op_add (pv 2) (pe_op op_mul (pe_op op_sub (pe_op op_fdiv (pe_ix ix_list (pv 1) (pe_op op_sub (pv 3) pe_int) (fun _ _ => rfl)) (pe_ix ix_list (pv 1) (pv 3) (fun _ _ => rfl))) pe_int) (pe_ix ix_tup (pv 0) (pv 3) (fun _ _ => rfl)))))))
      (pss_one (ps_ret (pv 2))))), ?_⟩
    have bp := hG.gen.pos
    have hsm := hG.small
    have hlen := hG.len
    refine ⟨.ref a, rfl, a, b, bs, rfl, .inl (.inl hG.at_), hG.nn, hG.len, ⟨bp, hsm⟩, fun H1 d s1 nd ed => ?_⟩
    have aH := s1 _ _ hG.at_
    refine ⟨.ref a, rfl, a, _, 0, .int b, rfl, rfl, .inl (.inl aH), atI_nat (j := 0) rfl, b, rfl, ?_⟩
    refine ⟨.ref a, rfl, a, iv (b :: bs), rfl, .inr (.inl (.inl aH)), 1, _, rfl, ⟨by decide, by decide, by omega, ?_⟩, ?_⟩
    · rw [List.length_map, List.length_cons]
      omega
    have en : (((iv (b :: bs)).length : Int) - 1).toNat = bs.length := by rw [List.length_map, List.length_cons]; omega
    rw [en]
    refine for_range (lo := 1) (n := bs.length) (fun i σ H2 => ∃ t y3, σ = [some (.ref a), some (.ref d), some (.int t), y3] ∧ t = -b + ((List.zipWith (fun n b => (n - 1) * b) (shs b bs) bs).take i).sum ∧ H2 = H1)
      ⟨-b, none, rfl, by show -b = -b + (0 : Int); omega, rfl⟩ (fun i σ H2 hi hP => ?_) fun σ H2 hP => ?_
    · obtain ⟨t, y3, rfl, ht, rfl⟩ := hP
      obtain ⟨x, n, e, e', at_⟩ := at_of bs b i bp hG.gen.gd hi
      have p' := at_.pos'
      have le := at_.lt
      have lb := (at_.le bp).1
      have hdiv : e / e' = n := by rw [at_.en, at_.eg]
      have nb := (at_.le bp).2
      have n2 := at_.n2
      refine ⟨.int t, rfl, .ref d, rfl, .int (1 + i), rfl, 1 + i, 1, rfl, rfl, d, _, _, .int e, rfl, rfl, .inl (.inl ed), L2.at_of (j := i) (by omega) (by rw [List.getElem?_map, at_.he]; rfl), .ref d, rfl, .int (1 + i), rfl, d, _, _, .int e', rfl, rfl, .inl (.inl ed), L2.at_of (j := i + 1) (by omega) (by rw [List.getElem?_map, at_.he']; rfl),
        e, e', rfl, rfl, ⟨p', by omega⟩, e / e', 1, rfl, rfl, .ref a, rfl, .int (1 + i), rfl, a, _, _, .int x, rfl, rfl, .inl (.inl aH), L2.at_of (j := i + 1) (by omega) (by rw [List.getElem?_map]; show (bs[i]?).map V.int = _; rw [at_.hx]; rfl), e / e' - 1, x, rfl, rfl, .inl ⟨by omega, by omega⟩, t, _, rfl, rfl, _, _, rfl, ?_, rfl⟩
      rw [sum_take (z := (n - 1) * x) (by rw [List.getElem?_zipWith, at_.hn, at_.hx]), hdiv, ht]
      omega
    · obtain ⟨t, y3, rfl, ht, rfl⟩ := hP
      rw [List.take_of_length_le (by rw [List.length_zipWith, shs_len]; omega), ← top_zip] at ht
      have e : t = lastG b bs := by
        unfold lastG
        omega
      refine ⟨.int t, rfl, ?_⟩
      rw [e]
      exact q H2 s1
end
end K33
set_option maxRecDepth 100000
set_option maxHeartbeats 4000000
namespace K33
open PySem PySem.Spec PyProof.Rows L2
def notInt : V → Bool
  | .int _ => false
  | _ => true
theorem isi_int {K : PySem.W.Frag} {H : Hp} {v : V} (h : flat3 v = true) : ∃ t, TyX K H v t ∧ PySem.W.kitOne K t (.type "int") = some (match v with | .non => false | _ => true) := by
  cases v with
  | non => exact ⟨_, .base .non, kit_ty (show kitB "NoneType" "int" = some false by decide +kernel)⟩
  | bl b => exact ⟨_, .base (.bl b), kit_ty (show kitB "bool" "int" = some true by decide +kernel)⟩
  | int i => exact ⟨_, .base (.int i), kit_ty (show kitB "int" "int" = some true by decide +kernel)⟩
  | _ => cases h
theorem eqv_lst_nil (vs : List V) : PyData.eqv (.list (vs.map dOf)) (.list []) = decide (vs = []) := by
  rw [PyData.eqv]
  cases vs with
  | nil => simp [PyData.eqvAll]
  | cons v r => simp [PyData.eqvAll]
theorem all_ints : ∀ (ws : List V), ws.filter notInt = [] → ∃ ms, ws = iv ms
  | [], _ => ⟨[], rfl⟩
  | v :: r, h => by
    rw [List.filter_cons] at h
    cases e : notInt v with
    | true => rw [e] at h; simp at h
    | false =>
      rw [e] at h
      obtain ⟨ms, hm⟩ := all_ints r (by simpa using h)
      cases v with
      | int i => exact ⟨i :: ms, by rw [hm]; rfl⟩
      | _ => cases e
theorem filter_iv (ms : List Int) : (iv ms).filter notInt = [] := by
  induction ms with
  | nil => rfl
  | cons m r ih =>
    show List.filter notInt (.int m :: iv r) = []
    rw [List.filter_cons, ih]
    rfl
section
variable {K : PySem.W.Frag} {a b : Addr} {xs ys : List V}
theorem walk_zipT {n : Nat} (hn : n = min xs.length ys.length) : Walk (RZ.ItzT K a b) n (fun H => SqT K H a xs ∧ SqT K H b ys) (YPair (fun i => xs[i]?) (fun i => ys[i]?)) := by
  subst hn
  refine ⟨fun i _ hi q => ?_, fun _ q => ⟨xs, ys, q.1, q.2, by omega⟩, fun i H v H' _ q y => ?_⟩
  · have h1 : i < xs.length := by omega
    have h2 : i < ys.length := by omega
    exact ⟨xs, ys, xs[i], ys[i], q.1, q.2, by simp [h1], by simp [h2]⟩
  · obtain ⟨T, x, z, h1, h2, h3, h4, h5⟩ := y
    exact ⟨T, x, z, h1, h2, h3, h4 xs q.1, h5 ys q.2⟩
end
section
variable {P : Program} {w : World} {K : PySem.W.Frag} {mg : Str → Option Value} {base : Heap}
/-! ### _law_is_paper -/
def spLPaper (K : PySem.W.Frag) : Sp := fun vs H Q _ => ∃ (a : Addr) (b : Int) (bs : List Int) (x : Int) (v : V) (o : Option (List V)), vs = [.ref a, .int x, v] ∧ GOk K H a b bs ∧ (∀ y ∈ b :: bs, y ≤ 10000000) ∧ Vk H v o ∧
  ∀ H' r, Same H H' → (r = true ↔ ∃ k ks, o = some (iv (k :: ks)) ∧ Pap b bs x k ks) → Q (.bl r) H'
theorem ok_lpaper {f : Addr} {fd : FuncData} (F : Fun K "_law_is_paper" "_law_is_paper" sLPaper f fd) (T : Txt K mg) (C : Cal P w K mg base 2 "_law_commons" ["_law_numbers_here"] (spLCommons K)) : FnOk P w K mg base CX0 3 f fd ["_law_generators", "_law_number", "_law_value"] (spLPaper K) := by
  refine F.ok (k := 2) scLPaper (fun vs H Q E h => ?_) (fun cdv A outer s H vs Q E hr h => ?_)
  · obtain ⟨a, b, bs, x, v, o, rfl, _⟩ := h
    rfl
  · obtain ⟨a, b, bs, x, v, o, rfl, hG, hsmall, hv, q⟩ := h
    refine ⟨_, pss_cons (ps_if (PW.pt (pw_or (pt_not (pt_val (pe_callB call_isi (by rfl) T.isi boot_isi (pa_cons (pv 2) (pa_cons (pe_bltn (v := .ty "tuple") (by rfl) T.tuple boot_tuple' rfl) pa_nil)))))
          (pw_or1 (pt_cmpR op_ne (pe_callB call_len_seq (by rfl) T.len PySem.boot_len (pa_cons (pv 2) pa_nil)) (pe_callB call_len_seq (by rfl) T.len PySem.boot_len (pa_cons (pv 0) pa_nil)) (nomark _))))) (pss_one (ps_ret pe_bl)) pss_nil)
      (pss_cons (ps_if (pt_cmpR (op_neD hr.units) (pe_lc (own := [("_law_one", 5)]) (g := gName 5) (te := tVar 5)
            (tt := tOr (tNot (tB (tCB (rIsi K) (tCons (tVar 5) (tCons (tC (.ty "int")) tNil))))) (tB (tCB (rIsi K) (tCons (tVar 5) (tCons (tC (.ty "bool")) tNil))))) (by rfl) scLPaper.nd (pi_tup (pv 2))
            (blkOk_by (N := nmLPaper) (sc := defScope sLPaper) (by decide +kernel)) (fun _ _ _ _ _ => pg_name (i := 5) scLPaper.nd rfl (.inl rfl))
            (fun _ _ _ _ _ => pts_one (PW.pt (pw_or (pt_not (pt_val (pe_callB call_isi (by rfl) T.isi boot_isi (pa_cons (pv 5) (pa_cons (pe_bltn (v := .ty "int") (by rfl) T.int boot_int' rfl) pa_nil)))))
              (pw_or1 (pt_val (pe_callB call_isi (by rfl) T.isi boot_isi (pa_cons (pv 5) (pa_cons (pe_bltn (v := .ty "bool") (by rfl) T.bool boot_bool' rfl) pa_nil))))))))
            (fun _ _ _ _ _ => pv 5)) (pe_lst pa_nil) (nomark _)) (pss_one (ps_ret pe_bl)) pss_nil)
      (pss_cons (ps_set (i := 3) scLPaper.nd rfl (.inl rfl) (pe_cal C hr (by rfl) (pa_cons (pv 0) pa_nil)))
      (pss_cons (ps_for PassesOwn.never rfl (pi_range2 (by rfl) T.range (pa_cons pe_int (pa_cons (pe_callB call_len_seq (by rfl) T.len PySem.boot_len (pa_cons (pv 2) pa_nil)) pa_nil))) (pg_name (i := 4) scLPaper.nd rfl (.inl rfl))
        (pss_one (ps_if (pt_not (pt_chain op_le op_lt pe_int (pe_ix ix_tup (pv 2) (pv 4) (fun _ _ => rfl)) (pe_op op_fdiv (pe_ix ix_list (pv 3) (pe_op op_sub (pv 4) pe_int) (fun _ _ => rfl)) (pe_ix ix_list (pv 3) (pv 4) (fun _ _ => rfl))))) (pss_one (ps_ret pe_bl)) pss_nil)))
      (pss_one (ps_ret (pe_cmpR op_eq (pe_callB (cr_sum rfl) (by rfl) T.sum boot_sum' (pa_cons
          (pe_lc (own := [("_law_one", 5), ("_law_other", 6)]) (g := gTup K 2 (gCons (gName 5) (gCons (gName 6) gNil))) (tt := tYes) (by rfl) scLPaper.nd (RZ.pi_zipA (by rfl) T.zip (pa_cons (pv 2) (pa_cons (pv 0) pa_nil)))
            (blkOk_by (N := nmLPaper) (sc := defScope sLPaper) (by decide +kernel))
            (fun _ _ _ _ _ => pg_tup rfl (pgs_cons (pg_name (i := 5) scLPaper.nd rfl (.inl rfl)) (pgs_cons (pg_name (i := 6) scLPaper.nd rfl (.inl rfl)) pgs_nil)))
            (fun _ _ _ _ _ => pts_nil) (fun _ _ _ _ _ => pe_op op_mul (pv 5) (pv 6))) pa_nil)) (pv 1) (nomark _))))))), ?_⟩
    have bp := hG.gen.pos
    have hsm := hG.small
    have hlen := hG.len
    obtain ⟨t, ty, kt⟩ := hv.isi (K := K)
    refine ⟨v, rfl, v, .ty "tuple", t, .type "tuple", o.isSome, rfl, .ty _, ty, kt, o.isSome, rfl, ?_⟩
    cases o with
    | none =>
      have e : (false = true ↔ ∃ k ks, (none : Option (List V)) = some (iv (k :: ks)) ∧ Pap b bs x k ks) := ⟨(fun z => nomatch z), fun ⟨_, _, z, _⟩ => (nomatch z)⟩
      exact iteT (B := True) (iteT (B := True) (q H false (Same.refl H) e))
    | some ws =>
      refine iteF (A := True) ?_
      cases hv with
      | @tup t1 _ e fl wlen =>
        refine ⟨.ref t1, rfl, t1, ws, rfl, .inr (.inl (.inl e)), .ref a, rfl, a, iv (b :: bs), rfl, .inr (.inl (.inl hG.at_)), rfl, _, rfl, ite2 (fun c => ?_) (fun c => ?_)⟩
        · refine q H false (Same.refl H) ⟨(fun z => nomatch z), fun ⟨k, ks, z, pp⟩ => ?_⟩
          have z := Option.some.inj z
          exfalso
          have hl := bnd_len _ _ _ pp.bnd
          rw [z, List.length_map, List.length_map, List.length_cons, List.length_cons, hl] at c
          rw [decide_eq_true rfl] at c
          cases c
        · have lw : ws.length = bs.length + 1 := by
            by_cases z : ws.length = bs.length + 1
            · exact z
            · exfalso
              refine c ?_
              have : ¬ (V.int (ws.length : Nat) = V.int ((iv (b :: bs)).length : Nat)) := fun y => z (by
                have y := V.int.inj y
                rw [List.length_map, List.length_cons] at y
                omega)
              rw [decide_eq_false this]
              rfl
          -- those that are no ints
          refine ⟨.ref t1, rfl, t1, rfl, ⟨_, .inl (.inl e)⟩, fun D nD => ?_⟩
          refine lc_it (walk_tup (K := K) (a := t1) (xs := ws)) (fun i H3 => Same H H3 ∧ H3 D = some (.lst ((ws.take i).filter notInt))) ⟨same_upd nD, upd_same⟩ (fun i H3 _ hP => .inl (.inl (hP.1 _ _ e)))
            (fun i y H3 H4 hi hP hy => ?_) fun H3 hP => ?_
          · obtain ⟨s3, e3⟩ := hP
            obtain ⟨rfl, hy⟩ := hy
            have hf := fl y (List.mem_of_getElem? hy)
            have tk : (ws.take (i + 1)).filter notInt = (ws.take i).filter notInt ++ (if notInt y = true then [y] else []) := by
              rw [List.take_add_one, hy, List.filter_append]
              congr 1
              show List.filter notInt [y] = _
              rw [List.filter_cons]
              rfl
            obtain ⟨t2, tx2, kt2⟩ := isi_int (K := K) (H := H4) hf
            obtain ⟨t3, tx3, kt3⟩ := isi_bool (K := K) (H := H4) hf
            have put : notInt y = true → tVar 5 ((wipe ((L2.start nmLPaper [V.ref a, V.int x, V.ref t1])) [5]).set 5 (some y)) H4 fun y_1 H5 => ∃ acc, H5 D = some (.lst acc) ∧ acc.length < sizeLine ∧ Same H (upd H5 D (.lst (acc ++ [y_1]))) ∧ upd H5 D (.lst (acc ++ [y_1])) D = some (.lst ((ws.take (i + 1)).filter notInt)) := fun hn => by
              refine ⟨y, rfl, _, e3, ?_, ?_, ?_⟩
              · have h1 := List.length_filter_le notInt (ws.take i)
                rw [List.length_take] at h1
                exact small_size (by omega)
              · intro z o e4
                rw [upd_ne (ne_of_none e4 nD)]
                exact s3 _ _ e4
              · rw [upd_same, tk, if_pos hn]
            refine ⟨rfl, ?_⟩
            refine ⟨y, rfl, y, .ty "int", t2, .type "int", _, rfl, .ty _, tx2, kt2, _, rfl, ?_⟩
            cases y with
            | non => exact iteT (B := True) (iteT (B := True) (put rfl))
            | bl bb => exact iteF (A := True) ⟨.bl bb, rfl, .bl bb, .ty "bool", t3, .type "bool", true, rfl, .ty _, tx3, kt3, true, rfl, iteT (B := True) (put rfl)⟩
            | int ii => exact iteF (A := True) ⟨.int ii, rfl, .int ii, .ty "bool", t3, .type "bool", false, rfl, .ty _, tx3, kt3, false, rfl, iteF (A := True) ⟨s3, by rw [tk]; show H4 D = some (.lst ((ws.take i).filter notInt ++ [])); rw [List.append_nil]; exact e3⟩⟩
            | _ => cases hf
          obtain ⟨s3, e3⟩ := hP
          rw [List.take_length] at e3
          refine ⟨Nat.zero_le _, fun l4 f4 => ?_⟩
          have s4 : Same H3 (upd H3 l4 (.lst [])) := same_upd f4
          have ee : (upd H3 l4 (.lst [])) l4 = some (.lst []) := upd_same
          have ffl : ∀ u ∈ ws.filter notInt, flat3 u = true := fun u hu => fl u (List.mem_filter.mp hu).1
          refine ⟨.list ((ws.filter notInt).map dOf), .list [], .lst (.inl (.inl (s4 _ _ e3))) (dpAll_flat ffl), .lst (.inl (.inl ee)) .nil, shaped_lst _, shaped_lst [], _, rfl, ?_⟩
          rw [eqv_lst_nil]
          have s34 := s3.trans s4
          refine ite2 (fun c2 => ?_) (fun c2 => ?_)
          · refine q _ false s34 ⟨(fun z => nomatch z), fun ⟨k, ks, z, pp⟩ => ?_⟩
            exfalso
            have z := Option.some.inj z
            rw [z, filter_iv, decide_eq_true rfl] at c2
            cases c2
          · have hnil : ws.filter notInt = [] := by
              by_cases z : ws.filter notInt = []
              · exact z
              · exfalso
                refine c2 ?_
                rw [decide_eq_false z]
                rfl
            obtain ⟨mm, rfl⟩ := all_ints ws hnil
            obtain ⟨m, ms, rfl⟩ : ∃ m ms, mm = m :: ms := by
              cases mm with
              | nil => simp at lw
              | cons m ms => exact ⟨m, ms, rfl⟩
            have lms : ms.length = bs.length := by
              rw [List.length_map, List.length_cons] at lw
              omega
            -- what is asked, in these words
            have ask : ∀ {r : Bool}, (r = true ↔ Bnd b bs ms ∧ x = m * b + dot ms bs) → (r = true ↔ ∃ k ks, (some (iv (m :: ms)) : Option (List V)) = some (iv (k :: ks)) ∧ Pap b bs x k ks) := fun {r} h => by
              rw [h]
              constructor
              · rintro ⟨h1, h2⟩
                exact ⟨m, ms, rfl, h1, h2⟩
              · rintro ⟨k, ks, z, pp⟩
                have z := Option.some.inj z
                have z2 : m :: ms = k :: ks := by
                  have := congrArg (List.map fun v => match v with | V.int i => i | _ => 0) z
                  simpa [iv, List.map_map, Function.comp_def] using this
                injection z2 with z3 z4
                subst z3 z4
                exact ⟨pp.bnd, pp.eq⟩
            -- divisors
            refine ⟨.ref a, rfl, a, b, bs, rfl, .inl (.inl (s34 _ _ hG.at_)), hG.nn, hG.len, ⟨bp, hsm⟩, fun H5 d s5 nd ed => ?_⟩
            have s05 := s34.trans s5
            have tH := s05 _ _ e
            have aH := s05 _ _ hG.at_
            refine ⟨.ref t1, rfl, t1, iv (m :: ms), rfl, .inr (.inl (.inl tH)), 1, _, rfl, ⟨by decide, by decide, by omega, ?_⟩, ?_⟩
            · rw [lw]
              omega
            have en : (((iv (m :: ms)).length : Int) - 1).toNat = bs.length := by rw [lw]; omega
            rw [en]
            refine for_range (lo := 1) (n := bs.length) (fun i σ H6 => ∃ y4, σ = [some (.ref a), some (.int x), some (.ref t1), some (.ref d), y4, none, none] ∧ H6 = H5 ∧ ∀ (j : Nat) (k n : Int), j < i → ms[j]? = some k → (shs b bs)[j]? = some n → 0 ≤ k ∧ k < n)
              ⟨none, rfl, rfl, fun j k n hj => absurd hj (Nat.not_lt_zero _)⟩ (fun i σ H6 hi hP => ?_) fun σ H6 hP => ?_
            · obtain ⟨y4, rfl, rfl, hall⟩ := hP
              obtain ⟨x1, n, e4, e5, at_⟩ := at_of bs b i bp hG.gen.gd hi
              have p' := at_.pos'
              have le := at_.lt
              have lb := (at_.le bp).1
              have hdiv : e4 / e5 = n := by rw [at_.en, at_.eg]
              have hmi : ms[i]? = some (ms[i]'(by omega)) := List.getElem?_eq_getElem _
              obtain ⟨mi, hmi2⟩ : ∃ mi, mi = ms[i]'(by omega) := ⟨_, rfl⟩
              rw [← hmi2] at hmi
              have bad : ¬ (0 ≤ mi ∧ mi < n) → ¬ Bnd b bs ms := fun z y => z ((bnd_iff bs b ms lms).mp y i mi n hmi at_.hn)
              refine ⟨.ref t1, rfl, .int (1 + i), rfl, t1, _, _, .int mi, rfl, rfl, .inl (.inl tH), L2.at_of (j := i + 1) (by omega) (by rw [List.getElem?_map]; show (ms[i]?).map V.int = _; rw [hmi]; rfl), 0, mi, rfl, rfl, _, rfl, ?_⟩
              refine ite2 (fun c3 => ?_) (fun c3 => ?_)
              · have c3 : 0 ≤ mi := of_decide_eq_true c3
                refine ⟨.ref d, rfl, .int (1 + i), rfl, 1 + i, 1, rfl, rfl, d, _, _, .int e4, rfl, rfl, .inl (.inl ed), L2.at_of (j := i) (by omega) (by rw [List.getElem?_map, at_.he]; rfl), .ref d, rfl, .int (1 + i), rfl, d, _, _, .int e5, rfl, rfl, .inl (.inl ed), L2.at_of (j := i + 1) (by omega) (by rw [List.getElem?_map, at_.he']; rfl),
                  e4, e5, rfl, rfl, ⟨p', by omega⟩, mi, e4 / e5, rfl, rfl, _, rfl, ite2 (fun c4 => ?_) (fun c4 => ?_)⟩
                · have c4 : ¬ mi < e4 / e5 := fun z => by
                    rw [decide_eq_true z] at c4
                    cases c4
                  refine q H6 false s05 (ask ⟨(fun z => nomatch z), fun ⟨z, _⟩ => ?_⟩)
                  exact absurd z (bad fun y => c4 (by rw [hdiv]; exact y.2))
                · have c4 : mi < e4 / e5 := by
                    by_cases z : mi < e4 / e5
                    · exact z
                    · exact absurd (by rw [decide_eq_false z]; rfl) c4
                  refine ⟨_, rfl, rfl, fun j k n' hj hk hn' => ?_⟩
                  by_cases z : j = i
                  · subst z
                    rw [hmi] at hk
                    rw [at_.hn] at hn'
                    cases hk
                    cases hn'
                    exact ⟨c3, by omega⟩
                  · exact hall j k n' (by omega) hk hn'
              · refine ⟨_, rfl, iteT (B := True) ?_⟩
                refine q H6 false s05 (ask ⟨(fun z => nomatch z), fun ⟨z, _⟩ => ?_⟩)
                exact absurd z (bad fun y => c3 (decide_eq_true y.1))
            · obtain ⟨y4, rfl, rfl, hall⟩ := hP
              have hb : Bnd b bs ms := (bnd_iff bs b ms lms).mpr fun j k n hk hn => hall j k n (by rw [← lms]; exact (List.getElem?_eq_some_iff.mp hk).1) hk hn
              -- the sum
              refine ⟨.ref t1, rfl, .ref a, rfl, t1, a, iv (m :: ms), iv (b :: bs), rfl, .inr ⟨.inl (.inl tH), .inl (.inl aH), fun D2 nD2 => ?_⟩⟩
              refine lc_it (walk_zipT (K := K) (a := t1) (b := a) (n := bs.length + 1) (xs := iv (m :: ms)) (ys := iv (b :: bs)) (by rw [List.length_map, List.length_map, List.length_cons, List.length_cons, lms]; omega))
                (fun i H7 => Same H6 H7 ∧ H7 D2 = some (.lst (iv ((List.zipWith (· * ·) (m :: ms) (b :: bs)).take i)))) ⟨same_upd nD2, upd_same⟩ (fun i H7 _ hP => ⟨.inl (.inl (hP.1 _ _ tH)), .inl (.inl (hP.1 _ _ aH))⟩)
                (fun i y H7 H8 hi hP hy => ?_) fun H7 hP => ?_
              · obtain ⟨s7, e7⟩ := hP
                obtain ⟨Tt, v1, v2, rfl, nT, rfl, g1, g2⟩ := hy
                obtain ⟨m1, hm1, rfl⟩ := iv_of g1
                obtain ⟨x1, hx1, rfl⟩ := iv_of g2
                have xl := hsmall x1 (List.mem_of_getElem? hx1)
                have x0 := hG.nn x1 (List.mem_of_getElem? hx1)
                refine ⟨Tt, [.int m1, .int x1], rfl, .inl (.inl upd_same), rfl, _, _, rfl, _, _, rfl, rfl, rfl, ?_⟩
                refine iteT (B := True) ⟨.int m1, rfl, .int x1, rfl, m1, x1, rfl, rfl, .inr ⟨by omega, by omega⟩, _, same_upd nT _ _ e7, ?_, ?_⟩
                · rw [List.length_map, List.length_take, List.length_zipWith, List.length_cons, List.length_cons]
                  exact small_size (by omega)
                · refine ⟨fun z o e8 => ?_, ?_⟩
                  · rw [upd_ne (ne_of_none e8 nD2)]
                    exact same_upd nT _ _ (s7 _ _ e8)
                  · rw [upd_same, List.take_add_one, List.getElem?_zipWith, hm1, hx1]
                    unfold iv
                    rw [List.map_append]
                    rfl
              · obtain ⟨s7, e7⟩ := hP
                rw [List.take_of_length_le (by rw [List.length_zipWith, List.length_cons, List.length_cons]; omega)] at e7
                refine ⟨D2, _, rfl, .inl (.inl e7), .int x, rfl, rfl, ?_⟩
                refine q H7 _ (s05.trans s7) (ask ?_)
                have es : (List.zipWith (· * ·) (m :: ms) (b :: bs)).sum = m * b + dot ms bs := by
                  rw [List.zipWith_cons_cons, List.sum_cons, dot_zip ms bs lms]
                rw [es]
                constructor
                · intro z
                  have z := V.int.inj (of_decide_eq_true z)
                  exact ⟨hb, z.symm⟩
                · rintro ⟨_, z⟩
                  exact decide_eq_true (congrArg V.int z.symm)
end
end K33
set_option maxRecDepth 100000
set_option maxHeartbeats 4000000
namespace K33
open PySem PySem.Spec PyProof.Rows L2
theorem boot_list' : bootBuiltins "list" = some (.type "list") := by decide +kernel
/-- t + u of tracked tuples -/
def rCatS : R2 := fun x y H Q => ∃ a b xs ys, x = .ref a ∧ y = .ref b ∧ H a = some (.tup xs) ∧ H b = some (.tup ys) ∧ xs.length + ys.length ≤ sizeLine ∧ ∀ p H', Same H H' → H' p = some (.tup (xs ++ ys)) → Q (.ref p) H'
theorem op_catS {X : Cx} : OpR X (binaryOp .Add) rCatS := by
  intro pins s σ H x y v u Q I rx ry h
  obtain ⟨a, b, xs, ys, rfl, rfl, ha, hb, hl, q⟩ := h
  refine op_catA pins s σ H _ _ v u Q I rx ry ⟨a, b, xs, ys, rfl, rfl, .inl (.inl ha), .inl (.inl hb), hl, fun e => ?_, fun _ e => ?_, fun _ _ p np => ?_⟩
  · refine q b H (Same.refl H) ?_
    rw [e]
    exact hb
  · refine q a H (Same.refl H) ?_
    rw [e, List.append_nil]
    exact ha
  · exact q p _ (same_upd np) upd_same
theorem Vk.sameB {H H' : Hp} {l : Addr} {v : V} {o : Option (List V)} (h : Vk H v o) (n : v ≠ .ref l) (s : SameB l H H') : Vk H' v o := by
  cases h with
  | tup e fl len => exact .tup (s _ _ (fun z => n (by rw [z])) e) fl len
  | lst e => exact .lst (s _ _ (fun z => n (by rw [z])) e)
  | dk e => exact .dk (s _ _ (fun z => n (by rw [z])) e)
  | non => exact .non
  | int i => exact .int i
theorem Vk.ne {H : Hp} {l : Addr} {v : V} {o : Option (List V)} (h : Vk H v o) (n : H l = none) : v ≠ .ref l := by
  intro z
  cases h with
  | tup e => cases z; rw [n] at e; cases e
  | lst e => cases z; rw [n] at e; cases e
  | dk e => cases z; rw [n] at e; cases e
  | non => cases z
  | int i => cases z
theorem flat_app {xs ys : List V} (h : ∀ v ∈ xs, flat3 v = true) (h2 : ∀ v ∈ ys, flat3 v = true) : ∀ v ∈ xs ++ ys, flat3 v = true := fun v hv => (List.mem_append.mp hv).elim (h v) (h2 v)
theorem flat_take {xs : List V} {n : Nat} (h : ∀ v ∈ xs, flat3 v = true) : ∀ v ∈ xs.take n, flat3 v = true := fun v hv => h v (List.mem_of_mem_take hv)
theorem flat_drop {xs : List V} {n : Nat} (h : ∀ v ∈ xs, flat3 v = true) : ∀ v ∈ xs.drop n, flat3 v = true := fun v hv => h v (List.mem_of_mem_drop hv)
theorem free_of {p t : Addr} {H H' : Hp} (s : SameB p H H') (d : DiceAt H p) (n : H' t = none) (dp : DiceAt H' p) : H t = none := by
  cases z : H t with
  | none => rfl
  | some o =>
    by_cases h : t = p
    · exact absurd h (dp.ne n).symm
    · rw [s t o h z] at n
      cases n
/-- the values so far: described, and none is the list itself -/
def NearL (l : Addr) (H : Hp) (vals : List V) : Prop := ∀ v ∈ vals, v ≠ .ref l ∧ ∃ o, Vk H v o
theorem NearL.app {H3 H5 : Hp} {fl : Addr} {vals : List V} {v : V} {o : Option (List V)} (h : NearL fl H3 vals) (s : Same H3 H5) (n : v ≠ .ref fl) (hv : Vk H5 v o) : NearL fl (upd H5 fl (.lst (vals ++ [v]))) (vals ++ [v]) := by
  intro u hu
  rcases List.mem_append.mp hu with hu | hu
  · obtain ⟨h1, o, h2⟩ := h u hu
    exact ⟨h1, o, (h2.same s).sameB h1 SameB.upd⟩
  · rw [List.mem_singleton.mp hu]
    exact ⟨n, o, hv.sameB n SameB.upd⟩
theorem near_tup {H : Hp} {fl p : Addr} {vals ws : List V} (e : H p = some (.tup ws)) (ef : H fl = some (.lst vals)) : V.ref p ≠ .ref fl := fun z => by
  cases z
  rw [e] at ef
  cases ef
section
variable {P : Program} {w : World} {K : PySem.W.Frag} {mg : Str → Option Value} {base : Heap}
/-! ### _law_near -/
def spNear (K : PySem.W.Frag) : Sp := fun vs H Q _ => ∃ (p g t : Addr) (b : Int) (bs : List Int) (k : Int) (ks : List Int), vs = [.ref p, .ref g, .ref t] ∧ DiceAt H p ∧ H g = some (.tup (iv (b :: bs))) ∧ H t = some (.tup (iv (k :: ks))) ∧ ks.length = bs.length ∧ bs.length ≤ 100 ∧
  ∀ H' l vals, H' l = some (.lst vals) → (∀ v ∈ vals, ∃ o, Vk H' v o) → SameB p H H' → DiceAt H' p → H l = none → Q (.ref l) H'
theorem ok_near {f : Addr} {fd : FuncData} (F : Fun K "_law_near" "_law_near" sNear f fd) (T : Txt K mg) (CR : Cal P w K mg base 1 "_law_roll" ["_law_dice_here", "_law_total"] spRoll) : FnOk P w K mg base CX0 2 f fd ["_law_dice_here", "_law_generators", "_law_paper"] (spNear K) := by
  refine F.ok (k := 1) scNear (fun vs H Q E h => ?_) (fun cdv A outer s H vs Q E hr h => ?_)
  · obtain ⟨p, g, t, b, bs, k, ks, rfl, _⟩ := h
    rfl
  · obtain ⟨p, g, t, b, bs, k, ks, rfl, hd, hg, ht, hl, hl2, q⟩ := h
    refine ⟨_, pss_cons (ps_set (i := 3) scNear.nd rfl (.inl rfl) (pe_cal CR hr (by rfl) (pa_cons (pv 0) (pa_cons (pe_callB call_len_seq (by rfl) T.len PySem.boot_len (pa_cons (pv 2) pa_nil)) pa_nil))))
      (C8.pss_cut (ps_set (i := 4) scNear.nd rfl (.inl rfl) (pe_lst (pa_cons (pv 2) (pa_cons (pe_revT (pv 2)) (pa_cons (pe_slice sl_tup (pv 2) (po_some pe_int) po_none) (pa_cons (pe_op op_catS (pv 2) (pe_tup (pa_cons pe_int pa_nil)))
          (pa_cons (pe_callTy call_list_of (by rfl) T.list boot_list' (pa_cons (pv 2) pa_nil)) (pa_cons pe_non (pa_cons pe_dnewK (pa_cons (pe_callB (cr_sumT rfl) (by rfl) T.sum boot_sum' (pa_cons (pv 2) pa_nil)) pa_nil))))))))))
      (C8.pss_cut (ps_for PassesOwn.never rfl (pi_list (pe_lst (pa_cons (pe_op op_add (pe_ix ix_tup (pv 2) (pv 3) (fun _ _ => rfl)) pe_int) (pa_cons (pe_op op_sub (pe_ix ix_tup (pv 2) (pv 3) (fun _ _ => rfl)) pe_int) (pa_cons pe_bl (pa_cons pe_non (pa_cons (pe_op op_add (pe_ix ix_tup (pv 2) (pv 3) (fun _ _ => rfl)) (pe_op op_pow pe_int pe_int)) pa_nil)))))))
          (pg_name (i := 5) scNear.nd rfl (.inl rfl))
        (pss_one (ps_expr (pe_bm PySem.F.plainAttrs_list PySem.F.slot_list_append PySem.F.type_list_append mt_append (pv 4) (pa_cons (pe_op op_catS (pe_op op_catS (pe_slice sl_tup (pv 2) po_none (po_some (pv 3))) (pe_tup (pa_cons (pv 5) pa_nil)))
          (pe_slice sl_tup (pv 2) (po_some (pe_op op_add (pv 3) pe_int)) po_none)) pa_nil)))))
      (pss_cons (ps_if (pt_cmpR op_gt (pe_callB call_len_seq (by rfl) T.len PySem.boot_len (pa_cons (pv 1) pa_nil)) pe_int (nomark _))
        (pss_one (ps_expr (pe_bm PySem.F.plainAttrs_list PySem.F.slot_list_append PySem.F.type_list_append mt_append (pv 4) (pa_cons (pe_op op_catS (pe_op op_catS (pe_tup (pa_cons (pe_op op_sub (pe_ix ix_tup (pv 2) pe_int (fun _ _ => rfl)) (pe_ix ix_tup (pv 1) pe_int (fun _ _ => rfl))) pa_nil))
          (pe_tup (pa_cons (pe_op op_add (pe_ix ix_tup (pv 2) pe_int (fun _ _ => rfl)) (pe_ix ix_tup (pv 1) pe_int (fun _ _ => rfl))) pa_nil))) (pe_slice sl_tup (pv 2) (po_some pe_int) po_none)) pa_nil)))) pss_nil)
      (pss_one (ps_ret (pv 4)))))), ?_⟩
    have lk : (iv (k :: ks)).length = bs.length + 1 := by rw [List.length_map, List.length_cons, hl]
    have npt : t ≠ p := by
      obtain ⟨o, eo, _, _, _, rfl, _⟩ := hd
      exact ne_of ht eo (fun z => nomatch z)
    have npg : g ≠ p := by
      obtain ⟨o, eo, _, _, _, rfl, _⟩ := hd
      exact ne_of hg eo (fun z => nomatch z)
    have fk := flat_iv (k :: ks)
    have sz : ∀ {n : Nat}, n ≤ 190 → n ≤ sizeLine := fun h => Nat.le_of_lt (small_size (by omega))
    refine ⟨.ref p, rfl, .ref t, rfl, t, iv (k :: ks), rfl, .inr (.inl (.inl ht)), p, _, rfl, hd, by rw [lk]; omega, ?_, fun r o r0 r1 ho => ?_⟩
    · rw [lk, Int.natAbs_natCast]
      exact Nat.lt_of_le_of_lt (show bs.length + 1 ≤ 1000 by omega) (by decide)
    rw [lk] at r1
    obtain ⟨j, rfl⟩ := Int.eq_ofNat_of_zero_le r0
    have hj : j < (k :: ks).length := by rw [List.length_cons, hl]; omega
    obtain ⟨H1, hH1⟩ : ∃ H1, H1 = upd H p o := ⟨_, rfl⟩
    have sb1 : SameB p H H1 := by rw [hH1]; exact SameB.upd
    have hd1 : DiceAt H1 p := by rw [hH1]; exact DiceAt.set ho
    rw [← hH1]
    have ht1 := sb1 _ _ npt ht
    have hg1 := sb1 _ _ npg hg
    refine ⟨fun σ H' => ∃ fl vals, σ = [some (.ref p), some (.ref g), some (.ref t), some (.int j), some (.ref fl), none] ∧ H' fl = some (.lst vals) ∧ NearL fl H' vals ∧ Same H1 H' ∧ H1 fl = none ∧ vals.length ≤ 8, ?_, fun σ H' hM => ?_⟩
    · -- the eight
      refine ⟨.ref t, rfl, .ref t, rfl, t, _, rfl, .inl (.inl ht1), fun p2 n2 => ?_⟩
      have s2 : Same H1 (upd H1 p2 (.tup (iv (k :: ks)).reverse)) := same_upd n2
      have e2 : (upd H1 p2 (.tup (iv (k :: ks)).reverse)) p2 = some (.tup (iv (k :: ks)).reverse) := upd_same
      obtain ⟨H2, hH2⟩ : ∃ H2, H2 = upd H1 p2 (.tup (iv (k :: ks)).reverse) := ⟨_, rfl⟩
      rw [← hH2] at s2 e2
      rw [← hH2]
      refine ⟨.ref t, rfl, 1, rfl, t, _, rfl, .inl (.inl (s2 _ _ ht1)), cut_not (k := 1) (by decide) (by rw [lk]; omega), fun p3 n3 => ?_⟩
      rw [show cutV (iv (k :: ks)) (some 1) none = (iv (k :: ks)).drop 1 from cut_from _ 1]
      have s3 : Same H2 (upd H2 p3 (.tup ((iv (k :: ks)).drop 1))) := same_upd n3
      have e3 : (upd H2 p3 (.tup ((iv (k :: ks)).drop 1))) p3 = some (.tup ((iv (k :: ks)).drop 1)) := upd_same
      obtain ⟨H3, hH3⟩ : ∃ H3, H3 = upd H2 p3 (.tup ((iv (k :: ks)).drop 1)) := ⟨_, rfl⟩
      rw [← hH3] at s3 e3
      rw [← hH3]
      have s13 := s2.trans s3
      refine ⟨.ref t, rfl, (show 1 ≤ sizeLine by decide), fun c1 nc1 => ⟨t, c1, iv (k :: ks), [.int 0], rfl, rfl, same_upd nc1 _ _ (s13 _ _ ht1), upd_same, by rw [lk]; exact sz (by show bs.length + 1 + 1 ≤ 190; omega), fun p4 H4 s4 e4 => ?_⟩⟩
      have s14 := s13.trans ((same_upd nc1).trans s4)
      refine ⟨.ref t, rfl, t, _, rfl, .inr (.inl (.inl (s14 _ _ ht1))), fun l5 n5 => ?_⟩
      have s5 : Same H4 (upd H4 l5 (.lst (iv (k :: ks)))) := same_upd n5
      have e5 : (upd H4 l5 (.lst (iv (k :: ks)))) l5 = some (.lst (iv (k :: ks))) := upd_same
      obtain ⟨H5, hH5⟩ : ∃ H5, H5 = upd H4 l5 (.lst (iv (k :: ks))) := ⟨_, rfl⟩
      rw [← hH5] at s5 e5
      rw [← hH5]
      refine fun d6 n6 => ?_
      have s6 : Same H5 (upd H5 d6 (.dK [])) := same_upd n6
      have e6 : (upd H5 d6 (.dK [])) d6 = some (.dK []) := upd_same
      obtain ⟨H6, hH6⟩ : ∃ H6, H6 = upd H5 d6 (.dK []) := ⟨_, rfl⟩
      rw [← hH6] at s6 e6
      rw [← hH6]
      have s46 := s5.trans s6
      have s16 := s14.trans s46
      refine ⟨.ref t, rfl, t, k :: ks, rfl, .inl (.inl (s16 _ _ ht1)), (show 8 ≤ sizeLine by decide), fun fl nf => ?_⟩
      have s7 : Same H6 (upd H6 fl (.lst [V.ref t, .ref p2, .ref p3, .ref p4, .ref l5, .non, .ref d6, .int (k :: ks).sum])) := same_upd nf
      refine ⟨fl, _, rfl, upd_same, fun v hv => ?_, s16.trans s7, s16.free nf, Nat.le_refl 8⟩
      have fin : ∀ {u : V} {oo : Option (List V)}, Vk H6 u oo → u ≠ .ref fl ∧ ∃ o, Vk (upd H6 fl (.lst [V.ref t, .ref p2, .ref p3, .ref p4, .ref l5, .non, .ref d6, .int (k :: ks).sum])) u o := fun h => ⟨h.ne nf, _, h.same s7⟩
      have hv' : v = .ref t ∨ v = .ref p2 ∨ v = .ref p3 ∨ v = .ref p4 ∨ v = .ref l5 ∨ v = .non ∨ v = .ref d6 ∨ v = .int (k :: ks).sum := by simpa using hv
      rcases hv' with rfl | rfl | rfl | rfl | rfl | rfl | rfl | rfl
      · exact fin (.tup (s16 _ _ ht1) fk (by rw [lk]; omega))
      · exact fin (.tup ((s3.trans ((same_upd nc1).trans s4)).trans s46 _ _ e2) (fun u hu => fk u (List.mem_reverse.mp hu)) (by rw [List.length_reverse, lk]; omega))
      · exact fin (.tup (((same_upd nc1).trans s4).trans s46 _ _ e3) (flat_drop fk) (by rw [List.length_drop, lk]; omega))
      · exact fin (.tup (s46 _ _ e4) (flat_app fk fun u hu => by rw [List.mem_singleton.mp hu]; rfl) (by rw [List.length_append, lk]; show bs.length + 1 + 1 ≤ 150; omega))
      · exact fin (.lst (s6 _ _ e5))
      · exact fin .non
      · exact fin (.dk e6)
      · exact fin (.int _)
    obtain ⟨fl, vals, rfl, ef, hn, s1', nf1, hvl⟩ := hM
    have npf : p ≠ fl := hd1.ne nf1
    refine ⟨fun σ H2 => ∃ vals y5, σ = [some (.ref p), some (.ref g), some (.ref t), some (.int j), some (.ref fl), y5] ∧ H2 fl = some (.lst vals) ∧ NearL fl H2 vals ∧ SameB fl H1 H2 ∧ vals.length ≤ 13, ?_, fun σ H2 hM => ?_⟩
    · -- the five
      have ht2 := s1' _ _ ht1
      obtain ⟨pj, hpj⟩ : ∃ pj, pj = (k :: ks)[j] := ⟨_, rfl⟩
      have at_ : atI (iv (k :: ks)) (j : Int) = some (.int pj) := by rw [hpj]; exact atI_nat (iv_get hj)
      have ix : ∀ {Q : VK}, Q (.int pj) H' → (tOp (rIxT K) (tVar 2) (tVar 3)) [some (.ref p), some (.ref g), some (.ref t), some (.int j), some (.ref fl), none] H' Q := fun hq => ⟨.ref t, rfl, .int j, rfl, t, _, _, .int pj, rfl, rfl, .inl (.inl ht2), at_, hq⟩
      refine ix ⟨pj, 1, rfl, rfl, ix ⟨pj, 1, rfl, rfl, ix ⟨10, 60, rfl, rfl, ⟨by decide, by decide, by decide⟩, pj, _, rfl, rfl, (show 5 ≤ sizeLine by decide), fun l9 n9 => ?_⟩⟩⟩
      obtain ⟨items, hit⟩ : ∃ items : List V, items = [.int (pj + 1), .int (pj - 1), .bl true, .non, .int (pj + 10 ^ (60 : Int).toNat)] := ⟨_, rfl⟩
      have hfl : ∀ v ∈ items, flat3 v = true := by
        rw [hit]
        intro v hv
        have hv' : v = .int (pj + 1) ∨ v = .int (pj - 1) ∨ v = .bl true ∨ v = .non ∨ v = .int (pj + 10 ^ (60 : Int).toNat) := by simpa using hv
        rcases hv' with rfl | rfl | rfl | rfl | rfl <;> rfl
      have hil : items.length = 5 := by rw [hit]; rfl
      show _
      rw [show [V.int (pj + 1), V.int (pj - 1), V.bl true, V.non, V.int (pj + 10 ^ (60 : Int).toNat)] = items from hit.symm]
      have s9 : Same H' (upd H' l9 (.lst items)) := same_upd n9
      have e9 : (upd H' l9 (.lst items)) l9 = some (.lst items) := upd_same
      obtain ⟨H9, hH9⟩ : ∃ H9, H9 = upd H' l9 (.lst items) := ⟨_, rfl⟩
      rw [← hH9] at s9 e9
      rw [← hH9]
      have n9f : l9 ≠ fl := fun z => by rw [z, ef] at n9; cases n9
      refine ⟨l9, rfl, ⟨_, .inl (.inl e9)⟩, for_list (xs := items) (fun i σ H3 => ∃ vals y5, σ = [some (.ref p), some (.ref g), some (.ref t), some (.int j), some (.ref fl), y5] ∧ H3 fl = some (.lst vals) ∧ NearL fl H3 vals ∧ SameB fl H9 H3 ∧ vals.length ≤ 8 + i)
        ⟨vals, none, rfl, s9 _ _ ef, fun v hv => ⟨(hn v hv).1, by obtain ⟨o, h⟩ := (hn v hv).2; exact ⟨o, h.same s9⟩⟩, SameB.refl _ _, hvl⟩ (fun i σ H3 _ hP => ?_) (fun i v σ H3 hx hP => ?_) fun σ H3 hP => ?_⟩
      · obtain ⟨_, _, _, _, _, sb, _⟩ := hP
        exact .inl (.inl (sb _ _ n9f e9))
      · obtain ⟨vals3, y5, rfl, ef3, hn3, sb3, hl3⟩ := hP
        have hv := hfl v (List.mem_of_getElem? hx)
        have ntf : t ≠ fl := ne_of (s1' _ _ ht1) ef (fun z => nomatch z)
        have ht3 := sb3 _ _ ntf (s9 _ _ (s1' _ _ ht1))
        have hi5 : i < 5 := by
          have := (List.getElem?_eq_some_iff.mp hx).1
          omega
        refine ⟨.ref fl, rfl, .inl ⟨rfl, _, .inl (.inl ef3)⟩, .ref t, rfl, .int j, rfl, j, rfl, t, _, rfl, .inl (.inl ht3), ?_, fun q1 m1 => ?_⟩
        · rintro ⟨_, z⟩
          rw [HT.sIx_nat, lk] at z
          rw [List.length_cons, hl] at hj
          omega
        rw [cut_to]
        have s31 : Same H3 (upd H3 q1 (.tup ((iv (k :: ks)).take j))) := same_upd m1
        refine ⟨v, rfl, (show 1 ≤ sizeLine by decide), fun q2 m2 => ⟨q1, q2, (iv (k :: ks)).take j, [v], rfl, rfl, same_upd m2 _ _ upd_same, upd_same, ?_, fun q3 H4 s4 e4 => ?_⟩⟩
        · rw [List.length_take, lk]
          exact sz (by show min j (bs.length + 1) + 1 ≤ 190; omega)
        have s34 := (s31.trans (same_upd m2)).trans s4
        refine ⟨.ref t, rfl, .int j, rfl, j, 1, rfl, rfl, (j : Int) + 1, rfl, t, _, rfl, .inl (.inl (s34 _ _ ht3)), cut_not (k := j + 1) (by omega) (by rw [lk]; omega), fun q4 m4 => ?_⟩
        rw [show cutV (iv (k :: ks)) (some ((j : Int) + 1)) none = (iv (k :: ks)).drop (j + 1) from cut_from _ (j + 1)]
        refine ⟨q3, q4, _, _, rfl, rfl, same_upd m4 _ _ e4, upd_same, ?_, fun q5 H5 s5 e5 => ?_⟩
        · rw [List.length_append, List.length_take, List.length_drop, lk]
          exact sz (by show min j (bs.length + 1) + 1 + (bs.length + 1 - (j + 1)) ≤ 190; omega)
        have s35 := (s34.trans (same_upd m4)).trans s5
        have ef5 := s35 _ _ ef3
        refine ⟨fl, _, _, rfl, rfl, ef5, small_size (by omega), vals3 ++ [.ref q5], _, rfl, upd_same, ?_, ?_, ?_⟩
        · refine hn3.app s35 (near_tup e5 ef5) (.tup e5 (flat_app (flat_app (flat_take fk) fun u hu => by rw [List.mem_singleton.mp hu]; exact hv) (flat_drop fk)) ?_)
          rw [List.length_append, List.length_append, List.length_take, List.length_drop, lk]
          show min j (bs.length + 1) + 1 + (bs.length + 1 - (j + 1)) ≤ 150
          omega
        · exact (sb3.trans (SameB.of s35)).trans SameB.upd
        · rw [List.length_append]
          show vals3.length + 1 ≤ 8 + (i + 1)
          omega
      · obtain ⟨vals3, y5, rfl, ef3, hn3, sb3, hl3⟩ := hP
        exact ⟨vals3, y5, rfl, ef3, hn3, (SameB.of (s1'.trans s9)).trans sb3, by omega⟩
    · obtain ⟨vals2, y5, rfl, ef2, hn2, sb2, hl2⟩ := hM
      have ntf : t ≠ fl := ne_of (s1' _ _ ht1) ef (fun z => nomatch z)
      have ngf : g ≠ fl := ne_of (s1' _ _ hg1) ef (fun z => nomatch z)
      have ht2 := sb2 _ _ ntf ht1
      have hg2 := sb2 _ _ ngf hg1
      -- the end
      have fin : ∀ (H' : Hp) (vv : List V) (y : Option V), H' fl = some (.lst vv) → NearL fl H' vv → SameB fl H1 H' → tRet (tVar 4) { nx := fun _ H' => Q .non H', rt := Q } [some (.ref p), some (.ref g), some (.ref t), some (.int j), some (.ref fl), y] H' := fun H' vv y e hN sb => by
        have hd' : DiceAt H' p := by
          obtain ⟨oo, eo, dd⟩ := hd1
          exact ⟨oo, sb _ _ npf eo, dd⟩
        have nfH : H fl = none := free_of sb1 hd nf1 hd1
        refine ⟨.ref fl, rfl, q H' fl vv e (fun v hv => (hN v hv).2) (fun b o nb eb => ?_) hd' nfH⟩
        exact sb _ _ (ne_of_none eb nfH) (sb1 _ _ nb eb)
      refine ⟨.ref g, rfl, g, iv (b :: bs), rfl, .inr (.inl (.inl hg2)), _, 1, rfl, rfl, _, rfl, ite2 (fun c => ?_) (fun c => fin H2 vals2 y5 ef2 hn2 sb2)⟩
      have c1 : (1 : Int) < ((iv (b :: bs)).length : Int) := of_decide_eq_true c
      rw [List.length_map, List.length_cons] at c1
      obtain ⟨b1, bs', rfl⟩ : ∃ b1 bs', bs = b1 :: bs' := by
        cases bs with
        | nil =>
          exfalso
          simp at c1
        | cons x r => exact ⟨x, r, rfl⟩
      obtain ⟨k1, ks', rfl⟩ : ∃ k1 ks', ks = k1 :: ks' := by
        cases ks with
        | nil => simp at hl
        | cons x r => exact ⟨x, r, rfl⟩
      refine ⟨.ref fl, rfl, .inl ⟨rfl, _, .inl (.inl ef2)⟩, .ref t, rfl, t, _, 0, .int k, rfl, rfl, .inl (.inl ht2), atI_nat (j := 0) rfl, .ref g, rfl, g, _, 1, .int b1, rfl, rfl, .inl (.inl hg2), atI_nat (j := 1) rfl, k, b1, rfl, rfl, (show 1 ≤ sizeLine by decide), fun q1 m1 => ?_⟩
      have u1 : Same H2 (upd H2 q1 (.tup [.int (k - b1)])) := same_upd m1
      refine ⟨.ref t, rfl, t, _, 1, .int k1, rfl, rfl, .inl (.inl (u1 _ _ ht2)), atI_nat (j := 1) rfl, .ref g, rfl, g, _, 0, .int b, rfl, rfl, .inl (.inl (u1 _ _ hg2)), atI_nat (j := 0) rfl, k1, b, rfl, rfl, (show 1 ≤ sizeLine by decide), fun q2 m2 => ?_⟩
      refine ⟨q1, q2, [.int (k - b1)], [.int (k1 + b)], rfl, rfl, same_upd m2 _ _ upd_same, upd_same, (show 2 ≤ sizeLine by decide), fun q3 H4 s4 e4 => ?_⟩
      have s24 := (u1.trans (same_upd m2)).trans s4
      refine ⟨.ref t, rfl, 2, rfl, t, _, rfl, .inl (.inl (s24 _ _ ht2)), cut_not (k := 2) (by decide) (by rw [lk]; omega), fun q4 m4 => ?_⟩
      rw [show cutV (iv (k :: k1 :: ks')) (some 2) none = (iv (k :: k1 :: ks')).drop 2 from cut_from _ 2]
      refine ⟨q3, q4, _, _, rfl, rfl, same_upd m4 _ _ e4, upd_same, ?_, fun q5 H5 s5 e5 => ?_⟩
      · rw [List.length_append, List.length_drop, lk]
        exact sz (by show 1 + 1 + _ ≤ 190; omega)
      have s25 := (s24.trans (same_upd m4)).trans s5
      have ef5 := s25 _ _ ef2
      refine ⟨fl, _, _, rfl, rfl, ef5, small_size (by omega), ?_⟩
      refine fin _ (vals2 ++ [.ref q5]) y5 upd_same (hn2.app s25 (near_tup e5 ef5) (.tup e5 (flat_app (fun u hu => ?_) (flat_drop fk)) ?_)) ((sb2.trans (SameB.of s25)).trans SameB.upd)
      · have hu' : u = .int (k - b1) ∨ u = .int (k1 + b) := by simpa using hu
        rcases hu' with rfl | rfl <;> rfl
      · rw [List.length_append, List.length_drop, lk]
        show 1 + 1 + _ ≤ 150
        omega
end
end K33
set_option maxRecDepth 100000
set_option maxHeartbeats 4000000
namespace K33
open PySem PySem.Spec PyProof.Rows L2
theorem p40 : (10 : Int) ^ (40 : Int).toNat = 10000000000000000000000000000000000000000 := by decide +kernel
theorem p39 : (10 : Int) ^ (39 : Int).toNat = 1000000000000000000000000000000000000000 := by decide +kernel
theorem p59 : (10 : Int) ^ (59 : Int).toNat = 100000000000000000000000000000000000000000000000000000000000 := by decide +kernel
theorem ing_of {x : Int} (h0 : -(1000000000000000000000000000000000000000000000000000000000000 : Int) < x) (h1 : x < 1000000000000000000000000000000000000000000000000000000000000) : InG x := ⟨h0, h1⟩
theorem DiceAt.upd {H : Hp} {p q : Addr} {o : HO} (h : DiceAt H p) (n : H q = none) : DiceAt (upd H q o) p := h.same (same_upd n)
section
variable {P : Program} {w : World} {K : PySem.W.Frag} {mg : Str → Option Value} {base : Heap}
/-! ### _law_numbers -/
def spNumbers : Sp := fun vs H Q _ => ∃ (p : Addr) (last : Int), vs = [.ref p, .int last] ∧ DiceAt H p ∧ -1 ≤ last ∧ last ≤ 2000000 ∧
  ∀ H' l ns, H' l = some (.lst (iv ns)) → (∀ n ∈ ns, InG n) → SameB p H H' → DiceAt H' p → H l = none → Q (.ref l) H'
theorem ok_numbers {f : Addr} {fd : FuncData} (F : Fun K "_law_numbers" "_law_numbers" sNumbers f fd) (T : Txt K mg) (CR : Cal P w K mg base 1 "_law_roll" ["_law_dice_here", "_law_total"] spRoll) : FnOk P w K mg base CX0 2 f fd ["_law_dice_here", "_law_last"] spNumbers := by
  refine F.ok (k := 1) scNumbers (fun vs H Q E h => ?_) (fun cdv A outer s H vs Q E hr h => ?_)
  · obtain ⟨p, last, rfl, _⟩ := h
    rfl
  · obtain ⟨p, last, rfl, hd, la0, la1, q⟩ := h
    refine ⟨_, C8.pss_cut (ps_set (i := 2) scNumbers.nd rfl (.inl rfl) (pe_lst (pa_cons (pv 1) (pa_cons (pe_op op_add (pv 1) pe_int) (pa_cons pe_int (pa_cons (pe_un un_neg pe_int) (pa_cons pe_int
          (pa_cons (pe_op op_sub (pe_cal CR hr (by rfl) (pa_cons (pv 0) (pa_cons (pe_op op_add (pe_op op_mul pe_int (pv 1)) pe_int) pa_nil))) (pv 1))
          (pa_cons (pe_op op_sub (pe_cal CR hr (by rfl) (pa_cons (pv 0) (pa_cons (pe_op op_pow pe_int pe_int) pa_nil))) (pe_op op_pow pe_int pe_int)) pa_nil)))))))))
      (pss_one (ps_ret (pe_op op_cat (pe_op op_cat (pv 2)
          (pe_lc (own := [("_law_turn", 3)]) (g := gName 3) (tt := tYes) (by rfl) scNumbers.nd (pi_range1 rfl T.range (pa_cons pe_int pa_nil)) (blkOk_by (N := nmNumbers) (sc := defScope sNumbers) (by decide +kernel))
            (fun _ _ _ _ _ => pg_name (i := 3) scNumbers.nd rfl (.inl rfl)) (fun _ _ _ _ _ => pts_nil)
            (fun _ _ _ _ _ => pe_cal CR hr (by rfl) (pa_cons (pv 0) (pa_cons (pe_op op_add (pv 1) pe_int) pa_nil)))))
        (pe_lst (pa_cons (pe_op op_add (pe_op op_pow pe_int pe_int) (pe_cal CR hr (by rfl) (pa_cons (pv 0) (pa_cons pe_int pa_nil)))) (pa_cons (pe_un un_neg (pe_op op_pow pe_int pe_int)) pa_nil)))))), ?_⟩
    refine ⟨fun σ H1 => ∃ l ns, σ = [some (.ref p), some (.int last), some (.ref l), none] ∧ H1 l = some (.lst (iv ns)) ∧ (∀ n ∈ ns, InG n) ∧ ns.length = 7 ∧ SameB p H H1 ∧ DiceAt H1 p ∧ H l = none, ?_, fun σ H1 hM => ?_⟩
    · refine ⟨.int last, rfl, .int last, rfl, last, 1, rfl, rfl, 1, rfl, .ref p, rfl, .int last, rfl, 2, last, rfl, rfl, .inl ⟨by decide, by decide⟩, _, 9, rfl, rfl, p, _, rfl, hd, by omega, ?_, fun r1 o1 a0 a1 ho1 => ?_⟩
      · exact Nat.lt_of_le_of_lt (show (2 * last + 9).natAbs ≤ 5000000 by omega) (by decide)
      refine ⟨.int last, rfl, _, last, rfl, rfl, .ref p, rfl, 10, 40, rfl, rfl, ⟨by decide, by decide, by decide⟩, p, _, rfl, DiceAt.set ho1, by decide +kernel, by decide +kernel, fun r2 o2 b0 b1 ho2 => ?_⟩
      refine ⟨10, 39, rfl, rfl, ⟨by decide, by decide, by decide⟩, _, _, rfl, rfl, (show 7 ≤ sizeLine by decide), fun l nl => ?_⟩
      have hd2 : DiceAt (upd (upd H p o1) p o2) p := DiceAt.set ho2
      have sb : SameB p H (upd (upd H p o1) p o2) := SameB.upd.trans SameB.upd
      refine ⟨l, [last, last + 1, 0, -1, 1, r1 - last, r2 - 10 ^ (39 : Int).toNat], rfl, upd_same, fun n hn => ?_, rfl, sb.trans (SameB.of (same_upd nl)), hd2.upd nl, free_of sb hd nl hd2⟩
      rw [p39] at hn
      rw [p40] at b1
      have hn' : n = last ∨ n = last + 1 ∨ n = 0 ∨ n = -1 ∨ n = 1 ∨ n = r1 - last ∨ n = r2 - 1000000000000000000000000000000000000000 := by simpa using hn
      exact ing_of (by omega) (by omega)
    · obtain ⟨l, ns, rfl, el, gn, nl, sb1, hd1, nlH⟩ := hM
      have nlp : l ≠ p := fun z => by
        obtain ⟨o, eo, _⟩ := hd
        rw [z, eo] at nlH
        cases nlH
      refine ⟨.ref l, rfl, 8, rfl, by decide, by decide, fun D nD => ?_⟩
      have nDp : D ≠ p := fun z => hd1.ne nD z.symm
      have nDH : H D = none := free_of sb1 hd nD hd1
      refine lc_it (walk_range (lo := 0) (n := 8)) (fun i H3 => ∃ ms : List Int, ms.length = i ∧ (∀ s ∈ ms, InG s) ∧ SameB p H1 H3 ∧ DiceAt H3 p ∧ H3 D = some (.lst (iv ms)))
        ⟨[], rfl, fun s hs => (nomatch hs), SameB.of (same_upd nD), hd1.upd nD, upd_same⟩ (fun _ _ _ _ => trivial) (fun i x H3 H4 hi hP hy => ?_) fun H3 hP => ?_
      · obtain ⟨ms, hl, hb, sb, hd3, e3⟩ := hP
        obtain ⟨rfl, rfl⟩ := hy
        refine ⟨rfl, ?_⟩
        refine iteT (B := True) ⟨.ref p, rfl, .int last, rfl, last, 3, rfl, rfl, p, _, rfl, hd3, by omega, ?_, fun r o r0 r1 ho => ?_⟩
        · exact Nat.lt_of_le_of_lt (show (last + 3).natAbs ≤ 5000000 by omega) (by decide)
        refine ⟨iv ms, ?_, ?_, ms ++ [r], ?_, fun s hs => ?_, ?_, ?_, ?_⟩
        · rw [upd_ne nDp]
          exact e3
        · rw [List.length_map, hl]
          exact small_size (by omega)
        · rw [List.length_append, hl]
          rfl
        · rcases List.mem_append.mp hs with hs | hs
          · exact hb s hs
          · rw [List.mem_singleton.mp hs]
            exact ing_of (by omega) (by omega)
        · intro x z hx e
          rw [upd_ne (ne_of_none e nD), upd_ne hx]
          exact sb _ _ hx e
        · obtain ⟨oo, eo, ho3⟩ := DiceAt.set (H := H4) (p := p) ho
          exact ⟨oo, by rw [upd_ne nDp.symm]; exact eo, ho3⟩
        · rw [upd_same]
          unfold iv
          rw [List.map_append]
          rfl
      · obtain ⟨ms, hl, hb, sb, hd3, e3⟩ := hP
        have el3 := sb _ _ nlp el
        refine ⟨l, D, _, _, rfl, rfl, el3, e3, ?_, fun q1 m1 => ?_⟩
        · rw [List.length_map, List.length_map, nl, hl]
          exact small_size (by omega)
        have s4 : Same H3 (upd H3 q1 (.lst (iv ns ++ iv ms))) := same_upd m1
        have e4 : (upd H3 q1 (.lst (iv ns ++ iv ms))) q1 = some (.lst (iv ns ++ iv ms)) := upd_same
        have hd4 : DiceAt (upd H3 q1 (.lst (iv ns ++ iv ms))) p := hd3.upd m1
        obtain ⟨H4, hH4⟩ : ∃ H4, H4 = upd H3 q1 (.lst (iv ns ++ iv ms)) := ⟨_, rfl⟩
        rw [← hH4] at s4 e4 hd4
        rw [← hH4]
        have n1p : q1 ≠ p := fun z => hd3.ne m1 z.symm
        refine ⟨10, 59, rfl, rfl, ⟨by decide, by decide, by decide⟩, .ref p, rfl, p, _, rfl, hd4, by decide, by decide, fun r o r0 r1 ho => ?_⟩
        refine ⟨_, _, rfl, rfl, 10, 59, rfl, rfl, ⟨by decide, by decide, by decide⟩, _, rfl, (show 2 ≤ sizeLine by decide), fun l5 m5 => ?_⟩
        have hd5 : DiceAt (upd H4 p o) p := DiceAt.set ho
        have sb5 : SameB p H (upd H4 p o) := ((sb1.trans sb).trans (SameB.of s4)).trans SameB.upd
        have e5 : (upd H4 p o) q1 = some (.lst (iv ns ++ iv ms)) := by rw [upd_ne n1p]; exact e4
        obtain ⟨H5, hH5⟩ : ∃ H5, H5 = upd H4 p o := ⟨_, rfl⟩
        rw [← hH5] at hd5 sb5 e5 m5
        rw [← hH5]
        refine ⟨q1, l5, _, _, rfl, rfl, same_upd m5 _ _ e5, upd_same, ?_, fun q6 m6 => ?_⟩
        · rw [List.length_append, List.length_map, List.length_map, nl, hl]
          exact small_size (by decide)
        have sb6 := sb5.trans (SameB.of (same_upd (o := .lst [V.int (10 ^ (59 : Int).toNat + r), V.int (-(10 ^ (59 : Int).toNat))]) m5))
        have hd6 := hd5.upd (o := .lst [V.int (10 ^ (59 : Int).toNat + r), V.int (-(10 ^ (59 : Int).toNat))]) m5
        refine q _ q6 (ns ++ ms ++ [10 ^ (59 : Int).toNat + r, -(10 ^ (59 : Int).toNat)]) ?_ (fun n hn => ?_) (sb6.trans (SameB.of (same_upd m6))) (hd6.upd m6) (free_of sb6 hd m6 hd6)
        · rw [upd_same]
          unfold iv
          rw [List.map_append, List.map_append]
          rfl
        · rcases List.mem_append.mp hn with hn | hn
          · rcases List.mem_append.mp hn with hn | hn
            · exact gn n hn
            · exact hb n hn
          · rw [p59] at hn
            have r1' : r < 1000 := r1
            have hn' : n = 100000000000000000000000000000000000000000000000000000000000 + r ∨ n = -100000000000000000000000000000000000000000000000000000000000 := by simpa using hn
            exact ing_of (by omega) (by omega)
end
end K33
set_option maxRecDepth 100000
set_option maxHeartbeats 4000000
namespace K33
open PySem PySem.Spec PyProof.Rows L2
theorem p60 : (10 : Int) ^ (60 : Int).toNat = 1000000000000000000000000000000000000000000000000000000000000 := by decide +kernel
theorem iv_inj {xs ys : List Int} (h : iv xs = iv ys) : xs = ys := by
  have := congrArg (List.map fun v => match v with | V.int i => i | _ => 0) h
  simpa [iv, List.map_map, Function.comp_def] using this
theorem eq_near {b : Int} {bs : List Int} {x k : Int} {ks : List Int} {o : Option (List V)} {r : Bool} (g : 0 < b) (p : Pap b bs x k ks) (h : r = true ↔ ∃ k ks, o = some (iv (k :: ks)) ∧ Pap b bs x k ks) : isPapB k ks o = r := by
  rw [Bool.eq_iff_iff, h]
  constructor
  · intro z
    cases o with
    | none => cases z
    | some ws => exact ⟨k, ks, by rw [of_decide_eq_true z], p⟩
  · rintro ⟨k2, ks2, rfl, p2⟩
    obtain ⟨rfl, rfl⟩ := Pap.uniq g p p2
    exact decide_eq_true rfl
theorem GL.sameB {K : PySem.W.Frag} {H H' : Hp} {t p : Addr} {b : Int} {bs : List Int} (g : GL K H t b bs) (s : SameB p H H') (n : t ≠ p) : GL K H' t b bs := ⟨⟨s _ _ n g.ok.at_, g.ok.ing, g.ok.gen, g.ok.len, g.ok.small⟩, g.len, g.sm, g.last⟩
theorem GL.same {K : PySem.W.Frag} {H H' : Hp} {t : Addr} {b : Int} {bs : List Int} (g : GL K H t b bs) (s : Same H H') : GL K H' t b bs := ⟨g.ok.same s, g.len, g.sm, g.last⟩
theorem gap_dec {b : Int} {bs : List Int} {x k k2 : Int} {ks ks2 : List Int} (g : 0 < b) (p : Pap b bs x k ks) (p2 : Pap b bs (lastG b bs - x) k2 ks2) : decide (V.bl (decide (0 ≤ k2)) = V.bl (decide (0 ≤ k))) = false := by
  obtain ⟨e, _⟩ := Pap.uniq g p.gap p2
  rw [dec_bl, ← e]
  by_cases h : 0 ≤ k
  · rw [decide_eq_true h, decide_eq_false (by omega)]
    rfl
  · rw [decide_eq_false h, decide_eq_true (show (0 : Int) ≤ -1 - k by omega)]
    rfl
section
variable {P : Program} {w : World} {K : PySem.W.Frag} {mg : Str → Option Value} {base : Heap}
/-! ### _law_right -/
def spRight : Sp := fun vs H Q _ => ∃ p : Addr, vs = [.ref p] ∧ DiceAt H p ∧ ∀ H', SameB p H H' → DiceAt H' p → Q (.bl true) H'
theorem ok_right {f : Addr} {fd : FuncData} (F : Fun K "_law_right" "_law_right" sRight f fd) (T : Txt K mg)
    (CD : Cal P w K mg base 3 "_law_generators_drawn" ["_law_dice_here", "_law_most"] (spDrawn K))
    (CL : Cal P w K mg base 3 "_law_last_gap" ["_law_makers"] (spLast K))
    (CG : Cal P w K mg base 5 "last_gap" ["generators"] (spLast K))
    (CSU : Cal P w K mg base 1 "_law_sums_below" ["_law_makers", "_law_size"] (spSums K))
    (CN : Cal P w K mg base 2 "_law_numbers" ["_law_dice_here", "_law_last"] spNumbers)
    (COP : Cal P w K mg base 5 "order_paper" ["generators", "number"] (spOrderPaper K))
    (CLP : Cal P w K mg base 3 "_law_is_paper" ["_law_generators", "_law_number", "_law_value"] (spLPaper K))
    (CIO : Cal P w K mg base 5 "is_order" ["generators", "number"] (spIsOrder K))
    (CNE : Cal P w K mg base 2 "_law_near" ["_law_dice_here", "_law_generators", "_law_paper"] (spNear K))
    (CIP : Cal P w K mg base 5 "is_order_paper" ["generators", "number", "value"] (spIsPaper K)) :
    FnOk P w K mg base CX0 6 f fd ["_law_dice_here"] spRight := by
  refine F.ok (k := 5) scRight (fun vs H Q E h => ?_) (fun cdv A outer s H vs Q E hr h => ?_)
  · obtain ⟨p, rfl, _⟩ := h
    rfl
  · obtain ⟨p, rfl, hd, q⟩ := h
    have hr1 := hr.mono (show 1 ≤ 5 by decide)
    have hr2 := hr.mono (show 2 ≤ 5 by decide)
    have hr3 := hr.mono (show 3 ≤ 5 by decide)
    refine ⟨_, pss_cons (ps_set (i := 1) scRight.nd rfl (.inl rfl) (pe_cal CD hr3 (by rfl) (pa_cons (pv 0) (pa_cons pe_int pa_nil))))
      (pss_cons (ps_set (i := 2) scRight.nd rfl (.inl rfl) (pe_cal CL hr3 (by rfl) (pa_cons (pv 1) pa_nil)))
      (pss_cons (ps_if (pt_cmpR op_ne (pe_cal CG hr (by rfl) (pa_cons (pv 1) pa_nil)) (pv 2) (nomark _)) (pss_one (ps_ret pe_bl)) pss_nil)
      (C8.pss_cut (ps_set (i := 3) scRight.nd rfl (.inl rfl) (pe_ifExp (pt_cmpR op_lt (pv 2) pe_int (nomark _)) (pe_cal CSU hr1 (by rfl) (pa_cons (pv 1) (pa_cons (pe_op op_add (pv 2) pe_int) pa_nil))) (pe_lst pa_nil)))
      (pss_cons (ps_for PassesOwn.never rfl (pi_list (pe_cal CN hr2 (by rfl) (pa_cons (pv 0) (pa_cons (pv 2) pa_nil)))) (pg_name (i := 4) scRight.nd rfl (.inl rfl))
        (pss_cons (ps_set (i := 5) scRight.nd rfl (.inl rfl) (pe_cal COP hr (by rfl) (pa_cons (pv 1) (pa_cons (pv 4) pa_nil))))
        (pss_cons (ps_if (PW.pt (pw_or (pt_not (pt_val (pe_cal CLP hr3 (by rfl) (pa_cons (pv 1) (pa_cons (pv 4) (pa_cons (pv 5) pa_nil))))))
            (pw_or1 (pt_cmpR op_ne (pe_cal CIO hr (by rfl) (pa_cons (pv 1) (pa_cons (pv 4) pa_nil))) (pe_cmpR op_ge (pe_ix ix_tup (pv 5) pe_int (fun _ _ => rfl)) pe_int (nomark _)) (nomark _))))) (pss_one (ps_ret pe_bl)) pss_nil)
        (C8.pss_cut (ps_if (PW.pt (pw_and (pt_chain op_le op_lt pe_int (pv 4) (pe_callB call_len_seq (by rfl) T.len PySem.boot_len (pa_cons (pv 3) pa_nil)))
            (pw_and1 (pt_cmpR op_ne (pe_cal CIO hr (by rfl) (pa_cons (pv 1) (pa_cons (pv 4) pa_nil))) (pe_ix ix_list (pv 3) (pv 4) (fun _ _ => rfl)) (nomark _))))) (pss_one (ps_ret pe_bl)) pss_nil)
        (C8.pss_cut (ps_if (PW.pt (pw_and (pt_cmpR op_lt (pe_callB call_abs (by rfl) T.abs boot_abs' (pa_cons (pe_op op_sub (pv 2) (pv 4)) pa_nil)) (pe_op op_pow pe_int pe_int) (nomark _))
            (pw_and1 (pt_cmpR op_eq (pe_cal CIO hr (by rfl) (pa_cons (pv 1) (pa_cons (pe_op op_sub (pv 2) (pv 4)) pa_nil))) (pe_cal CIO hr (by rfl) (pa_cons (pv 1) (pa_cons (pv 4) pa_nil))) (nomark _))))) (pss_one (ps_ret pe_bl)) pss_nil)
        (pss_one (ps_for PassesOwn.never rfl (pi_list (pe_cal CNE hr2 (by rfl) (pa_cons (pv 0) (pa_cons (pv 1) (pa_cons (pv 5) pa_nil))))) (pg_name (i := 6) scRight.nd rfl (.inl rfl))
          (pss_one (ps_if (pt_cmpR op_ne (pe_callB call_repr_bl (by rfl) T.repr PyProof.Rows.boot_repr (pa_cons (pe_cal CIP hr (by rfl) (pa_cons (pv 1) (pa_cons (pv 4) (pa_cons (pv 6) pa_nil)))) pa_nil))
            (pe_callB call_repr_bl (by rfl) T.repr PyProof.Rows.boot_repr (pa_cons (pe_cal CLP hr3 (by rfl) (pa_cons (pv 1) (pa_cons (pv 4) (pa_cons (pv 6) pa_nil)))) pa_nil)) (nomark _)) (pss_one (ps_ret pe_bl)) pss_nil)))))))))
      (pss_one (ps_ret pe_bl)))))), ?_⟩
    refine ⟨.ref p, rfl, p, rfl, hd, fun H1 t b bs hG sb1 hd1 nt => ?_⟩
    have ntp : t ≠ p := hd.ne nt |>.symm
    have bp := hG.ok.gen.pos
    refine ⟨.ref t, rfl, t, b, bs, rfl, hG.ok, fun H2 s2 => ?_⟩
    refine ⟨.ref t, rfl, t, b, bs, rfl, hG.ok.same s2, fun H3 s3 => ?_⟩
    refine ⟨.int (lastG b bs), rfl, rfl, _, rfl, ?_⟩
    rw [decide_eq_true rfl]
    refine iteF (A := True) ?_
    have la0 := lastG_lo hG.ok.gen
    have la1 := hG.last
    obtain ⟨last, hlast⟩ : ∃ last, last = lastG b bs := ⟨_, rfl⟩
    rw [← hlast] at la0 la1
    rw [← hlast]
    have hG3 := hG.same (s2.trans s3)
    have hd3 := hd1.same (s2.trans s3)
    have sb3 := sb1.trans (SameB.of (s2.trans s3))
    refine ⟨fun σ H4 => ∃ (sl : Addr) (L : List Bool), σ = [some (.ref p), some (.ref t), some (.int last), some (.ref sl), none, none, none] ∧ Same H3 H4 ∧ H3 sl = none ∧ H4 sl = some (.lst (L.map V.bl)) ∧ (∀ j : Nat, j < L.length → (L[j]? = some true ↔ Ord b bs j)), ?_, fun σ H4 hM => ?_⟩
    · refine ⟨.int last, rfl, last, 3000, rfl, rfl, _, rfl, ite2 (fun c => ?_) (fun c => ?_)⟩
      · have c1 : last < 3000 := of_decide_eq_true c
        obtain ⟨n, hn⟩ : ∃ n : Nat, last + 2 = (n : Int) := ⟨(last + 2).toNat, by omega⟩
        refine ⟨.ref t, rfl, .int last, rfl, last, 2, rfl, rfl, t, b, bs, n, ?_, hG3.ok, by omega, by omega, fun H4 sl L s4 n4 e4 hl hL => ?_⟩
        · show [V.ref t, V.int (last + 2)] = _
          rw [hn]
        · exact ⟨sl, L, rfl, s4, n4, e4, fun j hj => hL j (by omega)⟩
      · exact ⟨Nat.zero_le _, fun sl n4 => ⟨sl, [], rfl, same_upd n4, n4, upd_same, fun j hj => absurd hj (Nat.not_lt_zero _)⟩⟩
    obtain ⟨sl, L, rfl, s4, n4, e4, hL⟩ := hM
    have nsp : sl ≠ p := (hd3.ne n4).symm
    have hG4 := hG3.same s4
    have hd4 := hd3.same s4
    have sb4 := sb3.trans (SameB.of s4)
    -- numbers
    refine ⟨.ref p, rfl, .int last, rfl, p, last, rfl, hd4, la0, la1, fun H5 l ns el gn sb5 hd5 nl => ?_⟩
    have nlp : l ≠ p := (hd4.ne nl).symm
    have hG5 := hG4.sameB sb5 ntp
    have e5 := sb5 _ _ nsp e4
    refine ⟨l, rfl, ⟨_, .inl (.inl el)⟩, for_list (xs := iv ns) (fun i σ H6 => ∃ y4 y5 y6, σ = [some (.ref p), some (.ref t), some (.int last), some (.ref sl), y4, y5, y6] ∧ SameB p H5 H6 ∧ DiceAt H6 p)
      ⟨_, _, _, rfl, SameB.refl _ _, hd5⟩ (fun i σ H6 _ hP => ?_) (fun i v σ H6 hx hP => ?_) fun σ H6 hP => ?_⟩
    · obtain ⟨_, _, _, _, sb, _⟩ := hP
      exact .inl (.inl (sb _ _ nlp el))
    · obtain ⟨y4, y5, y6, rfl, sb6, hd6⟩ := hP
      obtain ⟨n, hn, rfl⟩ := iv_of hx
      have gnn := gn n (List.mem_of_getElem? hn)
      have hG6 := hG5.sameB sb6 ntp
      have e6 := sb6 _ _ nsp e5
      -- the paper
      refine ⟨.ref t, rfl, .int n, rfl, t, b, bs, n, rfl, hG6.ok, gnn, fun H7 tp k ks hp s7 np ep => ?_⟩
      have hG7 := hG6.same s7
      have lk := bnd_len _ _ _ hp.bnd
      have hG7l := hG7.len
      have vk7 : Vk H7 (.ref tp) (some (iv (k :: ks))) := .tup ep (flat_iv _) (by rw [List.length_map, List.length_cons, lk]; omega)
      refine ⟨.ref t, rfl, .int n, rfl, .ref tp, rfl, t, b, bs, n, .ref tp, _, rfl, hG7.ok, hG7.sm, vk7, fun H8 r s8 hr8 => ?_⟩
      have r1 : r = true := hr8.mpr ⟨k, ks, rfl, hp⟩
      subst r1
      refine ⟨true, rfl, iteF (A := True) ?_⟩
      have hG8 := hG7.same s8
      refine ⟨.ref t, rfl, .int n, rfl, t, b, bs, n, rfl, hG8.ok, gnn, fun H9 k' ks' hp' s9 => ?_⟩
      obtain ⟨rfl, rfl⟩ := Pap.uniq bp hp hp'
      have ep9 := s9 _ _ (s8 _ _ ep)
      refine ⟨.ref tp, rfl, tp, _, 0, .int k, rfl, rfl, .inl (.inl ep9), atI_nat (j := 0) rfl, k, 0, rfl, rfl, rfl, _, rfl, ?_⟩
      rw [decide_eq_true rfl]
      refine iteF (A := True) ?_
      have hG9 := hG8.same s9
      have s69 := (s7.trans s8).trans s9
      -- the sums
      refine ⟨fun σ H' => σ = [some (.ref p), some (.ref t), some (.int last), some (.ref sl), some (.int n), some (.ref tp), y6] ∧ Same H9 H', ?_, fun σ H10 hM => ?_⟩
      · refine ⟨.int n, rfl, 0, n, rfl, rfl, _, rfl, ite2 (fun c => ?_) (fun c => ?_)⟩
        · have c1 : 0 ≤ n := of_decide_eq_true c
          obtain ⟨j, rfl⟩ := Int.eq_ofNat_of_zero_le c1
          have e9 := s69 _ _ e6
          refine ⟨.ref sl, rfl, sl, L.map V.bl, rfl, .inl (.inl (.inl e9)), _, _, rfl, rfl, _, rfl, ite2 (fun c2 => ?_) (fun c2 => ?_)⟩
          · have c3 : (j : Int) < ((L.map V.bl).length : Int) := of_decide_eq_true c2
            rw [List.length_map] at c3
            have jl : j < L.length := by omega
            refine ⟨.ref t, rfl, .int j, rfl, t, b, bs, j, rfl, hG9.ok, gnn, fun H10 k' ks' hp' s10 => ?_⟩
            obtain ⟨rfl, rfl⟩ := Pap.uniq bp hp hp'
            have e10 := s10 _ _ e9
            refine ⟨.ref sl, rfl, .int j, rfl, sl, _, j, .bl L[j], rfl, rfl, .inl (.inl e10), ?_, rfl, _, rfl, ?_⟩
            · refine atI_nat ?_
              rw [List.getElem?_map, List.getElem?_eq_getElem jl]
              rfl
            have hb : decide (0 ≤ k) = L[j] := by
              rw [Bool.eq_iff_iff, decide_eq_true_iff, ← Pap.ord bp hp, ← hL j jl, List.getElem?_eq_getElem jl]
              exact ⟨fun z => Option.some.inj z, fun z => by rw [z]⟩
            rw [hb, decide_eq_true rfl]
            exact iteF (A := True) ⟨rfl, s10⟩
          · exact ⟨rfl, Same.refl _⟩
        · exact ⟨false, rfl, rfl, Same.refl _⟩
      obtain ⟨rfl, s10⟩ := hM
      have hG10 := hG9.same s10
      -- the gap
      refine ⟨fun σ H' => σ = [some (.ref p), some (.ref t), some (.int last), some (.ref sl), some (.int n), some (.ref tp), y6] ∧ Same H10 H', ?_, fun σ H11 hM => ?_⟩
      · refine ⟨.int last, rfl, .int n, rfl, last, n, rfl, rfl, _, rfl, 10, 60, rfl, rfl, ⟨by decide, by decide, by decide⟩, _, _, rfl, rfl, _, rfl, ite2 (fun c => ?_) (fun c => ⟨rfl, Same.refl _⟩)⟩
        have c1 : (if last - n < 0 then -(last - n) else last - n) < (10 : Int) ^ (60 : Int).toNat := of_decide_eq_true c
        rw [p60] at c1
        have g2 : InG (last - n) := by
          refine ing_of ?_ ?_
          · by_cases z : last - n < 0
            · rw [if_pos z] at c1
              omega
            · omega
          · by_cases z : last - n < 0
            · omega
            · rw [if_neg z] at c1
              omega
        refine ⟨.ref t, rfl, .int last, rfl, .int n, rfl, last, n, rfl, rfl, t, b, bs, last - n, rfl, hG10.ok, g2, fun H11 k2 ks2 hp2 s11 => ?_⟩
        refine ⟨.ref t, rfl, .int n, rfl, t, b, bs, n, rfl, (hG10.same s11).ok, gnn, fun H12 k' ks' hp' s12 => ?_⟩
        obtain ⟨rfl, rfl⟩ := Pap.uniq bp hp hp'
        rw [hlast] at hp2
        refine ⟨rfl, _, rfl, ?_⟩
        rw [gap_dec bp hp hp2]
        exact iteF (A := True) ⟨rfl, s11.trans s12⟩
      obtain ⟨rfl, s11⟩ := hM
      have s911 := s10.trans s11
      have hG11 := hG9.same s911
      have s611 := s69.trans s911
      have ep11 := s911 _ _ ep9
      -- near
      refine ⟨.ref p, rfl, .ref t, rfl, .ref tp, rfl, p, t, tp, b, bs, k, ks, rfl, hd6.same s611, hG11.ok.at_, ep11, lk, by omega, fun H12 ln vals en hv sb12 hd12 nn => ?_⟩
      have hG12 := hG11.sameB sb12 ntp
      refine ⟨ln, rfl, ⟨_, .inl (.inl en)⟩, for_list (xs := vals) (fun i σ H13 => ∃ y6, σ = [some (.ref p), some (.ref t), some (.int last), some (.ref sl), some (.int n), some (.ref tp), y6] ∧ Same H12 H13)
        ⟨_, rfl, Same.refl _⟩ (fun i σ H13 _ hP => ?_) (fun i v σ H13 hx hP => ?_) fun σ H13 hP => ?_⟩
      · obtain ⟨_, _, s⟩ := hP
        exact .inl (.inl (s _ _ en))
      · obtain ⟨y6, rfl, s13⟩ := hP
        obtain ⟨o, hvk⟩ := hv v (List.mem_of_getElem? hx)
        have hvk13 := hvk.same s13
        have hG13 := hG12.same s13
        refine ⟨.ref t, rfl, .int n, rfl, v, rfl, t, b, bs, n, v, o, rfl, hG13.ok, gnn, hvk13, fun H14 k' ks' hp' s14 => ?_⟩
        obtain ⟨rfl, rfl⟩ := Pap.uniq bp hp hp'
        refine ⟨_, rfl, .ref t, rfl, .int n, rfl, v, rfl, t, b, bs, n, v, o, rfl, (hG13.same s14).ok, hG13.sm, hvk13.same s14, fun H15 r s15 hr15 => ?_⟩
        refine ⟨_, rfl, rfl, _, rfl, ?_⟩
        rw [eq_near bp hp hr15, decide_eq_true rfl]
        exact iteF (A := True) ⟨_, rfl, (s13.trans s14).trans s15⟩
      · obtain ⟨y6, rfl, s13⟩ := hP
        refine ⟨_, _, _, rfl, ((sb6.trans (SameB.of s611)).trans sb12).trans (SameB.of s13), hd12.same s13⟩
    · obtain ⟨y4, y5, y6, rfl, sb6, hd6⟩ := hP
      exact q H6 ((sb4.trans sb5).trans sb6) hd6
end
end K33
set_option maxRecDepth 100000
set_option maxHeartbeats 4000000
namespace K33
open PySem PySem.Spec PyProof.Rows L2
theorem gen4 : Gen 4 [6, 13] := ⟨by decide, ⟨by decide, by decide, ⟨by decide, by decide, (show gc (gc 4 6) 13 = 1 by decide)⟩⟩, ⟨by decide, by decide, trivial⟩⟩
theorem gen2 : Gen 2 [3] := ⟨by decide, ⟨by decide, by decide, (show gc 2 3 = 1 by decide)⟩, ⟨by decide, trivial⟩⟩
theorem gen1 : Gen 1 [] := ⟨by decide, rfl, trivial⟩
theorem pap17 : Pap 4 [6, 13] 17 1 [0, 1] := ⟨⟨⟨by decide, by decide⟩, ⟨by decide, by decide⟩, trivial⟩, by decide⟩
theorem pap15 : Pap 4 [6, 13] 15 (-1) [1, 1] := ⟨⟨⟨by decide, by decide⟩, ⟨by decide, by decide⟩, trivial⟩, by decide⟩
theorem papm1 : Pap 2 [3] (-1) (-2) [1] := ⟨⟨⟨by decide, by decide⟩, trivial⟩, by decide⟩
theorem pap5 : Pap 1 [] 5 5 [] := ⟨trivial, by decide⟩
theorem ing100 {b : Int} {bs : List Int} (h : ∀ x ∈ b :: bs, 0 < x ∧ x ≤ 100) : ∀ x ∈ b :: bs, InG x := fun x hx => ing_small (h x hx).1 (Int.le_trans (h x hx).2 (by decide))
theorem gok4 {K : PySem.W.Frag} {H : Hp} {a : Addr} (e : H a = some (.tup [V.int 4, V.int 6, V.int 13])) : GOk K H a 4 [6, 13] := ⟨e, ing100 (by decide), gen4, by decide, by decide⟩
theorem gok2 {K : PySem.W.Frag} {H : Hp} {a : Addr} (e : H a = some (.tup [V.int 2, V.int 3])) : GOk K H a 2 [3] := ⟨e, ing100 (by decide), gen2, by decide, by decide⟩
theorem gok1 {K : PySem.W.Frag} {H : Hp} {a : Addr} (e : H a = some (.tup [V.int 1])) : GOk K H a 1 [] := ⟨e, ing100 (by decide), gen1, by decide, by decide⟩
/-- what is told -/
def told : PyData := .list [.tuple [.int 1, .int 0, .int 1], .tuple [.int (-1), .int 1, .int 1], .tuple [.int (-2), .int 1], .tuple [.int 5]]
theorem told_shaped : SeqAt.shaped told = true := by decide +kernel
theorem told_eqv : PyData.eqv told told = true := by decide +kernel
theorem dp_told {K : PySem.W.Frag} {H : Hp} {l a b c d : Addr} (hl : H l = some (.lst [.ref a, .ref b, .ref c, .ref d])) (ha : H a = some (.tup (iv [1, 0, 1]))) (hb : H b = some (.tup (iv [-1, 1, 1]))) (hc : H c = some (.tup (iv [-2, 1]))) (hd : H d = some (.tup (iv [5]))) :
    Dp K H (.ref l) told :=
  .lst (.inl (.inl hl)) (.cons (.tup (.inl (.inl ha)) (dpAll_flat (flat_iv _))) (.cons (.tup (.inl (.inl hb)) (dpAll_flat (flat_iv _))) (.cons (.tup (.inl (.inl hc)) (dpAll_flat (flat_iv _))) (.cons (.tup (.inl (.inl hd)) (dpAll_flat (flat_iv _))) .nil))))
theorem SqL.same' {K : PySem.W.Frag} {H H' : Hp} {a : Addr} {xs : List V} (s : Same H H') (h : SqL K H a xs) : SqL K H' a xs := by
  rcases h with (h | ⟨o, h⟩) | h
  · exact .inl (.inl (s _ _ h))
  · exact .inl (.inr ⟨o, s _ _ h⟩)
  · exact .inr h
section
variable {P : Program} {w : World} {K : PySem.W.Frag} {mg : Str → Option Value} {base : Heap}
/-! ### law -/
def spLaw (K : PySem.W.Frag) : Sp := fun vs H Q _ => ∃ (a : Addr) (ns : List Int), vs = [.ref a] ∧ SqL K H a (ns.map V.int) ∧ ns.length ≤ 63 ∧ ∀ H', Q (.bl true) H'
theorem ok_law {f : Addr} {fd : FuncData} (F : Fun K "law" "law" sLaw f fd) (T : Txt K mg)
    (CDI : Cal P w K mg base 1 "_law_dice" ["_law_script", "_law_spot"] (spDice K))
    (CR : Cal P w K mg base 6 "_law_right" ["_law_dice_here"] spRight)
    (COP : Cal P w K mg base 5 "order_paper" ["generators", "number"] (spOrderPaper K)) : FnOk P w K mg base CX0 7 f fd ["_law_script"] (spLaw K) := by
  refine F.ok (k := 6) scLaw (fun vs H Q E h => ?_) (fun cdv A outer s H vs Q E hr h => ?_)
  · obtain ⟨a, ns, rfl, _⟩ := h
    rfl
  · obtain ⟨a, ns, rfl, hS, hlen, q⟩ := h
    have hr1 := hr.mono (show 1 ≤ 6 by decide)
    have hr5 := hr.mono (show 5 ≤ 6 by decide)
    refine ⟨_, C8.pss_cut (ps_for PassesOwn.never rfl (pi_range1 rfl T.range (pa_cons (pe_callB (call_max2 rfl) (by rfl) T.max boot_max' (pa_cons pe_int (pa_cons
          (pe_callB (call_min2 rfl) (by rfl) T.min boot_min' (pa_cons pe_int (pa_cons (pe_callB call_len_seq (by rfl) T.len PySem.boot_len (pa_cons (pv 0) pa_nil)) pa_nil))) pa_nil))) pa_nil)) (pg_name (i := 1) scLaw.nd rfl (.inl rfl))
        (pss_one (ps_if (pt_not (pt_val (pe_cal CR hr (by rfl) (pa_cons (pe_cal CDI hr1 (by rfl) (pa_cons (pv 0) (pa_cons (pv 1) pa_nil))) pa_nil)))) (pss_one (ps_ret pe_bl)) pss_nil)))
      (pss_cons (ps_set (i := 2) scLaw.nd rfl (.inl rfl) (pe_lst
          (pa_cons (pe_cal COP hr5 (by rfl) (pa_cons (pe_tup (pa_cons pe_int (pa_cons pe_int (pa_cons pe_int pa_nil)))) (pa_cons pe_int pa_nil)))
          (pa_cons (pe_cal COP hr5 (by rfl) (pa_cons (pe_tup (pa_cons pe_int (pa_cons pe_int (pa_cons pe_int pa_nil)))) (pa_cons pe_int pa_nil)))
          (pa_cons (pe_cal COP hr5 (by rfl) (pa_cons (pe_tup (pa_cons pe_int (pa_cons pe_int pa_nil))) (pa_cons (pe_un un_neg pe_int) pa_nil)))
          (pa_cons (pe_cal COP hr5 (by rfl) (pa_cons (pe_tup (pa_cons pe_int pa_nil)) (pa_cons pe_int pa_nil))) pa_nil))))))
      (pss_one (ps_ret (pe_cmpR (op_eqD hr.units) (pv 2) (pe_lst
          (pa_cons (pe_tup (pa_cons pe_int (pa_cons pe_int (pa_cons pe_int pa_nil))))
          (pa_cons (pe_tup (pa_cons (pe_un un_neg pe_int) (pa_cons pe_int (pa_cons pe_int pa_nil))))
          (pa_cons (pe_tup (pa_cons (pe_un un_neg pe_int) (pa_cons pe_int pa_nil)))
          (pa_cons (pe_tup (pa_cons pe_int pa_nil)) pa_nil))))) (nomark _))))), ?_⟩
    refine ⟨fun σ H' => ∃ y, σ = [some (.ref a), y, none], ?_, fun σ H1 hM => ?_⟩
    · -- the spots
      refine ⟨.ref a, rfl, a, iv ns, rfl, .inl hS, 3, _, rfl, 1, _, rfl, ?_⟩
      obtain ⟨n, hn, hn3⟩ : ∃ n : Nat, (if (if ((iv ns).length : Int) < 3 then ((iv ns).length : Int) else 3) > 1 then (if ((iv ns).length : Int) < 3 then ((iv ns).length : Int) else 3) else 1) = (n : Int) ∧ n ≤ 3 := by
        refine ⟨(if (if ((iv ns).length : Int) < 3 then ((iv ns).length : Int) else 3) > 1 then (if ((iv ns).length : Int) < 3 then ((iv ns).length : Int) else 3) else 1).toNat, ?_, ?_⟩
        · split <;> split <;> omega
        · split <;> split <;> omega
      refine ⟨n, by rw [hn], by omega, ?_, ?_⟩
      · exact Int.lt_of_le_of_lt (show (n : Int) ≤ 3 by omega) (by decide)
      rw [Int.toNat_natCast]
      refine for_range (lo := 0) (n := n) (fun i σ H3 => ∃ y, σ = [some (.ref a), y, none] ∧ Same H H3) ⟨_, rfl, Same.refl _⟩ (fun i σ H3 hi hP => ?_) fun σ H3 hP => ?_
      · obtain ⟨y, rfl, s3⟩ := hP
        refine ⟨.ref a, rfl, .int _, rfl, a, ns, i, ?_, SqL.same' s3 hS, by omega, fun p o np ho => ?_⟩
        · show [V.ref a, V.int (0 + (i : Int))] = _
          rw [Int.zero_add]
        · refine ⟨p, rfl, DiceAt.set ho, fun H4 sb4 hd4 => ⟨true, rfl, iteF (A := False) ⟨_, rfl, s3.trans ?_⟩⟩⟩
          intro b x e
          exact sb4 _ _ (ne_of_none e np) (same_upd np _ _ e)
      · obtain ⟨y, rfl, _⟩ := hP
        exact ⟨_, rfl⟩
    · obtain ⟨y, rfl⟩ := hM
      have ps := pap17
      refine ⟨by decide, fun g1 m1 => ⟨g1, 4, [6, 13], 17, rfl, gok4 upd_same, ing_small (by decide) (by decide), fun H2 a1 k ks hp s2 n2 e2 => ?_⟩⟩
      obtain ⟨rfl, rfl⟩ := Pap.uniq gen4.pos pap17 hp
      refine ⟨by decide, fun g2 m2 => ⟨g2, 4, [6, 13], 15, rfl, gok4 upd_same, ing_small (by decide) (by decide), fun H3 a2 k ks hp s3 n3 e3 => ?_⟩⟩
      obtain ⟨rfl, rfl⟩ := Pap.uniq gen4.pos pap15 hp
      refine ⟨by decide, fun g3 m3 => ⟨1, rfl, g3, 2, [3], -1, rfl, gok2 upd_same, ing_of (by decide) (by decide), fun H4 a3 k ks hp s4 n4 e4 => ?_⟩⟩
      obtain ⟨rfl, rfl⟩ := Pap.uniq gen2.pos papm1 hp
      refine ⟨by decide, fun g4 m4 => ⟨g4, 1, [], 5, rfl, gok1 upd_same, ing_small (by decide) (by decide), fun H5 a4 k ks hp s5 n5 e5 => ?_⟩⟩
      obtain ⟨rfl, rfl⟩ := Pap.uniq gen1.pos pap5 hp
      refine ⟨(show 4 ≤ sizeLine by decide), fun l1 m5 => ?_⟩
      have t45 : Same H4 H5 := (same_upd m4).trans s5
      have t35 : Same H3 H5 := ((same_upd m3).trans s4).trans t45
      have t25 : Same H2 H5 := ((same_upd m2).trans s3).trans t35
      have f1 := t25 _ _ e2
      have f2 := t35 _ _ e3
      have f3 := t45 _ _ e4
      have s6 : Same H5 (upd H5 l1 (.lst [.ref a1, .ref a2, .ref a3, .ref a4])) := same_upd m5
      have e6 : (upd H5 l1 (.lst [.ref a1, .ref a2, .ref a3, .ref a4])) l1 = some (.lst [.ref a1, .ref a2, .ref a3, .ref a4]) := upd_same
      obtain ⟨H6, hH6⟩ : ∃ H6, H6 = upd H5 l1 (.lst [.ref a1, .ref a2, .ref a3, .ref a4]) := ⟨_, rfl⟩
      rw [← hH6] at s6 e6
      rw [← hH6]
      refine ⟨.ref l1, rfl, by decide, fun b1 w1 => ⟨1, rfl, by decide, fun b2 w2 => ⟨2, rfl, by decide, fun b3 w3 => ⟨by decide, fun b4 w4 => ⟨(show 4 ≤ sizeLine by decide), fun l2 w5 => ?_⟩⟩⟩⟩⟩
      have u5 := same_upd (o := .lst [.ref b1, .ref b2, .ref b3, .ref b4]) w5
      have u4 := (same_upd (o := .tup [V.int 5]) w4).trans u5
      have u3 := (same_upd (o := .tup [V.int (-2), V.int 1]) w3).trans u4
      have u2 := (same_upd (o := .tup [V.int (-1), V.int 1, V.int 1]) w2).trans u3
      have u1 := (same_upd (o := .tup [V.int 1, V.int 0, V.int 1]) w1).trans u2
      have v6 := s6.trans u1
      refine ⟨told, told, dp_told (u1 _ _ e6) (v6 _ _ f1) (v6 _ _ f2) (v6 _ _ f3) (v6 _ _ e5), dp_told upd_same (u2 _ _ upd_same) (u3 _ _ upd_same) (u4 _ _ upd_same) (u5 _ _ upd_same), told_shaped, told_shaped, ?_⟩
      rw [told_eqv]
      exact q _
end
end K33
set_option maxRecDepth 100000
set_option maxHeartbeats 4000000
namespace K33
open PySem PySem.Spec PyProof.Rows L2
theorem cal_mk {P : Program} {w : World} {K : PySem.W.Frag} {h : Heap} {mg : Str → Option Value} {base : Heap} {k : Nat} {x : Str} {ps : List Str} {sp : Sp} {f : Addr} {fd : FuncData} (X : K.In h) (G : h.Ns mainGlobals mg)
    (a : PySem.W.nsIn K mainGlobals x = some (some (.ref f))) (kk : PySem.W.keepIn K (.ref f) = true) (b : Binds K fd ps []) (F : FnOk P w K mg base CX0 k f fd ps sp) : Cal P w K mg base k x ps sp := ⟨f, fd, F, PySem.W.mg_of X G a, kk, b⟩
/-! ### what the top has written -/
theorem all_mk {l : PySem.W.OpenLaw} {w : World} {K : PySem.W.Frag} {h : Heap} {mg : Str → Option Value} {fa : Addr} (X : K.In h) (G : h.Ns mainGlobals mg) (hfa : mg "law" = some (.ref fa))
    {f1 f2 f3 f4 f5 f6 f7 f8 f9 f10 f11 f12 f13 f14 f15 f16 f17 f18 f19 f20 f21 f22 f23 f24 f25 f26 f27 f28 : Addr}
    {od1 an1 od2 an2 od3 an3 od4 an4 od5 an5 od6 an6 od7 an7 od8 an8 od9 an9 od10 an10 od11 an11 od12 an12 od13 an13 od14 an14 od15 an15 od16 an16 od17 an17 od18 an18 od19 an19 od20 an20 od21 an21 od22 an22 od23 an23 od24 an24 od25 an25 od26 an26 od27 an27 od28 an28 : Option Addr} {sl1 sl2 sl3 sl4 sl5 sl6 sl7 sl8 sl9 sl10 sl11 sl12 sl13 sl14 sl15 sl16 sl17 sl18 sl19 sl20 sl21 sl22 sl23 sl24 sl25 sl26 sl27 sl28 : Array (Option Value)}
    {oc1 kV1 dc1 pm1 cd1 ct1 oc2 kV2 dc2 pm2 cd2 ct2 oc3 kV3 dc3 pm3 cd3 ct3 oc4 kV4 dc4 pm4 cd4 ct4 oc5 kV5 dc5 pm5 cd5 ct5 oc6 kV6 dc6 pm6 cd6 ct6 oc7 kV7 dc7 pm7 cd7 ct7 oc8 kV8 dc8 pm8 cd8 ct8 oc9 kV9 dc9 pm9 cd9 ct9 oc10 kV10 dc10 pm10 cd10 ct10 oc11 kV11 dc11 pm11 cd11 ct11 oc12 kV12 dc12 pm12 cd12 ct12 oc13 kV13 dc13 pm13 cd13 ct13 oc14 kV14 dc14 pm14 cd14 ct14 oc15 kV15 dc15 pm15 cd15 ct15 oc16 kV16 dc16 pm16 cd16 ct16 oc17 kV17 dc17 pm17 cd17 ct17 oc18 kV18 dc18 pm18 cd18 ct18 oc19 kV19 dc19 pm19 cd19 ct19 oc20 kV20 dc20 pm20 cd20 ct20 oc21 kV21 dc21 pm21 cd21 ct21 oc22 kV22 dc22 pm22 cd22 ct22 oc23 kV23 dc23 pm23 cd23 ct23 oc24 kV24 dc24 pm24 cd24 ct24 oc25 kV25 dc25 pm25 cd25 ct25 oc26 kV26 dc26 pm26 cd26 ct26 oc27 kV27 dc27 pm27 cd27 ct27 oc28 kV28 dc28 pm28 cd28 ct28 : Value}
    (a1 : PySem.W.nsIn K mainGlobals "is_whole" = some (some (.ref f1))) (l1 : K.lookup f1 = some ⟨oc1, od1, .func (PySem.W.fnOf "is_whole" "is_whole" (defArgs sWhole) (defBody sWhole) (defScope sWhole) .none kV1 dc1 pm1 an1 cd1 ct1), sl1⟩) (c1 : PySem.W.codeIn K cd1 "is_whole" = true) (k1 : PySem.W.keepIn K (.ref f1) = true)
    (a2 : PySem.W.nsIn K mainGlobals "is_integer" = some (some (.ref f2))) (l2 : K.lookup f2 = some ⟨oc2, od2, .func (PySem.W.fnOf "is_integer" "is_integer" (defArgs sInteger) (defBody sInteger) (defScope sInteger) .none kV2 dc2 pm2 an2 cd2 ct2), sl2⟩) (c2 : PySem.W.codeIn K cd2 "is_integer" = true) (k2 : PySem.W.keepIn K (.ref f2) = true)
    (a3 : PySem.W.nsIn K mainGlobals "common_of" = some (some (.ref f3))) (l3 : K.lookup f3 = some ⟨oc3, od3, .func (PySem.W.fnOf "common_of" "common_of" (defArgs sCommonOf) (defBody sCommonOf) (defScope sCommonOf) .none kV3 dc3 pm3 an3 cd3 ct3), sl3⟩) (c3 : PySem.W.codeIn K cd3 "common_of" = true) (k3 : PySem.W.keepIn K (.ref f3) = true)
    (a4 : PySem.W.nsIn K mainGlobals "commons_in" = some (some (.ref f4))) (l4 : K.lookup f4 = some ⟨oc4, od4, .func (PySem.W.fnOf "commons_in" "commons_in" (defArgs sCommonsIn) (defBody sCommonsIn) (defScope sCommonsIn) .none kV4 dc4 pm4 an4 cd4 ct4), sl4⟩) (c4 : PySem.W.codeIn K cd4 "commons_in" = true) (k4 : PySem.W.keepIn K (.ref f4) = true)
    (a5 : PySem.W.nsIn K mainGlobals "are_orders" = some (some (.ref f5))) (l5 : K.lookup f5 = some ⟨oc5, od5, .func (PySem.W.fnOf "are_orders" "are_orders" (defArgs sAreOrders) (defBody sAreOrders) (defScope sAreOrders) .none kV5 dc5 pm5 an5 cd5 ct5), sl5⟩) (c5 : PySem.W.codeIn K cd5 "are_orders" = true) (k5 : PySem.W.keepIn K (.ref f5) = true)
    (a6 : PySem.W.nsIn K mainGlobals "require_generators" = some (some (.ref f6))) (l6 : K.lookup f6 = some ⟨oc6, od6, .func (PySem.W.fnOf "require_generators" "require_generators" (defArgs sReqGen) (defBody sReqGen) (defScope sReqGen) .none kV6 dc6 pm6 an6 cd6 ct6), sl6⟩) (c6 : PySem.W.codeIn K cd6 "require_generators" = true) (k6 : PySem.W.keepIn K (.ref f6) = true)
    (a7 : PySem.W.nsIn K mainGlobals "require_number" = some (some (.ref f7))) (l7 : K.lookup f7 = some ⟨oc7, od7, .func (PySem.W.fnOf "require_number" "require_number" (defArgs sReqNum) (defBody sReqNum) (defScope sReqNum) .none kV7 dc7 pm7 an7 cd7 ct7), sl7⟩) (c7 : PySem.W.codeIn K cd7 "require_number" = true) (k7 : PySem.W.keepIn K (.ref f7) = true)
    (a8 : PySem.W.nsIn K mainGlobals "shares_in" = some (some (.ref f8))) (l8 : K.lookup f8 = some ⟨oc8, od8, .func (PySem.W.fnOf "shares_in" "shares_in" (defArgs sSharesIn) (defBody sSharesIn) (defScope sSharesIn) .none kV8 dc8 pm8 an8 cd8 ct8), sl8⟩) (c8 : PySem.W.codeIn K cd8 "shares_in" = true) (k8 : PySem.W.keepIn K (.ref f8) = true)
    (a9 : PySem.W.nsIn K mainGlobals "inverse_by" = some (some (.ref f9))) (l9 : K.lookup f9 = some ⟨oc9, od9, .func (PySem.W.fnOf "inverse_by" "inverse_by" (defArgs sInverse) (defBody sInverse) (defScope sInverse) .none kV9 dc9 pm9 an9 cd9 ct9), sl9⟩) (c9 : PySem.W.codeIn K cd9 "inverse_by" = true) (k9 : PySem.W.keepIn K (.ref f9) = true)
    (a10 : PySem.W.nsIn K mainGlobals "paper_in" = some (some (.ref f10))) (l10 : K.lookup f10 = some ⟨oc10, od10, .func (PySem.W.fnOf "paper_in" "paper_in" (defArgs sPaperIn) (defBody sPaperIn) (defScope sPaperIn) .none kV10 dc10 pm10 an10 cd10 ct10), sl10⟩) (c10 : PySem.W.codeIn K cd10 "paper_in" = true) (k10 : PySem.W.keepIn K (.ref f10) = true)
    (a11 : PySem.W.nsIn K mainGlobals "is_order" = some (some (.ref f11))) (l11 : K.lookup f11 = some ⟨oc11, od11, .func (PySem.W.fnOf "is_order" "is_order" (defArgs sIsOrder) (defBody sIsOrder) (defScope sIsOrder) .none kV11 dc11 pm11 an11 cd11 ct11), sl11⟩) (c11 : PySem.W.codeIn K cd11 "is_order" = true) (k11 : PySem.W.keepIn K (.ref f11) = true)
    (a12 : PySem.W.nsIn K mainGlobals "order_paper" = some (some (.ref f12))) (l12 : K.lookup f12 = some ⟨oc12, od12, .func (PySem.W.fnOf "order_paper" "order_paper" (defArgs sOrderPaper) (defBody sOrderPaper) (defScope sOrderPaper) .none kV12 dc12 pm12 an12 cd12 ct12), sl12⟩) (c12 : PySem.W.codeIn K cd12 "order_paper" = true) (k12 : PySem.W.keepIn K (.ref f12) = true)
    (a13 : PySem.W.nsIn K mainGlobals "is_order_paper" = some (some (.ref f13))) (l13 : K.lookup f13 = some ⟨oc13, od13, .func (PySem.W.fnOf "is_order_paper" "is_order_paper" (defArgs sIsPaper) (defBody sIsPaper) (defScope sIsPaper) .none kV13 dc13 pm13 an13 cd13 ct13), sl13⟩) (c13 : PySem.W.codeIn K cd13 "is_order_paper" = true) (k13 : PySem.W.keepIn K (.ref f13) = true)
    (a14 : PySem.W.nsIn K mainGlobals "last_in" = some (some (.ref f14))) (l14 : K.lookup f14 = some ⟨oc14, od14, .func (PySem.W.fnOf "last_in" "last_in" (defArgs sLastIn) (defBody sLastIn) (defScope sLastIn) .none kV14 dc14 pm14 an14 cd14 ct14), sl14⟩) (c14 : PySem.W.codeIn K cd14 "last_in" = true) (k14 : PySem.W.keepIn K (.ref f14) = true)
    (a15 : PySem.W.nsIn K mainGlobals "last_gap" = some (some (.ref f15))) (l15 : K.lookup f15 = some ⟨oc15, od15, .func (PySem.W.fnOf "last_gap" "last_gap" (defArgs sLastGap) (defBody sLastGap) (defScope sLastGap) .none kV15 dc15 pm15 an15 cd15 ct15), sl15⟩) (c15 : PySem.W.codeIn K cd15 "last_gap" = true) (k15 : PySem.W.keepIn K (.ref f15) = true)
    (a16 : PySem.W.nsIn K mainGlobals "_law_dice" = some (some (.ref f16))) (l16 : K.lookup f16 = some ⟨oc16, od16, .func (PySem.W.fnOf "_law_dice" "_law_dice" (defArgs sDice) (defBody sDice) (defScope sDice) .none kV16 dc16 pm16 an16 cd16 ct16), sl16⟩) (c16 : PySem.W.codeIn K cd16 "_law_dice" = true) (k16 : PySem.W.keepIn K (.ref f16) = true)
    (a17 : PySem.W.nsIn K mainGlobals "_law_roll" = some (some (.ref f17))) (l17 : K.lookup f17 = some ⟨oc17, od17, .func (PySem.W.fnOf "_law_roll" "_law_roll" (defArgs sRoll) (defBody sRoll) (defScope sRoll) .none kV17 dc17 pm17 an17 cd17 ct17), sl17⟩) (c17 : PySem.W.codeIn K cd17 "_law_roll" = true) (k17 : PySem.W.keepIn K (.ref f17) = true)
    (a18 : PySem.W.nsIn K mainGlobals "_law_pick" = some (some (.ref f18))) (l18 : K.lookup f18 = some ⟨oc18, od18, .func (PySem.W.fnOf "_law_pick" "_law_pick" (defArgs sPick) (defBody sPick) (defScope sPick) .none kV18 dc18 pm18 an18 cd18 ct18), sl18⟩) (c18 : PySem.W.codeIn K cd18 "_law_pick" = true) (k18 : PySem.W.keepIn K (.ref f18) = true)
    (a19 : PySem.W.nsIn K mainGlobals "_law_common" = some (some (.ref f19))) (l19 : K.lookup f19 = some ⟨oc19, od19, .func (PySem.W.fnOf "_law_common" "_law_common" (defArgs sLCommon) (defBody sLCommon) (defScope sLCommon) .none kV19 dc19 pm19 an19 cd19 ct19), sl19⟩) (c19 : PySem.W.codeIn K cd19 "_law_common" = true) (k19 : PySem.W.keepIn K (.ref f19) = true)
    (a20 : PySem.W.nsIn K mainGlobals "_law_commons" = some (some (.ref f20))) (l20 : K.lookup f20 = some ⟨oc20, od20, .func (PySem.W.fnOf "_law_commons" "_law_commons" (defArgs sLCommons) (defBody sLCommons) (defScope sLCommons) .none kV20 dc20 pm20 an20 cd20 ct20), sl20⟩) (c20 : PySem.W.codeIn K cd20 "_law_commons" = true) (k20 : PySem.W.keepIn K (.ref f20) = true)
    (a21 : PySem.W.nsIn K mainGlobals "_law_generators_drawn" = some (some (.ref f21))) (l21 : K.lookup f21 = some ⟨oc21, od21, .func (PySem.W.fnOf "_law_generators_drawn" "_law_generators_drawn" (defArgs sDrawn) (defBody sDrawn) (defScope sDrawn) .none kV21 dc21 pm21 an21 cd21 ct21), sl21⟩) (c21 : PySem.W.codeIn K cd21 "_law_generators_drawn" = true) (k21 : PySem.W.keepIn K (.ref f21) = true)
    (a22 : PySem.W.nsIn K mainGlobals "_law_sums_below" = some (some (.ref f22))) (l22 : K.lookup f22 = some ⟨oc22, od22, .func (PySem.W.fnOf "_law_sums_below" "_law_sums_below" (defArgs sSums) (defBody sSums) (defScope sSums) .none kV22 dc22 pm22 an22 cd22 ct22), sl22⟩) (c22 : PySem.W.codeIn K cd22 "_law_sums_below" = true) (k22 : PySem.W.keepIn K (.ref f22) = true)
    (a23 : PySem.W.nsIn K mainGlobals "_law_last_gap" = some (some (.ref f23))) (l23 : K.lookup f23 = some ⟨oc23, od23, .func (PySem.W.fnOf "_law_last_gap" "_law_last_gap" (defArgs sLLast) (defBody sLLast) (defScope sLLast) .none kV23 dc23 pm23 an23 cd23 ct23), sl23⟩) (c23 : PySem.W.codeIn K cd23 "_law_last_gap" = true) (k23 : PySem.W.keepIn K (.ref f23) = true)
    (a24 : PySem.W.nsIn K mainGlobals "_law_is_paper" = some (some (.ref f24))) (l24 : K.lookup f24 = some ⟨oc24, od24, .func (PySem.W.fnOf "_law_is_paper" "_law_is_paper" (defArgs sLPaper) (defBody sLPaper) (defScope sLPaper) .none kV24 dc24 pm24 an24 cd24 ct24), sl24⟩) (c24 : PySem.W.codeIn K cd24 "_law_is_paper" = true) (k24 : PySem.W.keepIn K (.ref f24) = true)
    (a25 : PySem.W.nsIn K mainGlobals "_law_near" = some (some (.ref f25))) (l25 : K.lookup f25 = some ⟨oc25, od25, .func (PySem.W.fnOf "_law_near" "_law_near" (defArgs sNear) (defBody sNear) (defScope sNear) .none kV25 dc25 pm25 an25 cd25 ct25), sl25⟩) (c25 : PySem.W.codeIn K cd25 "_law_near" = true) (k25 : PySem.W.keepIn K (.ref f25) = true)
    (a26 : PySem.W.nsIn K mainGlobals "_law_numbers" = some (some (.ref f26))) (l26 : K.lookup f26 = some ⟨oc26, od26, .func (PySem.W.fnOf "_law_numbers" "_law_numbers" (defArgs sNumbers) (defBody sNumbers) (defScope sNumbers) .none kV26 dc26 pm26 an26 cd26 ct26), sl26⟩) (c26 : PySem.W.codeIn K cd26 "_law_numbers" = true) (k26 : PySem.W.keepIn K (.ref f26) = true)
    (a27 : PySem.W.nsIn K mainGlobals "_law_right" = some (some (.ref f27))) (l27 : K.lookup f27 = some ⟨oc27, od27, .func (PySem.W.fnOf "_law_right" "_law_right" (defArgs sRight) (defBody sRight) (defScope sRight) .none kV27 dc27 pm27 an27 cd27 ct27), sl27⟩) (c27 : PySem.W.codeIn K cd27 "_law_right" = true) (k27 : PySem.W.keepIn K (.ref f27) = true)
    (a28 : PySem.W.nsIn K mainGlobals "law" = some (some (.ref f28))) (l28 : K.lookup f28 = some ⟨oc28, od28, .func (PySem.W.fnOf "law" "law" (defArgs sLaw) (defBody sLaw) (defScope sLaw) .none kV28 dc28 pm28 an28 cd28 ct28), sl28⟩) (c28 : PySem.W.codeIn K cd28 "law" = true) (k28 : PySem.W.keepIn K (.ref f28) = true)
    (z1 : PySem.W.nsIn K mainGlobals "isinstance" = some none)
    (z2 : PySem.W.nsIn K mainGlobals "int" = some none)
    (z3 : PySem.W.nsIn K mainGlobals "bool" = some none)
    (z4 : PySem.W.nsIn K mainGlobals "tuple" = some none)
    (z5 : PySem.W.nsIn K mainGlobals "all" = some none)
    (z6 : PySem.W.nsIn K mainGlobals "any" = some none)
    (z7 : PySem.W.nsIn K mainGlobals "len" = some none)
    (z8 : PySem.W.nsIn K mainGlobals "zip" = some none)
    (z9 : PySem.W.nsIn K mainGlobals "list" = some none)
    (z10 : PySem.W.nsIn K mainGlobals "sum" = some none)
    (z11 : PySem.W.nsIn K mainGlobals "max" = some none)
    (z12 : PySem.W.nsIn K mainGlobals "min" = some none)
    (z13 : PySem.W.nsIn K mainGlobals "abs" = some none)
    (z14 : PySem.W.nsIn K mainGlobals "range" = some none)
    (z15 : PySem.W.nsIn K mainGlobals "repr" = some none)
    {tg : Tok} (g1 : PySem.W.nsIn K mainGlobals "GREAT" = some (some (.int great tg))) :
    ∃ fd : FuncData, (∀ (s : Shared) (v : Value), BindsTo s fd ⟨[v], []⟩ [("_law_script", v)]) ∧ ∀ base : Heap, K.In base → base.Ns mainGlobals mg → FnOk l.prog w K mg base CX0 7 fa fd ["_law_script"] (spLaw K) := by
  have e := hfa.symm.trans (PySem.W.mg_of X G a28)
  cases e
  have T : Txt K mg := ⟨PySem.W.mg_none_of X G z1, PySem.W.mg_none_of X G z2, PySem.W.mg_none_of X G z3, PySem.W.mg_none_of X G z4, PySem.W.mg_none_of X G z5, PySem.W.mg_none_of X G z6, PySem.W.mg_none_of X G z7, PySem.W.mg_none_of X G z8, PySem.W.mg_none_of X G z9, PySem.W.mg_none_of X G z10, PySem.W.mg_none_of X G z11, PySem.W.mg_none_of X G z12, PySem.W.mg_none_of X G z13, PySem.W.mg_none_of X G z14, PySem.W.mg_none_of X G z15, ⟨tg, PySem.W.mg_of X G g1⟩⟩
  have F1 := fun_mk (st := sWhole) l1 c1 k1
  have b1 := F1.binds (ps := ["value"]) fun _ _ _ _ _ _ us hl => match us, hl with | [_], _ => rfl
  have F2 := fun_mk (st := sInteger) l2 c2 k2
  have b2 := F2.binds (ps := ["value"]) fun _ _ _ _ _ _ us hl => match us, hl with | [_], _ => rfl
  have F3 := fun_mk (st := sCommonOf) l3 c3 k3
  have b3 := F3.binds (ps := ["one", "other"]) fun _ _ _ _ _ _ us hl => match us, hl with | [_, _], _ => rfl
  have F4 := fun_mk (st := sCommonsIn) l4 c4 k4
  have b4 := F4.binds (ps := ["generators"]) fun _ _ _ _ _ _ us hl => match us, hl with | [_], _ => rfl
  have F5 := fun_mk (st := sAreOrders) l5 c5 k5
  have b5 := F5.binds (ps := ["value"]) fun _ _ _ _ _ _ us hl => match us, hl with | [_], _ => rfl
  have F6 := fun_mk (st := sReqGen) l6 c6 k6
  have b6 := F6.binds (ps := ["value"]) fun _ _ _ _ _ _ us hl => match us, hl with | [_], _ => rfl
  have F7 := fun_mk (st := sReqNum) l7 c7 k7
  have b7 := F7.binds (ps := ["value"]) fun _ _ _ _ _ _ us hl => match us, hl with | [_], _ => rfl
  have F8 := fun_mk (st := sSharesIn) l8 c8 k8
  have b8 := F8.binds (ps := ["generators"]) fun _ _ _ _ _ _ us hl => match us, hl with | [_], _ => rfl
  have F9 := fun_mk (st := sInverse) l9 c9 k9
  have b9 := F9.binds (ps := ["number", "modulus"]) fun _ _ _ _ _ _ us hl => match us, hl with | [_, _], _ => rfl
  have F10 := fun_mk (st := sPaperIn) l10 c10 k10
  have b10 := F10.binds (ps := ["generators", "number"]) fun _ _ _ _ _ _ us hl => match us, hl with | [_, _], _ => rfl
  have F11 := fun_mk (st := sIsOrder) l11 c11 k11
  have b11 := F11.binds (ps := ["generators", "number"]) fun _ _ _ _ _ _ us hl => match us, hl with | [_, _], _ => rfl
  have F12 := fun_mk (st := sOrderPaper) l12 c12 k12
  have b12 := F12.binds (ps := ["generators", "number"]) fun _ _ _ _ _ _ us hl => match us, hl with | [_, _], _ => rfl
  have F13 := fun_mk (st := sIsPaper) l13 c13 k13
  have b13 := F13.binds (ps := ["generators", "number", "value"]) fun _ _ _ _ _ _ us hl => match us, hl with | [_, _, _], _ => rfl
  have F14 := fun_mk (st := sLastIn) l14 c14 k14
  have b14 := F14.binds (ps := ["generators"]) fun _ _ _ _ _ _ us hl => match us, hl with | [_], _ => rfl
  have F15 := fun_mk (st := sLastGap) l15 c15 k15
  have b15 := F15.binds (ps := ["generators"]) fun _ _ _ _ _ _ us hl => match us, hl with | [_], _ => rfl
  have F16 := fun_mk (st := sDice) l16 c16 k16
  have b16 := F16.binds (ps := ["_law_script", "_law_spot"]) fun _ _ _ _ _ _ us hl => match us, hl with | [_, _], _ => rfl
  have F17 := fun_mk (st := sRoll) l17 c17 k17
  have b17 := F17.binds (ps := ["_law_dice_here", "_law_total"]) fun _ _ _ _ _ _ us hl => match us, hl with | [_, _], _ => rfl
  have F18 := fun_mk (st := sPick) l18 c18 k18
  have b18 := F18.binds (ps := ["_law_dice_here", "_law_items"]) fun _ _ _ _ _ _ us hl => match us, hl with | [_, _], _ => rfl
  have F19 := fun_mk (st := sLCommon) l19 c19 k19
  have b19 := F19.binds (ps := ["_law_one", "_law_other"]) fun _ _ _ _ _ _ us hl => match us, hl with | [_, _], _ => rfl
  have F20 := fun_mk (st := sLCommons) l20 c20 k20
  have b20 := F20.binds (ps := ["_law_numbers_here"]) fun _ _ _ _ _ _ us hl => match us, hl with | [_], _ => rfl
  have F21 := fun_mk (st := sDrawn) l21 c21 k21
  have b21 := F21.binds (ps := ["_law_dice_here", "_law_most"]) fun _ _ _ _ _ _ us hl => match us, hl with | [_, _], _ => rfl
  have F22 := fun_mk (st := sSums) l22 c22 k22
  have b22 := F22.binds (ps := ["_law_makers", "_law_size"]) fun _ _ _ _ _ _ us hl => match us, hl with | [_, _], _ => rfl
  have F23 := fun_mk (st := sLLast) l23 c23 k23
  have b23 := F23.binds (ps := ["_law_makers"]) fun _ _ _ _ _ _ us hl => match us, hl with | [_], _ => rfl
  have F24 := fun_mk (st := sLPaper) l24 c24 k24
  have b24 := F24.binds (ps := ["_law_generators", "_law_number", "_law_value"]) fun _ _ _ _ _ _ us hl => match us, hl with | [_, _, _], _ => rfl
  have F25 := fun_mk (st := sNear) l25 c25 k25
  have b25 := F25.binds (ps := ["_law_dice_here", "_law_generators", "_law_paper"]) fun _ _ _ _ _ _ us hl => match us, hl with | [_, _, _], _ => rfl
  have F26 := fun_mk (st := sNumbers) l26 c26 k26
  have b26 := F26.binds (ps := ["_law_dice_here", "_law_last"]) fun _ _ _ _ _ _ us hl => match us, hl with | [_, _], _ => rfl
  have F27 := fun_mk (st := sRight) l27 c27 k27
  have b27 := F27.binds (ps := ["_law_dice_here"]) fun _ _ _ _ _ _ us hl => match us, hl with | [_], _ => rfl
  have F28 := fun_mk (st := sLaw) l28 c28 k28
  refine ⟨PySem.W.fnOf "law" "law" (defArgs sLaw) (defBody sLaw) (defScope sLaw) .none kV28 dc28 pm28 an28 cd28 ct28, fun s v => .of_eq rfl, fun base _ _ => ?_⟩
  have C1 : Cal l.prog w K mg base 1 "is_whole" ["value"] spWhole := cal_mk X G a1 k1 b1 (ok_whole F1 T)
  have C2 : Cal l.prog w K mg base 2 "is_integer" ["value"] spInteger := cal_mk X G a2 k2 b2 (ok_integer F2 T C1)
  have C3 : Cal l.prog w K mg base 1 "common_of" ["one", "other"] spCommonOf := cal_mk X G a3 k3 b3 (ok_commonOf F3)
  have C4 : Cal l.prog w K mg base 2 "commons_in" ["generators"] (spCommonsIn K) := cal_mk X G a4 k4 b4 (ok_CommonsIn F4 C3)
  have C5 : Cal l.prog w K mg base 3 "are_orders" ["value"] (spAreOrders K) := cal_mk X G a5 k5 b5 (ok_areOrders F5 T C2 C4)
  have C6 : Cal l.prog w K mg base 4 "require_generators" ["value"] (spReqGen K) := cal_mk X G a6 k6 b6 (ok_reqGen F6 C5)
  have C7 : Cal l.prog w K mg base 3 "require_number" ["value"] spReqNum := cal_mk X G a7 k7 b7 (ok_reqNum F7 C2)
  have C8 : Cal l.prog w K mg base 3 "shares_in" ["generators"] (spSharesIn K) := cal_mk X G a8 k8 b8 (ok_sharesIn F8 T C4)
  have C9 : Cal l.prog w K mg base 1 "inverse_by" ["number", "modulus"] spInverse := cal_mk X G a9 k9 b9 (ok_inverse F9)
  have C10 : Cal l.prog w K mg base 4 "paper_in" ["generators", "number"] (spPaper K) := cal_mk X G a10 k10 b10 (ok_paperIn F10 T C8 C4 C9)
  have C11 : Cal l.prog w K mg base 5 "is_order" ["generators", "number"] (spIsOrder K) := cal_mk X G a11 k11 b11 (ok_isOrder F11 C6 C7 C10)
  have C12 : Cal l.prog w K mg base 5 "order_paper" ["generators", "number"] (spOrderPaper K) := cal_mk X G a12 k12 b12 (ok_orderPaper F12 C6 C7 C10)
  have C13 : Cal l.prog w K mg base 5 "is_order_paper" ["generators", "number", "value"] (spIsPaper K) := cal_mk X G a13 k13 b13 (ok_isPaper F13 T C6 C7 C10)
  have C14 : Cal l.prog w K mg base 4 "last_in" ["generators"] (spLast K) := cal_mk X G a14 k14 b14 (ok_lastIn F14 T C8)
  have C15 : Cal l.prog w K mg base 5 "last_gap" ["generators"] (spLast K) := cal_mk X G a15 k15 b15 (ok_lastGap F15 C6 C14)
  have C16 : Cal l.prog w K mg base 1 "_law_dice" ["_law_script", "_law_spot"] (spDice K) := cal_mk X G a16 k16 b16 (ok_dice F16 T)
  have C17 : Cal l.prog w K mg base 1 "_law_roll" ["_law_dice_here", "_law_total"] spRoll := cal_mk X G a17 k17 b17 (ok_roll F17 T)
  have C18 : Cal l.prog w K mg base 2 "_law_pick" ["_law_dice_here", "_law_items"] (spPick K) := cal_mk X G a18 k18 b18 (ok_pick F18 T C17)
  have C19 : Cal l.prog w K mg base 1 "_law_common" ["_law_one", "_law_other"] spLCommon := cal_mk X G a19 k19 b19 (ok_lcommon F19 T)
  have C20 : Cal l.prog w K mg base 2 "_law_commons" ["_law_numbers_here"] (spLCommons K) := cal_mk X G a20 k20 b20 (ok_LCommons F20 C19)
  have C21 : Cal l.prog w K mg base 3 "_law_generators_drawn" ["_law_dice_here", "_law_most"] (spDrawn K) := cal_mk X G a21 k21 b21 (ok_drawn F21 T C18 C17 C19)
  have C22 : Cal l.prog w K mg base 1 "_law_sums_below" ["_law_makers", "_law_size"] (spSums K) := cal_mk X G a22 k22 b22 (ok_sums F22 T)
  have C23 : Cal l.prog w K mg base 3 "_law_last_gap" ["_law_makers"] (spLast K) := cal_mk X G a23 k23 b23 (ok_llast F23 T C20)
  have C24 : Cal l.prog w K mg base 3 "_law_is_paper" ["_law_generators", "_law_number", "_law_value"] (spLPaper K) := cal_mk X G a24 k24 b24 (ok_lpaper F24 T C20)
  have C25 : Cal l.prog w K mg base 2 "_law_near" ["_law_dice_here", "_law_generators", "_law_paper"] (spNear K) := cal_mk X G a25 k25 b25 (ok_near F25 T C17)
  have C26 : Cal l.prog w K mg base 2 "_law_numbers" ["_law_dice_here", "_law_last"] spNumbers := cal_mk X G a26 k26 b26 (ok_numbers F26 T C17)
  have C27 : Cal l.prog w K mg base 6 "_law_right" ["_law_dice_here"] spRight := cal_mk X G a27 k27 b27 (ok_right F27 T C21 C23 C15 C22 C26 C12 C24 C11 C25 C13)
  exact ok_law F28 T C16 C27 C12
end K33
open PySem PySem.W PyProof.Rows in
set_option maxRecDepth 100000 in
set_option maxHeartbeats 0 in
theorem PySem.Challenge.cw_touchtowers_k33_whole_papers_of_orders_holds : PySem.Challenge.rw_touchtowers_k33_whole_papers_of_orders.Holds := by
  w_on; o_law; k_head; (case hw => w_witness2)
  k_fill
  refine L2.walk_of (l := PySem.Challenge.rw_touchtowers_k33_whole_papers_of_orders) (n := 63) (k := 7) (x := "_law_script") (CX := fun _ => L2.CX0) (sp := fun w => K33.spLaw _) rfl (by decide) rfl ⟨rfl, by decide, by decide⟩ (fun w h Y => PySem.W.kIn_of Y) ?F (fun _ _ a ns hl _ hS => ⟨a, ns, rfl, hS, hl, fun _ => rfl⟩) (fun _ _ _ _ _ h => h)
  case F =>
    intro w mg fa h KX G hmg
    refine' K33.all_mk KX G hmg ?a1 ?l1 ?c1 ?k1 ?a2 ?l2 ?c2 ?k2 ?a3 ?l3 ?c3 ?k3 ?a4 ?l4 ?c4 ?k4 ?a5 ?l5 ?c5 ?k5 ?a6 ?l6 ?c6 ?k6 ?a7 ?l7 ?c7 ?k7 ?a8 ?l8 ?c8 ?k8 ?a9 ?l9 ?c9 ?k9 ?a10 ?l10 ?c10 ?k10 ?a11 ?l11 ?c11 ?k11 ?a12 ?l12 ?c12 ?k12 ?a13 ?l13 ?c13 ?k13 ?a14 ?l14 ?c14 ?k14 ?a15 ?l15 ?c15 ?k15 ?a16 ?l16 ?c16 ?k16 ?a17 ?l17 ?c17 ?k17 ?a18 ?l18 ?c18 ?k18 ?a19 ?l19 ?c19 ?k19 ?a20 ?l20 ?c20 ?k20 ?a21 ?l21 ?c21 ?k21 ?a22 ?l22 ?c22 ?k22 ?a23 ?l23 ?c23 ?k23 ?a24 ?l24 ?c24 ?k24 ?a25 ?l25 ?c25 ?k25 ?a26 ?l26 ?c26 ?k26 ?a27 ?l27 ?c27 ?k27 ?a28 ?l28 ?c28 ?k28 ?z1 ?z2 ?z3 ?z4 ?z5 ?z6 ?z7 ?z8 ?z9 ?z10 ?z11 ?z12 ?z13 ?z14 ?z15 ?g1
    (case a1 => k_is)
    (case l1 => k_is)
    (case c1 => k_is)
    (case k1 => k_is)
    (case a2 => k_is)
    (case l2 => k_is)
    (case c2 => k_is)
    (case k2 => k_is)
    (case a3 => k_is)
    (case l3 => k_is)
    (case c3 => k_is)
    (case k3 => k_is)
    (case a4 => k_is)
    (case l4 => k_is)
    (case c4 => k_is)
    (case k4 => k_is)
    (case a5 => k_is)
    (case l5 => k_is)
    (case c5 => k_is)
    (case k5 => k_is)
    (case a6 => k_is)
    (case l6 => k_is)
    (case c6 => k_is)
    (case k6 => k_is)
    (case a7 => k_is)
    (case l7 => k_is)
    (case c7 => k_is)
    (case k7 => k_is)
    (case a8 => k_is)
    (case l8 => k_is)
    (case c8 => k_is)
    (case k8 => k_is)
    (case a9 => k_is)
    (case l9 => k_is)
    (case c9 => k_is)
    (case k9 => k_is)
    (case a10 => k_is)
    (case l10 => k_is)
    (case c10 => k_is)
    (case k10 => k_is)
    (case a11 => k_is)
    (case l11 => k_is)
    (case c11 => k_is)
    (case k11 => k_is)
    (case a12 => k_is)
    (case l12 => k_is)
    (case c12 => k_is)
    (case k12 => k_is)
    (case a13 => k_is)
    (case l13 => k_is)
    (case c13 => k_is)
    (case k13 => k_is)
    (case a14 => k_is)
    (case l14 => k_is)
    (case c14 => k_is)
    (case k14 => k_is)
    (case a15 => k_is)
    (case l15 => k_is)
    (case c15 => k_is)
    (case k15 => k_is)
    (case a16 => k_is)
    (case l16 => k_is)
    (case c16 => k_is)
    (case k16 => k_is)
    (case a17 => k_is)
    (case l17 => k_is)
    (case c17 => k_is)
    (case k17 => k_is)
    (case a18 => k_is)
    (case l18 => k_is)
    (case c18 => k_is)
    (case k18 => k_is)
    (case a19 => k_is)
    (case l19 => k_is)
    (case c19 => k_is)
    (case k19 => k_is)
    (case a20 => k_is)
    (case l20 => k_is)
    (case c20 => k_is)
    (case k20 => k_is)
    (case a21 => k_is)
    (case l21 => k_is)
    (case c21 => k_is)
    (case k21 => k_is)
    (case a22 => k_is)
    (case l22 => k_is)
    (case c22 => k_is)
    (case k22 => k_is)
    (case a23 => k_is)
    (case l23 => k_is)
    (case c23 => k_is)
    (case k23 => k_is)
    (case a24 => k_is)
    (case l24 => k_is)
    (case c24 => k_is)
    (case k24 => k_is)
    (case a25 => k_is)
    (case l25 => k_is)
    (case c25 => k_is)
    (case k25 => k_is)
    (case a26 => k_is)
    (case l26 => k_is)
    (case c26 => k_is)
    (case k26 => k_is)
    (case a27 => k_is)
    (case l27 => k_is)
    (case c27 => k_is)
    (case k27 => k_is)
    (case a28 => k_is)
    (case l28 => k_is)
    (case c28 => k_is)
    (case k28 => k_is)
    (case z1 => k_is)
    (case z2 => k_is)
    (case z3 => k_is)
    (case z4 => k_is)
    (case z5 => k_is)
    (case z6 => k_is)
    (case z7 => k_is)
    (case z8 => k_is)
    (case z9 => k_is)
    (case z10 => k_is)
    (case z11 => k_is)
    (case z12 => k_is)
    (case z13 => k_is)
    (case z14 => k_is)
    (case z15 => k_is)
    (case g1 => k_is)
