/-
  The curves' primes as the document's sums need them; the numbers of bytes that stand for numbers.
-/
import Derived.Test.YtddfimfgcfgpbaaSPn
import Derived.Test.YtddfimfgcfgpbaaSGg
namespace Go.Proofs.Ytddfimfgcfgpbaa
open Sx
set_option exponentiation.threshold 2000
theorem pr_gcd {p : Nat} (h : CvPrm.Pr p) (z : Nat) (h0 : 0 < z) (hz : z < p) : Nat.gcd z p = 1 := by
  rcases h.2 _ (Nat.gcd_dvd_right z p) with h1 | h1
  · exact h1
  · have := Nat.gcd_le_left p h0
    omega
theorem cv_pr (id : Int) (h : isCv id = true) : CvPrm.Pr (cvN id).p := by
  rcases isCv_cases h with rfl | rfl | rfl | rfl | rfl | rfl | rfl | rfl | rfl | rfl | rfl | rfl | rfl | rfl | rfl
  · rw [show (cvN 1).p = 6277101735386680763835789423207666416083908700390324961279 from Nat.eq_of_beq_eq_true (by kernel_rfl)]; exact CvPrm.pr_fffffffffffffffffffffffffffffffeffffffffffffffff
  · rw [show (cvN 2).p = 26959946667150639794667015087019630673557916260026308143510066298881 from Nat.eq_of_beq_eq_true (by kernel_rfl)]; exact CvPrm.pr_ffffffffffffffffffffffffffffffff000000000000000000000001
  · rw [show (cvN 3).p = 115792089210356248762697446949407573530086143415290314195533631308867097853951 from Nat.eq_of_beq_eq_true (by kernel_rfl)]; exact CvPrm.pr_ffffffff00000001000000000000000000000000ffffffffffffffffffffffff
  · rw [show (cvN 4).p = 39402006196394479212279040100143613805079739270465446667948293404245721771496870329047266088258938001861606973112319 from Nat.eq_of_beq_eq_true (by kernel_rfl)]; exact CvPrm.pr_fffffffffffffffffffffffffffffffffffffffffffffffffffffffffffffffeffffffff0000000000000000ffffffff
  · rw [show (cvN 5).p = 6864797660130609714981900799081393217269435300143305409394463459185543183397656052122559640661454554977296311391480858037121987999716643812574028291115057151 from Nat.eq_of_beq_eq_true (by kernel_rfl)]; exact CvPrm.pr_1ffffffffffffffffffffffffffffffffffffffffffffffffffffffffffffffffffffffffffffffffffffffffffffffffffffffffffffffffffffffffffffffffff
  · rw [show (cvN 6).p = 115792089237316195423570985008687907853269984665640564039457584007908834671663 from Nat.eq_of_beq_eq_true (by kernel_rfl)]; exact CvPrm.pr_fffffffffffffffffffffffffffffffffffffffffffffffffffffffefffffc2f
  · rw [show (cvN 7).p = 1332297598440044874827085558802491743757193798159 from Nat.eq_of_beq_eq_true (by kernel_rfl)]; exact CvPrm.pr_e95e4a5f737059dc60dfc7ad95b3d8139515620f
  · rw [show (cvN 8).p = 22721622932454352787552537995910928073340732145944992304435472941311 from Nat.eq_of_beq_eq_true (by kernel_rfl)]; exact CvPrm.pr_d7c134aa264366862a18302575d1d787b09f075797da89f57ec8c0ff
  · rw [show (cvN 9).p = 76884956397045344220809746629001649093037950200943055203735601445031516197751 from Nat.eq_of_beq_eq_true (by kernel_rfl)]; exact CvPrm.pr_a9fb57dba1eea9bc3e660a909d838d726e3bf623d52620282013481d1f6e5377
  · rw [show (cvN 10).p = 1763593322239166354161909842446019520889512772719515192772960415288640868802149818095501499903527 from Nat.eq_of_beq_eq_true (by kernel_rfl)]; exact CvPrm.pr_d35e472036bc4fb7e13c785ed201e065f98fcfa6f6f40def4f92b9ec7893ec28fcd412b1f1b32e27
  · rw [show (cvN 11).p = 21659270770119316173069236842332604979796116387017648600081618503821089934025961822236561982844534088440708417973331 from Nat.eq_of_beq_eq_true (by kernel_rfl)]; exact CvPrm.pr_8cb91e82a3386d280f5d6f7e50e641df152f7109ed5456b412b1da197fb71123acd3a729901d1a71874700133107ec53
  · rw [show (cvN 12).p = 8948962207650232551656602815159153422162609644098354511344597187200057010413552439917934304191956942765446530386427345937963894309923928536070534607816947 from Nat.eq_of_beq_eq_true (by kernel_rfl)]; exact CvPrm.pr_aadd9db8dbe9c48b3fd4e6ae33c9fc07cb308db3b3c9d20ed6639cca703308717d4d9b009bc66842aecda12ae6a380e62881ff2f2d82c68528aa6056583a48f3
  · rw [show (cvN 13).p = 251 from Nat.eq_of_beq_eq_true (by kernel_rfl)]; exact CvPrm.pr251
  · rw [show (cvN 14).p = 241 from Nat.eq_of_beq_eq_true (by kernel_rfl)]; exact CvPrm.pr241
  · rw [show (cvN 15).p = 239 from Nat.eq_of_beq_eq_true (by kernel_rfl)]; exact CvPrm.pr239
theorem rv_ok (id : Int) (h : isCv id = true) : RvOk (cvN id) where
  nd := Nat.le_trans (nd_le (n := 20) (Nat.lt_trans (pOf_lt id h) (by decide))) (by decide)
  p1 := (cvN_ok id h).p1
  odd := by
    rcases isCv_cases h with rfl | rfl | rfl | rfl | rfl | rfl | rfl | rfl | rfl | rfl | rfl | rfl | rfl | rfl | rfl <;> exact Nat.eq_of_beq_eq_true (by kernel_rfl)
  pr := pr_gcd (cv_pr id h)
  a := (cvN_ok id h).a
theorem bsum_beS (u n : Nat) : ∀ i, i ≤ n → bsum (beS u n) i = u % 2 ^ (8 * i)
  | 0, _ => by rw [Nat.mul_zero, Nat.pow_zero, Nat.mod_one]; rfl
  | i + 1, h => by
    rw [bsum, bsum_beS u n i (by omega), beS_size, byt_beS (by omega), show n - 1 - (n - 1 - i) = i by omega]
    rw [Nat.mul_succ, Nat.pow_add, Nat.mod_mul, Nat.mul_comm (2 ^ (8 * i))]
theorem ofS_beS {u n : Nat} (h : u < 2 ^ (8 * n)) : ofS (beS u n) = u := by
  unfold ofS
  rw [beS_size, bsum_beS u n n (Nat.le_refl _), Nat.mod_eq_of_lt h]
theorem lt_of_bl {u n : Nat} (h : bl u ≤ 8 * n) : u < 2 ^ (8 * n) := Nat.lt_of_lt_of_le (lt_bl u) (Nat.pow_le_pow_right (by decide) h)
theorem long_read {u v n : Nat} (hu : bl u ≤ 8 * n) (hv : bl v ≤ 8 * n) {s : ByteArray} (hs : s = (⟨#[4]⟩ : ByteArray) ++ beS u n ++ beS v n) :
    s.size = 1 + 2 * n ∧ byt s 0 = 4 ∧ ofS ((s.extract 1 s.size).extract 0 n) = u ∧ ofS ((s.extract 1 s.size).extract n (s.extract 1 s.size).size) = v := by
  have h1 : (⟨#[4]⟩ : ByteArray).size = 1 := rfl
  have hsz : s.size = 1 + 2 * n := by rw [hs]; simp only [ByteArray.size_append, beS_size, h1]; omega
  have he : s.extract 1 s.size = beS u n ++ beS v n := by
    rw [hsz, hs, ByteArray.append_assoc]
    exact ByteArray.extract_append_eq_right h1.symm (by simp only [ByteArray.size_append, beS_size, h1]; omega)
  have e1 : (beS u n ++ beS v n).extract 0 n = beS u n := ByteArray.extract_append_eq_left (beS_size u n).symm
  have e2 : (beS u n ++ beS v n).extract n (beS u n ++ beS v n).size = beS v n := ByteArray.extract_append_eq_right (beS_size u n).symm (by rw [ByteArray.size_append])
  refine ⟨hsz, ?_, ?_, ?_⟩
  · unfold byt
    have hlt : 0 < ((⟨#[4]⟩ : ByteArray) ++ (beS u n ++ beS v n)).size := by simp only [ByteArray.size_append, h1]; omega
    rw [hs, ByteArray.append_assoc, getElem?_pos _ 0 hlt, ByteArray.getElem_append_left (h := hlt) (by rw [h1]; decide)]
    rfl
  · rw [he, e1, ofS_beS (lt_of_bl hu)]
  · rw [he, e2, ofS_beS (lt_of_bl hv)]
theorem getV_great {c : CvN} {u v : Nat} (h : c.p ≤ u ∨ c.p ≤ v) : onN c u v false = false := by
  unfold onN
  rw [cond_false]
  rcases h with h | h
  · rw [decide_eq_false (by omega), Bool.false_and]
  · rw [decide_eq_false (p := v < c.p) (by omega), Bool.false_and, Bool.and_false]
theorem isCv_q (n : Nat) (h : n < 15) : isCv ((1 + n : Nat) : Int) = true := by
  have : ∀ k : Fin 15, isCv ((1 + k.val : Nat) : Int) = true := by decide +kernel
  exact this ⟨n, h⟩
end Go.Proofs.Ytddfimfgcfgpbaa
