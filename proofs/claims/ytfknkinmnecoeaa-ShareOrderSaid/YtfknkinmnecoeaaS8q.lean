/- Cut down from a longer text. -/
import Derived.Test.YtfknkinmnecoeaaS7q
import Derived.Test.YtfknkinmnecoeaaB2
set_option linter.unusedVariables false
set_option linter.unusedSimpArgs false
namespace Go.Proofs.Ytfknkinmnecoeaa.D
open Go Go.Proofs Go.Proofs.Ytfknkinmnecoeaa.L
theorem P54_refl (l : List RT) (hl : l.length ≤ 1000) : P54 (l, l) = some true := by
  have e : L54_0 (l, l, 0) = some (.inr ()) := while_run (step := fun x => p54_0 x.1 x.2.1 x.2.2) l.length (fun k => (l, l, (k : Int))) _ (fun k hk => by
    simp only [p54_0, q54_0, lt_nat_t hk, cond_true, inR_nat hk, chk_t, ix_gt, decide_true, Bool.and_self, Bool.not_true, cond_false, fits_nat (show k < 9223372036854775807 by omega), cast_succ]) (by
    simp only [p54_0, q54_0, lt_nat_f, cond_false]) (by omega)
  simp only [P54, p54, q54, decide_true, Bool.not_true, cond_false, e, bind_some', elim_inr]
theorem P55_refl (c : CT) (h1 : c.2.2.2.1.length ≤ 1000) (h2 : c.2.2.2.2.1.length ≤ 1000) : P55 (c, c) = some true := by
  have e0 : L55_0 (0, c, c) = some (.inr (c, c)) := while_run (step := fun x => p55_0 x.1 x.2.1 x.2.2) c.2.2.2.1.length (fun k => ((k : Int), c, c)) _ (fun k hk => by
    simp only [p55_0, q55_0, lt_nat_t hk, cond_true, inR_nat hk, chk_t, ix_gt, decide_true, Bool.not_true, cond_false, fits_nat (show k < 9223372036854775807 by omega), cast_succ]) (by
    simp only [p55_0, q55_0, lt_nat_f, cond_false]) (by omega)
  have e1 : L55_1 (0, c, c) = some (.inr (c, c)) := while_run (step := fun x => p55_1 x.1 x.2.1 x.2.2) c.2.2.2.2.1.length (fun k => ((k : Int), c, c)) _ (fun k hk => by
    simp only [p55_1, q55_1, lt_nat_t hk, cond_true, inR_nat hk, chk_t, ix_gt, decide_true, Bool.and_true, Bool.not_true, cond_false, fits_nat (show k < 9223372036854775807 by omega), cast_succ]) (by
    simp only [p55_1, q55_1, lt_nat_f, cond_false]) (by omega)
  simp only [P55, p55, q55, decide_true, Bool.not_true, cond_false, e0, e1, bind_some', elim_inr]
theorem P31_refl (b : BT) (hb : szB b) : P31 (b, b) = some true := by
  have e : L31_0 (0, b, b) = some (.inr (b, b)) := while_run (step := fun x => p31_0 x.1 x.2.1 x.2.2) b.2.1.length (fun k => ((k : Int), b, b)) _ (fun k hk => by
    have hc := hb.2.2 _ (gt_mem hk)
    simp only [p31_0, q31_0, lt_nat_t hk, cond_true, inR_nat hk, chk_t, ix_gt, P55_refl _ hc.1 hc.2, bind_some', Bool.not_true, cond_false, fits_nat (show k < 9223372036854775807 by have := hb.1; omega), cast_succ]) (by
    simp only [p31_0, q31_0, lt_nat_f, cond_false]) (by have := hb.1; omega)
  simp only [P31, p31, q31, decide_true, Bool.not_true, cond_false, P54_refl _ hb.2.1, e, bind_some', elim_inr]
abbrev TyC : Ty := .pair (.int .i64) (.pair (.int .i64) (.pair (.int .i64) (.pair (.sl (.int .i64)) (.pair (.sl (.pair (.int .i64) (.int .i64))) (.pair (.int .i64) (.pair (.int .i64) (.pair (.int .i64) (.int .i64))))))))
abbrev TyR : Ty := .pair (.int .i64) (.pair (.int .i64) (.pair (.int .i64) (.pair (.int .i64) (.pair (.int .i64) (.int .i64)))))
abbrev TyB : Ty := .pair (.int .i64) (.pair (.sl TyC) (.sl TyR))
abbrev TyA : Ty := .pair (.int .i64) (.pair (.int .i64) (.int .i64))
end Go.Proofs.Ytfknkinmnecoeaa.D
