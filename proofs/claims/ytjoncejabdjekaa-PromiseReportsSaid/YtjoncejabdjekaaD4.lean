/- Abstract code as a function over typed values, part 4: operations that leave the state as it is. -/
import Derived.Test.YtjoncejabdjekaaD3
set_option linter.unusedVariables false
set_option linter.unusedSimpArgs false
namespace Go.Proofs.Ytjoncejabdjekaa.D
open Go Go.Proofs.Ytjoncejabdjekaa.L

section
variable {π : Pi} {Fr : Store} {S : DSt} {s' : Store} {RD : List Nat} {R : Nat → Prop} {ρ : Opd → DV} {ρ' : Opd → AV}

theorem at0_drop_take {t : Ty} {l : List t.den} {lo m i : Nat} (h : i < min m (l.length - lo)) : at0 t ((l.drop lo).take m) i = at0 t l (lo + i) := by
  have h1 : i < m := by omega
  simp [at0, List.getD_eq_getElem?_getD, List.getElem?_take, h1, List.getElem?_drop]

theorem CRs_nil (t : Ty) : CRs t [] [] := ⟨rfl, fun i hi => by simp at hi⟩
theorem CRs_app {t : Ty} {l m : List t.den} {xs ys : List (List AV)} (h : CRs t l xs) (k : CRs t m ys) : CRs t (l ++ m) (xs ++ ys) := by
  refine ⟨by simp [h.1, k.1], fun i hi => ?_⟩
  rcases Nat.lt_or_ge i l.length with hl | hl
  · have h' : i < xs.length := by rw [h.1]; exact hl
    have := h.2 i hl
    simpa [at0, List.getD_eq_getElem?_getD, List.getElem?_append, hl, h'] using this
  · have hi' : i - l.length < m.length := by simp at hi; omega
    have := k.2 _ hi'
    have e1 : ¬ i < l.length := by omega
    have e2 : ¬ i < xs.length := by rw [h.1]; omega
    rw [at0] at this ⊢
    simpa [List.getD_eq_getElem?_getD, List.getElem?_append, e1, e2, h.1] using this
theorem drow_sound {t : Ty} : ∀ {ds : List DV} {l : List t.den} {as : List AV}, drow t ds = some l → RelVs π ds as → CRs t l (as.map cellsOf) ∧ rowok AV.one t.w as ∧ as.length = l.length
  | [], l, as, h, r => by
    simp only [RelVs] at r; subst r; cases h; exact ⟨CRs_nil t, trivial, rfl⟩
  | d :: ds, l, as, h, r => by
    simp only [RelVs] at r
    obtain ⟨a, as', rfl, g, r⟩ := r
    simp only [drow] at h
    cases hc : (dcells d).all DV.one with
    | false => rw [hc] at h; cases h
    | true =>
      rw [hc] at h
      simp only [cond_true] at h
      split at h
      · rename_i x r' hx hr
        cases h
        obtain ⟨k1, k2, k3⟩ := drow_sound hr r
        obtain ⟨g1, g2⟩ := relv_cells g hc
        have hcr := decAll_CR hx g1
        refine ⟨?_, ⟨CR_len hcr, g2, k2⟩, by simp [k3]⟩
        exact CRs_app (l := [x]) (xs := [cellsOf a]) ⟨rfl, fun i hi => by obtain rfl : i = 0 := (by simpa using hi); exact hcr⟩ k1
      · cases h
theorem rowok_frz : ∀ {t : Ty} {l : List t.den} {as : List AV}, CRs t l (as.map cellsOf) → rowok AV.one t.w as → rowok AV.frz t.w as
  | t, l, [], _, _ => trivial
  | t, l, a :: as, h, k => by
    cases l with
    | nil => have := h.1; simp at this
    | cons x l =>
      have h0 := h.2 0 (by simp)
      have h1 : CRs t l (as.map cellsOf) := ⟨by have := h.1; simpa using this, fun i hi => by have := h.2 (i + 1) (by simpa using hi); simpa [at0] using this⟩
      refine ⟨k.1, ?_, rowok_frz h1 k.2.2⟩
      rw [List.all_eq_true]
      exact fun c hc => CR_frz h0 c (by simpa using hc)
theorem dno_sound (hS : RelS π Fr S s') (hH : HR π S RD R) (hρ : ∀ x, RelV π (ρ x) (ρ' x)) {o : AOp} {ann : Option (Bool × Ty)} {d : DV} {ob : List Bool} (h : dno RD S ρ o ann = some (d, ob)) (ho : ob.all id = true) :
    ∃ a p, RelV π d a ∧ p ∧ ∀ K : AV → Prop → Prop, K a p → nop [] R o ρ' s' K := by
  have V : ∀ x, (ρ x).df.all id = true → RelV π (ρ x).val (ρ' x).val := fun x hx => relv_val (hρ x) hx
  have F : ∀ x, (ρ x).df.all id = true → (ρ' x).df := fun x hx => relv_df (hρ x) hx
  unfold dno at h
  split at h
  · -- mov
    rename_i x
    cases h
    exact ⟨_, _, V x ho, F x ho, fun K hk => hk⟩
  · -- bin
    rename_i ex op x y
    split at h
    · rename_i d' ob' hb
      cases h
      obtain ⟨o1, o2⟩ := all_app ho
      obtain ⟨o2, o3⟩ := all_app o2
      obtain ⟨v, p, g1, g2, g3⟩ := dbin_sound hb o3 (V x o1) (V y o2)
      exact ⟨v, _, g1, (And.intro (F x o1) (And.intro (F y o2) (g2))), fun K hk => g3 _ hk⟩
    · cases h
  · -- eqs
    rename_i ne n x y
    split at h
    · rename_i cs ds h1 h2
      cases hc : Nat.beq cs.length n with
      | false => rw [hc] at h; cases h
      | true =>
        rw [hc] at h
        simp only [cond_true] at h
        split at h
        · rename_i b hb
          cases h
          obtain ⟨o1, o2⟩ := all_app ho
          have v1 := V x o1; rw [h1] at v1
          have v2 := V y o2; rw [h2] at v2
          simp only [RelV] at v1 v2
          obtain ⟨as, e1, v1⟩ := v1
          obtain ⟨bs, e2, v2⟩ := v2
          refine ⟨.bool (if ne then !b else b), _, ?_, (And.intro (F x o1) (F y o2)), fun K hk => ?_⟩
          · cases ne <;> exact relv_bool _
          · simp only [nop, e1, e2]
            exact ⟨by rw [RelVs_len v1]; exact beq_iff.1 hc, eqI_sound hb v1 v2 _ hk⟩
        · cases h
    · cases h
  · -- unot
    rename_i x
    split at h
    · rename_i b hb
      cases h
      have e := bval_inv hb (V x ho)
      exact ⟨_, _, relv_bool _, F x ho, fun K hk => by simp only [nop, e]; exact hk⟩
    · cases h
  · -- uneg
    rename_i x
    split at h
    · rename_i k n hn
      cases h
      obtain ⟨o1, o2⟩ := all_app ho
      have e := ival_inv hn (V x o1)
      exact ⟨_, _, relv_int _ _, (And.intro (F x o1) (show okk k (0 - n) from fits_okk (by simpa only [List.all_cons, List.all_nil, id, Bool.and_true] using o2))), fun K hk => by simp only [nop, e]; exact hk⟩
    · cases h
  · -- pick
    rename_i c a b
    split at h
    · rename_i g hg
      have key : ∀ obc oba obb : List Bool, (obc ++ (oba.map (!g || ·) ++ obb.map (g || ·))).all id = true → obc.all id = true ∧ (g = true → oba.all id = true) ∧ (g = false → obb.all id = true) := fun obc oba obb hh => by
        obtain ⟨o1, o2⟩ := all_app hh
        obtain ⟨o2, o3⟩ := all_app o2
        refine ⟨o1, fun hg => ?_, fun hg => ?_⟩
        · subst hg; simpa [Function.comp_def] using o2
        · subst hg; simpa [Function.comp_def] using o3
      split at h
      · rename_i x y hx hy
        cases h
        obtain ⟨o1, o2, o3⟩ := key _ _ _ ho
        have e := bval_inv hg (V c o1)
        refine ⟨.bool (cond g x y), _, relv_bool _, (And.intro (F c o1) (And.intro (fun hg => F a (o2 hg)) (fun hg => F b (o3 hg)))), fun K hk => ?_⟩
        simp only [nop, e]
        cases g with
        | true => have := bval_inv hx (V a (o2 rfl)); simp only [cond_true] at hk ⊢; rw [this]; exact hk
        | false => have := bval_inv hy (V b (o3 rfl)); simp only [cond_false] at hk ⊢; rw [this]; exact hk
      · split at h
        · rename_i k x k' y hx hy
          cases hc : ikeq k k' with
          | false => rw [hc] at h; cases h
          | true =>
            rw [hc] at h; cases h
            obtain rfl := ikeq_eq hc
            obtain ⟨o1, o2, o3⟩ := key _ _ _ ho
            have e := bval_inv hg (V c o1)
            refine ⟨.int k (cond g x y), _, relv_int _ _, (And.intro (F c o1) (And.intro (fun hg => F a (o2 hg)) (fun hg => F b (o3 hg)))), fun K hk => ?_⟩
            simp only [nop, e]
            cases g with
            | true => have := ival_inv hx (V a (o2 rfl)); simp only [cond_true] at hk ⊢; rw [this]; exact hk
            | false => have := ival_inv hy (V b (o3 rfl)); simp only [cond_false] at hk ⊢; rw [this]; exact hk
        · cases h
    · cases h
  · -- nilc
    rename_i x
    split at h <;> first | (cases h; done) | skip
    · rename_i b o hx
      cases h
      have v := V x ho; rw [hx] at v
      have v' := v
      simp only [RelV] at v; obtain ⟨_, _, _, _, e⟩ := v
      exact ⟨_, _, v', F x ho, fun K hk => by simp only [nop]; rw [e] at hk ⊢; exact hk⟩
    · rename_i b k i j hx
      cases h
      have v := V x ho; rw [hx] at v
      have v' := v
      simp only [RelV] at v; obtain ⟨_, _, _, _, _, e⟩ := v
      exact ⟨_, _, v', F x ho, fun K hk => by simp only [nop]; rw [e] at hk ⊢; exact hk⟩
    · rename_i cs hx
      cases h
      have v := V x ho; rw [hx] at v
      have v' := v
      simp only [RelV] at v; obtain ⟨_, e, _⟩ := v
      exact ⟨_, _, v', F x ho, fun K hk => by simp only [nop]; rw [e] at hk ⊢; exact hk⟩
  · -- fld
    rename_i x off
    split at h <;> first | (cases h; done) | skip
    · rename_i b o hx
      cases h
      have v := V x ho; rw [hx] at v
      simp only [RelV] at v; obtain ⟨b', c, n, hp, e⟩ := v
      exact ⟨.ptr b' (o + off), _, by simp only [RelV]; exact ⟨b', c, n, hp, rfl⟩, F x ho, fun K hk => by simp only [nop, e]; exact hk⟩
    · rename_i b k i j hx
      cases h
      have v := V x ho; rw [hx] at v
      simp only [RelV] at v; obtain ⟨b', c, n, hp, hi, e⟩ := v
      exact ⟨.rptr b' k i (j + off), _, by simp only [RelV]; exact ⟨b', c, n, hp, hi, rfl⟩, F x ho, fun K hk => by simp only [nop, e]; exact hk⟩
    · rename_i cs hx
      cases h
      have v := V x ho; rw [hx] at v
      simp only [RelV] at v; obtain ⟨as, e, v⟩ := v
      exact ⟨.elm (as.drop off), _, by simp only [RelV]; exact ⟨_, rfl, RelVs_drop off v⟩, F x ho, fun K hk => by simp only [nop, e]; exact hk⟩
  · -- ld1
    rename_i x fr
    split at h
    · rename_i d' r' hl
      cases h
      rcases ldCells_sound hS hH hl (V x ho) with ⟨as, e, r⟩ | ⟨b', o, as, e, hs, r, hle, hfr⟩ | ⟨b', k, i, j, T, c, xs, e, hs, hi, hj, hlen, r, hfr⟩
      · simp only [RelVs] at r; obtain ⟨a, as', rfl, g, _⟩ := r
        exact ⟨a, _, g, (And.intro (F x ho) (show 1 ≤ (a :: as').length by simp)), fun K hk => by simp only [nop, e]; exact hk⟩
      · simp only [RelVs] at r; obtain ⟨a, as', ha, g, _⟩ := r
        obtain ⟨e1, e2⟩ := drop_at ha
        exact ⟨a, _, g, (And.intro (F x ho) (And.intro (e2) (hfr))), fun K hk => by simp only [nop, e, hs, e1]; exact hk⟩
      · simp only [RelVs] at r; obtain ⟨a, as', ha, g, _⟩ := r
        obtain ⟨e1, e2⟩ := drop_at ha
        exact ⟨a, _, g, (And.intro (F x ho) (And.intro (hi) (And.intro (show j + 1 ≤ k by omega) (hfr)))), fun K hk => by simp only [nop, e, hs, e1]; exact ⟨trivial, hk⟩⟩
    · cases h
  · -- ldn
    rename_i x n fr
    split at h
    · rename_i cs hl
      cases hc : leb n cs.length with
      | false => rw [hc] at h; cases h
      | true =>
        rw [hc] at h; cases h
        simp only [leb, Nat.ble_eq] at hc
        rcases ldCells_sound hS hH hl (V x ho) with ⟨as, e, r⟩ | ⟨b', o, as, e, hs, r, hle, hfr⟩ | ⟨b', k, i, j, T, c, xs, e, hs, hi, hj, hlen, r, hfr⟩
        · have := RelVs_len r
          exact ⟨.agg (as.take n), _, by simp only [RelV]; exact ⟨_, rfl, RelVs_take n r⟩, (And.intro (F x ho) (show n ≤ as.length by omega)), fun K hk => by simp only [nop, e]; exact hk⟩
        · have := RelVs_len r
          simp only [List.length_drop] at this
          exact ⟨.agg ((as.drop o).take n), _, by simp only [RelV]; exact ⟨_, rfl, RelVs_take n r⟩, (And.intro (F x ho) (And.intro (show o + n ≤ as.length by omega) (hfr))), fun K hk => by simp only [nop, e, hs]; exact hk⟩
        · have := RelVs_len r
          simp only [List.length_drop] at this
          exact ⟨.agg (((xs.getD i []).drop j).take n), _, by simp only [RelV]; exact ⟨_, rfl, RelVs_take n r⟩, (And.intro (F x ho) (And.intro (hi) (And.intro (show j + n ≤ k by omega) (hfr)))), fun K hk => by simp only [nop, e, hs]; exact ⟨trivial, hk⟩⟩
    · cases h
  · -- fldv
    rename_i x off n ag
    split at h
    · rename_i cs hx
      cases hc : (leb (off + n) cs.length && leb 1 n) with
      | false => rw [hc] at h; cases h
      | true =>
        rw [hc] at h
        simp only [cond_true, leb, Bool.and_eq_true, Nat.ble_eq] at h hc
        cases ag with
        | true =>
          cases h
          have v := V x ho; rw [hx] at v
          simp only [RelV] at v; obtain ⟨as, e, v⟩ := v
          have := RelVs_len v
          exact ⟨.agg ((as.drop off).take n), _, by simp only [RelV]; exact ⟨_, rfl, RelVs_take n (RelVs_drop off v)⟩, (And.intro (F x ho) (show off + n ≤ as.length by omega)), fun K hk => by simp only [nop, e, if_true]; exact hk⟩
        | false =>
          simp only at h
          split at h
          · rename_i d' r' hd
            cases h
            have v := V x ho; rw [hx] at v
            simp only [RelV] at v; obtain ⟨as, e, v⟩ := v
            have := RelVs_len v
            obtain ⟨g1, g2⟩ := RelVs_at off v hd
            exact ⟨at_ as off, _, g2, (And.intro (F x ho) (show off + n ≤ as.length by omega)), fun K hk => by simp only [nop, e, Bool.false_eq_true, if_false]; exact hk⟩
          · cases h
    · cases h
  · -- idx
    rename_i x i n
    split at h
    · rename_i ki z hz
      split at h
      · rename_i t l hx
        cases hc : Nat.beq t.w n with
        | false => rw [hc] at h; cases h
        | true =>
          rw [hc] at h; cases h
          obtain rfl := beq_iff.1 hc
          obtain ⟨o1, o2⟩ := all_app ho
          obtain ⟨o2, o3⟩ := all_app o2
          have ei := ival_inv hz (V i o2)
          simp only [inR, List.all_cons, List.all_nil, id, Bool.and_true, Bool.and_eq_true, decide_eq_true_eq] at o3
          have v := V x o1; rw [hx] at v
          simp only [RelV, CR] at v
          rcases v with ⟨_, rfl⟩ | ⟨get, e, v⟩
          · simp at o3; omega
          · simp only [List.cons.injEq, and_true] at e
            have hz' : z.toNat < l.length := by omega
            exact ⟨.elm (get z.toNat), _, by simp only [RelV]; exact ⟨_, rfl, CR_cells (v _ hz')⟩, (And.intro (F x o1) (And.intro (F i o2) (And.intro (o3.1) (o3.2)))), fun K hk => by simp only [nop, e, ei]; exact ⟨trivial, hk⟩⟩
      · rename_i b hx
        split at h
        · rename_i T t l hb
          cases hc : Nat.beq t.w n with
          | false => rw [hc] at h; cases h
          | true =>
            rw [hc] at h; cases h
            obtain rfl := beq_iff.1 hc
            obtain ⟨o1, o2⟩ := all_app ho
            obtain ⟨o2, o3⟩ := all_app o2
            have ei := ival_inv hz (V i o2)
            simp only [inR, List.all_cons, List.all_nil, id, Bool.and_true, Bool.and_eq_true, decide_eq_true_eq] at o3
            have v := V x o1; rw [hx] at v
            simp only [RelV] at v
            rcases hS.obj _ _ hb with ⟨g1, rfl⟩ | ⟨b2, c2, xs, hp2, hcap, hs, hr⟩
            · simp at o3; omega
            · rcases v with ⟨b', c, m, hp, e⟩ | ⟨hp, _⟩
              · rw [hp2] at hp; cases hp
                exact ⟨.rptr b2 t.w z.toNat 0, _, by simp only [RelV]; exact ⟨_, _, _, hp2, by omega, rfl⟩, (And.intro (F x o1) (And.intro (F i o2) (And.intro (o3.1) (o3.2)))), fun K hk => by simp only [nop, e, ei]; exact hk⟩
              · rw [hp2] at hp; cases hp
        · cases h
      · cases h
    · cases h
  · -- idxs
    rename_i x i
    split at h
    · rename_i t k z ht hz
      cases h
      obtain ⟨o1, o2⟩ := all_app ho
      obtain ⟨o2, o3⟩ := all_app o2
      have ei := ival_inv hz (V i o2)
      have ex := sval_inv ht (V x o1)
      simp only [inR, List.all_cons, List.all_nil, id, Bool.and_true, Bool.and_eq_true, decide_eq_true_eq] at o3
      exact ⟨_, _, relv_int _ _, (And.intro (F x o1) (And.intro (F i o2) (And.intro (o3.1) (o3.2)))), fun K hk => by simp only [nop, ei, ex]; exact hk⟩
    · cases h
  · -- len
    rename_i x
    split at h <;> first | (cases h; done) | skip
    · rename_i t l hx
      cases h
      have v := V x ho; rw [hx] at v
      simp only [RelV, CR] at v
      rcases v with ⟨e, rfl⟩ | ⟨get, e, v⟩
      · simp only [List.cons.injEq, and_true] at e
        exact ⟨.int .i64 0, _, relv_int _ _, F x ho, fun K hk => by simp only [nop, e]; exact hk⟩
      · simp only [List.cons.injEq, and_true] at e
        exact ⟨_, _, relv_int _ _, F x ho, fun K hk => by simp only [nop, e]; exact hk⟩
    · rename_i b hx
      split at h
      · rename_i T t l hb
        cases h
        have v := V x ho; rw [hx] at v
        simp only [RelV] at v
        rcases hS.obj _ _ hb with ⟨g1, rfl⟩ | ⟨b2, c2, xs, hp2, hcap, hs, hr⟩
        · rcases v with ⟨b', c, m, hp, e⟩ | ⟨hp, e⟩
          · rw [g1] at hp; cases hp
          · exact ⟨.int .i64 0, _, relv_int _ _, F x ho, fun K hk => by simp only [nop, e]; exact hk⟩
        · rcases v with ⟨b', c, m, hp, e⟩ | ⟨hp, _⟩
          · rw [hp2] at hp; cases hp
            exact ⟨_, _, relv_int _ _, F x ho, fun K hk => by simp only [nop, e]; exact hk⟩
          · rw [hp2] at hp; cases hp
      · cases h
    · rename_i hx
      cases h
      have v := V x ho; rw [hx] at v
      simp only [RelV] at v
      exact ⟨.int .i64 0, _, relv_int _ _, F x ho, fun K hk => by simp only [nop, v]; exact hk⟩
  · -- lens
    rename_i x
    split at h
    · rename_i t ht
      cases h
      have ex := sval_inv ht (V x ho)
      exact ⟨_, _, relv_int _ _, F x ho, fun K hk => by simp only [nop, ex]; exact hk⟩
    · cases h
  · -- mnx
    rename_i mx x y
    split at h
    · rename_i k a k' b hx hy
      cases hc : ikeq k k' with
      | false => rw [hc] at h; cases h
      | true =>
        rw [hc] at h; cases h
        obtain rfl := ikeq_eq hc
        obtain ⟨o1, o2⟩ := all_app ho
        have e1 := ival_inv hx (V x o1)
        have e2 := ival_inv hy (V y o2)
        refine ⟨.int k (if mx then max a b else min a b), _, ?_, (And.intro (F x o1) (F y o2)), fun K hk => by simp only [nop, e1, e2]; exact ⟨trivial, hk⟩⟩
        cases mx <;> exact relv_int _ _
    · cases h
  · -- ext
    rename_i x i
    split at h
    · rename_i vs hx
      split at h
      · rename_i d' r' hd
        cases h
        have v := V x ho; rw [hx] at v
        simp only [RelV] at v; obtain ⟨as, e, v⟩ := v
        obtain ⟨g1, g2⟩ := RelVs_at i v hd
        exact ⟨at_ as i, _, g2, (And.intro (F x ho) (g1)), fun K hk => by simp only [nop, e]; exact hk⟩
      · cases h
    · cases h
  · -- bld
    rename_i z ps
    split at h
    · rename_i cs ob' hp
      cases h
      obtain ⟨g1, g2⟩ := dparts_rel hρ hp ho (consts_rel z)
      exact ⟨.agg _, _, by simp only [RelV]; exact ⟨_, rfl, g1⟩, g2, fun K hk => hk⟩
    · cases h
  · -- mkf
    rename_i f caps
    cases h
    obtain ⟨g1, g2⟩ := dvals_rel hρ ho
    exact ⟨.fn f _, _, by simp only [RelV]; exact ⟨_, rfl, g1⟩, g2, fun K hk => hk⟩
  · -- cvt
    rename_i k x
    split at h
    · rename_i k' n hn
      cases h
      obtain ⟨o1, o2⟩ := all_app ho
      have e := ival_inv hn (V x o1)
      exact ⟨_, _, relv_int _ _, (And.intro (F x o1) (fits_okk (by simpa using o2))), fun K hk => by simp only [nop, e]; exact hk⟩
    · cases h
  · -- sl
    rename_i x lo hi m
    split at h
    · rename_i t l hx
      cases hc : Nat.beq t.w m with
      | false => rw [hc] at h; cases h
      | true =>
        rw [hc] at h
        obtain rfl := beq_iff.1 hc
        simp only [cond_true] at h
        split at h
        · rename_i a p b q ha hb
          cases h
          obtain ⟨o1, o2⟩ := all_app ho
          obtain ⟨o2, o3⟩ := all_app o2
          obtain ⟨o3, o4⟩ := all_app o3
          simp only [List.all_cons, List.all_nil, id, Bool.and_true, Bool.and_eq_true, decide_eq_true_eq] at o4
          obtain ⟨p1, hp1, k1⟩ := dlo_inv hρ ha o2
          obtain ⟨p2, hp2, k2⟩ := dlo_inv hρ hb o3
          have v := V x o1; rw [hx] at v
          simp only [RelV, CR] at v
          rcases v with ⟨e, rfl⟩ | ⟨get, e, v⟩
          · simp only [List.cons.injEq, and_true] at e
            refine ⟨cutA t.w 0 (fun _ => []) a.toNat (b - a).toNat, _, ?_, (And.intro (F x o1) (And.intro hp1 (And.intro hp2 (And.intro o4.1 (And.intro o4.2.1 (show b ≤ (0 : Nat) from o4.2.2)))))), fun K hk => ?_⟩
            · simp only [mkL, RelV, CR]
              right
              exact ⟨fun _ => [], by simp [cutA], fun i hi => by simp at hi⟩
            · simp only [nop, e]
              exact k1 _ (k2 _ hk)
          · simp only [List.cons.injEq, and_true] at e
            refine ⟨cutA t.w l.length get a.toNat (b - a).toNat, _, ?_, (And.intro (F x o1) (And.intro (hp1) (And.intro (hp2) (And.intro (o4.1) (And.intro (o4.2.1) (o4.2.2)))))), fun K hk => ?_⟩
            · simp only [mkL, RelV, CR]
              right
              refine ⟨fun i => if i < (b - a).toNat then get (a.toNat + i) else get l.length, ?_, fun i hi => ?_⟩
              · unfold cutA; simp [List.length_take, List.length_drop]
              · have hi' : i < min (b - a).toNat (l.length - a.toNat) := by simpa [List.length_take, List.length_drop] using hi
                rw [at0_drop_take hi']
                have h1 : i < (b - a).toNat := by omega
                simp only [h1, if_true]
                exact v _ (by omega)
            · simp only [nop, e]
              exact ⟨trivial, k1 _ (k2 _ hk)⟩
        · cases h
    · cases h
  · -- sls
    rename_i x lo hi
    split at h
    · rename_i t ht
      split at h
      · rename_i a p b q ha hb
        cases h
        obtain ⟨o1, o2⟩ := all_app ho
        obtain ⟨o2, o3⟩ := all_app o2
        obtain ⟨o3, o4⟩ := all_app o3
        simp only [List.all_cons, List.all_nil, id, Bool.and_true, Bool.and_eq_true, decide_eq_true_eq] at o4
        obtain ⟨p1, hp1, k1⟩ := dlo_inv hρ ha o2
        obtain ⟨p2, hp2, k2⟩ := dlo_inv hρ hb o3
        have e := sval_inv ht (V x o1)
        exact ⟨_, _, relv_str _, (And.intro (F x o1) (And.intro (hp1) (And.intro (hp2) (And.intro (o4.1) (And.intro (o4.2.1) (o4.2.2)))))), fun K hk => by simp only [nop, e]; exact k1 _ (k2 _ hk)⟩
      · cases h
    · cases h
  · -- lkp
    rename_i kn ok z m key fr
    split at h
    · rename_i b hm
      split at h
      · rename_i kn' ag t es hb
        split at h
        · rename_i k hk
          cases hc : (Nat.beq kn' kn && isZ ag t z && frOk fr RD b) with
          | false => rw [hc] at h; cases h
          | true =>
            rw [hc] at h
            simp only [cond_true, Option.some.injEq, Prod.mk.injEq] at h
            obtain ⟨rfl, rfl⟩ := h
            simp only [Bool.and_eq_true, beq_iff] at hc
            obtain ⟨⟨rfl, hz⟩, hfr⟩ := hc
            obtain ⟨o1, o2⟩ := all_app ho
            have v := V m o1; rw [hm] at v
            simp only [RelV] at v; obtain ⟨b', c, n, hp, e⟩ := v
            obtain ⟨b2, c2, n2, es', hp2, he, hs⟩ := hS.obj _ _ hb
            rw [hp] at hp2; cases hp2
            have hs : s' b' = some (.imap kn' es' none) := hs
            have hg : MR ag t ((kget es k).getD t.zero) ((mget es' k).getD z) ∧ (mget es' k).isSome = (kget es k).isSome := by
              rcases ERs_get k he with ⟨g1, g2⟩ | ⟨x, a, g1, g2, g3⟩
              · rw [g1, g2]; exact ⟨isZ_MR hz, rfl⟩
              · rw [g1, g2]; exact ⟨g3, rfl⟩
            refine ⟨if ok then .tup [(mget es' k).getD z, .bool (mget es' k).isSome] else (mget es' k).getD z, _, ?_, (And.intro (F m o1) (And.intro (F key o2) (frOk_R hH hfr hp))), fun K hK => ?_⟩
            · cases ok with
              | true => simp only [if_true, RelV]; exact ⟨_, rfl, RelVs_cons (MR_mvD hg.1) (RelVs_one (by rw [hg.2]; exact relv_bool _))⟩
              | false => exact MR_mvD hg.1
            · simp only [nop, e, hs]
              exact ⟨trivial, dkey_inv hk (V key o2) _ hK⟩
        · cases h
      · cases h
    · cases h
  · -- bsl
    rename_i k xs
    split at h
    · cases h
      exact ⟨.emp, dfs ρ' [] ∧ rowok AV.frz k (vals ρ' []), by simp only [RelV], ⟨trivial, trivial⟩, fun K hk => hk⟩
    · rename_i x l
      split at h
      · rename_i ag t
        split at h
        · rename_i r hr
          cases hc : Nat.beq t.w k with
          | false => rw [hc] at h; cases h
          | true =>
            rw [hc] at h; cases h
            obtain rfl := beq_iff.1 hc
            obtain ⟨g1, g2⟩ := dvals_rel hρ ho
            obtain ⟨k1, k2, k3⟩ := drow_sound hr g1
            have hlen : (x :: l).length = r.length := by rw [← k3]; simp [vals]
            refine ⟨.lst t.w (x :: l).length (fun i => cellsOf (at_ (vals ρ' (x :: l)) i)), dfs ρ' (x :: l) ∧ rowok AV.frz t.w (vals ρ' (x :: l)), ?_, ⟨g2, rowok_frz k1 k2⟩, fun K hk => ?_⟩
            · simp only [mkL, RelV, CR]
              right
              refine ⟨_, by rw [hlen], fun i hi => ?_⟩
              have := k1.2 i hi
              have hi' : i < (vals ρ' (x :: l)).length := by rw [k3]; exact hi
              have e : (List.map cellsOf (vals ρ' (x :: l))).getD i [] = cellsOf (at_ (vals ρ' (x :: l)) i) := by
                simp [at_, List.getD_eq_getElem?_getD, List.getElem?_map, hi']
              rw [e] at this; exact this
            · simp only [nop]
              rw [if_neg (by simp)]
              exact hk
        · cases h
      · cases h
  · -- lenm
    rename_i m fr
    split at h
    · rename_i b hm
      split at h
      · rename_i kn' ag t es hb
        cases hc : frOk fr RD b with
        | false => rw [hc] at h; cases h
        | true =>
          rw [hc] at h; cases h
          have v := V m ho; rw [hm] at v
          simp only [RelV] at v; obtain ⟨b', c, n, hp, e⟩ := v
          obtain ⟨b2, c2, n2, es', hp2, he, hs⟩ := hS.obj _ _ hb
          rw [hp] at hp2; cases hp2
          have hs : s' b' = some (.imap kn' es' none) := hs
          refine ⟨.int .i64 es'.length, _, ?_, (And.intro (F m ho) (frOk_R hH hc hp)), fun K hK => by simp only [nop, e, hs]; exact hK⟩
          rw [ERs_len he]; exact relv_int _ _
      · cases h
    · cases h
  · cases h
end
end Go.Proofs.Ytjoncejabdjekaa.D
