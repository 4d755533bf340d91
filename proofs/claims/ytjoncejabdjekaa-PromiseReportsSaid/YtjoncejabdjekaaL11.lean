/- An own program logic over the kit's walk, part 11: maps that are written. -/
import Derived.Test.YtjoncejabdjekaaL10
set_option linter.unusedVariables false
set_option linter.unusedSimpArgs false
namespace Go.Proofs.Ytjoncejabdjekaa.L
open Go

theorem mput_eq (k : List Int) (v : AV) : ∀ es : List (List Int × AV), (midx es k < es.length ∧ mput es k v = es.set (midx es k) (k, v)) ∨ (midx es k = es.length ∧ mput es k v = es ++ [(k, v)])
  | [] => .inr ⟨rfl, rfl⟩
  | (k', u) :: es => by
    by_cases h : k' = k
    · left
      have hm : midx ((k', u) :: es) k = 0 := by simp [midx, List.findIdx_cons, h]
      rw [hm]; exact ⟨by simp, by simp [mput, h]⟩
    · have hm : midx ((k', u) :: es) k = midx es k + 1 := by simp [midx, List.findIdx_cons, h]
      rcases mput_eq k v es with ⟨h1, h2⟩ | ⟨h1, h2⟩
      · left; rw [hm]; exact ⟨by simpa using h1, by simp [mput, h, h2]⟩
      · right; rw [hm]; exact ⟨by simp [h1], by simp [mput, h, h2]⟩

theorem sameBits_int (n : Nat) (a : Int) : Instr.sameBits n (.int .i64 a) (.int .i64 a) = true := by cases n <;> simp [Instr.sameBits]
theorem sameBits_kval (kn n : Nat) (k : List Int) : Instr.sameBits (n + 1) (kval kn k) (kval kn k) = true := by
  cases kn with
  | zero => exact sameBits_int _ _
  | succ m =>
    have key : ∀ l : List Int, ((l.map (Value.int .i64)).zip (l.map (Value.int .i64))).all (fun x => Instr.sameBits n x.1 x.2) = true := by
      intro l
      induction l with
      | nil => rfl
      | cons a l ih => simp only [List.map_cons, List.zip_cons_cons, List.all_cons, sameBits_int, Bool.true_and]; exact ih
    simp only [kval, Instr.sameBits, beq_self_eq_true, Bool.true_and]
    simpa using key k

section
variable {P : Program} {R : Nat → Prop} {o : Oper} {a : Act} {s : Store} {w : World} {ρ : Opd → AV} {K : AV → Store → Prop}

theorem run_stays (kn : Nat) (k : List Int) (w : World) : (Instr.keyThatStays (kval kn k) (kval kn k)).run P w = .ok (kval kn k) w := by
  simp only [Instr.keyThatStays, sameBits_kval, if_true, Sem.run_pure]

/-- A world in which one block is another one. -/
def setB (w : World) (b : Nat) (x : Obj) : World := { w with heap := w.heap.setIfInBounds b x }

theorem setB_at {w : World} {b : Nat} {y : Obj} (x : Obj) (h : w.heap[b]? = some y) : (setB w b x).heap[b]? = some x := by
  have : b < w.heap.size := (Array.getElem?_eq_some_iff.1 h).1
  simp [setB, this]
theorem setB_other (w : World) (b c : Nat) (x : Obj) (h : c ≠ b) : (setB w b x).heap[c]? = w.heap[c]? := by
  simp [setB, Array.getElem?_setIfInBounds_ne (Ne.symm h)]

/-- A map's entry is written. -/
theorem map_put (hs : St s w) {b kn : Nat} {ae : List (List Int × AV)} {pd : Option (Int × Nat)} (hsb : s b = some (.imap kn ae pd)) {en : Array MapEntry} {cl : Nat} (he : w.heap[b]? = some (.map en cl)) {k : List Int} (hk : k.length = klen kn) {v : Value} {x : AV} (hv : RV (own s) w x v)
    (en' : Array MapEntry) (cl' : Nat)
    (h : (midx ae k < ae.length ∧ (ae.getD (midx ae k) default).1 = k ∧ en' = en.modify (midx ae k) (fun e => { e with key := kval kn k, val := v }) ∧ cl' = cl) ∨ (midx ae k = ae.length ∧ en' = en.push { key := kval kn k, val := v, born := cl } ∧ cl' = cl + 1))
    (pd' : Option (Int × Nat)) (hpd : ∀ y i, pd' = some (y, i) → i = midx ae k ∧ y = ((en'.getD (midx ae k) default).born : Nat)) :
    St (upd s b (.imap kn (mput ae k x) pd')) (setB w b (.map en' cl')) ∧ Mv (own s) (own (upd s b (.imap kn (mput ae k x) pd'))) w (setB w b (.map en' cl')) := by
  obtain ⟨en0, cl0, e1, e2, e3, e4, e5, e6⟩ := hs _ _ hsb
  rw [he] at e1
  cases e1
  refine St_set hs (own_some hsb) rfl rfl rfl (by simp [setB]) (fun c hc => setB_other w b c _ hc) fun hm => ?_
  generalize own (upd s b (.imap kn (mput ae k x) pd')) = O at hm ⊢
  refine ⟨en', cl', setB_at _ he, ?_, ?_, ?_, ?_, ?_⟩
  · rcases h with ⟨h1, h2, rfl, rfl⟩ | ⟨h1, rfl, rfl⟩
    · rcases mput_eq k x ae with ⟨g1, g2⟩ | ⟨g1, g2⟩
      · rw [g2]; simp [e2]
      · omega
    · rcases mput_eq k x ae with ⟨g1, g2⟩ | ⟨g1, g2⟩
      · omega
      · rw [g2]; simp [e2]
  · intro i hi
    rcases h with ⟨h1, h2, rfl, rfl⟩ | ⟨h1, rfl, rfl⟩
    · rcases mput_eq k x ae with ⟨g1, g2⟩ | ⟨g1, g2⟩
      · rw [g2] at hi ⊢
        simp only [List.length_set] at hi
        have old := e3 i hi
        simp only [List.getD_eq_getElem?_getD, Array.getD_eq_getD_getElem?, List.getElem?_set, Array.getElem?_modify] at old ⊢
        by_cases hh : midx ae k = i
        · subst hh
          rw [if_pos rfl, if_pos hi, if_pos rfl]
          rw [Array.getElem?_eq_getElem (by omega)]
          exact ⟨rfl, hk, hv.mv hm⟩
        · rw [if_neg hh, if_neg hh]
          exact ⟨old.1, old.2.1, old.2.2.mv hm⟩
      · omega
    · rcases mput_eq k x ae with ⟨g1, g2⟩ | ⟨g1, g2⟩
      · omega
      · rw [g2] at hi ⊢
        simp only [List.length_append, List.length_singleton] at hi
        simp only [List.getD_eq_getElem?_getD, Array.getD_eq_getD_getElem?]
        by_cases hh : i < ae.length
        · have old := e3 i hh
          simp only [List.getD_eq_getElem?_getD, Array.getD_eq_getD_getElem?] at old
          rw [List.getElem?_append_left hh, Array.getElem?_push, if_neg (by omega)]
          exact ⟨old.1, old.2.1, old.2.2.mv hm⟩
        · obtain rfl : i = ae.length := by omega
          rw [List.getElem?_append_right (by omega), Array.getElem?_push, if_pos e2.symm]
          simp only [Nat.sub_self, List.getElem?_cons_zero, Option.getD_some]
          exact ⟨trivial, hk, hv.mv hm⟩
  · intro i hi
    rcases h with ⟨h1, h2, rfl, rfl⟩ | ⟨h1, rfl, rfl⟩
    · rcases mput_eq k x ae with ⟨g1, g2⟩ | ⟨g1, g2⟩
      · rw [g2] at hi
        simp only [List.length_set] at hi
        have old := e4 i hi
        simp only [Array.getD_eq_getD_getElem?, Array.getElem?_modify] at old ⊢
        by_cases hh : midx ae k = i
        · subst hh
          rw [if_pos rfl]
          rw [Array.getElem?_eq_getElem (by omega)] at old ⊢
          exact old
        · rw [if_neg hh]; exact old
      · omega
    · rcases mput_eq k x ae with ⟨g1, g2⟩ | ⟨g1, g2⟩
      · omega
      · rw [g2] at hi
        simp only [List.length_append, List.length_singleton] at hi
        simp only [Array.getD_eq_getD_getElem?]
        by_cases hh : i < ae.length
        · have old := e4 i hh
          simp only [Array.getD_eq_getD_getElem?] at old
          rw [Array.getElem?_push, if_neg (by omega)]
          omega
        · obtain rfl : i = ae.length := by omega
          rw [Array.getElem?_push, if_pos e2.symm]
          exact Nat.lt_succ_self _
  · have hb : ∀ i, i < (mput ae k x).length → (en'.getD i default).born = if i < ae.length then (en.getD i default).born else cl := by
      intro i hi
      rcases h with ⟨h1, h2, rfl, rfl⟩ | ⟨h1, rfl, rfl⟩
      · rcases mput_eq k x ae with ⟨g1, g2⟩ | ⟨g1, g2⟩
        · rw [g2] at hi
          simp only [List.length_set] at hi
          rw [if_pos hi]
          simp only [Array.getD_eq_getD_getElem?, Array.getElem?_modify]
          by_cases hh : midx ae k = i
          · subst hh
            rw [if_pos rfl, Array.getElem?_eq_getElem (by omega)]
            rfl
          · rw [if_neg hh]
        · omega
      · rcases mput_eq k x ae with ⟨g1, g2⟩ | ⟨g1, g2⟩
        · omega
        · rw [g2] at hi
          simp only [List.length_append, List.length_singleton] at hi
          simp only [Array.getD_eq_getD_getElem?]
          by_cases hh : i < ae.length
          · rw [if_pos hh, Array.getElem?_push, if_neg (by omega)]
          · obtain rfl : i = ae.length := by omega
            rw [if_neg hh, Array.getElem?_push, if_pos e2.symm]
            rfl
    have hlen : (mput ae k x).length ≤ ae.length + 1 := by
      rcases mput_eq k x ae with ⟨g1, g2⟩ | ⟨g1, g2⟩ <;> rw [g2] <;> simp
    intro i j hi hj hij
    rw [hb i hi, hb j hj] at hij
    by_cases h1 : i < ae.length
    · by_cases h2 : j < ae.length
      · rw [if_pos h1, if_pos h2] at hij; exact e5 i j h1 h2 hij
      · rw [if_pos h1, if_neg h2] at hij; have := e4 i h1; omega
    · by_cases h2 : j < ae.length
      · rw [if_neg h1, if_pos h2] at hij; have := e4 j h2; omega
      · omega
  · intro y i hy
    obtain ⟨rfl, rfl⟩ := hpd y i hy
    refine ⟨?_, rfl⟩
    rcases mput_eq k x ae with ⟨g1, g2⟩ | ⟨g1, g2⟩ <;> rw [g2] <;> simp <;> omega

theorem es_mup (hs : St s w) {Ty kt et kn : Nat} {m key v : Operand} {m' key' v' : Opd} (ho : o.op = .mapUpdate Ty m key v ∨ o.op = .insert Ty m key v) (hT : P.underlying Ty = some (.map kt et)) (hk : KeyR P kt kn)
    (hm : RV (own s) w (ρ m') (a.eval m)) (hkey : RV (own s) w (ρ key') (a.eval key)) (hv : RV (own s) w (ρ v') (a.eval v)) (h : eff P R (.mup kn m' key' v') ρ s K) : YW P o a s w K := by
  simp only [eff] at h
  obtain ⟨d1, d2, d3, h⟩ := h
  split at h
  · rename_i b hb
    split at h
    · rename_i kn' ae pd hsb
      obtain ⟨rfl, -, h⟩ := h
      obtain ⟨k, h, hl, hkv⟩ := keyOf_spec h
      have hmv := RV_val hm d1
      rw [hb] at hmv
      have hkeyv := hkv _ _ _ (RV_val hkey d2)
      have hvv := RV_val hv d3
      obtain ⟨en, cl, e1, e2, e3, e4⟩ := map_find (P := P) hk (hs _ _ hsb) hl
      have hobj : (getObj b).run P w = .ok (.map en cl) w := run_getObj_map w b en cl e1
      have hset : ∀ x, (setObj b x).run P w = .ok () (setB w b x) := fun x => MapKept.run_setObj_map x e1
      have exec : ∀ w', (Instr.mapUpdate Ty (.map (some b)) (kval kn k) (a.eval v)).run P w = .ok () w' → (execOp a.eval o).run P w = .ok .skip w' := fun w' hr => by
        rcases ho with ho | ho <;> simp only [execOp, ho, inv_mp hmv, hkeyv, Sem.run_bind, hr, Result.andThen_ok, Sem.run_pure]
      rcases e4 with ⟨f1, f2, f3⟩ | ⟨f0, f1, f2, f3, f4⟩
      · have hS := map_put hs hsb e1 hl hvv (en.push { key := kval kn k, val := a.eval v, born := cl }) (cl + 1) (.inr ⟨f3, rfl, rfl⟩) none (fun y i h => by cases h)
        refine YW_skip (exec _ ?_) h hS.1 hS.2
        simp only [Instr.mapUpdate, Sem.run_bind, run_underlying hT, Result.andThen_ok, hobj, e3, f1, hset]
      · have hkeyi : (((en[midx ae k]?).map (·.key)).getD (kval kn k)) = kval kn k := by
          obtain ⟨en0, cl0, g1, g2, g3, _⟩ := hs _ _ hsb
          rw [e1] at g1
          cases g1
          have := (g3 _ f0).1
          rw [f3] at this
          rw [Array.getD_eq_getD_getElem?, Array.getElem?_eq_getElem (by omega)] at this
          rw [Array.getElem?_eq_getElem (by omega)]
          simpa using this
        have hS := map_put hs hsb e1 hl hvv (en.modify (midx ae k) (fun e => { e with key := kval kn k, val := a.eval v })) cl (.inl ⟨f0, f3, rfl, rfl⟩) none (fun y i h => by cases h)
        refine YW_skip (exec _ ?_) h hS.1 hS.2
        simp only [Instr.mapUpdate, Sem.run_bind, run_underlying hT, Result.andThen_ok, hobj, e3, f1, hkeyi, run_stays, hset]
    · exact h.elim
  · exact h.elim

theorem es_men (hs : St s w) {Ty kt et kn : Nat} {z : AV} {m key : Operand} {m' key' : Opd} (ho : o.op = .mapEntry Ty m key) (hT : P.underlying Ty = some (.map kt et)) (hk : KeyR P kt kn) (hz : ZvR P et z)
    (hm : RV (own s) w (ρ m') (a.eval m)) (hkey : RV (own s) w (ρ key') (a.eval key)) (h : eff P R (.men kn z m' key') ρ s K) : YW P o a s w K := by
  obtain ⟨zv, z1, z2⟩ := hz
  simp only [eff] at h
  obtain ⟨d1, d2, h⟩ := h
  split at h
  · rename_i b hb
    split at h
    · rename_i kn' ae pd hsb
      obtain ⟨rfl, -, h⟩ := h
      obtain ⟨k, h, hl, hkv⟩ := keyOf_spec h
      have hmv := RV_val hm d1
      rw [hb] at hmv
      have hkeyv := hkv _ _ _ (RV_val hkey d2)
      obtain ⟨en, cl, e1, e2, e3, e4⟩ := map_find (P := P) hk (hs _ _ hsb) hl
      have hobj : (getObj b).run P w = .ok (.map en cl) w := run_getObj_map w b en cl e1
      have hset : ∀ x, (setObj b x).run P w = .ok () (setB w b x) := fun x => MapKept.run_setObj_map x e1
      have exec : ∀ r w', (Instr.mapEntry Ty (.map (some b)) (kval kn k)).run P w = .ok r w' → (execOp a.eval o).run P w = .ok (.value r) w' := fun r w' hr => by
        simp only [execOp, ho, inv_mp hmv, hkeyv, Sem.run_bind, hr, Result.andThen_ok, Sem.run_pure]
      have tupR : ∀ (o' : Nat → Prop) (w' : World) (x : AV) (v : Value) (n : Int), RV o' w' x v → RV o' w' (.tup [x, .int .i64 n]) (.tuple #[v, .int .i64 n]) := fun o' w' x v n hx =>
        .tup [x, .int .i64 n] [v, .int .i64 n] rfl (fun j hj => by
          match j, hj with
          | 0, _ => exact hx
          | 1, _ => exact .fz _ _ (.int _ _))
      rcases e4 with ⟨f1, f2, f3⟩ | ⟨f0, f1, f2, f3, f4⟩
      · rw [f2] at h
        simp only [Option.getD_none] at h
        have hS := map_put hs hsb e1 hl (z2 (own s) w) (en.push { key := kval kn k, val := zv, born := cl }) (cl + 1) (.inr ⟨f3, rfl, rfl⟩) (some ((cl : Int), midx ae k)) (fun y i h => by
          cases h
          refine ⟨rfl, ?_⟩
          rw [f3, ← e2]
          simp [Array.getD_eq_getD_getElem?])
        refine YW_value (exec (.tuple #[zv, .int .i64 cl]) _ ?_) (h cl) (tupR _ _ _ _ _ (z2 _ _)) hS.1 hS.2
        simp only [Instr.mapEntry, Sem.run_bind, run_underlying hT, Result.andThen_ok, hobj, e3, f1, z1, hset, goInt, Sem.run_pure]
      · have hkeyi : (((en[midx ae k]?).map (·.key)).getD (kval kn k)) = kval kn k := by
          obtain ⟨en0, cl0, g1, g2, g3, _⟩ := hs _ _ hsb
          rw [e1] at g1
          cases g1
          have := (g3 _ f0).1
          rw [f3] at this
          rw [Array.getD_eq_getD_getElem?, Array.getElem?_eq_getElem (by omega)] at this
          rw [Array.getElem?_eq_getElem (by omega)]
          simpa using this
        rw [f2] at h
        simp only [Option.getD_some] at h
        have hlt : midx ae k < en.size := by omega
        have hen : en.modify (midx ae k) (fun e => { e with key := kval kn k, val := (en.getD (midx ae k) default).val }) = en.modify (midx ae k) (fun e => { e with key := kval kn k }) := by
          apply Array.ext_getElem?
          intro i
          simp only [Array.getElem?_modify]
          by_cases hh : midx ae k = i
          · subst hh
            rw [if_pos rfl, if_pos rfl, Array.getElem?_eq_getElem hlt, Array.getD_eq_getD_getElem?, Array.getElem?_eq_getElem hlt]
            rfl
          · rw [if_neg hh, if_neg hh]
        have hS := map_put hs hsb e1 hl f4 (en.modify (midx ae k) (fun e => { e with key := kval kn k, val := (en.getD (midx ae k) default).val })) cl (.inl ⟨f0, f3, rfl, rfl⟩) (some (((en[midx ae k]?).map (fun x => (x.born : Int))).getD 0, midx ae k)) (fun y i h => by
          cases h
          refine ⟨rfl, ?_⟩
          rw [Array.getElem?_eq_getElem hlt]
          simp [Array.getD_eq_getD_getElem?, Array.getElem?_modify, Array.getElem_modify, hlt])
        rw [hen] at hS
        refine YW_value (exec (.tuple #[(en.getD (midx ae k) default).val, .int .i64 (((en[midx ae k]?).map (fun x => (x.born : Int))).getD 0)]) _ ?_) (h _) (tupR _ _ _ _ _ (f4.mv hS.2)) hS.1 hS.2
        simp only [Instr.mapEntry, Sem.run_bind, run_underlying hT, Result.andThen_ok, hobj, e3, f1, hkeyi, run_stays, hset, goInt, Sem.run_pure]
    · exact h.elim
  · exact h.elim

theorem es_ens (hs : St s w) {Ty : Nat} {m st v : Operand} {m' st' v' : Opd} (ho : o.op = .entryStore Ty m st v)
    (hm : RV (own s) w (ρ m') (a.eval m)) (hst : RV (own s) w (ρ st') (a.eval st)) (hv : RV (own s) w (ρ v') (a.eval v)) (h : eff P R (.ens m' st' v') ρ s K) : YW P o a s w K := by
  simp only [eff] at h
  obtain ⟨d1, d2, d3, h⟩ := h
  split at h
  · rename_i b kk x hb hx
    split at h
    · rename_i kn ae y i hsb
      obtain ⟨rfl, -, h⟩ := h
      have hmv := RV_val hm d1
      rw [hb] at hmv
      have hsv := RV_val hst d2
      rw [hx] at hsv
      have hvv := RV_val hv d3
      obtain ⟨en, cl, e1, e2, e3, e4, e5, e6⟩ := hs _ _ hsb
      obtain ⟨hi, hy⟩ := e6 _ _ rfl
      have hobj : (getObj b).run P w = .ok (.map en cl) w := run_getObj_map w b en cl e1
      have hset : ∀ x, (setObj b x).run P w = .ok () (setB w b x) := fun x => MapKept.run_setObj_map x e1
      have hfind : en.findIdx? (fun e => (e.born : Int) == x) = some i := by
        rw [Array.findIdx?_eq_some_iff_getElem]
        have hlt : i < en.size := by omega
        refine ⟨hlt, ?_, fun j hj => ?_⟩
        · rw [hy, Array.getD_eq_getD_getElem?, Array.getElem?_eq_getElem hlt]; simp
        · intro hc
          have h1 : ((en[j]'(by omega)).born : Int) = x := by simpa using hc
          rw [hy] at h1
          have h2 : (en.getD j default).born = (en.getD i default).born := by
            rw [Array.getD_eq_getD_getElem? (i := j), Array.getElem?_eq_getElem (by omega)]
            show (en[j]'(by omega)).born = _
            omega
          have := e5 j i (by omega) hi h2
          omega
      have hS := St_set (s := s) (w := w) (b := b) (x := .imap kn (ae.set i ((ae.getD i default).1, (ρ v').val)) none) (w' := setB w b (.map (en.modify i fun e => { e with val := a.eval v }) cl)) hs (own_some hsb) rfl rfl rfl (by simp [setB]) (fun c hc => setB_other w b c _ hc) (fun hmv => by
        generalize own (upd s b (.imap kn (ae.set i ((ae.getD i default).1, (ρ v').val)) none)) = O at hmv ⊢
        refine ⟨_, _, setB_at _ e1, by simp [e2], fun j hj => ?_, fun j hj => ?_, fun j j' hj hj' hjj => ?_, fun y i h => by cases h⟩
        · simp only [List.length_set] at hj
          have old := e3 j hj
          simp only [List.getD_eq_getElem?_getD, Array.getD_eq_getD_getElem?, List.getElem?_set, Array.getElem?_modify] at old ⊢
          by_cases hh : i = j
          · subst hh
            rw [if_pos rfl, if_pos hj, if_pos rfl]
            rw [Array.getElem?_eq_getElem (by omega)] at old ⊢
            rw [List.getElem?_eq_getElem hj] at old ⊢
            exact ⟨old.1, old.2.1, hvv.mv hmv⟩
          · rw [if_neg hh, if_neg hh]
            exact ⟨old.1, old.2.1, old.2.2.mv hmv⟩
        · simp only [List.length_set] at hj
          have old := e4 j hj
          simp only [Array.getD_eq_getD_getElem?, Array.getElem?_modify] at old ⊢
          by_cases hh : i = j
          · subst hh
            rw [if_pos rfl]
            rw [Array.getElem?_eq_getElem (by omega)] at old ⊢
            exact old
          · rw [if_neg hh]; exact old
        · simp only [List.length_set] at hj hj'
          have hb' : ∀ j, j < ae.length → ((en.modify i fun e => { e with val := a.eval v }).getD j default).born = (en.getD j default).born := fun j hj => by
            simp only [Array.getD_eq_getD_getElem?, Array.getElem?_modify]
            by_cases hh : i = j
            · subst hh
              rw [if_pos rfl, Array.getElem?_eq_getElem (by omega)]
              rfl
            · rw [if_neg hh]
          rw [hb' j hj, hb' j' hj'] at hjj
          exact e5 j j' hj hj' hjj)
      refine YW_skip ?_ h hS.1 hS.2
      simp only [execOp, ho, inv_mp hmv, inv_int hsv, Instr.entryStore, Sem.run_bind, hobj, Result.andThen_ok, asInt, asIntOf, Sem.run_pure, hfind, hset]
    · exact h.elim
  · exact h.elim
theorem es_isn (hs : St s w) {ne : Bool} {t t' E : TypeId} {x : Operand} {x' : Opd} (ho : o.op = .binOp (if ne then .neq else .eql) t x (.const (.slice none 0 0)) t') (hu : P.underlying t = some (.slice E))
    (hx : RV (own s) w (ρ x') (a.eval x)) (h : eff P R (.isn ne x') ρ s K) : YW P o a s w K := by
  obtain ⟨hd, h⟩ := h
  have hv := RV_val hx hd
  have fin : ∀ (ad : Option Addr) (n c : Nat), a.eval x = .slice ad n c → K (.bool (if ne then !ad.isNone else ad.isNone)) s → YW P o a s w K := fun ad n c e hk => by
    refine YW_value (v := .bool (if ne then !ad.isNone else ad.isNone)) (w' := w) ?_ hk (.fz _ _ (.bool _)) hs (Mv.refl _ _)
    have hc : a.eval (.const (.slice none 0 0)) = .slice none 0 0 := rfl
    have heq : (Op.equal t (.slice ad n c) (.slice none 0 0)).run P w = .ok ad.isNone w := by
      have go : ∀ d, (Op.equalIn (d + 1) t (.slice ad n c) (.slice none 0 0)).run P w = .ok ad.isNone w := fun d => by
        unfold Op.equalIn
        simp only [Sem.run_bind, run_underlying hu, Result.andThen_ok]
        cases ad <;> simp [Sem.run_pure]
      exact go 9999
    cases ne
    · simp only [execOp, ho, e, hc, Bool.false_eq_true, if_false, eqGuard, Sem.run_bind, Sem.run_pure, Result.andThen_ok, binOp, heq, Bool.not_true]
    · simp only [execOp, ho, e, hc, if_true, eqGuard, Sem.run_bind, Sem.run_pure, Result.andThen_ok, binOp, heq, Bool.not_true, Bool.false_eq_true, if_false]
  generalize (ρ x').val = u at h hv
  unfold isnA at h
  split at h
  · obtain ⟨ad, c, e, hc, hp⟩ := inv_lst hv
    rename_i k n get
    refine fin ad n c e (h _ fun hn => ?_)
    rcases Nat.eq_zero_or_pos n with h0 | h0
    · exact h0
    · obtain ⟨ad', vf, rfl, _⟩ := hp h0; cases hn
  · obtain ⟨ad, e⟩ := inv_emp hv
    exact fin ad 0 0 e (h _)
  · have e := inv_slc hv
    exact fin _ _ _ e h
  · exact h.elim
end
end Go.Proofs.Ytjoncejabdjekaa.L
