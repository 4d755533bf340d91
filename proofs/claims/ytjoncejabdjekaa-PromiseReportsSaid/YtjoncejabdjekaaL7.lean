/- An own program logic over the kit's walk, part 7: maps that are read. -/
import Derived.Test.YtjoncejabdjekaaL6
set_option linter.unusedVariables false
set_option linter.unusedSimpArgs false
namespace Go.Proofs.Ytjoncejabdjekaa.L
open Go

/-- A map's key type: whole numbers (0), or structs of kn whole numbers. -/
def KeyR (P : Program) (kt : TypeId) : Nat → Prop
  | 0 => P.underlying kt = some (.int .i64)
  | n + 1 => IntS P kt (n + 1)

theorem kval_inj {kn : Nat} {x y : List Int} (hx : x.length = klen kn) (hy : y.length = klen kn) (h : kval kn x = kval kn y) : x = y := by
  cases kn with
  | zero =>
    simp only [klen] at hx hy
    obtain ⟨a, rfl⟩ := List.length_eq_one_iff.1 hx
    obtain ⟨b, rfl⟩ := List.length_eq_one_iff.1 hy
    simp [kval] at h; rw [h]
  | succ n =>
    have h2 : x.map (Value.int .i64) = y.map (Value.int .i64) := by
      have := congrArg (fun v : Value => v.cells.toList) h
      simpa [kval, Value.cells] using this
    clear hx hy h
    have h := h2
    clear h2
    induction x generalizing y with
    | nil => cases y with | nil => rfl | cons b y => simp at h
    | cons a x ih => cases y with
      | nil => simp at h
      | cons b y => simp only [List.map_cons, List.cons.injEq, Value.int.injEq, true_and] at h; rw [h.1, ih h.2]

/-- Where a key stands among entries. -/
def fres (k : List Int) : List MapEntry → List (List Int) → Nat → Option (Nat × Value)
  | e :: es, x :: xs, i => if x = k then some (i, e.val) else fres k es xs (i + 1)
  | _, _, _ => none

section
variable {P : Program}

theorem run_eq_key {kt kn : Nat} (hk : KeyR P kt (kn + 1)) {x y : List Int} (hx : x.length = klen (kn + 1)) (hy : y.length = klen (kn + 1)) (w : World) : (Op.equal kt (kval (kn + 1) x) (kval (kn + 1) y)).run P w = .ok (decide (x = y)) w :=
  run_eq_ints hk 9998 x y hx hy w

theorem run_findKey_ints {kt kn : Nat} (hk : KeyR P kt kn) {k : List Int} (hl : k.length = klen kn) (es : List MapEntry) (ks : List (List Int)) (h : es.map (·.key) = ks.map (kval kn)) (hls : ∀ x ∈ ks, x.length = klen kn) (w : World) :
    (Instr.findKey kt (kval kn k) es).run P w = .ok (fres k es ks 0) w := by
  cases kn with
  | zero =>
    have key : ∀ (es : List MapEntry) (ks : List (List Int)) (i : Nat), es.map (·.key) = ks.map (kval 0) → (∀ x ∈ ks, x.length = klen 0) → Instr.findNow (.int .i64) (kval 0 k) es i = some (fres k es ks i) := by
      intro es
      induction es with
      | nil => intro ks i h _; cases ks <;> simp_all [Instr.findNow, fres]
      | cons e es ih =>
        intro ks i h hls
        cases ks with
        | nil => simp at h
        | cons x xs =>
          simp only [List.map_cons, List.cons.injEq] at h
          simp only [klen] at hls hl
          obtain ⟨a, rfl⟩ := List.length_eq_one_iff.1 hl
          obtain ⟨b, rfl⟩ := List.length_eq_one_iff.1 (hls x (by simp))
          simp only [Instr.findNow, h.1, kval, List.headD_cons, Instr.sameNow, if_true]
          by_cases he : a = b
          · subst he; simp [fres]
          · have : (a == b) = false := by simp [he]
            rw [this]
            simp only [fres]
            rw [if_neg (by simp; exact fun h => he h.symm)]
            exact ih xs (i + 1) h.2 (fun y hy => hls y (by simp [hy]))
    exact MapKept.run_findKey hk (key es ks 0 h hls)
  | succ n =>
    have key : ∀ (es : List MapEntry) (ks : List (List Int)) (i : Nat), es.map (·.key) = ks.map (kval (n + 1)) → (∀ x ∈ ks, x.length = klen (n + 1)) → (Instr.findAsking kt (kval (n + 1) k) es i).run P w = .ok (fres k es ks i) w := by
      intro es
      induction es with
      | nil => intro ks i h _; cases ks <;> simp_all [Instr.findAsking, fres]
      | cons e es ih =>
        intro ks i h hls
        cases ks with
        | nil => simp at h
        | cons x xs =>
          simp only [List.map_cons, List.cons.injEq] at h
          simp only [Instr.findAsking, Sem.run_bind, h.1, run_eq_key hk hl (hls x (by simp)), Result.andThen_ok]
          by_cases he : k = x
          · subst he; simp [fres]
          · simp only [he, decide_false, Bool.false_eq_true, if_false, fres]
            rw [if_neg (fun h => he h.symm)]
            exact ih xs (i + 1) h.2 (fun y hy => hls y (by simp [hy]))
    have hu : P.underlying kt = some (.struct (P.fieldsOf kt)) := (show IntS P kt (n + 1) from hk).und
    cases es with
    | nil => cases ks <;> simp_all [Instr.findKey, run_underlying hu, Instr.findNow, fres]
    | cons e es =>
      simp only [Instr.findKey, Sem.run_bind, run_underlying hu, Result.andThen_ok, Instr.findNow]
      have : Instr.sameNow (.struct (P.fieldsOf kt)) (kval (n + 1) k) e.key = none := by simp [Instr.sameNow]
      rw [this]
      exact key _ ks 0 h hls

theorem run_checkKey_ints {kt kn : Nat} (hk : KeyR P kt kn) {k : List Int} (hl : k.length = klen kn) (em : Bool) (m : Nat) (w : World) : (Instr.checkKey em (m + 2) kt (kval kn k)).run P w = .ok () w := by
  cases kn with
  | zero => have hu : P.underlying kt = some (.int .i64) := hk; simp [Instr.checkKey, run_underlying hu, kval]
  | succ n =>
    have hI : IntS P kt (n + 1) := hk
    rw [Instr.checkKey]
    simp only [kval, Sem.run_bind, run_underlying hI.und, Result.andThen_ok]
    rw [← Array.forIn_toList]
    have key : ∀ (fs : List Field), (∀ (j : Nat) (f : Field), fs[j]? = some f → f.offset < k.length ∧ P.underlying f.type = some (.int .i64)) →
        (forIn fs PUnit.unit (fun (f : Field) (_ : PUnit) => (if f.name ≠ "_" then (part f.type (k.map (Value.int .i64)).toArray f.offset >>= fun x => Instr.checkKey em (m + 1) f.type x >>= fun _ => pure (ForInStep.yield PUnit.unit)) else pure (ForInStep.yield PUnit.unit) : Sem (ForInStep PUnit)))).run P w = .ok PUnit.unit w := by
      intro fs
      induction fs with
      | nil => intro _; simp
      | cons f fs ih =>
        intro hf
        obtain ⟨g1, g2⟩ := hf 0 f rfl
        have hp : (part f.type (k.map (Value.int .i64)).toArray f.offset).run P w = .ok (.int .i64 k[f.offset]) w := by
          simp only [part, Sem.run_bind, run_isAgg_int g2, Result.andThen_ok, Bool.false_eq_true, if_false]
          simp [g1]
        have hc : (Instr.checkKey em (m + 1) f.type (.int .i64 k[f.offset])).run P w = .ok () w := by simp [Instr.checkKey, run_underlying g2]
        have ih' := ih (fun j f hj => hf (j + 1) f (by simpa using hj))
        simp only [List.forIn_cons, Sem.run_bind, Sem.run_ite]
        split
        · simp only [Sem.run_bind, hp, hc, Result.andThen_ok, Sem.run_pure]
          exact ih'
        · simp only [Sem.run_pure, Result.andThen_ok]
          exact ih'
    have := key (P.fieldsOf kt).toList (fun j f hj => by
      obtain ⟨g1, g2, g3⟩ := hI.fld j f hj
      have : j < (P.fieldsOf kt).toList.length := (List.getElem?_eq_some_iff.1 hj).1
      rw [hI.len] at this
      exact ⟨by rw [g2, hl]; exact this, g3⟩)
    rw [this]
    rfl
end

/-! The abstract map. -/
theorem fres_spec (k : List Int) : ∀ (es : List MapEntry) (ae : List (List Int × AV)) (i : Nat), es.length = ae.length →
    (fres k es (ae.map (·.1)) i = none ∧ mget ae k = none ∧ midx ae k = ae.length) ∨
    (midx ae k < ae.length ∧ fres k es (ae.map (·.1)) i = some (i + midx ae k, (es.getD (midx ae k) default).val) ∧ mget ae k = some (ae.getD (midx ae k) default).2 ∧ (ae.getD (midx ae k) default).1 = k)
  | [], [], i, _ => .inl ⟨rfl, rfl, rfl⟩
  | e :: es, x :: xs, i, h => by
    obtain ⟨xk, xv⟩ := x
    by_cases hx : xk = k
    · right
      have hm : midx ((xk, xv) :: xs) k = 0 := by simp [midx, List.findIdx_cons, hx]
      rw [hm]
      refine ⟨by simp, by simp [fres, hx], by simp [mget, hx], by simpa using hx⟩
    · have hm : midx ((xk, xv) :: xs) k = midx xs k + 1 := by simp [midx, List.findIdx_cons, hx]
      have hg : mget ((xk, xv) :: xs) k = mget xs k := by simp [mget, hx]
      rcases fres_spec k es xs (i + 1) (by simpa using h) with ⟨h1, h2, h3⟩ | ⟨h0, h1, h2, h3⟩
      · left
        exact ⟨by simp [fres, hx, h1], by rw [hg, h2], by rw [hm, h3]; simp⟩
      · right
        rw [hm, hg]
        refine ⟨by simpa using h0, ?_, by simpa using h2, by simpa using h3⟩
        simp only [List.map_cons, fres, if_neg hx, h1]
        simp; omega
  | [], _ :: _, _, h => by simp at h
  | _ :: _, [], _, h => by simp at h

theorem intsOf_spec : ∀ (cs : List AV) (l : List Int), intsOf cs = some l → cs = l.map (AV.int .i64)
  | [], l, h => by simp [intsOf] at h; subst h; rfl
  | c :: cs, l, h => by
    cases c with
    | int k n =>
      cases k with
      | i64 =>
        simp only [intsOf] at h
        split at h
        · rename_i r hr
          cases h
          rw [List.map_cons, ← intsOf_spec cs r hr]
        · cases h
      | _ => simp [intsOf] at h
    | _ => simp [intsOf] at h

theorem keyOf_spec {kn : Nat} {v : AV} {K : List Int → Prop} (h : keyOf kn v K) : ∃ k, K k ∧ k.length = klen kn ∧ (∀ s w u, RV (own s) w v u → u = kval kn k) := by
  unfold keyOf at h
  split at h
  · exact ⟨_, h, rfl, fun s w u hu => by simpa [kval] using inv_int hu⟩
  · rename_i m cs
    split at h
    · rename_i l hl
      have := intsOf_spec _ _ hl
      subst this
      exact ⟨l, h.2, h.1, fun s w u hu => by simpa [kval] using agg_ints hu⟩
    · exact h.elim
  · exact h.elim

section
variable {P : Program} {T : Tbl} {R : Nat → Prop} {o : Oper} {a : Act} {s : Store} {w : World} {ρ : Opd → AV} {K : AV → Prop → Prop}

/-- What is found in a map. -/
theorem map_find {kt kn : Nat} (hk : KeyR P kt kn) {b : Nat} {ae : List (List Int × AV)} {pd : Option (Int × Nat)} (hb : ObjR (own s) w b (.imap kn ae pd)) {k : List Int} (hl : k.length = klen kn) :
    ∃ (en : Array MapEntry) (cl : Nat), w.heap[b]? = some (.map en cl) ∧ en.size = ae.length ∧ (∀ em, (Instr.checkKey em 10000 kt (kval kn k)).run P w = .ok () w) ∧
      (((Instr.findKey kt (kval kn k) en.toList).run P w = .ok none w ∧ mget ae k = none ∧ midx ae k = ae.length) ∨
       (midx ae k < ae.length ∧ (Instr.findKey kt (kval kn k) en.toList).run P w = .ok (some (midx ae k, (en.getD (midx ae k) default).val)) w ∧ mget ae k = some (ae.getD (midx ae k) default).2 ∧ (ae.getD (midx ae k) default).1 = k ∧
         RV (own s) w (ae.getD (midx ae k) default).2 (en.getD (midx ae k) default).val)) := by
  obtain ⟨en, cl, h1, h2, h3, h4, h5⟩ := hb
  refine ⟨en, cl, h1, h2, fun em => run_checkKey_ints hk hl em 9998 w, ?_⟩
  have hkeys : en.toList.map (·.key) = (ae.map (·.1)).map (kval kn) := by
    apply List.ext_getElem (by simp [h2])
    intro i g1 g2
    have hi : i < ae.length := by simpa using g2
    have := (h3 i hi).1
    simp only [Array.getD_eq_getD_getElem?, List.getD_eq_getElem?_getD] at this
    rw [Array.getElem?_eq_getElem (by omega), List.getElem?_eq_getElem hi] at this
    simpa using this
  have hlens : ∀ x ∈ ae.map (·.1), x.length = klen kn := by
    intro x hx
    obtain ⟨i, hi, rfl⟩ := List.getElem_of_mem hx
    have hi' : i < ae.length := by simpa using hi
    have := (h3 i hi').2.1
    simp only [List.getD_eq_getElem?_getD] at this
    rw [List.getElem?_eq_getElem hi'] at this
    simpa using this
  have hrun := run_findKey_ints hk hl en.toList (ae.map (·.1)) hkeys hlens w
  rcases fres_spec k en.toList ae 0 (by simpa using h2) with ⟨g1, g2, g3⟩ | ⟨g0, g1, g2, g3⟩
  · left; rw [hrun, g1]; exact ⟨rfl, g2, g3⟩
  · right
    refine ⟨g0, ?_, g2, g3, (h3 _ g0).2.2⟩
    rw [hrun, g1, Nat.zero_add]
    simp [Array.getD_eq_getD_getElem?, List.getD_eq_getElem?_getD]

/-- An element's zero value. -/
def ZvR (P : Program) (et : TypeId) (z : AV) : Prop := ∃ zv, (∀ w, (zeroValue et).run P w = .ok zv w) ∧ ∀ o w, RV o w z zv

theorem ns_lkp (hs : St s w) {Ty kt et kn : Nat} {m key : Operand} {m' key' : Opd} {ok fr : Bool} {z : AV} (ho : o.op = .lookup Ty m key ok) (hT : P.underlying Ty = some (.map kt et)) (hk : KeyR P kt kn) (hz : ZvR P et z)
    (hm : RV (own s) w (ρ m') (a.eval m)) (hkey : RV (own s) w (ρ key') (a.eval key)) (h : nop T R (.lkp kn ok z m' key' fr) ρ s K) : NS P o a s w K := by
  obtain ⟨zv, z1, z2⟩ := hz
  simp only [nop] at h
  split at h
  · rename_i b hb
    split at h
    · rename_i kn' ae pd hsb
      obtain ⟨rfl, h⟩ := h
      obtain ⟨k, h, hl, hkv⟩ := keyOf_spec h
      refine NS_same hs h fun hd => ?_
      have hmv := RV_val hm hd.1
      rw [hb] at hmv
      have hkeyv := hkv _ _ _ (RV_val hkey hd.2.1)
      obtain ⟨en, cl, e1, e2, e3, e4⟩ := map_find hk (hs _ _ hsb) hl
      have hobj : (getObj b).run P w = .ok (.map en cl) w := run_getObj_map w b en cl e1
      rcases e4 with ⟨f1, f2, f3⟩ | ⟨f0, f1, f2, f3, f4⟩
      · refine ⟨if ok then .tuple #[zv, .bool false] else zv, ?_, ?_⟩
        · simp only [execOp, ho, inv_mp hmv, hkeyv, Instr.lookup, Sem.run_bind, run_underlying hT, Result.andThen_ok, hobj, Sem.run_pure, e3, f1, z1]
        · rw [f2]
          cases ok
          · exact z2 _ _
          · exact .tup [z, .bool false] [zv, .bool false] rfl (fun j hj => by
              match j, hj with
              | 0, _ => exact z2 _ _
              | 1, _ => exact .fz _ _ (.bool _))
      · refine ⟨if ok then .tuple #[(en.getD (midx ae k) default).val, .bool true] else (en.getD (midx ae k) default).val, ?_, ?_⟩
        · simp only [execOp, ho, inv_mp hmv, hkeyv, Instr.lookup, Sem.run_bind, run_underlying hT, Result.andThen_ok, hobj, Sem.run_pure, e3, f1]
        · rw [f2]
          cases ok
          · exact f4
          · exact .tup [_, .bool true] [_, .bool true] rfl (fun j hj => by
              match j, hj with
              | 0, _ => exact f4
              | 1, _ => exact .fz _ _ (.bool _))
    · exact h.elim
  · exact h.elim

theorem ns_lenm (hs : St s w) {m : Operand} {ts : Array TypeId} {t0 kt et : Nat} {m' : Opd} {fr : Bool} (ho : o.op = .call { callee := .builtin .len, args := #[m], argTypes := ts }) (ht : ts[0]? = some t0) (hT : P.underlying t0 = some (.map kt et))
    (hm : RV (own s) w (ρ m') (a.eval m)) (h : nop T R (.lenm m' fr) ρ s K) : NS P o a s w K := by
  simp only [nop] at h
  split at h
  · rename_i b hb
    split at h
    · rename_i kn ae pd hsb
      refine NS_same hs h fun hd => ⟨.int .i64 ae.length, ?_, .fz _ _ (.int _ _)⟩
      have hmv := RV_val hm hd.1
      rw [hb] at hmv
      obtain ⟨en, cl, h1, h2, _⟩ := hs _ _ hsb
      have hobj : (getObj b).run P w = .ok (.map en cl) w := run_getObj_map w b en cl h1
      simp [execOp, ho, inv_mp hmv, resolve, invoke, builtin, Builtin.len_, ht, run_underlying hT, hobj, goInt, h2]
    · exact h.elim
  · exact h.elim

theorem ns_idxs (hs : St s w) {Ty : Nat} {x i : Operand} {y j : Opd} (ho : o.op = .index Ty x i) (hT : P.underlying Ty = some .string) (hx : RV (own s) w (ρ y) (a.eval x)) (hi : RV (own s) w (ρ j) (a.eval i)) (h : nop T R (.idxs y j) ρ s K) : NS P o a s w K := by
  simp only [nop] at h
  split at h
  · rename_i t kk z hb hz
    refine NS_same hs h fun hd => ⟨_, ?_, .fz _ _ (.int _ _)⟩
    have h1 := RV_val hx hd.1
    rw [hb] at h1
    have h2 := RV_val hi hd.2.1
    rw [hz] at h2
    have hlt : z.toNat < t.size := by have := hd.2.2; omega
    have e : t[z.toNat]? = some t[z.toNat] := by rw [getElem?_pos t z.toNat hlt]
    have e2 : t.toList.getD z.toNat 0 = t[z.toNat] := by
      rw [ByteArray.toList_eq]
      rw [List.getD_eq_getElem?_getD, List.getElem?_eq_getElem (by simpa using hlt)]
      rfl
    simp only [execOp, ho, inv_str h1, inv_int h2, Instr.index, asIntOf, Sem.run_bind, Sem.run_pure, Result.andThen_ok, run_underlying hT, if_pos hd.2.2.1, e, e2]
  · exact h.elim
end
end Go.Proofs.Ytjoncejabdjekaa.L
