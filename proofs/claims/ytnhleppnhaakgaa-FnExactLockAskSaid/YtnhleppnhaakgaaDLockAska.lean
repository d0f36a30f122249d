/- That functions of the program compute what the plain functions say: printed by a program of the prover's own (tool/dec.py). Conditions: each theorem's own. -/
import Derived.Test.YtnhleppnhaakgaaMLockAsk
import Derived.Test.YtnhleppnhaakgaaGLockAsk
set_option linter.unusedVariables false
set_option linter.unusedSimpArgs false
set_option maxRecDepth 100000
namespace Go.AW
open Go.Proofs

theorem c_laws_szLockS {a1 : (List TLock)} {a2 : Int} {r : Int} (H : m_laws_szLockS a1 a2 = some r) : Fn Try.prog k_laws_szLockS (lent [(.sl 4 (List.map d_TLock a1)), (.int .i64 a2)]) true [(.int .i64 r)] := by
  refine i_laws_szLockS_fn (Nat.le_of_ble_eq_true rfl) ?_
  rw [init_mk]
  refine AW.weaken (wk_mk [] (SL.cons (v := (.one (.d (.sl 4 (List.map d_TLock a1))))) eZ rfl VWk.rfl (SL.cons (v := (.one (.d (.int .i64 a2)))) (eS rfl eZ) rfl VWk.rfl SL.nil)) BL.nil BK.nil) ?_
  unfold m_laws_szLockS at H
  unfold i_laws_szLockS
  refine AW.seq ?_
  refine AW.regs ?_
  refine oMov eC ?_
  refine xNil ?_
  refine TQ.qn ?_
  refine AW.seq ?_
  refine AW.regs ?_
  refine oMov (eR rfl) ?_
  refine oMov (eR rfl) ?_
  refine oLenD eZ (n := a1.length) (List.length_map _) ?_
  refine oSub (eR rfl) eZ ?_
  refine oMov eZ ?_
  refine xNil ?_
  refine TQ.qn ?_
  refine AW.seq ?_
  refine AW.seq ?_
  refine AW.regs ?_
  refine oMov eZ ?_
  refine oLss eZ eC ?_
  refine xNil ?_
  refine TQ.qn ?_
  rcases oite H with ⟨h3, H⟩ | ⟨h3, H⟩
  · refine AW.condT eZ (decide_eq_true h3) ?_
    refine AW.seq ?_
    refine AW.regs ?_
    refine oMov eC ?_
    refine xNil ?_
    refine TQ.qn ?_
    refine AW.ret ?_
    refine TQ.qr ?_
    obtain rfl := Option.some.inj H
    exact endsR (RL.cons (RV.tmp eZ) (VO.flat rfl) RL.nil) List.nodup_nil
  · refine AW.condF eZ (decide_eq_false h3) ?_
    refine AW.skip ?_
    refine TQ.qn ?_
    refine AW.seq ?_
    refine AW.regs ?_
    refine oMov (eR rfl) ?_
    refine oMov eZ ?_
    refine xNil ?_
    refine TQ.qn ?_
    refine AW.ret ?_
    obtain rfl := Option.some.inj H
    exact endsR (RL.cons (RV.tmp eZ) (VO.flat rfl) RL.nil) List.nodup_nil

theorem c_laws_toLock {a1 : TLock} {r : TLock} (H : m_laws_toLock a1 = some r) : Fn Try.prog k_laws_toLock (lent [(.agg (d_TLock a1))]) true [(.agg (d_TLock r))] := by
  refine i_laws_toLock_fn (Nat.le_of_ble_eq_true rfl) ?_
  rw [init_mk]
  refine AW.weaken (wk_mk [] (SL.cons (v := (.agg [(.d (.int .i64 a1.Tx)), (.d (.int .i64 a1.Lo)), (.d (.int .i64 a1.Hi)), (.d (.int .i64 a1.Mode))])) eZ rfl VWk.rfl SL.nil) BL.nil BK.nil) ?_
  unfold m_laws_toLock at H
  unfold i_laws_toLock
  refine AW.seq ?_
  refine AW.regs ?_
  refine oBox (n := 64) (m := 4) (cs := [(.d (.int .i64 a1.Tx)), (.d (.int .i64 a1.Lo)), (.d (.int .i64 a1.Hi)), (.d (.int .i64 a1.Mode))]) rfl eZ rfl rfl nZ ?_
  refine oVar (n := 128) (m := 4) rfl rfl (nS rfl nZ) ?_
  refine xNil ?_
  refine TQ.qn ?_
  refine AW.seq ?_
  refine AW.regs ?_
  refine oVar (n := 192) (m := 4) rfl rfl (nS rfl (nS rfl nZ)) ?_
  refine xNil ?_
  refine TQ.qn ?_
  refine AW.seq ?_
  refine AW.regs ?_
  refine oFaddrN (m := 0) (eR rfl) rfl ?_
  refine oLoadV (q := 0) (c := (.d (.int .i64 a1.Tx))) eZ (bS rfl (bS rfl bZ)) rfl rfl ?_
  refine oFaddrN (m := 0) (eR rfl) rfl ?_
  refine oStoreV (es := [(.d (.int .i64 a1.Tx)), (.d (.int .i64 0)), (.d (.int .i64 0)), (.d (.int .i64 0))]) eZ (eS rfl eZ) rfl rfl bZ rfl ?_
  refine xNil ?_
  refine TQ.qn ?_
  refine AW.seq ?_
  refine AW.regs ?_
  refine oFaddrN (m := 1) (eR rfl) rfl ?_
  refine oLoadV (q := 1) (c := (.d (.int .i64 a1.Lo))) eZ (bS rfl (bS rfl (bS rfl bZ))) rfl rfl ?_
  refine oFaddrN (m := 1) (eR rfl) rfl ?_
  refine oStoreV (es := [(.d (.int .i64 a1.Tx)), (.d (.int .i64 a1.Lo)), (.d (.int .i64 0)), (.d (.int .i64 0))]) eZ (eS rfl eZ) rfl rfl bZ rfl ?_
  refine xNil ?_
  refine TQ.qn ?_
  refine AW.seq ?_
  refine AW.regs ?_
  refine oFaddrN (m := 2) (eR rfl) rfl ?_
  refine oLoadV (q := 2) (c := (.d (.int .i64 a1.Hi))) eZ (bS rfl (bS rfl (bS rfl (bS rfl bZ)))) rfl rfl ?_
  refine oFaddrN (m := 2) (eR rfl) rfl ?_
  refine oStoreV (es := [(.d (.int .i64 a1.Tx)), (.d (.int .i64 a1.Lo)), (.d (.int .i64 a1.Hi)), (.d (.int .i64 0))]) eZ (eS rfl eZ) rfl rfl bZ rfl ?_
  refine xNil ?_
  refine TQ.qn ?_
  refine AW.seq ?_
  refine AW.regs ?_
  refine oFaddrN (m := 3) (eR rfl) rfl ?_
  refine oLoadV (q := 3) (c := (.d (.int .i64 a1.Mode))) eZ (bS rfl (bS rfl (bS rfl (bS rfl (bS rfl bZ))))) rfl rfl ?_
  refine oFaddrN (m := 3) (eR rfl) rfl ?_
  refine oStoreV (es := [(.d (.int .i64 a1.Tx)), (.d (.int .i64 a1.Lo)), (.d (.int .i64 a1.Hi)), (.d (.int .i64 a1.Mode))]) eZ (eS rfl eZ) rfl rfl bZ rfl ?_
  refine xNil ?_
  refine TQ.qn ?_
  refine AW.weaken (wk_mk [64] (SL.cons (k := 3) (eR rfl) rfl VWk.rfl (SL.cons (k := 2) (eR rfl) rfl VWk.rfl SL.nil)) (BL.keep rfl (BL.keep rfl (BL.keep rfl (BL.keep rfl (BL.keep rfl (BL.keep rfl (BL.drop rfl BL.nil))))))) (BK.cons (n := 192) rfl bZ rfl rfl (BK.cons (n := 128) rfl (bS rfl (bS rfl (bS rfl (bS rfl (bS rfl bZ))))) rfl rfl BK.nil))) ?_
  refine AW.seq ?_
  refine AW.regs ?_
  refine oLoadVA (es := [(.d (.int .i64 a1.Tx)), (.d (.int .i64 a1.Lo)), (.d (.int .i64 a1.Hi)), (.d (.int .i64 a1.Mode))]) eZ bZ rfl ?_
  refine oStoreV (es := [(.d (.int .i64 a1.Tx)), (.d (.int .i64 a1.Lo)), (.d (.int .i64 a1.Hi)), (.d (.int .i64 a1.Mode))]) (eR rfl) eZ rfl rfl (bS rfl bZ) rfl ?_
  refine xNil ?_
  refine TQ.qn ?_
  refine AW.ret ?_
  obtain rfl := Option.some.inj H
  exact endsR (RL.cons (RV.cellA (es := [(.d (.int .i64 a1.Tx)), (.d (.int .i64 a1.Lo)), (.d (.int .i64 a1.Hi)), (.d (.int .i64 a1.Mode))]) (eR rfl) bZ rfl) (VO.agg (ds := [(.int .i64 a1.Tx), (.int .i64 a1.Lo), (.int .i64 a1.Hi), (.int .i64 a1.Mode)]) rfl rfl) RL.nil) List.nodup_nil

theorem c_laws_toLockS {a1 : (List TLock)} {r : (List TLock)} (H : m_laws_toLockS a1 = some r) : Fn Try.prog k_laws_toLockS (lent [(.sl 4 (List.map d_TLock a1))]) true [(.sl 4 (List.map d_TLock r))] := by
  refine i_laws_toLockS_fn (Nat.le_of_ble_eq_true rfl) ?_
  rw [init_mk]
  refine AW.weaken (wk_mk [] (SL.cons (v := (.one (.d (.sl 4 (List.map d_TLock a1))))) eZ rfl VWk.rfl SL.nil) BL.nil BK.nil) ?_
  unfold m_laws_toLockS at H
  unfold i_laws_toLockS
  refine AW.seq ?_
  refine AW.regs ?_
  refine oMov eC ?_
  refine xNil ?_
  refine TQ.qn ?_
  refine AW.seq ?_
  refine AW.regs ?_
  refine oMov (eS rfl eZ) ?_
  refine oLenD eZ (n := a1.length) (List.length_map _) ?_
  obtain ⟨h2, H⟩ := oguard H
  refine oMksl (f := d_TLock) (zv := (TLock.mk 0 0 0 0)) (own := true) (m := 448) (q := (Int.toNat (a1.length : Int))) rfl rfl eZ eZ h2.1 h2.2 rfl (by decide) rfl nZ ?_
  refine oMov eZ ?_
  refine xNil ?_
  refine TQ.qn ?_
  refine AW.seqJ (fun t3 : (List TLock) => laws_toLockS_j3 t3 = some r) (fun t3 => mk [(3, (.one (.sl 320128 0 t3.length)))] [(320128, (.data 4 (List.map d_TLock t3) true none))] noG) ?_ ?_
  · intro t3 H
    unfold laws_toLockS_j3 at H
    refine AW.seq ?_
    refine AW.regs ?_
    refine oMov eZ ?_
    refine oMov eZ ?_
    refine xNil ?_
    refine TQ.qn ?_
    refine AW.ret ?_
    obtain rfl := Option.some.inj H
    exact endsR (RL.cons (RV.tmp eZ) (VO.sl bZ (List.length_map _) (allFlat fun _ => rfl)) RL.nil) (by decide)
  · refine AW.seq ?_
    refine AW.regs ?_
    refine oMov eC ?_
    refine xNil ?_
    refine TQ.qn ?_
    refine AW.block ?_
    refine AW.iter (fun s5 : ((List TLock) × Int) => mk [(0, (.one (.d (.sl 4 (List.map d_TLock a1))))), (3, (.one (.sl 320192 0 s5.1.length))), (4, (.one (.d (.int .i64 s5.2))))] [(320192, (.data 4 (List.map d_TLock s5.1) true none))] noG) H ((wk_mk [] (SL.cons (eR rfl) rfl VWk.rfl (SL.cons (eS rfl eZ) rfl (VWk.one (CWk.len (by first | (simp; done) | (simp; omega) | omega))) (SL.cons eZ rfl VWk.rfl SL.nil))) (BL.keep rfl BL.nil) (BK.cons rfl bZ rfl rfl BK.nil)).trans (wk_ren 448 320192 rfl rfl (nS rfl nZ))) ?_
    intro kb6 s5 H
    unfold laws_toLockS_b5 at H
    refine AW.seq ?_
    refine AW.seq ?_
    refine AW.regs ?_
    refine oMov (eR rfl) ?_
    refine oMov (eS rfl eZ) ?_
    refine oLenD eZ (n := a1.length) (List.length_map _) ?_
    refine oLss (eR rfl) eZ ?_
    refine xNil ?_
    refine TQ.qn ?_
    rcases oite H with ⟨h7, H⟩ | ⟨h7, H⟩
    · refine AW.condT eZ (decide_eq_true h7) ?_
      refine AW.skip ?_
      refine TQ.qn ?_
      refine AW.seq ?_
      refine AW.block ?_
      refine AW.regs ?_
      refine oMov (eR rfl) ?_
      refine oMov (eR rfl) ?_
      refine oMov (eR rfl) ?_
      refine oMov (eR rfl) ?_
      obtain ⟨v8, h9, H⟩ := obind H
      refine oAtD (eS rfl eZ) eZ h9 ?_
      refine oLoadBA (es := [(.d (.int .i64 v8.Tx)), (.d (.int .i64 v8.Lo)), (.d (.int .i64 v8.Hi)), (.d (.int .i64 v8.Mode))]) eZ rfl ?_
      obtain ⟨v10, h11, H⟩ := obind H
      refine oCall (u := (.agg [(.d (.int .i64 v10.Tx)), (.d (.int .i64 v10.Lo)), (.d (.int .i64 v10.Hi)), (.d (.int .i64 v10.Mode))])) eC Cl.fn (c_laws_toLock h11) (Evs.cons eZ Evs.nil) (VDs.cons (VD.agg rfl) VDs.nil) rfl ?_
      obtain ⟨v12, h13, H⟩ := obind H
      refine oAtN (eR rfl) (eR rfl) bZ rfl h13 ?_
      refine oStoreD (t := v12) (t' := v10) (es := [(.int .i64 v10.Tx), (.int .i64 v10.Lo), (.int .i64 v10.Hi), (.int .i64 v10.Mode)]) eZ (eS rfl eZ) rfl rfl bZ (idx_at h13) rfl rfl ?_
      refine xNil ?_
      refine BQ.qn ?_
      refine TQ.qn ?_
      refine AW.regs ?_
      refine oMov (eR rfl) ?_
      refine oAdd eZ eC ?_
      refine oMov eZ ?_
      refine xNil ?_
      exact TQ.qn ⟨(s5.1.set (Int.toNat s5.2) v10, (IntKind.wrap .i64 (s5.2 + 1))), H, (wk_mk [] (SL.cons (eR rfl) rfl VWk.rfl (SL.cons (eR rfl) rfl (VWk.one (CWk.len (by first | (simp; done) | (simp; omega) | omega))) (SL.cons eZ rfl VWk.rfl SL.nil))) (BL.keep rfl (BL.keep rfl BL.nil)) (BK.cons rfl bZ rfl rfl BK.nil))⟩
    · refine AW.condF eZ (decide_eq_false h7) ?_
      refine AW.exit ?_
      refine TQ.qe ?_
      refine TQ.qe ?_
      refine BQ.qe ?_
      exact TQ.qn ⟨s5.1, H, ((wk_mk [] (SL.cons (eR rfl) rfl VWk.rfl SL.nil) (BL.keep rfl BL.nil) (BK.cons rfl bZ rfl rfl BK.nil)).trans (wk_ren 320192 320128 rfl rfl (nS rfl nZ)))⟩

theorem c_laws_toIntS {a1 : (List Int)} {r : (List Int)} (H : m_laws_toIntS a1 = some r) : Fn Try.prog k_laws_toIntS (lent [(.sl 1 (List.map d_i64 a1))]) true [(.sl 1 (List.map d_i64 r))] := by
  refine i_laws_toIntS_fn (Nat.le_of_ble_eq_true rfl) ?_
  rw [init_mk]
  refine AW.weaken (wk_mk [] (SL.cons (v := (.one (.d (.sl 1 (List.map d_i64 a1))))) eZ rfl VWk.rfl SL.nil) BL.nil BK.nil) ?_
  unfold m_laws_toIntS at H
  unfold i_laws_toIntS
  refine AW.seq ?_
  refine AW.regs ?_
  refine oMov eC ?_
  refine xNil ?_
  refine TQ.qn ?_
  refine AW.seq ?_
  refine AW.regs ?_
  refine oMov (eS rfl eZ) ?_
  refine oLenD eZ (n := a1.length) (List.length_map _) ?_
  obtain ⟨h2, H⟩ := oguard H
  refine oMksl (f := d_i64) (zv := 0) (own := true) (m := 448) (q := (Int.toNat (a1.length : Int))) rfl rfl eZ eZ h2.1 h2.2 rfl (by decide) rfl nZ ?_
  refine oMov eZ ?_
  refine xNil ?_
  refine TQ.qn ?_
  refine AW.seqJ (fun t3 : (List Int) => laws_toIntS_j3 t3 = some r) (fun t3 => mk [(3, (.one (.sl 320128 0 t3.length)))] [(320128, (.data 1 (List.map d_i64 t3) true none))] noG) ?_ ?_
  · intro t3 H
    unfold laws_toIntS_j3 at H
    refine AW.seq ?_
    refine AW.regs ?_
    refine oMov eZ ?_
    refine oMov eZ ?_
    refine xNil ?_
    refine TQ.qn ?_
    refine AW.ret ?_
    obtain rfl := Option.some.inj H
    exact endsR (RL.cons (RV.tmp eZ) (VO.sl bZ (List.length_map _) (allFlat fun _ => rfl)) RL.nil) (by decide)
  · refine AW.seq ?_
    refine AW.regs ?_
    refine oMov eC ?_
    refine xNil ?_
    refine TQ.qn ?_
    refine AW.block ?_
    refine AW.iter (fun s5 : ((List Int) × Int) => mk [(0, (.one (.d (.sl 1 (List.map d_i64 a1))))), (3, (.one (.sl 320192 0 s5.1.length))), (4, (.one (.d (.int .i64 s5.2))))] [(320192, (.data 1 (List.map d_i64 s5.1) true none))] noG) H ((wk_mk [] (SL.cons (eR rfl) rfl VWk.rfl (SL.cons (eS rfl eZ) rfl (VWk.one (CWk.len (by first | (simp; done) | (simp; omega) | omega))) (SL.cons eZ rfl VWk.rfl SL.nil))) (BL.keep rfl BL.nil) (BK.cons rfl bZ rfl rfl BK.nil)).trans (wk_ren 448 320192 rfl rfl (nS rfl nZ))) ?_
    intro kb6 s5 H
    unfold laws_toIntS_b5 at H
    refine AW.seq ?_
    refine AW.seq ?_
    refine AW.regs ?_
    refine oMov (eR rfl) ?_
    refine oMov (eS rfl eZ) ?_
    refine oLenD eZ (n := a1.length) (List.length_map _) ?_
    refine oLss (eR rfl) eZ ?_
    refine xNil ?_
    refine TQ.qn ?_
    rcases oite H with ⟨h7, H⟩ | ⟨h7, H⟩
    · refine AW.condT eZ (decide_eq_true h7) ?_
      refine AW.skip ?_
      refine TQ.qn ?_
      refine AW.seq ?_
      refine AW.block ?_
      refine AW.regs ?_
      refine oMov (eR rfl) ?_
      refine oMov (eR rfl) ?_
      refine oMov (eR rfl) ?_
      refine oMov (eR rfl) ?_
      obtain ⟨v8, h9, H⟩ := obind H
      refine oAtD (eS rfl eZ) eZ h9 ?_
      refine oLoadB (e := (.int .i64 v8)) eZ rfl ?_
      obtain ⟨v10, h11, H⟩ := obind H
      refine oAtN (eR rfl) (eR rfl) bZ rfl h11 ?_
      refine oStoreD (t := v10) (t' := v8) (es := [(.int .i64 v8)]) eZ (eS rfl eZ) rfl rfl bZ (idx_at h11) rfl rfl ?_
      refine xNil ?_
      refine BQ.qn ?_
      refine TQ.qn ?_
      refine AW.regs ?_
      refine oMov (eR rfl) ?_
      refine oAdd eZ eC ?_
      refine oMov eZ ?_
      refine xNil ?_
      exact TQ.qn ⟨(s5.1.set (Int.toNat s5.2) v8, (IntKind.wrap .i64 (s5.2 + 1))), H, (wk_mk [] (SL.cons (eR rfl) rfl VWk.rfl (SL.cons (eR rfl) rfl (VWk.one (CWk.len (by first | (simp; done) | (simp; omega) | omega))) (SL.cons eZ rfl VWk.rfl SL.nil))) (BL.keep rfl (BL.keep rfl BL.nil)) (BK.cons rfl bZ rfl rfl BK.nil))⟩
    · refine AW.condF eZ (decide_eq_false h7) ?_
      refine AW.exit ?_
      refine TQ.qe ?_
      refine TQ.qe ?_
      refine BQ.qe ?_
      exact TQ.qn ⟨s5.1, H, ((wk_mk [] (SL.cons (eR rfl) rfl VWk.rfl SL.nil) (BL.keep rfl BL.nil) (BK.cons rfl bZ rfl rfl BK.nil)).trans (wk_ren 320192 320128 rfl rfl (nS rfl nZ)))⟩

theorem c_laws_toRange {a1 : TRange} {r : TRange} (H : m_laws_toRange a1 = some r) : Fn Try.prog k_laws_toRange (lent [(.agg (d_TRange a1))]) true [(.agg (d_TRange r))] := by
  refine i_laws_toRange_fn (Nat.le_of_ble_eq_true rfl) ?_
  rw [init_mk]
  refine AW.weaken (wk_mk [] (SL.cons (v := (.agg [(.d (.int .i64 a1.Lo)), (.d (.int .i64 a1.Hi))])) eZ rfl VWk.rfl SL.nil) BL.nil BK.nil) ?_
  unfold m_laws_toRange at H
  unfold i_laws_toRange
  refine AW.seq ?_
  refine AW.regs ?_
  refine oBox (n := 64) (m := 2) (cs := [(.d (.int .i64 a1.Lo)), (.d (.int .i64 a1.Hi))]) rfl eZ rfl rfl nZ ?_
  refine oVar (n := 128) (m := 2) rfl rfl (nS rfl nZ) ?_
  refine xNil ?_
  refine TQ.qn ?_
  refine AW.seq ?_
  refine AW.regs ?_
  refine oVar (n := 192) (m := 2) rfl rfl (nS rfl (nS rfl nZ)) ?_
  refine xNil ?_
  refine TQ.qn ?_
  refine AW.seq ?_
  refine AW.regs ?_
  refine oFaddrN (m := 0) (eR rfl) rfl ?_
  refine oLoadV (q := 0) (c := (.d (.int .i64 a1.Lo))) eZ (bS rfl (bS rfl bZ)) rfl rfl ?_
  refine oFaddrN (m := 0) (eR rfl) rfl ?_
  refine oStoreV (es := [(.d (.int .i64 a1.Lo)), (.d (.int .i64 0))]) eZ (eS rfl eZ) rfl rfl bZ rfl ?_
  refine xNil ?_
  refine TQ.qn ?_
  refine AW.seq ?_
  refine AW.regs ?_
  refine oFaddrN (m := 1) (eR rfl) rfl ?_
  refine oLoadV (q := 1) (c := (.d (.int .i64 a1.Hi))) eZ (bS rfl (bS rfl (bS rfl bZ))) rfl rfl ?_
  refine oFaddrN (m := 1) (eR rfl) rfl ?_
  refine oStoreV (es := [(.d (.int .i64 a1.Lo)), (.d (.int .i64 a1.Hi))]) eZ (eS rfl eZ) rfl rfl bZ rfl ?_
  refine xNil ?_
  refine TQ.qn ?_
  refine AW.seq ?_
  refine AW.regs ?_
  refine oLoadVA (es := [(.d (.int .i64 a1.Lo)), (.d (.int .i64 a1.Hi))]) (eR rfl) bZ rfl ?_
  refine oStoreV (es := [(.d (.int .i64 a1.Lo)), (.d (.int .i64 a1.Hi))]) (eR rfl) eZ rfl rfl (bS rfl (bS rfl (bS rfl bZ))) rfl ?_
  refine xNil ?_
  refine TQ.qn ?_
  refine AW.ret ?_
  obtain rfl := Option.some.inj H
  exact endsR (RL.cons (RV.cellA (es := [(.d (.int .i64 a1.Lo)), (.d (.int .i64 a1.Hi))]) (eR rfl) bZ rfl) (VO.agg (ds := [(.int .i64 a1.Lo), (.int .i64 a1.Hi)]) rfl rfl) RL.nil) List.nodup_nil

theorem c_spec_l1In {a1 : Int} {a2 : Int} {a3 : Int} {r : Bool} (H : m_spec_l1In a1 a2 a3 = some r) : Fn Try.prog k_spec_l1In (lent [(.int .i64 a1), (.int .i64 a2), (.int .i64 a3)]) true [(.bool r)] := by
  refine i_spec_l1In_fn (Nat.le_of_ble_eq_true rfl) ?_
  rw [init_mk]
  refine AW.weaken (wk_mk [] (SL.cons (v := (.one (.d (.int .i64 a1)))) eZ rfl VWk.rfl (SL.cons (v := (.one (.d (.int .i64 a2)))) (eS rfl eZ) rfl VWk.rfl (SL.cons (v := (.one (.d (.int .i64 a3)))) (eS rfl (eS rfl eZ)) rfl VWk.rfl SL.nil))) BL.nil BK.nil) ?_
  unfold m_spec_l1In at H
  unfold i_spec_l1In
  refine AW.seq ?_
  refine AW.regs ?_
  refine oMov eC ?_
  refine xNil ?_
  refine TQ.qn ?_
  refine AW.seq ?_
  refine AW.regs ?_
  refine oMov (eS rfl eZ) ?_
  refine oMov (eR rfl) ?_
  refine oGeq (eS rfl eZ) eZ ?_
  refine oMov eZ ?_
  rcases oite H with ⟨h4, H⟩ | ⟨h4, H⟩
  · refine gDo eZ (decide_eq_true h4) ?_
    refine oMov (eR rfl) ?_
    refine gDo (eS rfl eZ) (decide_eq_true h4) ?_
    refine oMov (eR rfl) ?_
    refine gDo (eR rfl) (decide_eq_true h4) ?_
    refine oLeq (eS rfl eZ) eZ ?_
    refine oPickT (eR rfl) (decide_eq_true h4) eZ ?_
    refine oMov eZ ?_
    refine xNil ?_
    refine TQ.qn ?_
    refine AW.ret ?_
    obtain rfl := Option.some.inj H
    exact endsR (RL.cons (RV.tmp eZ) (VO.flat rfl) RL.nil) List.nodup_nil
  · refine gSkip eZ (decide_eq_false h4) rfl ?_
    refine gSkip (eS rfl eZ) (decide_eq_false h4) rfl ?_
    refine gSkip (eR rfl) (decide_eq_false h4) rfl ?_
    refine oPickF (eR rfl) (decide_eq_false h4) eC ?_
    refine oMov eZ ?_
    refine xNil ?_
    refine TQ.qn ?_
    refine AW.ret ?_
    obtain rfl := Option.some.inj H
    exact endsR (RL.cons (RV.tmp eZ) (VO.flat rfl) RL.nil) List.nodup_nil

theorem c_spec_l12Tx {a1 : Int} {r : Bool} (H : m_spec_l12Tx a1 = some r) : Fn Try.prog k_spec_l12Tx (lent [(.int .i64 a1)]) true [(.bool r)] := by
  refine i_spec_l12Tx_fn (Nat.le_of_ble_eq_true rfl) ?_
  rw [init_mk]
  refine AW.weaken (wk_mk [] (SL.cons (v := (.one (.d (.int .i64 a1)))) eZ rfl VWk.rfl SL.nil) BL.nil BK.nil) ?_
  unfold m_spec_l12Tx at H
  unfold i_spec_l12Tx
  refine AW.seq ?_
  refine AW.regs ?_
  refine oMov eC ?_
  refine xNil ?_
  refine TQ.qn ?_
  refine AW.seq ?_
  refine AW.regs ?_
  refine oMov (eS rfl eZ) ?_
  obtain ⟨v2, h3, H⟩ := obind H
  refine oCall (u := (.one (.d (.bool v2)))) eC Cl.fn (c_spec_l1In h3) (Evs.cons eZ (Evs.cons eC (Evs.cons eC Evs.nil))) (VDs.cons VD.plain (VDs.cons VD.plain (VDs.cons VD.plain VDs.nil))) rfl ?_
  refine oMov eZ ?_
  refine xNil ?_
  refine TQ.qn ?_
  refine AW.ret ?_
  obtain rfl := Option.some.inj H
  exact endsR (RL.cons (RV.tmp eZ) (VO.flat rfl) RL.nil) List.nodup_nil

theorem c_spec_l12Range {a1 : TLock} {r : TRange} (H : m_spec_l12Range a1 = some r) : Fn Try.prog k_spec_l12Range (lent [(.agg (d_TLock a1))]) true [(.agg (d_TRange r))] := by
  refine i_spec_l12Range_fn (Nat.le_of_ble_eq_true rfl) ?_
  rw [init_mk]
  refine AW.weaken (wk_mk [] (SL.cons (v := (.agg [(.d (.int .i64 a1.Tx)), (.d (.int .i64 a1.Lo)), (.d (.int .i64 a1.Hi)), (.d (.int .i64 a1.Mode))])) eZ rfl VWk.rfl SL.nil) BL.nil BK.nil) ?_
  unfold m_spec_l12Range at H
  unfold i_spec_l12Range
  refine AW.seq ?_
  refine AW.regs ?_
  refine oBox (n := 64) (m := 4) (cs := [(.d (.int .i64 a1.Tx)), (.d (.int .i64 a1.Lo)), (.d (.int .i64 a1.Hi)), (.d (.int .i64 a1.Mode))]) rfl eZ rfl rfl nZ ?_
  refine oVar (n := 128) (m := 2) rfl rfl (nS rfl nZ) ?_
  refine xNil ?_
  refine TQ.qn ?_
  refine AW.seq ?_
  refine AW.regs ?_
  refine oFaddrN (m := 1) (eS rfl eZ) rfl ?_
  refine oLoadV (q := 1) (c := (.d (.int .i64 a1.Lo))) eZ (bS rfl bZ) rfl rfl ?_
  refine oFaddrN (m := 2) (eR rfl) rfl ?_
  refine oLoadV (q := 2) (c := (.d (.int .i64 a1.Hi))) eZ (bS rfl bZ) rfl rfl ?_
  refine oBuild (cs := [(.d (.int .i64 a1.Lo)), (.d (.int .i64 a1.Hi))]) (PsCons (eR rfl) (PsCons eZ PsNil)) rfl ?_
  refine oStoreV (es := [(.d (.int .i64 a1.Lo)), (.d (.int .i64 a1.Hi))]) (eR rfl) eZ rfl rfl bZ rfl ?_
  refine xNil ?_
  refine TQ.qn ?_
  refine AW.ret ?_
  obtain rfl := Option.some.inj H
  exact endsR (RL.cons (RV.cellA (es := [(.d (.int .i64 a1.Lo)), (.d (.int .i64 a1.Hi))]) (eR rfl) bZ rfl) (VO.agg (ds := [(.int .i64 a1.Lo), (.int .i64 a1.Hi)]) rfl rfl) RL.nil) List.nodup_nil

theorem c_spec_RangeOk {a1 : TRange} {r : Bool} (H : m_spec_RangeOk a1 = some r) : Fn Try.prog k_spec_RangeOk (lent [(.agg (d_TRange a1))]) true [(.bool r)] := by
  refine i_spec_RangeOk_fn (Nat.le_of_ble_eq_true rfl) ?_
  rw [init_mk]
  refine AW.weaken (wk_mk [] (SL.cons (v := (.agg [(.d (.int .i64 a1.Lo)), (.d (.int .i64 a1.Hi))])) eZ rfl VWk.rfl SL.nil) BL.nil BK.nil) ?_
  unfold m_spec_RangeOk at H
  unfold i_spec_RangeOk
  refine AW.seq ?_
  refine AW.regs ?_
  refine oBox (n := 64) (m := 2) (cs := [(.d (.int .i64 a1.Lo)), (.d (.int .i64 a1.Hi))]) rfl eZ rfl rfl nZ ?_
  refine oMov eC ?_
  refine xNil ?_
  refine TQ.qn ?_
  refine AW.seq ?_
  refine AW.regs ?_
  refine oFaddrN (m := 0) (eS rfl eZ) rfl ?_
  refine oLoadV (q := 0) (c := (.d (.int .i64 a1.Lo))) eZ bZ rfl rfl ?_
  refine oGeq eZ eC ?_
  refine oMov eZ ?_
  rcases oite H with ⟨h2, H⟩ | ⟨h2, H⟩
  · refine gDo eZ (decide_eq_true h2) ?_
    refine oFaddrN (m := 0) (eR rfl) rfl ?_
    refine gDo (eS rfl eZ) (decide_eq_true h2) ?_
    refine oLoadV (q := 0) (c := (.d (.int .i64 a1.Lo))) eZ bZ rfl rfl ?_
    refine gDo (eR rfl) (decide_eq_true h2) ?_
    refine oFaddrN (m := 1) (eR rfl) rfl ?_
    refine gDo (eR rfl) (decide_eq_true h2) ?_
    refine oLoadV (q := 1) (c := (.d (.int .i64 a1.Hi))) eZ bZ rfl rfl ?_
    refine gDo (eR rfl) (decide_eq_true h2) ?_
    refine oLss (eR rfl) eZ ?_
    refine oPickT (eR rfl) (decide_eq_true h2) eZ ?_
    refine oMov eZ ?_
    rcases oite H with ⟨h3, H⟩ | ⟨h3, H⟩
    · refine gDo eZ (decide_eq_true h3) ?_
      refine oFaddrN (m := 1) (eR rfl) rfl ?_
      refine gDo (eS rfl eZ) (decide_eq_true h3) ?_
      refine oLoadV (q := 1) (c := (.d (.int .i64 a1.Hi))) eZ bZ rfl rfl ?_
      refine gDo (eR rfl) (decide_eq_true h3) ?_
      refine oLeq eZ eC ?_
      refine oPickT (eR rfl) (decide_eq_true h3) eZ ?_
      refine oMov eZ ?_
      refine xNil ?_
      refine TQ.qn ?_
      refine AW.weaken (wk_mk [64] (SL.cons (k := 2) eZ rfl VWk.rfl SL.nil) (BL.drop rfl BL.nil) BK.nil) ?_
      refine AW.ret ?_
      obtain rfl := Option.some.inj H
      exact endsR (RL.cons (RV.tmp eZ) (VO.flat rfl) RL.nil) List.nodup_nil
    · refine gSkip eZ (decide_eq_false h3) rfl ?_
      refine gSkip (eS rfl eZ) (decide_eq_false h3) rfl ?_
      refine gSkip (eR rfl) (decide_eq_false h3) rfl ?_
      refine oPickF (eR rfl) (decide_eq_false h3) eC ?_
      refine oMov eZ ?_
      refine xNil ?_
      refine TQ.qn ?_
      refine AW.weaken (wk_mk [64] (SL.cons (k := 2) eZ rfl VWk.rfl SL.nil) (BL.drop rfl BL.nil) BK.nil) ?_
      refine AW.ret ?_
      obtain rfl := Option.some.inj H
      exact endsR (RL.cons (RV.tmp eZ) (VO.flat rfl) RL.nil) List.nodup_nil
  · refine gSkip eZ (decide_eq_false h2) rfl ?_
    refine gSkip (eS rfl eZ) (decide_eq_false h2) rfl ?_
    refine gSkip (eR rfl) (decide_eq_false h2) rfl ?_
    refine gSkip (eR rfl) (decide_eq_false h2) rfl ?_
    refine gSkip (eR rfl) (decide_eq_false h2) rfl ?_
    refine oPickF (eR rfl) (decide_eq_false h2) eC ?_
    refine oMov eZ ?_
    refine gSkip eZ rfl rfl ?_
    refine gSkip (eS rfl eZ) rfl rfl ?_
    refine gSkip (eR rfl) rfl rfl ?_
    refine oPickF (eR rfl) rfl eC ?_
    refine oMov eZ ?_
    refine xNil ?_
    refine TQ.qn ?_
    refine AW.weaken (wk_mk [64] (SL.cons (k := 2) eZ rfl VWk.rfl SL.nil) (BL.drop rfl BL.nil) BK.nil) ?_
    refine AW.ret ?_
    obtain rfl := Option.some.inj H
    exact endsR (RL.cons (RV.tmp eZ) (VO.flat rfl) RL.nil) List.nodup_nil

theorem c_spec_l12Mode {a1 : Int} {r : Bool} (H : m_spec_l12Mode a1 = some r) : Fn Try.prog k_spec_l12Mode (lent [(.int .i64 a1)]) true [(.bool r)] := by
  refine i_spec_l12Mode_fn (Nat.le_of_ble_eq_true rfl) ?_
  rw [init_mk]
  refine AW.weaken (wk_mk [] (SL.cons (v := (.one (.d (.int .i64 a1)))) eZ rfl VWk.rfl SL.nil) BL.nil BK.nil) ?_
  unfold m_spec_l12Mode at H
  unfold i_spec_l12Mode
  refine AW.seq ?_
  refine AW.regs ?_
  refine oMov eC ?_
  refine xNil ?_
  refine TQ.qn ?_
  refine AW.seq ?_
  refine AW.regs ?_
  refine oMov (eS rfl eZ) ?_
  refine oEql eZ eC ?_
  refine oMov eZ ?_
  rcases oite H with ⟨h2, H⟩ | ⟨h2, H⟩
  · refine gSkip eZ (decide_eq_true h2) rfl ?_
    refine gSkip (eS rfl eZ) (decide_eq_true h2) rfl ?_
    refine oPickT (eR rfl) (decide_eq_true h2) eC ?_
    refine oMov eZ ?_
    refine xNil ?_
    refine TQ.qn ?_
    refine AW.ret ?_
    obtain rfl := Option.some.inj H
    exact endsR (RL.cons (RV.tmp eZ) (VO.flat rfl) RL.nil) List.nodup_nil
  · refine gDo eZ (decide_eq_false h2) ?_
    refine oMov (eR rfl) ?_
    refine gDo (eS rfl eZ) (decide_eq_false h2) ?_
    refine oEql eZ eC ?_
    refine oPickF (eR rfl) (decide_eq_false h2) eZ ?_
    refine oMov eZ ?_
    refine xNil ?_
    refine TQ.qn ?_
    refine AW.ret ?_
    obtain rfl := Option.some.inj H
    exact endsR (RL.cons (RV.tmp eZ) (VO.flat rfl) RL.nil) List.nodup_nil

theorem c_spec_l1Max {a1 : Int} {a2 : Int} {r : Int} (H : m_spec_l1Max a1 a2 = some r) : Fn Try.prog k_spec_l1Max (lent [(.int .i64 a1), (.int .i64 a2)]) true [(.int .i64 r)] := by
  refine i_spec_l1Max_fn (Nat.le_of_ble_eq_true rfl) ?_
  rw [init_mk]
  refine AW.weaken (wk_mk [] (SL.cons (v := (.one (.d (.int .i64 a1)))) eZ rfl VWk.rfl (SL.cons (v := (.one (.d (.int .i64 a2)))) (eS rfl eZ) rfl VWk.rfl SL.nil)) BL.nil BK.nil) ?_
  unfold m_spec_l1Max at H
  unfold i_spec_l1Max
  refine AW.seq ?_
  refine AW.regs ?_
  refine oMov eC ?_
  refine xNil ?_
  refine TQ.qn ?_
  refine AW.seq ?_
  refine AW.seq ?_
  refine AW.regs ?_
  refine oMov (eS rfl eZ) ?_
  refine oMov (eR rfl) ?_
  refine oGtr (eS rfl eZ) eZ ?_
  refine xNil ?_
  refine TQ.qn ?_
  rcases oite H with ⟨h3, H⟩ | ⟨h3, H⟩
  · refine AW.condT eZ (decide_eq_true h3) ?_
    refine AW.seq ?_
    refine AW.regs ?_
    refine oMov (eR rfl) ?_
    refine oMov eZ ?_
    refine xNil ?_
    refine TQ.qn ?_
    refine AW.ret ?_
    refine TQ.qr ?_
    obtain rfl := Option.some.inj H
    exact endsR (RL.cons (RV.tmp eZ) (VO.flat rfl) RL.nil) List.nodup_nil
  · refine AW.condF eZ (decide_eq_false h3) ?_
    refine AW.skip ?_
    refine TQ.qn ?_
    refine AW.seq ?_
    refine AW.regs ?_
    refine oMov (eR rfl) ?_
    refine oMov eZ ?_
    refine xNil ?_
    refine TQ.qn ?_
    refine AW.ret ?_
    obtain rfl := Option.some.inj H
    exact endsR (RL.cons (RV.tmp eZ) (VO.flat rfl) RL.nil) List.nodup_nil

theorem c_spec_l1Min {a1 : Int} {a2 : Int} {r : Int} (H : m_spec_l1Min a1 a2 = some r) : Fn Try.prog k_spec_l1Min (lent [(.int .i64 a1), (.int .i64 a2)]) true [(.int .i64 r)] := by
  refine i_spec_l1Min_fn (Nat.le_of_ble_eq_true rfl) ?_
  rw [init_mk]
  refine AW.weaken (wk_mk [] (SL.cons (v := (.one (.d (.int .i64 a1)))) eZ rfl VWk.rfl (SL.cons (v := (.one (.d (.int .i64 a2)))) (eS rfl eZ) rfl VWk.rfl SL.nil)) BL.nil BK.nil) ?_
  unfold m_spec_l1Min at H
  unfold i_spec_l1Min
  refine AW.seq ?_
  refine AW.regs ?_
  refine oMov eC ?_
  refine xNil ?_
  refine TQ.qn ?_
  refine AW.seq ?_
  refine AW.seq ?_
  refine AW.regs ?_
  refine oMov (eS rfl eZ) ?_
  refine oMov (eR rfl) ?_
  refine oLss (eS rfl eZ) eZ ?_
  refine xNil ?_
  refine TQ.qn ?_
  rcases oite H with ⟨h3, H⟩ | ⟨h3, H⟩
  · refine AW.condT eZ (decide_eq_true h3) ?_
    refine AW.seq ?_
    refine AW.regs ?_
    refine oMov (eR rfl) ?_
    refine oMov eZ ?_
    refine xNil ?_
    refine TQ.qn ?_
    refine AW.ret ?_
    refine TQ.qr ?_
    obtain rfl := Option.some.inj H
    exact endsR (RL.cons (RV.tmp eZ) (VO.flat rfl) RL.nil) List.nodup_nil
  · refine AW.condF eZ (decide_eq_false h3) ?_
    refine AW.skip ?_
    refine TQ.qn ?_
    refine AW.seq ?_
    refine AW.regs ?_
    refine oMov (eR rfl) ?_
    refine oMov eZ ?_
    refine xNil ?_
    refine TQ.qn ?_
    refine AW.ret ?_
    obtain rfl := Option.some.inj H
    exact endsR (RL.cons (RV.tmp eZ) (VO.flat rfl) RL.nil) List.nodup_nil

theorem c_spec_RangeMeet {a1 : TRange} {a2 : TRange} {r : (TRange × Bool)} (H : m_spec_RangeMeet a1 a2 = some r) : Fn Try.prog k_spec_RangeMeet (lent [(.agg (d_TRange a1)), (.agg (d_TRange a2))]) true [(.agg (d_TRange r.1)), (.bool r.2)] := by
  refine i_spec_RangeMeet_fn (Nat.le_of_ble_eq_true rfl) ?_
  rw [init_mk]
  refine AW.weaken (wk_mk [] (SL.cons (v := (.agg [(.d (.int .i64 a1.Lo)), (.d (.int .i64 a1.Hi))])) eZ rfl VWk.rfl (SL.cons (v := (.agg [(.d (.int .i64 a2.Lo)), (.d (.int .i64 a2.Hi))])) (eS rfl eZ) rfl VWk.rfl SL.nil)) BL.nil BK.nil) ?_
  unfold m_spec_RangeMeet at H
  unfold i_spec_RangeMeet
  refine AW.seq ?_
  refine AW.regs ?_
  refine oBox (n := 128) (m := 2) (cs := [(.d (.int .i64 a1.Lo)), (.d (.int .i64 a1.Hi))]) rfl eZ rfl rfl nZ ?_
  refine oBox (n := 192) (m := 2) (cs := [(.d (.int .i64 a2.Lo)), (.d (.int .i64 a2.Hi))]) rfl (eR rfl) rfl rfl (nS rfl nZ) ?_
  refine oVar (n := 256) (m := 2) rfl rfl (nS rfl (nS rfl nZ)) ?_
  refine oMov eC ?_
  refine xNil ?_
  refine TQ.qn ?_
  refine AW.seq ?_
  refine AW.regd ?_
  refine oFaddrN (m := 0) (eR rfl) rfl ?_
  refine oLoadV (q := 0) (c := (.d (.int .i64 a1.Lo))) eZ (hB rfl (bS rfl (bS rfl bZ))) rfl rfl ?_
  refine oFaddrN (m := 0) (eR rfl) rfl ?_
  refine oLoadV (q := 0) (c := (.d (.int .i64 a2.Lo))) eZ (hB rfl (bS rfl bZ)) rfl rfl ?_
  obtain ⟨v3, h4, H⟩ := obind H
  refine oCall (u := (.one (.d (.int .i64 v3)))) eC Cl.fn (c_spec_l1Max h4) (Evs.cons (eR rfl) (Evs.cons eZ Evs.nil)) (VDs.cons VD.plain (VDs.cons VD.plain VDs.nil)) rfl ?_
  refine oFaddrN (m := 1) (eR rfl) rfl ?_
  refine oLoadV (q := 1) (c := (.d (.int .i64 a1.Hi))) eZ (hB rfl (bS rfl (bS rfl bZ))) rfl rfl ?_
  refine oFaddrN (m := 1) (eR rfl) rfl ?_
  refine oLoadV (q := 1) (c := (.d (.int .i64 a2.Hi))) eZ (hB rfl (bS rfl bZ)) rfl rfl ?_
  obtain ⟨v5, h6, H⟩ := obind H
  refine oCall (u := (.one (.d (.int .i64 v5)))) eC Cl.fn (c_spec_l1Min h6) (Evs.cons (eR rfl) (Evs.cons eZ Evs.nil)) (VDs.cons VD.plain (VDs.cons VD.plain VDs.nil)) rfl ?_
  refine oBuild (cs := [(.d (.int .i64 v3)), (.d (.int .i64 v5))]) (PsCons (eR rfl) (PsCons eZ PsNil)) rfl ?_
  refine oVar (n := 384) (m := 2) rfl rfl (hN (nS rfl (nS rfl (nS rfl nZ)))) ?_
  refine oStoreV (es := [(.d (.int .i64 v3)), (.d (.int .i64 v5))]) eZ (eS rfl eZ) rfl rfl bZ rfl ?_
  refine xNil ?_
  refine TQ.qn ?_
  refine AW.weaken (wk_mk [] (SL.cons (k := 6) eZ rfl VWk.rfl (SL.cons (k := 4) (eR rfl) rfl VWk.rfl (SL.cons (k := 3) (eR rfl) rfl VWk.rfl (SL.cons (k := 2) (eR rfl) rfl VWk.rfl SL.nil)))) (BL.keep rfl (BL.keep rfl (BL.keep rfl (BL.keep rfl (BL.keep rfl BL.nil))))) (BK.cons (n := 384) rfl bZ rfl rfl (BK.cons (n := 256) rfl (bS rfl (bS rfl bZ)) rfl rfl (BK.cons (n := 192) rfl (bS rfl (bS rfl (bS rfl bZ))) rfl rfl (BK.cons (n := 128) rfl (bS rfl (bS rfl (bS rfl (bS rfl bZ)))) rfl rfl BK.nil))))) ?_
  refine AW.seq ?_
  refine AW.seqJ (fun t7 : Bool => (spec_RangeMeet_j7 v3 v5) t7 = some r) (fun t7 => mk [(4, (.one (.ptr (.nm 256 0 0)))), (6, (.one (.ptr (.nm 384 0 0)))), (30, (.one (.d (.bool t7))))] [(256, (.vars 2 [(.d (.int .i64 0)), (.d (.int .i64 0))])), (384, (.vars 2 [(.d (.int .i64 v3)), (.d (.int .i64 v5))]))] noG) ?_ ?_
  · intro t7 H
    unfold spec_RangeMeet_j7 at H
    rcases oite H with ⟨h9, H⟩ | ⟨h9, H⟩
    · refine AW.condT (eR rfl) h9 ?_
      refine AW.seq ?_
      refine AW.regs ?_
      refine oBuild (cs := [(.d (.int .i64 0)), (.d (.int .i64 0))]) PsNil rfl ?_
      refine oStoreV (es := [(.d (.int .i64 0)), (.d (.int .i64 0))]) (eS rfl eZ) eZ rfl rfl bZ rfl ?_
      refine oMov eC ?_
      refine xNil ?_
      refine TQ.qn ?_
      refine AW.ret ?_
      refine TQ.qr ?_
      obtain rfl := Option.some.inj H
      exact endsR (RL.cons (RV.cellA (es := [(.d (.int .i64 0)), (.d (.int .i64 0))]) (eR rfl) bZ rfl) (VO.agg (ds := [(.int .i64 0), (.int .i64 0)]) rfl rfl) (RL.cons (RV.tmp eZ) (VO.flat rfl) RL.nil)) List.nodup_nil
    · refine AW.condF (eR rfl) (nt h9) ?_
      refine AW.skip ?_
      refine TQ.qn ?_
      refine AW.seq ?_
      refine AW.regs ?_
      refine oLoadVA (es := [(.d (.int .i64 v3)), (.d (.int .i64 v5))]) (eS rfl eZ) (bS rfl bZ) rfl ?_
      refine oStoreV (es := [(.d (.int .i64 v3)), (.d (.int .i64 v5))]) (eS rfl eZ) eZ rfl rfl bZ rfl ?_
      refine oMov eC ?_
      refine xNil ?_
      refine TQ.qn ?_
      refine AW.ret ?_
      obtain rfl := Option.some.inj H
      exact endsR (RL.cons (RV.cellA (es := [(.d (.int .i64 v3)), (.d (.int .i64 v5))]) (eR rfl) bZ rfl) (VO.agg (ds := [(.int .i64 v3), (.int .i64 v5)]) rfl rfl) (RL.cons (RV.tmp eZ) (VO.flat rfl) RL.nil)) List.nodup_nil
  · refine AW.regs ?_
    refine oLoadVA (es := [(.d (.int .i64 a1.Lo)), (.d (.int .i64 a1.Hi))]) (eR rfl) (bS rfl (bS rfl (bS rfl bZ))) rfl ?_
    obtain ⟨v10, h11, H⟩ := obind H
    refine oCall (u := (.one (.d (.bool v10)))) eC Cl.fn (c_spec_RangeOk h11) (Evs.cons eZ Evs.nil) (VDs.cons (VD.agg rfl) VDs.nil) rfl ?_
    refine oInv eZ ?_
    refine oMov eZ ?_
    rcases oite H with ⟨h12, H⟩ | ⟨h12, H⟩
    · refine gDo eZ (congrArg Bool.not h12) ?_
      refine oLoadVA (es := [(.d (.int .i64 a2.Lo)), (.d (.int .i64 a2.Hi))]) (eR rfl) (bS rfl (bS rfl bZ)) rfl ?_
      refine gDo (eS rfl eZ) (congrArg Bool.not h12) ?_
      obtain ⟨v13, h14, H⟩ := obind H
      refine oCall (u := (.one (.d (.bool v13)))) eC Cl.fn (c_spec_RangeOk h14) (Evs.cons eZ Evs.nil) (VDs.cons (VD.agg rfl) VDs.nil) rfl ?_
      refine gDo (eR rfl) (congrArg Bool.not h12) ?_
      refine oInv eZ ?_
      refine oPickF (eR rfl) (congrArg Bool.not h12) eZ ?_
      refine oMov eZ ?_
      rcases oite H with ⟨h15, H⟩ | ⟨h15, H⟩
      · refine gDo eZ (congrArg Bool.not h15) ?_
        refine oLoadVA (es := [(.d (.int .i64 v3)), (.d (.int .i64 v5))]) (eR rfl) bZ rfl ?_
        refine gDo (eS rfl eZ) (congrArg Bool.not h15) ?_
        obtain ⟨v16, h17, H⟩ := obind H
        refine oCall (u := (.one (.d (.bool v16)))) eC Cl.fn (c_spec_RangeOk h17) (Evs.cons eZ Evs.nil) (VDs.cons (VD.agg rfl) VDs.nil) rfl ?_
        refine gDo (eR rfl) (congrArg Bool.not h15) ?_
        refine oInv eZ ?_
        refine oPickF (eR rfl) (congrArg Bool.not h15) eZ ?_
        refine xNil ?_
        exact TQ.qn ⟨(!v16), H, (wk_mk [192, 128] (SL.cons (eR rfl) rfl VWk.rfl (SL.cons (eR rfl) rfl VWk.rfl (SL.cons eZ rfl VWk.rfl SL.nil))) (BL.keep rfl (BL.keep rfl (BL.drop rfl (BL.drop rfl BL.nil)))) (BK.cons rfl (bS rfl bZ) rfl rfl (BK.cons rfl bZ rfl rfl BK.nil)))⟩
      · refine gSkip eZ (congrArg Bool.not (nt h15)) rfl ?_
        refine gSkip (eS rfl eZ) (congrArg Bool.not (nt h15)) rfl ?_
        refine gSkip (eR rfl) (congrArg Bool.not (nt h15)) rfl ?_
        refine oPickT (eR rfl) (congrArg Bool.not (nt h15)) eC ?_
        refine xNil ?_
        exact TQ.qn ⟨true, H, (wk_mk [192, 128] (SL.cons (eR rfl) rfl VWk.rfl (SL.cons (eR rfl) rfl VWk.rfl (SL.cons eZ rfl VWk.rfl SL.nil))) (BL.keep rfl (BL.keep rfl (BL.drop rfl (BL.drop rfl BL.nil)))) (BK.cons rfl (bS rfl bZ) rfl rfl (BK.cons rfl bZ rfl rfl BK.nil)))⟩
    · refine gSkip eZ (congrArg Bool.not (nt h12)) rfl ?_
      refine gSkip (eS rfl eZ) (congrArg Bool.not (nt h12)) rfl ?_
      refine gSkip (eR rfl) (congrArg Bool.not (nt h12)) rfl ?_
      refine oPickT (eR rfl) (congrArg Bool.not (nt h12)) eC ?_
      refine oMov eZ ?_
      refine gSkip eZ rfl rfl ?_
      refine gSkip (eS rfl eZ) rfl rfl ?_
      refine gSkip (eR rfl) rfl rfl ?_
      refine oPickT (eR rfl) rfl eC ?_
      refine xNil ?_
      exact TQ.qn ⟨true, H, (wk_mk [192, 128] (SL.cons (eR rfl) rfl VWk.rfl (SL.cons (eR rfl) rfl VWk.rfl (SL.cons eZ rfl VWk.rfl SL.nil))) (BL.keep rfl (BL.keep rfl (BL.drop rfl (BL.drop rfl BL.nil)))) (BK.cons rfl (bS rfl bZ) rfl rfl (BK.cons rfl bZ rfl rfl BK.nil)))⟩

theorem c_spec_l12Clash {a1 : TLock} {a2 : TLock} {r : Bool} (H : m_spec_l12Clash a1 a2 = some r) : Fn Try.prog k_spec_l12Clash (lent [(.agg (d_TLock a1)), (.agg (d_TLock a2))]) true [(.bool r)] := by
  refine i_spec_l12Clash_fn (Nat.le_of_ble_eq_true rfl) ?_
  rw [init_mk]
  refine AW.weaken (wk_mk [] (SL.cons (v := (.agg [(.d (.int .i64 a1.Tx)), (.d (.int .i64 a1.Lo)), (.d (.int .i64 a1.Hi)), (.d (.int .i64 a1.Mode))])) eZ rfl VWk.rfl (SL.cons (v := (.agg [(.d (.int .i64 a2.Tx)), (.d (.int .i64 a2.Lo)), (.d (.int .i64 a2.Hi)), (.d (.int .i64 a2.Mode))])) (eS rfl eZ) rfl VWk.rfl SL.nil)) BL.nil BK.nil) ?_
  unfold m_spec_l12Clash at H
  unfold i_spec_l12Clash
  refine AW.seq ?_
  refine AW.regs ?_
  refine oBox (n := 128) (m := 4) (cs := [(.d (.int .i64 a1.Tx)), (.d (.int .i64 a1.Lo)), (.d (.int .i64 a1.Hi)), (.d (.int .i64 a1.Mode))]) rfl eZ rfl rfl nZ ?_
  refine oBox (n := 192) (m := 4) (cs := [(.d (.int .i64 a2.Tx)), (.d (.int .i64 a2.Lo)), (.d (.int .i64 a2.Hi)), (.d (.int .i64 a2.Mode))]) rfl (eR rfl) rfl rfl (nS rfl nZ) ?_
  refine oMov eC ?_
  refine xNil ?_
  refine TQ.qn ?_
  refine AW.seq ?_
  refine AW.regd ?_
  refine oLoadVA (es := [(.d (.int .i64 a1.Tx)), (.d (.int .i64 a1.Lo)), (.d (.int .i64 a1.Hi)), (.d (.int .i64 a1.Mode))]) (eR rfl) (hB rfl (bS rfl bZ)) rfl ?_
  obtain ⟨v3, h4, H⟩ := obind H
  refine oCall (u := (.agg [(.d (.int .i64 v3.Lo)), (.d (.int .i64 v3.Hi))])) eC Cl.fn (c_spec_l12Range h4) (Evs.cons eZ Evs.nil) (VDs.cons (VD.agg rfl) VDs.nil) rfl ?_
  refine oLoadVA (es := [(.d (.int .i64 a2.Tx)), (.d (.int .i64 a2.Lo)), (.d (.int .i64 a2.Hi)), (.d (.int .i64 a2.Mode))]) (eR rfl) (hB rfl bZ) rfl ?_
  obtain ⟨v5, h6, H⟩ := obind H
  refine oCall (u := (.agg [(.d (.int .i64 v5.Lo)), (.d (.int .i64 v5.Hi))])) eC Cl.fn (c_spec_l12Range h6) (Evs.cons eZ Evs.nil) (VDs.cons (VD.agg rfl) VDs.nil) rfl ?_
  obtain ⟨v7, h8, H⟩ := obind H
  refine oCall (u := (.tup [(.agg [(.d (.int .i64 v7.1.Lo)), (.d (.int .i64 v7.1.Hi))]), (.one (.d (.bool v7.2)))])) eC Cl.fn (c_spec_RangeMeet h8) (Evs.cons (eR rfl) (Evs.cons eZ Evs.nil)) (VDs.cons (VD.agg rfl) (VDs.cons (VD.agg rfl) VDs.nil)) rfl ?_
  refine oMov eZ ?_
  refine oExt (v := (.agg [(.d (.int .i64 v7.1.Lo)), (.d (.int .i64 v7.1.Hi))])) eZ rfl ?_
  refine oExt (v := (.one (.d (.bool v7.2)))) (eS rfl eZ) rfl ?_
  refine oVar (n := 320) (m := 2) rfl rfl (hN (nS rfl (nS rfl nZ))) ?_
  refine oStoreV (es := [(.d (.int .i64 v7.1.Lo)), (.d (.int .i64 v7.1.Hi))]) eZ (eR rfl) rfl rfl bZ rfl ?_
  refine oMov (eS rfl eZ) ?_
  refine xNil ?_
  refine TQ.qn ?_
  refine AW.seq ?_
  refine AW.regs ?_
  refine oMov eZ ?_
  refine oMov eZ ?_
  rcases oite H with ⟨h9, H⟩ | ⟨h9, H⟩
  · refine gDo eZ h9 ?_
    refine oFaddrN (m := 0) (eR rfl) rfl ?_
    refine gDo (eS rfl eZ) h9 ?_
    refine oLoadV (q := 0) (c := (.d (.int .i64 a1.Tx))) eZ (bS rfl (bS rfl (bS rfl bZ))) rfl rfl ?_
    refine gDo (eR rfl) h9 ?_
    refine oFaddrN (m := 0) (eR rfl) rfl ?_
    refine gDo (eR rfl) h9 ?_
    refine oLoadV (q := 0) (c := (.d (.int .i64 a2.Tx))) eZ (bS rfl (bS rfl bZ)) rfl rfl ?_
    refine gDo (eR rfl) h9 ?_
    refine oNeq (eR rfl) eZ ?_
    refine oPickT (eR rfl) h9 eZ ?_
    refine oMov eZ ?_
    rcases oite H with ⟨h10, H⟩ | ⟨h10, H⟩
    · refine gDo eZ (decide_eq_true h10) ?_
      refine oFaddrN (m := 3) (eR rfl) rfl ?_
      refine gDo (eS rfl eZ) (decide_eq_true h10) ?_
      refine oLoadV (q := 3) (c := (.d (.int .i64 a1.Mode))) eZ (bS rfl (bS rfl (bS rfl bZ))) rfl rfl ?_
      refine gDo (eR rfl) (decide_eq_true h10) ?_
      refine oEql eZ eC ?_
      refine gDo (eR rfl) (decide_eq_true h10) ?_
      refine oMov eZ ?_
      rcases oite H with ⟨h11, H⟩ | ⟨h11, H⟩
      · refine gSkip eZ (decide_eq_true h11) rfl ?_
        refine gSkip (eS rfl eZ) (decide_eq_true h11) rfl ?_
        refine gSkip (eR rfl) (decide_eq_true h11) rfl ?_
        refine gDo (eR rfl) (decide_eq_true h10) ?_
        refine oPickT (eR rfl) (decide_eq_true h11) eC ?_
        refine oPickT (eR rfl) (decide_eq_true h10) eZ ?_
        refine oMov eZ ?_
        refine xNil ?_
        refine TQ.qn ?_
        refine AW.weaken (wk_mk [320, 192, 128] (SL.cons (k := 4) eZ rfl VWk.rfl SL.nil) (BL.drop rfl (BL.drop rfl (BL.drop rfl (BL.drop rfl BL.nil)))) BK.nil) ?_
        refine AW.ret ?_
        obtain rfl := Option.some.inj H
        exact endsR (RL.cons (RV.tmp eZ) (VO.flat rfl) RL.nil) List.nodup_nil
      · refine gDo eZ (decide_eq_false h11) ?_
        refine oFaddrN (m := 3) (eR rfl) rfl ?_
        refine gDo (eS rfl eZ) (decide_eq_false h11) ?_
        refine oLoadV (q := 3) (c := (.d (.int .i64 a2.Mode))) eZ (bS rfl (bS rfl bZ)) rfl rfl ?_
        refine gDo (eR rfl) (decide_eq_false h11) ?_
        refine oEql eZ eC ?_
        refine gDo (eR rfl) (decide_eq_true h10) ?_
        refine oPickF (eR rfl) (decide_eq_false h11) eZ ?_
        refine oPickT (eR rfl) (decide_eq_true h10) eZ ?_
        refine oMov eZ ?_
        refine xNil ?_
        refine TQ.qn ?_
        refine AW.weaken (wk_mk [320, 192, 128] (SL.cons (k := 4) eZ rfl VWk.rfl SL.nil) (BL.drop rfl (BL.drop rfl (BL.drop rfl (BL.drop rfl BL.nil)))) BK.nil) ?_
        refine AW.ret ?_
        obtain rfl := Option.some.inj H
        exact endsR (RL.cons (RV.tmp eZ) (VO.flat rfl) RL.nil) List.nodup_nil
    · refine gSkip eZ (decide_eq_false h10) rfl ?_
      refine gSkip (eS rfl eZ) (decide_eq_false h10) rfl ?_
      refine gSkip (eR rfl) (decide_eq_false h10) rfl ?_
      refine gSkip (eR rfl) (decide_eq_false h10) rfl ?_
      refine gSkipU eZ rfl ?_
      refine gSkipU (eS rfl eZ) rfl ?_
      refine gSkipU (eR rfl) rfl ?_
      refine gSkip (eR rfl) (decide_eq_false h10) rfl ?_
      refine oPickF (eR rfl) (decide_eq_false h10) eC ?_
      refine oMov eZ ?_
      refine xNil ?_
      refine TQ.qn ?_
      refine AW.weaken (wk_mk [320, 192, 128] (SL.cons (k := 4) eZ rfl VWk.rfl SL.nil) (BL.drop rfl (BL.drop rfl (BL.drop rfl (BL.drop rfl BL.nil)))) BK.nil) ?_
      refine AW.ret ?_
      obtain rfl := Option.some.inj H
      exact endsR (RL.cons (RV.tmp eZ) (VO.flat rfl) RL.nil) List.nodup_nil
  · refine gSkip eZ (nt h9) rfl ?_
    refine gSkip (eS rfl eZ) (nt h9) rfl ?_
    refine gSkip (eR rfl) (nt h9) rfl ?_
    refine gSkip (eR rfl) (nt h9) rfl ?_
    refine gSkip (eR rfl) (nt h9) rfl ?_
    refine oPickF (eR rfl) (nt h9) eC ?_
    refine oMov eZ ?_
    refine gSkip eZ rfl rfl ?_
    refine gSkip (eS rfl eZ) rfl rfl ?_
    refine gSkip (eR rfl) rfl rfl ?_
    refine gSkip (eR rfl) rfl rfl ?_
    refine gSkipU eZ rfl ?_
    refine gSkipU (eS rfl eZ) rfl ?_
    refine gSkipU (eR rfl) rfl ?_
    refine gSkip (eR rfl) rfl rfl ?_
    refine oPickF (eR rfl) rfl eC ?_
    refine oMov eZ ?_
    refine xNil ?_
    refine TQ.qn ?_
    refine AW.weaken (wk_mk [320, 192, 128] (SL.cons (k := 4) eZ rfl VWk.rfl SL.nil) (BL.drop rfl (BL.drop rfl (BL.drop rfl (BL.drop rfl BL.nil)))) BK.nil) ?_
    refine AW.ret ?_
    obtain rfl := Option.some.inj H
    exact endsR (RL.cons (RV.tmp eZ) (VO.flat rfl) RL.nil) List.nodup_nil

theorem c_spec_LocksOk {a1 : (List TLock)} {r : Bool} (H : m_spec_LocksOk a1 = some r) : Fn Try.prog k_spec_LocksOk (lent [(.sl 4 (List.map d_TLock a1))]) true [(.bool r)] := by
  refine i_spec_LocksOk_fn (Nat.le_of_ble_eq_true rfl) ?_
  rw [init_mk]
  refine AW.weaken (wk_mk [] (SL.cons (v := (.one (.d (.sl 4 (List.map d_TLock a1))))) eZ rfl VWk.rfl SL.nil) BL.nil BK.nil) ?_
  unfold m_spec_LocksOk at H
  unfold i_spec_LocksOk
  refine AW.seq ?_
  refine AW.regs ?_
  refine oMov eC ?_
  refine xNil ?_
  refine TQ.qn ?_
  refine AW.seq ?_
  refine AW.seq ?_
  refine AW.regs ?_
  refine oMov (eS rfl eZ) ?_
  refine oLenD eZ (n := a1.length) (List.length_map _) ?_
  refine oGtr eZ eC ?_
  refine xNil ?_
  refine TQ.qn ?_
  rcases oite H with ⟨h2, H⟩ | ⟨h2, H⟩
  · refine AW.condT eZ (decide_eq_true h2) ?_
    refine AW.seq ?_
    refine AW.regs ?_
    refine oMov eC ?_
    refine xNil ?_
    refine TQ.qn ?_
    refine AW.ret ?_
    refine TQ.qr ?_
    obtain rfl := Option.some.inj H
    exact endsR (RL.cons (RV.tmp eZ) (VO.flat rfl) RL.nil) List.nodup_nil
  · refine AW.condF eZ (decide_eq_false h2) ?_
    refine AW.skip ?_
    refine TQ.qn ?_
    refine AW.seqJ (fun t3 : Unit => spec_LocksOk_j3 t3 = some r) (fun t3 => mk [] [] noG) ?_ ?_
    · intro t3 H
      unfold spec_LocksOk_j3 at H
      refine AW.seq ?_
      refine AW.regs ?_
      refine oMov eC ?_
      refine xNil ?_
      refine TQ.qn ?_
      refine AW.ret ?_
      obtain rfl := Option.some.inj H
      exact endsR (RL.cons (RV.tmp eZ) (VO.flat rfl) RL.nil) List.nodup_nil
    · refine AW.seq ?_
      refine AW.regs ?_
      refine oMov eC ?_
      refine xNil ?_
      refine TQ.qn ?_
      refine AW.block ?_
      refine AW.iter (fun s5 : Int => mk [(0, (.one (.d (.sl 4 (List.map d_TLock a1))))), (3, (.one (.d (.int .i64 s5))))] [] noG) H (wk_mk [] (SL.cons (eR rfl) rfl VWk.rfl (SL.cons eZ rfl VWk.rfl SL.nil)) BL.nil BK.nil) ?_
      intro kb6 s5 H
      unfold spec_LocksOk_b5 at H
      refine AW.seq ?_
      refine AW.seq ?_
      refine AW.regs ?_
      refine oMov (eS rfl eZ) ?_
      refine oMov (eS rfl eZ) ?_
      refine oLenD eZ (n := a1.length) (List.length_map _) ?_
      refine oLss (eR rfl) eZ ?_
      refine xNil ?_
      refine TQ.qn ?_
      rcases oite H with ⟨h7, H⟩ | ⟨h7, H⟩
      · refine AW.condT eZ (decide_eq_true h7) ?_
        refine AW.skip ?_
        refine TQ.qn ?_
        refine AW.seqJ (fun t8 : Unit => (spec_LocksOk_j8 kb6 s5) t8 = some r) (fun t8 => mk [(0, (.one (.d (.sl 4 (List.map d_TLock a1))))), (3, (.one (.d (.int .i64 s5))))] [] noG) ?_ ?_
        · intro t8 H
          unfold spec_LocksOk_j8 at H
          refine AW.regs ?_
          refine oMov (eS rfl eZ) ?_
          refine oAdd eZ eC ?_
          refine oMov eZ ?_
          refine xNil ?_
          exact TQ.qn ⟨(IntKind.wrap .i64 (s5 + 1)), H, (wk_mk [] (SL.cons (eR rfl) rfl VWk.rfl (SL.cons eZ rfl VWk.rfl SL.nil)) BL.nil BK.nil)⟩
        · refine AW.block ?_
          refine AW.seq ?_
          refine AW.seqJ (fun t10 : Bool => (spec_LocksOk_j10 s5 a1 (spec_LocksOk_j8 kb6 s5)) t10 = some r) (fun t10 => mk [(0, (.one (.d (.sl 4 (List.map d_TLock a1))))), (3, (.one (.d (.int .i64 s5)))), (38, (.one (.d (.bool t10))))] [] noG) ?_ ?_
          · intro t10 H
            unfold spec_LocksOk_j10 at H
            rcases oite H with ⟨h12, H⟩ | ⟨h12, H⟩
            · refine AW.condT (eR rfl) h12 ?_
              refine AW.seq ?_
              refine AW.regs ?_
              refine oMov eC ?_
              refine xNil ?_
              refine TQ.qn ?_
              refine AW.ret ?_
              refine TQ.qr ?_
              refine BQ.qr ?_
              refine TQ.qr ?_
              refine TQ.qr ?_
              refine BQ.qr ?_
              refine TQ.qr ?_
              obtain rfl := Option.some.inj H
              exact endsR (RL.cons (RV.tmp eZ) (VO.flat rfl) RL.nil) List.nodup_nil
            · refine AW.condF (eR rfl) (nt h12) ?_
              refine AW.skip ?_
              refine TQ.qn ?_
              refine AW.seq ?_
              refine AW.regs ?_
              refine oMov eC ?_
              refine xNil ?_
              refine TQ.qn ?_
              refine AW.block ?_
              refine AW.iter (fun s13 : Int => mk [(0, (.one (.d (.sl 4 (List.map d_TLock a1))))), (3, (.one (.d (.int .i64 s5)))), (4, (.one (.d (.int .i64 s13))))] [] noG) H (wk_mk [] (SL.cons (eS rfl eZ) rfl VWk.rfl (SL.cons (eR rfl) rfl VWk.rfl (SL.cons eZ rfl VWk.rfl SL.nil))) BL.nil BK.nil) ?_
              intro kb14 s13 H
              unfold spec_LocksOk_b13 at H
              refine AW.seq ?_
              refine AW.seq ?_
              refine AW.regs ?_
              refine oMov (eR rfl) ?_
              refine oMov (eR rfl) ?_
              refine oLss (eS rfl eZ) eZ ?_
              refine xNil ?_
              refine TQ.qn ?_
              rcases oite H with ⟨h15, H⟩ | ⟨h15, H⟩
              · refine AW.condT eZ (decide_eq_true h15) ?_
                refine AW.skip ?_
                refine TQ.qn ?_
                refine AW.seq ?_
                refine AW.block ?_
                refine AW.seq ?_
                refine AW.regd ?_
                refine oMov (eR rfl) ?_
                refine oMov (eR rfl) ?_
                obtain ⟨v16, h17, H⟩ := obind H
                refine oAtD (eS rfl eZ) eZ h17 ?_
                refine oLoadBA (es := [(.d (.int .i64 v16.Tx)), (.d (.int .i64 v16.Lo)), (.d (.int .i64 v16.Hi)), (.d (.int .i64 v16.Mode))]) eZ rfl ?_
                refine oMov (eR rfl) ?_
                refine oMov (eR rfl) ?_
                obtain ⟨v18, h19, H⟩ := obind H
                refine oAtD (eS rfl eZ) eZ h19 ?_
                refine oLoadBA (es := [(.d (.int .i64 v18.Tx)), (.d (.int .i64 v18.Lo)), (.d (.int .i64 v18.Hi)), (.d (.int .i64 v18.Mode))]) eZ rfl ?_
                obtain ⟨v20, h21, H⟩ := obind H
                refine oCall (u := (.one (.d (.bool v20)))) eC Cl.fn (c_spec_l12Clash h21) (Evs.cons (eR rfl) (Evs.cons eZ Evs.nil)) (VDs.cons (VD.agg rfl) (VDs.cons (VD.agg rfl) VDs.nil)) rfl ?_
                refine xNil ?_
                refine TQ.qn ?_
                rcases oite H with ⟨h22, H⟩ | ⟨h22, H⟩
                · refine AW.condT eZ h22 ?_
                  refine AW.seq ?_
                  refine AW.regs ?_
                  refine oMov eC ?_
                  refine xNil ?_
                  refine TQ.qn ?_
                  refine AW.weaken (wk_mk [] (SL.cons (k := 2) eZ rfl VWk.rfl SL.nil) BL.nil BK.nil) ?_
                  refine AW.ret ?_
                  refine BQ.qr ?_
                  refine TQ.qr ?_
                  refine TQ.qr ?_
                  refine BQ.qr ?_
                  refine BQ.qr ?_
                  refine TQ.qr ?_
                  refine TQ.qr ?_
                  refine BQ.qr ?_
                  refine TQ.qr ?_
                  obtain rfl := Option.some.inj H
                  exact endsR (RL.cons (RV.tmp eZ) (VO.flat rfl) RL.nil) List.nodup_nil
                · refine AW.condF eZ (nt h22) ?_
                  refine AW.skip ?_
                  refine BQ.qn ?_
                  refine TQ.qn ?_
                  refine AW.regs ?_
                  refine oMov (eR rfl) ?_
                  refine oAdd eZ eC ?_
                  refine oMov eZ ?_
                  refine xNil ?_
                  exact TQ.qn ⟨(IntKind.wrap .i64 (s13 + 1)), H, (wk_mk [] (SL.cons (eR rfl) rfl VWk.rfl (SL.cons (eR rfl) rfl VWk.rfl (SL.cons eZ rfl VWk.rfl SL.nil))) BL.nil BK.nil)⟩
              · refine AW.condF eZ (decide_eq_false h15) ?_
                refine AW.exit ?_
                refine TQ.qe ?_
                refine TQ.qe ?_
                refine BQ.qe ?_
                refine BQ.qn ?_
                exact TQ.qn ⟨(), H, (wk_mk [] (SL.cons (eR rfl) rfl VWk.rfl (SL.cons (eR rfl) rfl VWk.rfl SL.nil)) BL.nil BK.nil)⟩
          · refine AW.regs ?_
            refine oMov (eR rfl) ?_
            refine oMov (eR rfl) ?_
            obtain ⟨v23, h24, H⟩ := obind H
            refine oAtD (eS rfl eZ) eZ h24 ?_
            refine oFaddrB (m := 0) eZ rfl ?_
            refine oLoadB (e := (.int .i64 v23.Tx)) eZ rfl ?_
            obtain ⟨v25, h26, H⟩ := obind H
            refine oCall (u := (.one (.d (.bool v25)))) eC Cl.fn (c_spec_l12Tx h26) (Evs.cons eZ Evs.nil) (VDs.cons VD.plain VDs.nil) rfl ?_
            refine oInv eZ ?_
            refine oMov eZ ?_
            rcases oite H with ⟨h27, H⟩ | ⟨h27, H⟩
            · refine gDo eZ (congrArg Bool.not h27) ?_
              refine oMov (eR rfl) ?_
              refine gDo (eS rfl eZ) (congrArg Bool.not h27) ?_
              refine oMov (eR rfl) ?_
              refine gDo (eR rfl) (congrArg Bool.not h27) ?_
              obtain ⟨v28, h29, H⟩ := obind H
              refine oAtD (eS rfl eZ) eZ h29 ?_
              refine gDo (eR rfl) (congrArg Bool.not h27) ?_
              refine oLoadBA (es := [(.d (.int .i64 v28.Tx)), (.d (.int .i64 v28.Lo)), (.d (.int .i64 v28.Hi)), (.d (.int .i64 v28.Mode))]) eZ rfl ?_
              refine gDo (eR rfl) (congrArg Bool.not h27) ?_
              obtain ⟨v30, h31, H⟩ := obind H
              refine oCall (u := (.agg [(.d (.int .i64 v30.Lo)), (.d (.int .i64 v30.Hi))])) eC Cl.fn (c_spec_l12Range h31) (Evs.cons eZ Evs.nil) (VDs.cons (VD.agg rfl) VDs.nil) rfl ?_
              refine gDo (eR rfl) (congrArg Bool.not h27) ?_
              obtain ⟨v32, h33, H⟩ := obind H
              refine oCall (u := (.one (.d (.bool v32)))) eC Cl.fn (c_spec_RangeOk h33) (Evs.cons eZ Evs.nil) (VDs.cons (VD.agg rfl) VDs.nil) rfl ?_
              refine gDo (eR rfl) (congrArg Bool.not h27) ?_
              refine oInv eZ ?_
              refine oPickF (eR rfl) (congrArg Bool.not h27) eZ ?_
              refine oMov eZ ?_
              rcases oite H with ⟨h34, H⟩ | ⟨h34, H⟩
              · refine gDo eZ (congrArg Bool.not h34) ?_
                refine oMov (eR rfl) ?_
                refine gDo (eS rfl eZ) (congrArg Bool.not h34) ?_
                refine oMov (eR rfl) ?_
                refine gDo (eR rfl) (congrArg Bool.not h34) ?_
                obtain ⟨v35, h36, H⟩ := obind H
                refine oAtD (eS rfl eZ) eZ h36 ?_
                refine gDo (eR rfl) (congrArg Bool.not h34) ?_
                refine oFaddrB (m := 3) eZ rfl ?_
                refine gDo (eR rfl) (congrArg Bool.not h34) ?_
                refine oLoadB (e := (.int .i64 v35.Mode)) eZ rfl ?_
                refine gDo (eR rfl) (congrArg Bool.not h34) ?_
                obtain ⟨v37, h38, H⟩ := obind H
                refine oCall (u := (.one (.d (.bool v37)))) eC Cl.fn (c_spec_l12Mode h38) (Evs.cons eZ Evs.nil) (VDs.cons VD.plain VDs.nil) rfl ?_
                refine gDo (eR rfl) (congrArg Bool.not h34) ?_
                refine oInv eZ ?_
                refine oPickF (eR rfl) (congrArg Bool.not h34) eZ ?_
                refine xNil ?_
                exact TQ.qn ⟨(!v37), H, (wk_mk [] (SL.cons (eR rfl) rfl VWk.rfl (SL.cons (eR rfl) rfl VWk.rfl (SL.cons eZ rfl VWk.rfl SL.nil))) BL.nil BK.nil)⟩
              · refine gSkip eZ (congrArg Bool.not (nt h34)) rfl ?_
                refine gSkip (eS rfl eZ) (congrArg Bool.not (nt h34)) rfl ?_
                refine gSkip (eR rfl) (congrArg Bool.not (nt h34)) rfl ?_
                refine gSkip (eR rfl) (congrArg Bool.not (nt h34)) rfl ?_
                refine gSkip (eR rfl) (congrArg Bool.not (nt h34)) rfl ?_
                refine gSkip (eR rfl) (congrArg Bool.not (nt h34)) rfl ?_
                refine gSkip (eR rfl) (congrArg Bool.not (nt h34)) rfl ?_
                refine oPickT (eR rfl) (congrArg Bool.not (nt h34)) eC ?_
                refine xNil ?_
                exact TQ.qn ⟨true, H, (wk_mk [] (SL.cons (eR rfl) rfl VWk.rfl (SL.cons (eR rfl) rfl VWk.rfl (SL.cons eZ rfl VWk.rfl SL.nil))) BL.nil BK.nil)⟩
            · refine gSkip eZ (congrArg Bool.not (nt h27)) rfl ?_
              refine gSkip (eS rfl eZ) (congrArg Bool.not (nt h27)) rfl ?_
              refine gSkip (eR rfl) (congrArg Bool.not (nt h27)) rfl ?_
              refine gSkip (eR rfl) (congrArg Bool.not (nt h27)) rfl ?_
              refine gSkip (eR rfl) (congrArg Bool.not (nt h27)) rfl ?_
              refine gSkip (eR rfl) (congrArg Bool.not (nt h27)) rfl ?_
              refine gSkip (eR rfl) (congrArg Bool.not (nt h27)) rfl ?_
              refine oPickT (eR rfl) (congrArg Bool.not (nt h27)) eC ?_
              refine oMov eZ ?_
              refine gSkip eZ rfl rfl ?_
              refine gSkip (eS rfl eZ) rfl rfl ?_
              refine gSkip (eR rfl) rfl rfl ?_
              refine gSkip (eR rfl) rfl rfl ?_
              refine gSkip (eR rfl) rfl rfl ?_
              refine gSkip (eR rfl) rfl rfl ?_
              refine gSkip (eR rfl) rfl rfl ?_
              refine oPickT (eR rfl) rfl eC ?_
              refine xNil ?_
              exact TQ.qn ⟨true, H, (wk_mk [] (SL.cons (eR rfl) rfl VWk.rfl (SL.cons (eR rfl) rfl VWk.rfl (SL.cons eZ rfl VWk.rfl SL.nil))) BL.nil BK.nil)⟩
      · refine AW.condF eZ (decide_eq_false h7) ?_
        refine AW.exit ?_
        refine TQ.qe ?_
        refine TQ.qe ?_
        refine BQ.qe ?_
        exact TQ.qn ⟨(), H, (wk_mk [] SL.nil BL.nil BK.nil)⟩

theorem c_spec_l12Right {a1 : (List TLock)} {a2 : (List Int)} {a3 : Int} {a4 : TRange} {a5 : Int} {r : Bool} (H : m_spec_l12Right a1 a2 a3 a4 a5 = some r) : Fn Try.prog k_spec_l12Right (lent [(.sl 4 (List.map d_TLock a1)), (.sl 1 (List.map d_i64 a2)), (.int .i64 a3), (.agg (d_TRange a4)), (.int .i64 a5)]) true [(.bool r)] := by
  refine i_spec_l12Right_fn (Nat.le_of_ble_eq_true rfl) ?_
  rw [init_mk]
  refine AW.weaken (wk_mk [] (SL.cons (v := (.one (.d (.sl 4 (List.map d_TLock a1))))) eZ rfl VWk.rfl (SL.cons (v := (.one (.d (.sl 1 (List.map d_i64 a2))))) (eS rfl eZ) rfl VWk.rfl (SL.cons (v := (.one (.d (.int .i64 a3)))) (eS rfl (eS rfl eZ)) rfl VWk.rfl (SL.cons (v := (.agg [(.d (.int .i64 a4.Lo)), (.d (.int .i64 a4.Hi))])) (eS rfl (eS rfl (eS rfl eZ))) rfl VWk.rfl (SL.cons (v := (.one (.d (.int .i64 a5)))) (eS rfl (eS rfl (eS rfl (eS rfl eZ)))) rfl VWk.rfl SL.nil))))) BL.nil BK.nil) ?_
  unfold m_spec_l12Right at H
  unfold i_spec_l12Right
  refine AW.seq ?_
  refine AW.regs ?_
  refine oBox (n := 512) (m := 2) (cs := [(.d (.int .i64 a4.Lo)), (.d (.int .i64 a4.Hi))]) rfl (eR rfl) rfl rfl nZ ?_
  refine oMov eC ?_
  refine xNil ?_
  refine TQ.qn ?_
  refine AW.seq ?_
  refine AW.regs ?_
  refine oMov (eR rfl) ?_
  obtain ⟨v6, h7, H⟩ := obind H
  refine oCall (u := (.one (.d (.bool v6)))) eC Cl.fn (c_spec_LocksOk h7) (Evs.cons eZ Evs.nil) (VDs.cons VD.plain VDs.nil) rfl ?_
  refine oMov eZ ?_
  rcases oite H with ⟨h8, H⟩ | ⟨h8, H⟩
  · refine gDo eZ h8 ?_
    refine oMov (eR rfl) ?_
    refine gDo (eS rfl eZ) h8 ?_
    refine oLenD eZ (n := a2.length) (List.length_map _) ?_
    refine gDo (eR rfl) h8 ?_
    refine oLeq eZ eC ?_
    refine oPickT (eR rfl) h8 eZ ?_
    refine oMov eZ ?_
    rcases oite H with ⟨h9, H⟩ | ⟨h9, H⟩
    · refine gDo eZ (decide_eq_true h9) ?_
      refine oMov (eR rfl) ?_
      refine gDo (eS rfl eZ) (decide_eq_true h9) ?_
      obtain ⟨v10, h11, H⟩ := obind H
      refine oCall (u := (.one (.d (.bool v10)))) eC Cl.fn (c_spec_l12Tx h11) (Evs.cons eZ Evs.nil) (VDs.cons VD.plain VDs.nil) rfl ?_
      refine oPickT (eR rfl) (decide_eq_true h9) eZ ?_
      refine oMov eZ ?_
      rcases oite H with ⟨h12, H⟩ | ⟨h12, H⟩
      · refine gDo eZ h12 ?_
        refine oLoadVA (es := [(.d (.int .i64 a4.Lo)), (.d (.int .i64 a4.Hi))]) (eR rfl) bZ rfl ?_
        refine gDo (eS rfl eZ) h12 ?_
        obtain ⟨v13, h14, H⟩ := obind H
        refine oCall (u := (.one (.d (.bool v13)))) eC Cl.fn (c_spec_RangeOk h14) (Evs.cons eZ Evs.nil) (VDs.cons (VD.agg rfl) VDs.nil) rfl ?_
        refine oPickT (eR rfl) h12 eZ ?_
        refine oMov eZ ?_
        rcases oite H with ⟨h15, H⟩ | ⟨h15, H⟩
        · refine gDo eZ h15 ?_
          refine oMov (eR rfl) ?_
          refine gDo (eS rfl eZ) h15 ?_
          obtain ⟨v16, h17, H⟩ := obind H
          refine oCall (u := (.one (.d (.bool v16)))) eC Cl.fn (c_spec_l12Mode h17) (Evs.cons eZ Evs.nil) (VDs.cons VD.plain VDs.nil) rfl ?_
          refine oPickT (eR rfl) h15 eZ ?_
          refine oMov eZ ?_
          refine xNil ?_
          refine TQ.qn ?_
          refine AW.weaken (wk_mk [512] (SL.cons (k := 10) eZ rfl VWk.rfl SL.nil) (BL.drop rfl BL.nil) BK.nil) ?_
          refine AW.ret ?_
          obtain rfl := Option.some.inj H
          exact endsR (RL.cons (RV.tmp eZ) (VO.flat rfl) RL.nil) List.nodup_nil
        · refine gSkip eZ (nt h15) rfl ?_
          refine gSkip (eS rfl eZ) (nt h15) rfl ?_
          refine oPickF (eR rfl) (nt h15) eC ?_
          refine oMov eZ ?_
          refine xNil ?_
          refine TQ.qn ?_
          refine AW.weaken (wk_mk [512] (SL.cons (k := 10) eZ rfl VWk.rfl SL.nil) (BL.drop rfl BL.nil) BK.nil) ?_
          refine AW.ret ?_
          obtain rfl := Option.some.inj H
          exact endsR (RL.cons (RV.tmp eZ) (VO.flat rfl) RL.nil) List.nodup_nil
      · refine gSkip eZ (nt h12) rfl ?_
        refine gSkip (eS rfl eZ) (nt h12) rfl ?_
        refine oPickF (eR rfl) (nt h12) eC ?_
        refine oMov eZ ?_
        refine gSkip eZ rfl rfl ?_
        refine gSkip (eS rfl eZ) rfl rfl ?_
        refine oPickF (eR rfl) rfl eC ?_
        refine oMov eZ ?_
        refine xNil ?_
        refine TQ.qn ?_
        refine AW.weaken (wk_mk [512] (SL.cons (k := 10) eZ rfl VWk.rfl SL.nil) (BL.drop rfl BL.nil) BK.nil) ?_
        refine AW.ret ?_
        obtain rfl := Option.some.inj H
        exact endsR (RL.cons (RV.tmp eZ) (VO.flat rfl) RL.nil) List.nodup_nil
    · refine gSkip eZ (decide_eq_false h9) rfl ?_
      refine gSkip (eS rfl eZ) (decide_eq_false h9) rfl ?_
      refine oPickF (eR rfl) (decide_eq_false h9) eC ?_
      refine oMov eZ ?_
      refine gSkip eZ rfl rfl ?_
      refine gSkip (eS rfl eZ) rfl rfl ?_
      refine oPickF (eR rfl) rfl eC ?_
      refine oMov eZ ?_
      refine gSkip eZ rfl rfl ?_
      refine gSkip (eS rfl eZ) rfl rfl ?_
      refine oPickF (eR rfl) rfl eC ?_
      refine oMov eZ ?_
      refine xNil ?_
      refine TQ.qn ?_
      refine AW.weaken (wk_mk [512] (SL.cons (k := 10) eZ rfl VWk.rfl SL.nil) (BL.drop rfl BL.nil) BK.nil) ?_
      refine AW.ret ?_
      obtain rfl := Option.some.inj H
      exact endsR (RL.cons (RV.tmp eZ) (VO.flat rfl) RL.nil) List.nodup_nil
  · refine gSkip eZ (nt h8) rfl ?_
    refine gSkip (eS rfl eZ) (nt h8) rfl ?_
    refine gSkip (eR rfl) (nt h8) rfl ?_
    refine oPickF (eR rfl) (nt h8) eC ?_
    refine oMov eZ ?_
    refine gSkip eZ rfl rfl ?_
    refine gSkip (eS rfl eZ) rfl rfl ?_
    refine oPickF (eR rfl) rfl eC ?_
    refine oMov eZ ?_
    refine gSkip eZ rfl rfl ?_
    refine gSkip (eS rfl eZ) rfl rfl ?_
    refine oPickF (eR rfl) rfl eC ?_
    refine oMov eZ ?_
    refine gSkip eZ rfl rfl ?_
    refine gSkip (eS rfl eZ) rfl rfl ?_
    refine oPickF (eR rfl) rfl eC ?_
    refine oMov eZ ?_
    refine xNil ?_
    refine TQ.qn ?_
    refine AW.weaken (wk_mk [512] (SL.cons (k := 10) eZ rfl VWk.rfl SL.nil) (BL.drop rfl BL.nil) BK.nil) ?_
    refine AW.ret ?_
    obtain rfl := Option.some.inj H
    exact endsR (RL.cons (RV.tmp eZ) (VO.flat rfl) RL.nil) List.nodup_nil

theorem c_spec_RangeIn {a1 : TRange} {a2 : TRange} {r : Bool} (H : m_spec_RangeIn a1 a2 = some r) : Fn Try.prog k_spec_RangeIn (lent [(.agg (d_TRange a1)), (.agg (d_TRange a2))]) true [(.bool r)] := by
  refine i_spec_RangeIn_fn (Nat.le_of_ble_eq_true rfl) ?_
  rw [init_mk]
  refine AW.weaken (wk_mk [] (SL.cons (v := (.agg [(.d (.int .i64 a1.Lo)), (.d (.int .i64 a1.Hi))])) eZ rfl VWk.rfl (SL.cons (v := (.agg [(.d (.int .i64 a2.Lo)), (.d (.int .i64 a2.Hi))])) (eS rfl eZ) rfl VWk.rfl SL.nil)) BL.nil BK.nil) ?_
  unfold m_spec_RangeIn at H
  unfold i_spec_RangeIn
  refine AW.seq ?_
  refine AW.regs ?_
  refine oBox (n := 128) (m := 2) (cs := [(.d (.int .i64 a1.Lo)), (.d (.int .i64 a1.Hi))]) rfl eZ rfl rfl nZ ?_
  refine oBox (n := 192) (m := 2) (cs := [(.d (.int .i64 a2.Lo)), (.d (.int .i64 a2.Hi))]) rfl (eR rfl) rfl rfl (nS rfl nZ) ?_
  refine oMov eC ?_
  refine xNil ?_
  refine TQ.qn ?_
  refine AW.seq ?_
  refine AW.regs ?_
  refine oLoadVA (es := [(.d (.int .i64 a1.Lo)), (.d (.int .i64 a1.Hi))]) (eR rfl) (bS rfl bZ) rfl ?_
  obtain ⟨v3, h4, H⟩ := obind H
  refine oCall (u := (.one (.d (.bool v3)))) eC Cl.fn (c_spec_RangeOk h4) (Evs.cons eZ Evs.nil) (VDs.cons (VD.agg rfl) VDs.nil) rfl ?_
  refine oMov eZ ?_
  rcases oite H with ⟨h5, H⟩ | ⟨h5, H⟩
  · refine gDo eZ h5 ?_
    refine oLoadVA (es := [(.d (.int .i64 a2.Lo)), (.d (.int .i64 a2.Hi))]) (eR rfl) bZ rfl ?_
    refine gDo (eS rfl eZ) h5 ?_
    obtain ⟨v6, h7, H⟩ := obind H
    refine oCall (u := (.one (.d (.bool v6)))) eC Cl.fn (c_spec_RangeOk h7) (Evs.cons eZ Evs.nil) (VDs.cons (VD.agg rfl) VDs.nil) rfl ?_
    refine oPickT (eR rfl) h5 eZ ?_
    refine oMov eZ ?_
    rcases oite H with ⟨h8, H⟩ | ⟨h8, H⟩
    · refine gDo eZ h8 ?_
      refine oFaddrN (m := 0) (eR rfl) rfl ?_
      refine gDo (eS rfl eZ) h8 ?_
      refine oLoadV (q := 0) (c := (.d (.int .i64 a1.Lo))) eZ (bS rfl bZ) rfl rfl ?_
      refine gDo (eR rfl) h8 ?_
      refine oFaddrN (m := 0) (eR rfl) rfl ?_
      refine gDo (eR rfl) h8 ?_
      refine oLoadV (q := 0) (c := (.d (.int .i64 a2.Lo))) eZ bZ rfl rfl ?_
      refine gDo (eR rfl) h8 ?_
      refine oGeq (eR rfl) eZ ?_
      refine oPickT (eR rfl) h8 eZ ?_
      refine oMov eZ ?_
      rcases oite H with ⟨h9, H⟩ | ⟨h9, H⟩
      · refine gDo eZ (decide_eq_true h9) ?_
        refine oFaddrN (m := 1) (eR rfl) rfl ?_
        refine gDo (eS rfl eZ) (decide_eq_true h9) ?_
        refine oLoadV (q := 1) (c := (.d (.int .i64 a1.Hi))) eZ (bS rfl bZ) rfl rfl ?_
        refine gDo (eR rfl) (decide_eq_true h9) ?_
        refine oFaddrN (m := 1) (eR rfl) rfl ?_
        refine gDo (eR rfl) (decide_eq_true h9) ?_
        refine oLoadV (q := 1) (c := (.d (.int .i64 a2.Hi))) eZ bZ rfl rfl ?_
        refine gDo (eR rfl) (decide_eq_true h9) ?_
        refine oLeq (eR rfl) eZ ?_
        refine oPickT (eR rfl) (decide_eq_true h9) eZ ?_
        refine oMov eZ ?_
        refine xNil ?_
        refine TQ.qn ?_
        refine AW.weaken (wk_mk [192, 128] (SL.cons (k := 4) eZ rfl VWk.rfl SL.nil) (BL.drop rfl (BL.drop rfl BL.nil)) BK.nil) ?_
        refine AW.ret ?_
        obtain rfl := Option.some.inj H
        exact endsR (RL.cons (RV.tmp eZ) (VO.flat rfl) RL.nil) List.nodup_nil
      · refine gSkip eZ (decide_eq_false h9) rfl ?_
        refine gSkip (eS rfl eZ) (decide_eq_false h9) rfl ?_
        refine gSkip (eR rfl) (decide_eq_false h9) rfl ?_
        refine gSkip (eR rfl) (decide_eq_false h9) rfl ?_
        refine gSkip (eR rfl) (decide_eq_false h9) rfl ?_
        refine oPickF (eR rfl) (decide_eq_false h9) eC ?_
        refine oMov eZ ?_
        refine xNil ?_
        refine TQ.qn ?_
        refine AW.weaken (wk_mk [192, 128] (SL.cons (k := 4) eZ rfl VWk.rfl SL.nil) (BL.drop rfl (BL.drop rfl BL.nil)) BK.nil) ?_
        refine AW.ret ?_
        obtain rfl := Option.some.inj H
        exact endsR (RL.cons (RV.tmp eZ) (VO.flat rfl) RL.nil) List.nodup_nil
    · refine gSkip eZ (nt h8) rfl ?_
      refine gSkip (eS rfl eZ) (nt h8) rfl ?_
      refine gSkip (eR rfl) (nt h8) rfl ?_
      refine gSkip (eR rfl) (nt h8) rfl ?_
      refine gSkip (eR rfl) (nt h8) rfl ?_
      refine oPickF (eR rfl) (nt h8) eC ?_
      refine oMov eZ ?_
      refine gSkip eZ rfl rfl ?_
      refine gSkip (eS rfl eZ) rfl rfl ?_
      refine gSkip (eR rfl) rfl rfl ?_
      refine gSkip (eR rfl) rfl rfl ?_
      refine gSkip (eR rfl) rfl rfl ?_
      refine oPickF (eR rfl) rfl eC ?_
      refine oMov eZ ?_
      refine xNil ?_
      refine TQ.qn ?_
      refine AW.weaken (wk_mk [192, 128] (SL.cons (k := 4) eZ rfl VWk.rfl SL.nil) (BL.drop rfl (BL.drop rfl BL.nil)) BK.nil) ?_
      refine AW.ret ?_
      obtain rfl := Option.some.inj H
      exact endsR (RL.cons (RV.tmp eZ) (VO.flat rfl) RL.nil) List.nodup_nil
  · refine gSkip eZ (nt h5) rfl ?_
    refine gSkip (eS rfl eZ) (nt h5) rfl ?_
    refine oPickF (eR rfl) (nt h5) eC ?_
    refine oMov eZ ?_
    refine gSkip eZ rfl rfl ?_
    refine gSkip (eS rfl eZ) rfl rfl ?_
    refine gSkip (eR rfl) rfl rfl ?_
    refine gSkip (eR rfl) rfl rfl ?_
    refine gSkip (eR rfl) rfl rfl ?_
    refine oPickF (eR rfl) rfl eC ?_
    refine oMov eZ ?_
    refine gSkip eZ rfl rfl ?_
    refine gSkip (eS rfl eZ) rfl rfl ?_
    refine gSkip (eR rfl) rfl rfl ?_
    refine gSkip (eR rfl) rfl rfl ?_
    refine gSkip (eR rfl) rfl rfl ?_
    refine oPickF (eR rfl) rfl eC ?_
    refine oMov eZ ?_
    refine xNil ?_
    refine TQ.qn ?_
    refine AW.weaken (wk_mk [192, 128] (SL.cons (k := 4) eZ rfl VWk.rfl SL.nil) (BL.drop rfl (BL.drop rfl BL.nil)) BK.nil) ?_
    refine AW.ret ?_
    obtain rfl := Option.some.inj H
    exact endsR (RL.cons (RV.tmp eZ) (VO.flat rfl) RL.nil) List.nodup_nil

theorem c_spec_l12Holds {a1 : (List TLock)} {a2 : Int} {a3 : TRange} {a4 : Int} {r : Bool} (H : m_spec_l12Holds a1 a2 a3 a4 = some r) : Fn Try.prog k_spec_l12Holds (lent [(.sl 4 (List.map d_TLock a1)), (.int .i64 a2), (.agg (d_TRange a3)), (.int .i64 a4)]) true [(.bool r)] := by
  refine i_spec_l12Holds_fn (Nat.le_of_ble_eq_true rfl) ?_
  rw [init_mk]
  refine AW.weaken (wk_mk [] (SL.cons (v := (.one (.d (.sl 4 (List.map d_TLock a1))))) eZ rfl VWk.rfl (SL.cons (v := (.one (.d (.int .i64 a2)))) (eS rfl eZ) rfl VWk.rfl (SL.cons (v := (.agg [(.d (.int .i64 a3.Lo)), (.d (.int .i64 a3.Hi))])) (eS rfl (eS rfl eZ)) rfl VWk.rfl (SL.cons (v := (.one (.d (.int .i64 a4)))) (eS rfl (eS rfl (eS rfl eZ))) rfl VWk.rfl SL.nil)))) BL.nil BK.nil) ?_
  unfold m_spec_l12Holds at H
  unfold i_spec_l12Holds
  refine AW.seq ?_
  refine AW.regs ?_
  refine oBox (n := 384) (m := 2) (cs := [(.d (.int .i64 a3.Lo)), (.d (.int .i64 a3.Hi))]) rfl (eR rfl) rfl rfl nZ ?_
  refine oMov eC ?_
  refine xNil ?_
  refine TQ.qn ?_
  refine AW.seqJ (fun t5 : Unit => spec_l12Holds_j5 t5 = some r) (fun t5 => mk [] [] noG) ?_ ?_
  · intro t5 H
    unfold spec_l12Holds_j5 at H
    refine AW.seq ?_
    refine AW.regs ?_
    refine oMov eC ?_
    refine xNil ?_
    refine TQ.qn ?_
    refine AW.ret ?_
    obtain rfl := Option.some.inj H
    exact endsR (RL.cons (RV.tmp eZ) (VO.flat rfl) RL.nil) List.nodup_nil
  · refine AW.seq ?_
    refine AW.regs ?_
    refine oMov eC ?_
    refine xNil ?_
    refine TQ.qn ?_
    refine AW.block ?_
    refine AW.iter (fun s7 : Int => mk [(0, (.one (.d (.sl 4 (List.map d_TLock a1))))), (1, (.one (.d (.int .i64 a2)))), (3, (.one (.d (.int .i64 a4)))), (6, (.one (.ptr (.nm 384 0 0)))), (9, (.one (.d (.int .i64 s7))))] [(384, (.vars 2 [(.d (.int .i64 a3.Lo)), (.d (.int .i64 a3.Hi))]))] noG) H (wk_mk [] (SL.cons (eR rfl) rfl VWk.rfl (SL.cons (eR rfl) rfl VWk.rfl (SL.cons (eR rfl) rfl VWk.rfl (SL.cons (eR rfl) rfl VWk.rfl (SL.cons eZ rfl VWk.rfl SL.nil))))) (BL.keep rfl BL.nil) (BK.cons rfl bZ rfl rfl BK.nil)) ?_
    intro kb8 s7 H
    unfold spec_l12Holds_b7 at H
    refine AW.seq ?_
    refine AW.seq ?_
    refine AW.regs ?_
    refine oMov (eR rfl) ?_
    refine oMov (eS rfl eZ) ?_
    refine oLenD eZ (n := a1.length) (List.length_map _) ?_
    refine oLss (eR rfl) eZ ?_
    refine xNil ?_
    refine TQ.qn ?_
    rcases oite H with ⟨h9, H⟩ | ⟨h9, H⟩
    · refine AW.condT eZ (decide_eq_true h9) ?_
      refine AW.skip ?_
      refine TQ.qn ?_
      refine AW.seq ?_
      refine AW.block ?_
      refine AW.seqJ (fun t10 : Bool => (spec_l12Holds_j10 kb8 s7) t10 = some r) (fun t10 => mk [(0, (.one (.d (.sl 4 (List.map d_TLock a1))))), (1, (.one (.d (.int .i64 a2)))), (3, (.one (.d (.int .i64 a4)))), (6, (.one (.ptr (.nm 384 0 0)))), (9, (.one (.d (.int .i64 s7)))), (40, (.one (.d (.bool t10))))] [(384, (.vars 2 [(.d (.int .i64 a3.Lo)), (.d (.int .i64 a3.Hi))]))] noG) ?_ ?_
      · intro t10 H
        unfold spec_l12Holds_j10 at H
        rcases oite H with ⟨h12, H⟩ | ⟨h12, H⟩
        · refine AW.condT (eR rfl) h12 ?_
          refine AW.seq ?_
          refine AW.regs ?_
          refine oMov eC ?_
          refine xNil ?_
          refine TQ.qn ?_
          refine AW.ret ?_
          refine BQ.qr ?_
          refine TQ.qr ?_
          refine TQ.qr ?_
          refine BQ.qr ?_
          refine TQ.qr ?_
          obtain rfl := Option.some.inj H
          exact endsR (RL.cons (RV.tmp eZ) (VO.flat rfl) RL.nil) List.nodup_nil
        · refine AW.condF (eR rfl) (nt h12) ?_
          refine AW.skip ?_
          refine BQ.qn ?_
          refine TQ.qn ?_
          refine AW.regs ?_
          refine oMov (eR rfl) ?_
          refine oAdd eZ eC ?_
          refine oMov eZ ?_
          refine xNil ?_
          exact TQ.qn ⟨(IntKind.wrap .i64 (s7 + 1)), H, (wk_mk [] (SL.cons (eR rfl) rfl VWk.rfl (SL.cons (eR rfl) rfl VWk.rfl (SL.cons (eR rfl) rfl VWk.rfl (SL.cons (eR rfl) rfl VWk.rfl (SL.cons eZ rfl VWk.rfl SL.nil))))) (BL.keep rfl BL.nil) (BK.cons rfl bZ rfl rfl BK.nil))⟩
      · refine AW.regd ?_
        refine oMov (eR rfl) ?_
        refine oMov (eR rfl) ?_
        obtain ⟨v13, h14, H⟩ := obind H
        refine oAtD (eS rfl eZ) eZ h14 ?_
        refine oFaddrB (m := 0) eZ rfl ?_
        refine oLoadB (e := (.int .i64 v13.Tx)) eZ rfl ?_
        refine oMov (eR rfl) ?_
        refine oEql (eS rfl eZ) eZ ?_
        refine oMov eZ ?_
        rcases oite H with ⟨h15, H⟩ | ⟨h15, H⟩
        · refine gDo eZ (decide_eq_true h15) ?_
          refine oLoadVA (es := [(.d (.int .i64 a3.Lo)), (.d (.int .i64 a3.Hi))]) (eR rfl) (hB rfl bZ) rfl ?_
          refine gDo (eS rfl eZ) (decide_eq_true h15) ?_
          refine oMov (eR rfl) ?_
          refine gDo (eR rfl) (decide_eq_true h15) ?_
          refine oMov (eR rfl) ?_
          refine gDo (eR rfl) (decide_eq_true h15) ?_
          obtain ⟨v16, h17, H⟩ := obind H
          refine oAtD (eS rfl eZ) eZ h17 ?_
          refine gDo (eR rfl) (decide_eq_true h15) ?_
          refine oLoadBA (es := [(.d (.int .i64 v16.Tx)), (.d (.int .i64 v16.Lo)), (.d (.int .i64 v16.Hi)), (.d (.int .i64 v16.Mode))]) eZ rfl ?_
          refine gDo (eR rfl) (decide_eq_true h15) ?_
          obtain ⟨v18, h19, H⟩ := obind H
          refine oCall (u := (.agg [(.d (.int .i64 v18.Lo)), (.d (.int .i64 v18.Hi))])) eC Cl.fn (c_spec_l12Range h19) (Evs.cons eZ Evs.nil) (VDs.cons (VD.agg rfl) VDs.nil) rfl ?_
          refine gDo (eR rfl) (decide_eq_true h15) ?_
          obtain ⟨v20, h21, H⟩ := obind H
          refine oCall (u := (.one (.d (.bool v20)))) eC Cl.fn (c_spec_RangeIn h21) (Evs.cons (eR rfl) (Evs.cons eZ Evs.nil)) (VDs.cons (VD.agg rfl) (VDs.cons (VD.agg rfl) VDs.nil)) rfl ?_
          refine oPickT (eR rfl) (decide_eq_true h15) eZ ?_
          refine oMov eZ ?_
          rcases oite H with ⟨h22, H⟩ | ⟨h22, H⟩
          · refine gDo eZ h22 ?_
            refine oMov (eR rfl) ?_
            refine gDo (eS rfl eZ) h22 ?_
            refine oMov (eR rfl) ?_
            refine gDo (eR rfl) h22 ?_
            obtain ⟨v23, h24, H⟩ := obind H
            refine oAtD (eS rfl eZ) eZ h24 ?_
            refine gDo (eR rfl) h22 ?_
            refine oFaddrB (m := 3) eZ rfl ?_
            refine gDo (eR rfl) h22 ?_
            refine oLoadB (e := (.int .i64 v23.Mode)) eZ rfl ?_
            refine gDo (eR rfl) h22 ?_
            refine oMov (eR rfl) ?_
            refine gDo (eR rfl) h22 ?_
            refine oGeq (eS rfl eZ) eZ ?_
            refine oPickT (eR rfl) h22 eZ ?_
            refine xNil ?_
            exact TQ.qn ⟨(decide (a4 ≤ v23.Mode)), H, (wk_mk [] (SL.cons (eR rfl) rfl VWk.rfl (SL.cons (eR rfl) rfl VWk.rfl (SL.cons (eR rfl) rfl VWk.rfl (SL.cons (eR rfl) rfl VWk.rfl (SL.cons (eR rfl) rfl VWk.rfl (SL.cons eZ rfl VWk.rfl SL.nil)))))) (BL.keep rfl BL.nil) (BK.cons rfl bZ rfl rfl BK.nil))⟩
          · refine gSkip eZ (nt h22) rfl ?_
            refine gSkip (eS rfl eZ) (nt h22) rfl ?_
            refine gSkip (eR rfl) (nt h22) rfl ?_
            refine gSkip (eR rfl) (nt h22) rfl ?_
            refine gSkip (eR rfl) (nt h22) rfl ?_
            refine gSkip (eR rfl) (nt h22) rfl ?_
            refine gSkip (eR rfl) (nt h22) rfl ?_
            refine oPickF (eR rfl) (nt h22) eC ?_
            refine xNil ?_
            exact TQ.qn ⟨false, H, (wk_mk [] (SL.cons (eR rfl) rfl VWk.rfl (SL.cons (eR rfl) rfl VWk.rfl (SL.cons (eR rfl) rfl VWk.rfl (SL.cons (eR rfl) rfl VWk.rfl (SL.cons (eR rfl) rfl VWk.rfl (SL.cons eZ rfl VWk.rfl SL.nil)))))) (BL.keep rfl BL.nil) (BK.cons rfl bZ rfl rfl BK.nil))⟩
        · refine gSkip eZ (decide_eq_false h15) rfl ?_
          refine gSkip (eS rfl eZ) (decide_eq_false h15) rfl ?_
          refine gSkip (eR rfl) (decide_eq_false h15) rfl ?_
          refine gSkip (eR rfl) (decide_eq_false h15) rfl ?_
          refine gSkip (eR rfl) (decide_eq_false h15) rfl ?_
          refine gSkip (eR rfl) (decide_eq_false h15) rfl ?_
          refine gSkip (eR rfl) (decide_eq_false h15) rfl ?_
          refine oPickF (eR rfl) (decide_eq_false h15) eC ?_
          refine oMov eZ ?_
          refine gSkip eZ rfl rfl ?_
          refine gSkip (eS rfl eZ) rfl rfl ?_
          refine gSkip (eR rfl) rfl rfl ?_
          refine gSkip (eR rfl) rfl rfl ?_
          refine gSkip (eR rfl) rfl rfl ?_
          refine gSkip (eR rfl) rfl rfl ?_
          refine gSkip (eR rfl) rfl rfl ?_
          refine oPickF (eR rfl) rfl eC ?_
          refine xNil ?_
          exact TQ.qn ⟨false, H, (wk_mk [] (SL.cons (eR rfl) rfl VWk.rfl (SL.cons (eR rfl) rfl VWk.rfl (SL.cons (eR rfl) rfl VWk.rfl (SL.cons (eR rfl) rfl VWk.rfl (SL.cons (eR rfl) rfl VWk.rfl (SL.cons eZ rfl VWk.rfl SL.nil)))))) (BL.keep rfl BL.nil) (BK.cons rfl bZ rfl rfl BK.nil))⟩
    · refine AW.condF eZ (decide_eq_false h9) ?_
      refine AW.exit ?_
      refine TQ.qe ?_
      refine TQ.qe ?_
      refine BQ.qe ?_
      exact TQ.qn ⟨(), H, (wk_mk [384] SL.nil (BL.drop rfl BL.nil) BK.nil)⟩

theorem c_spec_l12Put {a1 : (List Int)} {a2 : Int} {r : (List Int)} (H : m_spec_l12Put a1 a2 = some r) : Fn Try.prog k_spec_l12Put (lent [(.sl 1 (List.map d_i64 a1)), (.int .i64 a2)]) true [(.sl 1 (List.map d_i64 r))] := by
  refine i_spec_l12Put_fn (Nat.le_of_ble_eq_true rfl) ?_
  rw [init_mk]
  refine AW.weaken (wk_mk [] (SL.cons (v := (.one (.d (.sl 1 (List.map d_i64 a1))))) eZ rfl VWk.rfl (SL.cons (v := (.one (.d (.int .i64 a2)))) (eS rfl eZ) rfl VWk.rfl SL.nil)) BL.nil BK.nil) ?_
  unfold m_spec_l12Put at H
  unfold i_spec_l12Put
  refine AW.seq ?_
  refine AW.regs ?_
  refine oMov eC ?_
  refine xNil ?_
  refine TQ.qn ?_
  refine AW.seq ?_
  refine AW.regs ?_
  refine oBsliceZ (m := 512) rfl nZ ?_
  refine oMov eZ ?_
  refine xNil ?_
  refine TQ.qn ?_
  refine AW.seq ?_
  refine AW.regs ?_
  refine oMov eC ?_
  refine xNil ?_
  refine TQ.qn ?_
  refine AW.seqJ (fun t3 : ((List Int) × Bool) => (spec_l12Put_j3 a2) t3 = some r) (fun t3 => mk [(1, (.one (.d (.int .i64 a2)))), (5, (.one (.sl 320320 0 t3.1.length))), (6, (.one (.d (.bool t3.2))))] [(320320, (.data 1 (List.map d_i64 t3.1) true none))] noG) ?_ ?_
  · intro t3 H
    unfold spec_l12Put_j3 at H
    refine AW.seq ?_
    refine AW.seq ?_
    refine AW.regs ?_
    refine oMov (eR rfl) ?_
    refine oInv eZ ?_
    refine xNil ?_
    refine TQ.qn ?_
    rcases oite H with ⟨h5, H⟩ | ⟨h5, H⟩
    · refine AW.condF eZ (congrArg Bool.not h5) ?_
      refine AW.skip ?_
      refine TQ.qn ?_
      refine AW.seq ?_
      refine AW.regs ?_
      refine oMov (eR rfl) ?_
      refine oMov eZ ?_
      refine xNil ?_
      refine TQ.qn ?_
      refine AW.ret ?_
      obtain rfl := Option.some.inj H
      exact endsR (RL.cons (RV.tmp eZ) (VO.sl bZ (List.length_map _) (allFlat fun _ => rfl)) RL.nil) (by decide)
    · refine AW.condT eZ (congrArg Bool.not (nt h5)) ?_
      refine AW.regs ?_
      refine oMov (eR rfl) ?_
      refine oMov (eR rfl) ?_
      refine oBslice (m := 2944) (q := 1) (cs := [(.d (.int .i64 a2))]) rfl (PsCons eZ PsNil) rfl (List.cons_ne_nil _ _) (by simp) (nS rfl nZ) ?_
      obtain ⟨h6, H⟩ := oguard H
      refine oAppN (f := d_i64) (xs := t3.1) (ys := [a2]) (q := (t3.1 ++ ([a2])).length) (eR rfl) eZ (bS rfl bZ) rfl (El.one (f := d_i64) (t := a2) (es := [(.int .i64 a2)]) bZ rfl rfl rfl) rfl h6 (by decide) (by decide) (erL.cons (v' := (.one (.sl 2944 0 1))) rfl (erL.cons (v' := (.one (.d (.int .i64 a2)))) rfl (erL.cons (v' := (.one .any)) rfl (erL.cons (v' := (.one (.d (.bool (!t3.2))))) rfl (erL.cons (v' := (.one (.d (.bool t3.2)))) rfl (erL.cons (v' := (.one (.d (.int .i64 a2)))) rfl (erL.cons (v' := (.one .any)) rfl (erL.cons (v' := (.one (.d (.bool t3.2)))) rfl erL.nil)))))))) (erH.cons (v' := (.vars 1 [(.d (.int .i64 a2))])) rfl rfl (erH.drop rfl erH.nil)) ?_
      refine oMov eZ ?_
      refine xNil ?_
      refine TQ.qn ?_
      refine AW.seq ?_
      refine AW.regs ?_
      refine oMov eZ ?_
      refine oMov eZ ?_
      refine xNil ?_
      refine TQ.qn ?_
      refine AW.ret ?_
      obtain rfl := Option.some.inj H
      exact endsR (RL.cons (RV.tmp eZ) (VO.sl bZ (List.length_map _) (allFlat fun _ => rfl)) RL.nil) (by decide)
  · refine AW.seq ?_
    refine AW.regs ?_
    refine oMov eC ?_
    refine xNil ?_
    refine TQ.qn ?_
    refine AW.block ?_
    refine AW.iter (fun s7 : ((List Int) × Bool × Int) => mk [(0, (.one (.d (.sl 1 (List.map d_i64 a1))))), (1, (.one (.d (.int .i64 a2)))), (5, (.one (.sl 320448 0 s7.1.length))), (6, (.one (.d (.bool s7.2.1)))), (7, (.one (.d (.int .i64 s7.2.2))))] [(320448, (.data 1 (List.map d_i64 s7.1) true none))] noG) H ((wk_mk [] (SL.cons (eR rfl) rfl VWk.rfl (SL.cons (eR rfl) rfl VWk.rfl (SL.cons eZ rfl (VWk.one (CWk.len (by first | (simp; done) | (simp; omega) | omega))) (SL.cons (eR rfl) rfl VWk.rfl (SL.cons (eS rfl eZ) rfl VWk.rfl SL.nil))))) (BL.keep rfl BL.nil) (BK.cons rfl bZ rfl rfl BK.nil)).trans (wk_zs 320448 1 5 true (eR rfl) nZ)) ?_
    intro kb8 s7 H
    unfold spec_l12Put_b7 at H
    refine AW.seq ?_
    refine AW.seq ?_
    refine AW.regs ?_
    refine oMov (eR rfl) ?_
    refine oMov (eS rfl eZ) ?_
    refine oLenD eZ (n := a1.length) (List.length_map _) ?_
    refine oLss (eR rfl) eZ ?_
    refine xNil ?_
    refine TQ.qn ?_
    rcases oite H with ⟨h9, H⟩ | ⟨h9, H⟩
    · refine AW.condT eZ (decide_eq_true h9) ?_
      refine AW.skip ?_
      refine TQ.qn ?_
      refine AW.seq ?_
      refine AW.block ?_
      refine AW.seqJ (fun t10 : ((List Int) × Bool) => (spec_l12Put_j10 a1 s7 a2 kb8) t10 = some r) (fun t10 => mk [(0, (.one (.d (.sl 1 (List.map d_i64 a1))))), (1, (.one (.d (.int .i64 a2)))), (5, (.one (.sl 320576 0 t10.1.length))), (6, (.one (.d (.bool t10.2)))), (7, (.one (.d (.int .i64 s7.2.2))))] [(320576, (.data 1 (List.map d_i64 t10.1) true none))] noG) ?_ ?_
      · intro t10 H
        unfold spec_l12Put_j10 at H
        refine AW.seq ?_
        refine AW.regs ?_
        refine oMov eZ ?_
        refine oMov (eR rfl) ?_
        obtain ⟨v12, h13, H⟩ := obind H
        refine oAtD (eS rfl eZ) eZ h13 ?_
        refine oLoadB (e := (.int .i64 v12)) eZ rfl ?_
        refine oMov (eR rfl) ?_
        refine oNeq (eS rfl eZ) eZ ?_
        refine xNil ?_
        refine TQ.qn ?_
        rcases oite H with ⟨h14, H⟩ | ⟨h14, H⟩
        · refine AW.condT eZ (decide_eq_true h14) ?_
          refine AW.regs ?_
          refine oMov (eR rfl) ?_
          refine oMov (eR rfl) ?_
          refine oMov (eR rfl) ?_
          obtain ⟨v15, h16, H⟩ := obind H
          refine oAtD (eS rfl eZ) eZ h16 ?_
          refine oLoadB (e := (.int .i64 v15)) eZ rfl ?_
          refine oBslice (m := 2560) (q := 1) (cs := [(.d (.int .i64 v15))]) rfl (PsCons eZ PsNil) rfl (List.cons_ne_nil _ _) (by simp) (nS rfl nZ) ?_
          obtain ⟨h17, H⟩ := oguard H
          refine oAppN (f := d_i64) (xs := t10.1) (ys := [v15]) (q := (t10.1 ++ ([v15])).length) (eR rfl) eZ (bS rfl bZ) rfl (El.one (f := d_i64) (t := v15) (es := [(.int .i64 v15)]) bZ rfl rfl rfl) rfl h17 (by decide) (by decide) (erL.cons (v' := (.one (.sl 2560 0 1))) rfl (erL.cons (v' := (.one (.d (.int .i64 v15)))) rfl (erL.cons (v' := (.one (.ptr (.bd (d_i64 v15) 0)))) rfl (erL.cons (v' := (.one (.d (.int .i64 s7.2.2)))) rfl (erL.cons (v' := (.one (.d (.sl 1 (List.map d_i64 a1))))) rfl (erL.cons (v' := (.one .any)) rfl (erL.cons (v' := (.one (.d (.bool (decide (¬ v12 = a2)))))) rfl (erL.cons (v' := (.one (.d (.int .i64 a2)))) rfl (erL.cons (v' := (.one (.d (.int .i64 v12)))) rfl (erL.cons (v' := (.one (.ptr (.bd (d_i64 v12) 0)))) rfl (erL.cons (v' := (.one (.d (.int .i64 s7.2.2)))) rfl (erL.cons (v' := (.one (.d (.sl 1 (List.map d_i64 a1))))) rfl (erL.cons (v' := (.one (.d (.sl 1 (List.map d_i64 a1))))) rfl (erL.cons (v' := (.one (.d (.int .i64 a2)))) rfl (erL.cons (v' := (.one .any)) rfl (erL.cons (v' := (.one (.d (.bool t10.2)))) rfl (erL.cons (v' := (.one (.d (.int .i64 s7.2.2)))) rfl erL.nil))))))))))))))))) (erH.cons (v' := (.vars 1 [(.d (.int .i64 v15))])) rfl rfl (erH.drop rfl erH.nil)) ?_
          refine oMov eZ ?_
          refine xNil ?_
          refine BQ.qn ?_
          refine TQ.qn ?_
          refine AW.weaken (wk_mk [2560] (SL.cons (k := 5) eZ rfl VWk.rfl (SL.cons (k := 0) (eR rfl) rfl VWk.rfl (SL.cons (k := 1) (eR rfl) rfl VWk.rfl (SL.cons (k := 6) (eR rfl) rfl VWk.rfl (SL.cons (k := 7) (eR rfl) rfl VWk.rfl SL.nil))))) (BL.keep rfl (BL.drop rfl BL.nil)) (BK.cons (n := 320576) rfl bZ rfl rfl BK.nil)) ?_
          refine AW.regs ?_
          refine oMov (eR rfl) ?_
          refine oAdd eZ eC ?_
          refine oMov eZ ?_
          refine xNil ?_
          exact TQ.qn ⟨((t10.1 ++ ([v15])), t10.2, (IntKind.wrap .i64 (s7.2.2 + 1))), H, ((wk_mk [] (SL.cons (eR rfl) rfl VWk.rfl (SL.cons (eR rfl) rfl VWk.rfl (SL.cons (eR rfl) rfl VWk.rfl (SL.cons (eR rfl) rfl VWk.rfl (SL.cons eZ rfl VWk.rfl SL.nil))))) (BL.keep rfl BL.nil) (BK.cons rfl bZ rfl rfl BK.nil)).trans (wk_ren 320576 320448 rfl rfl (nS rfl nZ)))⟩
        · refine AW.condF eZ (decide_eq_false h14) ?_
          refine AW.skip ?_
          refine BQ.qn ?_
          refine TQ.qn ?_
          refine AW.regs ?_
          refine oMov (eR rfl) ?_
          refine oAdd eZ eC ?_
          refine oMov eZ ?_
          refine xNil ?_
          exact TQ.qn ⟨(t10.1, t10.2, (IntKind.wrap .i64 (s7.2.2 + 1))), H, ((wk_mk [] (SL.cons (eR rfl) rfl VWk.rfl (SL.cons (eR rfl) rfl VWk.rfl (SL.cons (eR rfl) rfl VWk.rfl (SL.cons (eR rfl) rfl VWk.rfl (SL.cons eZ rfl VWk.rfl SL.nil))))) (BL.keep rfl BL.nil) (BK.cons rfl bZ rfl rfl BK.nil)).trans (wk_ren 320576 320448 rfl rfl (nS rfl nZ)))⟩
      · refine AW.seqJ (fun t18 : Bool => (spec_l12Put_j18 s7 a2 (spec_l12Put_j10 a1 s7 a2 kb8)) t18 = some r) (fun t18 => mk [(0, (.one (.d (.sl 1 (List.map d_i64 a1))))), (1, (.one (.d (.int .i64 a2)))), (5, (.one (.sl 320448 0 s7.1.length))), (6, (.one (.d (.bool s7.2.1)))), (7, (.one (.d (.int .i64 s7.2.2)))), (24, (.one (.d (.bool t18))))] [(320448, (.data 1 (List.map d_i64 s7.1) true none))] noG) ?_ ?_
        · intro t18 H
          unfold spec_l12Put_j18 at H
          rcases oite H with ⟨h20, H⟩ | ⟨h20, H⟩
          · refine AW.condT (eR rfl) h20 ?_
            refine AW.seq ?_
            refine AW.regs ?_
            refine oMov (eR rfl) ?_
            refine oMov (eR rfl) ?_
            refine oBslice (m := 1728) (q := 1) (cs := [(.d (.int .i64 a2))]) rfl (PsCons eZ PsNil) rfl (List.cons_ne_nil _ _) (by simp) (nS rfl nZ) ?_
            obtain ⟨h21, H⟩ := oguard H
            refine oAppN (f := d_i64) (xs := s7.1) (ys := [a2]) (q := (s7.1 ++ ([a2])).length) (eR rfl) eZ (bS rfl bZ) rfl (El.one (f := d_i64) (t := a2) (es := [(.int .i64 a2)]) bZ rfl rfl rfl) rfl h21 (by decide) (by decide) (erL.cons (v' := (.one (.sl 1728 0 1))) rfl (erL.cons (v' := (.one (.d (.int .i64 a2)))) rfl (erL.cons (v' := (.one .any)) rfl (erL.cons (v' := (.one (.d (.sl 1 (List.map d_i64 a1))))) rfl (erL.cons (v' := (.one (.d (.int .i64 a2)))) rfl (erL.cons (v' := (.one .any)) rfl (erL.cons (v' := (.one (.d (.bool s7.2.1)))) rfl (erL.cons (v' := (.one (.d (.int .i64 s7.2.2)))) rfl (erL.cons (v' := (.one (.d (.bool t18)))) rfl erL.nil))))))))) (erH.cons (v' := (.vars 1 [(.d (.int .i64 a2))])) rfl rfl (erH.drop rfl erH.nil)) ?_
            refine oMov eZ ?_
            refine xNil ?_
            refine TQ.qn ?_
            refine AW.regs ?_
            refine oMov eC ?_
            refine xNil ?_
            exact TQ.qn ⟨((s7.1 ++ ([a2])), true), H, ((wk_mk [1728] (SL.cons (eR rfl) rfl VWk.rfl (SL.cons (eR rfl) rfl VWk.rfl (SL.cons (eS rfl eZ) rfl VWk.rfl (SL.cons eZ rfl VWk.rfl (SL.cons (eR rfl) rfl VWk.rfl SL.nil))))) (BL.keep rfl (BL.drop rfl BL.nil)) (BK.cons rfl bZ rfl rfl BK.nil)).trans (wk_ren 320448 320576 rfl rfl (nS rfl (nS rfl nZ))))⟩
          · refine AW.condF (eR rfl) (nt h20) ?_
            refine AW.skip ?_
            exact TQ.qn ⟨(s7.1, s7.2.1), H, ((wk_mk [] (SL.cons eZ rfl VWk.rfl (SL.cons (eS rfl eZ) rfl VWk.rfl (SL.cons (eR rfl) rfl VWk.rfl (SL.cons (eR rfl) rfl VWk.rfl (SL.cons (eR rfl) rfl VWk.rfl SL.nil))))) (BL.keep rfl BL.nil) (BK.cons rfl bZ rfl rfl BK.nil)).trans (wk_ren 320448 320576 rfl rfl (nS rfl nZ)))⟩
        · refine AW.regs ?_
          refine oMov (eR rfl) ?_
          refine oInv eZ ?_
          refine oMov eZ ?_
          rcases oite H with ⟨h22, H⟩ | ⟨h22, H⟩
          · refine gSkip eZ (congrArg Bool.not h22) rfl ?_
            refine gSkip (eS rfl eZ) (congrArg Bool.not h22) rfl ?_
            refine gSkip (eR rfl) (congrArg Bool.not h22) rfl ?_
            refine gSkip (eR rfl) (congrArg Bool.not h22) rfl ?_
            refine gSkip (eR rfl) (congrArg Bool.not h22) rfl ?_
            refine gSkip (eR rfl) (congrArg Bool.not h22) rfl ?_
            refine oPickF (eR rfl) (congrArg Bool.not h22) eC ?_
            refine xNil ?_
            exact TQ.qn ⟨false, H, (wk_mk [] (SL.cons (eR rfl) rfl VWk.rfl (SL.cons (eR rfl) rfl VWk.rfl (SL.cons (eR rfl) rfl VWk.rfl (SL.cons (eR rfl) rfl VWk.rfl (SL.cons (eR rfl) rfl VWk.rfl (SL.cons eZ rfl VWk.rfl SL.nil)))))) (BL.keep rfl BL.nil) (BK.cons rfl bZ rfl rfl BK.nil))⟩
          · refine gDo eZ (congrArg Bool.not (nt h22)) ?_
            refine oMov (eR rfl) ?_
            refine gDo (eS rfl eZ) (congrArg Bool.not (nt h22)) ?_
            refine oMov (eR rfl) ?_
            refine gDo (eR rfl) (congrArg Bool.not (nt h22)) ?_
            obtain ⟨v23, h24, H⟩ := obind H
            refine oAtD (eS rfl eZ) eZ h24 ?_
            refine gDo (eR rfl) (congrArg Bool.not (nt h22)) ?_
            refine oLoadB (e := (.int .i64 v23)) eZ rfl ?_
            refine gDo (eR rfl) (congrArg Bool.not (nt h22)) ?_
            refine oMov (eR rfl) ?_
            refine gDo (eR rfl) (congrArg Bool.not (nt h22)) ?_
            refine oGeq (eS rfl eZ) eZ ?_
            refine oPickT (eR rfl) (congrArg Bool.not (nt h22)) eZ ?_
            refine xNil ?_
            exact TQ.qn ⟨(decide (a2 ≤ v23)), H, (wk_mk [] (SL.cons (eR rfl) rfl VWk.rfl (SL.cons (eR rfl) rfl VWk.rfl (SL.cons (eR rfl) rfl VWk.rfl (SL.cons (eR rfl) rfl VWk.rfl (SL.cons (eR rfl) rfl VWk.rfl (SL.cons eZ rfl VWk.rfl SL.nil)))))) (BL.keep rfl BL.nil) (BK.cons rfl bZ rfl rfl BK.nil))⟩
    · refine AW.condF eZ (decide_eq_false h9) ?_
      refine AW.exit ?_
      refine TQ.qe ?_
      refine TQ.qe ?_
      refine BQ.qe ?_
      exact TQ.qn ⟨(s7.1, s7.2.1), H, ((wk_mk [] (SL.cons (eR rfl) rfl VWk.rfl (SL.cons (eR rfl) rfl VWk.rfl (SL.cons (eR rfl) rfl VWk.rfl SL.nil))) (BL.keep rfl BL.nil) (BK.cons rfl bZ rfl rfl BK.nil)).trans (wk_ren 320448 320320 rfl rfl (nS rfl nZ)))⟩

theorem c_spec_l12Foes {a1 : (List TLock)} {a2 : TLock} {r : (List Int)} (H : m_spec_l12Foes a1 a2 = some r) : Fn Try.prog k_spec_l12Foes (lent [(.sl 4 (List.map d_TLock a1)), (.agg (d_TLock a2))]) true [(.sl 1 (List.map d_i64 r))] := by
  refine i_spec_l12Foes_fn (Nat.le_of_ble_eq_true rfl) ?_
  rw [init_mk]
  refine AW.weaken (wk_mk [] (SL.cons (v := (.one (.d (.sl 4 (List.map d_TLock a1))))) eZ rfl VWk.rfl (SL.cons (v := (.agg [(.d (.int .i64 a2.Tx)), (.d (.int .i64 a2.Lo)), (.d (.int .i64 a2.Hi)), (.d (.int .i64 a2.Mode))])) (eS rfl eZ) rfl VWk.rfl SL.nil)) BL.nil BK.nil) ?_
  unfold m_spec_l12Foes at H
  unfold i_spec_l12Foes
  refine AW.seq ?_
  refine AW.regs ?_
  refine oBox (n := 192) (m := 4) (cs := [(.d (.int .i64 a2.Tx)), (.d (.int .i64 a2.Lo)), (.d (.int .i64 a2.Hi)), (.d (.int .i64 a2.Mode))]) rfl (eS rfl eZ) rfl rfl nZ ?_
  refine oMov eC ?_
  refine xNil ?_
  refine TQ.qn ?_
  refine AW.seq ?_
  refine AW.regs ?_
  refine oBsliceZ (m := 448) rfl (nS rfl nZ) ?_
  refine oMov eZ ?_
  refine xNil ?_
  refine TQ.qn ?_
  refine AW.seqJ (fun t3 : (List Int) => spec_l12Foes_j3 t3 = some r) (fun t3 => mk [(5, (.one (.sl 320128 0 t3.length)))] [(320128, (.data 1 (List.map d_i64 t3) true none))] noG) ?_ ?_
  · intro t3 H
    unfold spec_l12Foes_j3 at H
    refine AW.seq ?_
    refine AW.regs ?_
    refine oMov eZ ?_
    refine oMov eZ ?_
    refine xNil ?_
    refine TQ.qn ?_
    refine AW.ret ?_
    obtain rfl := Option.some.inj H
    exact endsR (RL.cons (RV.tmp eZ) (VO.sl bZ (List.length_map _) (allFlat fun _ => rfl)) RL.nil) (by decide)
  · refine AW.seq ?_
    refine AW.regs ?_
    refine oMov eC ?_
    refine xNil ?_
    refine TQ.qn ?_
    refine AW.block ?_
    refine AW.iter (fun s5 : ((List Int) × Int) => mk [(0, (.one (.d (.sl 4 (List.map d_TLock a1))))), (3, (.one (.ptr (.nm 192 0 0)))), (5, (.one (.sl 320192 0 s5.1.length))), (6, (.one (.d (.int .i64 s5.2))))] [(320192, (.data 1 (List.map d_i64 s5.1) true none)), (192, (.vars 4 [(.d (.int .i64 a2.Tx)), (.d (.int .i64 a2.Lo)), (.d (.int .i64 a2.Hi)), (.d (.int .i64 a2.Mode))]))] noG) H ((wk_mk [] (SL.cons (eR rfl) rfl VWk.rfl (SL.cons (eR rfl) rfl VWk.rfl (SL.cons eZ rfl (VWk.one (CWk.len (by first | (simp; done) | (simp; omega) | omega))) (SL.cons (eS rfl eZ) rfl VWk.rfl SL.nil)))) (BL.keep rfl (BL.keep rfl BL.nil)) (BK.cons rfl bZ rfl rfl (BK.cons rfl (bS rfl bZ) rfl rfl BK.nil))).trans (wk_zs 320192 1 5 true (eS rfl eZ) (nS rfl nZ))) ?_
    intro kb6 s5 H
    unfold spec_l12Foes_b5 at H
    refine AW.seq ?_
    refine AW.seq ?_
    refine AW.regs ?_
    refine oMov (eR rfl) ?_
    refine oMov (eS rfl eZ) ?_
    refine oLenD eZ (n := a1.length) (List.length_map _) ?_
    refine oLss (eR rfl) eZ ?_
    refine xNil ?_
    refine TQ.qn ?_
    rcases oite H with ⟨h7, H⟩ | ⟨h7, H⟩
    · refine AW.condT eZ (decide_eq_true h7) ?_
      refine AW.skip ?_
      refine TQ.qn ?_
      refine AW.seq ?_
      refine AW.block ?_
      refine AW.seq ?_
      refine AW.regd ?_
      refine oMov (eR rfl) ?_
      refine oMov (eR rfl) ?_
      obtain ⟨v8, h9, H⟩ := obind H
      refine oAtD (eS rfl eZ) eZ h9 ?_
      refine oLoadBA (es := [(.d (.int .i64 v8.Tx)), (.d (.int .i64 v8.Lo)), (.d (.int .i64 v8.Hi)), (.d (.int .i64 v8.Mode))]) eZ rfl ?_
      refine oLoadVA (es := [(.d (.int .i64 a2.Tx)), (.d (.int .i64 a2.Lo)), (.d (.int .i64 a2.Hi)), (.d (.int .i64 a2.Mode))]) (eR rfl) (bS rfl bZ) rfl ?_
      obtain ⟨v10, h11, H⟩ := obind H
      refine oCall (u := (.one (.d (.bool v10)))) eC Cl.fn (c_spec_l12Clash h11) (Evs.cons (eS rfl eZ) (Evs.cons eZ Evs.nil)) (VDs.cons (VD.agg rfl) (VDs.cons (VD.agg rfl) VDs.nil)) rfl ?_
      refine xNil ?_
      refine TQ.qn ?_
      rcases oite H with ⟨h12, H⟩ | ⟨h12, H⟩
      · refine AW.condT eZ h12 ?_
        refine AW.regs ?_
        refine oMov (eR rfl) ?_
        refine oMov (eR rfl) ?_
        refine oMov (eR rfl) ?_
        obtain ⟨v13, h14, H⟩ := obind H
        refine oAtD (eS rfl eZ) eZ h14 ?_
        refine oFaddrB (m := 0) eZ rfl ?_
        refine oLoadB (e := (.int .i64 v13.Tx)) eZ rfl ?_
        obtain ⟨v15, h16, H⟩ := obind H
        refine oCallN (u := (.one (.sl 1664 0 v15.length))) (bs := [(1664, (.data 1 (List.map d_i64 v15) true none))]) eC Cl.fn (c_spec_l12Put h16) (Evs.cons (eR rfl) (Evs.cons eZ Evs.nil)) (VDs.cons (VD.sl bZ (List.length_map _)) (VDs.cons VD.plain VDs.nil)) (by simp [bindR, bindV, bindVs, bindC, bindCs]) rfl (fC (nS rfl (nS rfl nZ)) rfl (fC (nS rfl (nS rfl nZ)) rfl fN)) ?_
        refine oMov eZ ?_
        refine xNil ?_
        refine BQ.qn ?_
        refine TQ.qn ?_
        refine AW.weaken (wk_mk [320192] (SL.cons (k := 5) eZ rfl VWk.rfl (SL.cons (k := 0) (eR rfl) rfl VWk.rfl (SL.cons (k := 3) (eR rfl) rfl VWk.rfl (SL.cons (k := 6) (eR rfl) rfl VWk.rfl SL.nil)))) (BL.keep rfl (BL.drop rfl (BL.keep rfl BL.nil))) (BK.cons (n := 1664) rfl bZ rfl rfl (BK.cons (n := 192) rfl (bS rfl (bS rfl bZ)) rfl rfl BK.nil))) ?_
        refine AW.regs ?_
        refine oMov (eR rfl) ?_
        refine oAdd eZ eC ?_
        refine oMov eZ ?_
        refine xNil ?_
        exact TQ.qn ⟨(v15, (IntKind.wrap .i64 (s5.2 + 1))), H, ((wk_mk [] (SL.cons (eR rfl) rfl VWk.rfl (SL.cons (eR rfl) rfl VWk.rfl (SL.cons (eR rfl) rfl VWk.rfl (SL.cons eZ rfl VWk.rfl SL.nil)))) (BL.keep rfl (BL.keep rfl BL.nil)) (BK.cons rfl bZ rfl rfl (BK.cons rfl (bS rfl bZ) rfl rfl BK.nil))).trans (wk_ren 1664 320192 rfl rfl (nS rfl (nS rfl nZ))))⟩
      · refine AW.condF eZ (nt h12) ?_
        refine AW.skip ?_
        refine BQ.qn ?_
        refine TQ.qn ?_
        refine AW.regs ?_
        refine oMov (eR rfl) ?_
        refine oAdd eZ eC ?_
        refine oMov eZ ?_
        refine xNil ?_
        exact TQ.qn ⟨(s5.1, (IntKind.wrap .i64 (s5.2 + 1))), H, (wk_mk [] (SL.cons (eR rfl) rfl VWk.rfl (SL.cons (eR rfl) rfl VWk.rfl (SL.cons (eR rfl) rfl VWk.rfl (SL.cons eZ rfl VWk.rfl SL.nil)))) (BL.keep rfl (BL.keep rfl BL.nil)) (BK.cons rfl bZ rfl rfl (BK.cons rfl (bS rfl bZ) rfl rfl BK.nil)))⟩
    · refine AW.condF eZ (decide_eq_false h7) ?_
      refine AW.exit ?_
      refine TQ.qe ?_
      refine TQ.qe ?_
      refine BQ.qe ?_
      exact TQ.qn ⟨s5.1, H, ((wk_mk [192] (SL.cons (eR rfl) rfl VWk.rfl SL.nil) (BL.keep rfl (BL.drop rfl BL.nil)) (BK.cons rfl bZ rfl rfl BK.nil)).trans (wk_ren 320192 320128 rfl rfl (nS rfl (nS rfl nZ))))⟩

theorem c_spec_l12Has {a1 : (List Int)} {a2 : Int} {r : Bool} (H : m_spec_l12Has a1 a2 = some r) : Fn Try.prog k_spec_l12Has (lent [(.sl 1 (List.map d_i64 a1)), (.int .i64 a2)]) true [(.bool r)] := by
  refine i_spec_l12Has_fn (Nat.le_of_ble_eq_true rfl) ?_
  rw [init_mk]
  refine AW.weaken (wk_mk [] (SL.cons (v := (.one (.d (.sl 1 (List.map d_i64 a1))))) eZ rfl VWk.rfl (SL.cons (v := (.one (.d (.int .i64 a2)))) (eS rfl eZ) rfl VWk.rfl SL.nil)) BL.nil BK.nil) ?_
  unfold m_spec_l12Has at H
  unfold i_spec_l12Has
  refine AW.seq ?_
  refine AW.regs ?_
  refine oMov eC ?_
  refine xNil ?_
  refine TQ.qn ?_
  refine AW.seqJ (fun t3 : Unit => spec_l12Has_j3 t3 = some r) (fun t3 => mk [] [] noG) ?_ ?_
  · intro t3 H
    unfold spec_l12Has_j3 at H
    refine AW.seq ?_
    refine AW.regs ?_
    refine oMov eC ?_
    refine xNil ?_
    refine TQ.qn ?_
    refine AW.ret ?_
    obtain rfl := Option.some.inj H
    exact endsR (RL.cons (RV.tmp eZ) (VO.flat rfl) RL.nil) List.nodup_nil
  · refine AW.seq ?_
    refine AW.regs ?_
    refine oMov eC ?_
    refine xNil ?_
    refine TQ.qn ?_
    refine AW.block ?_
    refine AW.iter (fun s5 : Int => mk [(0, (.one (.d (.sl 1 (List.map d_i64 a1))))), (1, (.one (.d (.int .i64 a2)))), (5, (.one (.d (.int .i64 s5))))] [] noG) H (wk_mk [] (SL.cons (eR rfl) rfl VWk.rfl (SL.cons (eR rfl) rfl VWk.rfl (SL.cons eZ rfl VWk.rfl SL.nil))) BL.nil BK.nil) ?_
    intro kb6 s5 H
    unfold spec_l12Has_b5 at H
    refine AW.seq ?_
    refine AW.seq ?_
    refine AW.regs ?_
    refine oMov (eR rfl) ?_
    refine oMov (eS rfl eZ) ?_
    refine oLenD eZ (n := a1.length) (List.length_map _) ?_
    refine oLss (eR rfl) eZ ?_
    refine xNil ?_
    refine TQ.qn ?_
    rcases oite H with ⟨h7, H⟩ | ⟨h7, H⟩
    · refine AW.condT eZ (decide_eq_true h7) ?_
      refine AW.skip ?_
      refine TQ.qn ?_
      refine AW.seq ?_
      refine AW.block ?_
      refine AW.seq ?_
      refine AW.regs ?_
      refine oMov (eR rfl) ?_
      refine oMov (eR rfl) ?_
      obtain ⟨v8, h9, H⟩ := obind H
      refine oAtD (eS rfl eZ) eZ h9 ?_
      refine oLoadB (e := (.int .i64 v8)) eZ rfl ?_
      refine oMov (eR rfl) ?_
      refine oEql (eS rfl eZ) eZ ?_
      refine xNil ?_
      refine TQ.qn ?_
      rcases oite H with ⟨h10, H⟩ | ⟨h10, H⟩
      · refine AW.condT eZ (decide_eq_true h10) ?_
        refine AW.seq ?_
        refine AW.regs ?_
        refine oMov eC ?_
        refine xNil ?_
        refine TQ.qn ?_
        refine AW.ret ?_
        refine BQ.qr ?_
        refine TQ.qr ?_
        refine TQ.qr ?_
        refine BQ.qr ?_
        refine TQ.qr ?_
        obtain rfl := Option.some.inj H
        exact endsR (RL.cons (RV.tmp eZ) (VO.flat rfl) RL.nil) List.nodup_nil
      · refine AW.condF eZ (decide_eq_false h10) ?_
        refine AW.skip ?_
        refine BQ.qn ?_
        refine TQ.qn ?_
        refine AW.regs ?_
        refine oMov (eR rfl) ?_
        refine oAdd eZ eC ?_
        refine oMov eZ ?_
        refine xNil ?_
        exact TQ.qn ⟨(IntKind.wrap .i64 (s5 + 1)), H, (wk_mk [] (SL.cons (eR rfl) rfl VWk.rfl (SL.cons (eR rfl) rfl VWk.rfl (SL.cons eZ rfl VWk.rfl SL.nil))) BL.nil BK.nil)⟩
    · refine AW.condF eZ (decide_eq_false h7) ?_
      refine AW.exit ?_
      refine TQ.qe ?_
      refine TQ.qe ?_
      refine BQ.qe ?_
      exact TQ.qn ⟨(), H, (wk_mk [] SL.nil BL.nil BK.nil)⟩

theorem c_spec_LocksWaits {a1 : (List TLock)} {a2 : (List Int)} {a3 : Int} {a4 : TRange} {a5 : Int} {r : (List Int)} (H : m_spec_LocksWaits a1 a2 a3 a4 a5 = some r) : Fn Try.prog k_spec_LocksWaits (lent [(.sl 4 (List.map d_TLock a1)), (.sl 1 (List.map d_i64 a2)), (.int .i64 a3), (.agg (d_TRange a4)), (.int .i64 a5)]) true [(.sl 1 (List.map d_i64 r))] := by
  refine i_spec_LocksWaits_fn (Nat.le_of_ble_eq_true rfl) ?_
  rw [init_mk]
  refine AW.weaken (wk_mk [] (SL.cons (v := (.one (.d (.sl 4 (List.map d_TLock a1))))) eZ rfl VWk.rfl (SL.cons (v := (.one (.d (.sl 1 (List.map d_i64 a2))))) (eS rfl eZ) rfl VWk.rfl (SL.cons (v := (.one (.d (.int .i64 a3)))) (eS rfl (eS rfl eZ)) rfl VWk.rfl (SL.cons (v := (.agg [(.d (.int .i64 a4.Lo)), (.d (.int .i64 a4.Hi))])) (eS rfl (eS rfl (eS rfl eZ))) rfl VWk.rfl (SL.cons (v := (.one (.d (.int .i64 a5)))) (eS rfl (eS rfl (eS rfl (eS rfl eZ)))) rfl VWk.rfl SL.nil))))) BL.nil BK.nil) ?_
  unfold m_spec_LocksWaits at H
  unfold i_spec_LocksWaits
  refine AW.seq ?_
  refine AW.regs ?_
  refine oBox (n := 512) (m := 2) (cs := [(.d (.int .i64 a4.Lo)), (.d (.int .i64 a4.Hi))]) rfl (eR rfl) rfl rfl nZ ?_
  refine oMov eC ?_
  refine xNil ?_
  refine TQ.qn ?_
  refine AW.seq ?_
  refine AW.regs ?_
  refine oBsliceZ (m := 896) rfl (nS rfl nZ) ?_
  refine oMov eZ ?_
  refine xNil ?_
  refine TQ.qn ?_
  refine AW.seq ?_
  refine AW.seqJ (fun t6 : Bool => (spec_LocksWaits_j6 a1 a3 a4 a5 a2) t6 = some r) (fun t6 => mk [(0, (.one (.d (.sl 4 (List.map d_TLock a1))))), (1, (.one (.d (.sl 1 (List.map d_i64 a2))))), (2, (.one (.d (.int .i64 a3)))), (4, (.one (.d (.int .i64 a5)))), (8, (.one (.ptr (.nm 512 0 0)))), (11, (.one .zs)), (28, (.one (.d (.bool t6))))] [(512, (.vars 2 [(.d (.int .i64 a4.Lo)), (.d (.int .i64 a4.Hi))]))] noG) ?_ ?_
  · intro t6 H
    unfold spec_LocksWaits_j6 at H
    rcases oite H with ⟨h8, H⟩ | ⟨h8, H⟩
    · refine AW.condT (eR rfl) h8 ?_
      refine AW.seq ?_
      refine AW.regs ?_
      refine oMov (eR rfl) ?_
      refine oMov eZ ?_
      refine xNil ?_
      refine TQ.qn ?_
      refine AW.ret ?_
      refine TQ.qr ?_
      obtain rfl := Option.some.inj H
      exact endsR (RL.cons (RV.tmp eZ) VO.zs RL.nil) List.nodup_nil
    · refine AW.condF (eR rfl) (nt h8) ?_
      refine AW.skip ?_
      refine TQ.qn ?_
      refine AW.seq ?_
      refine AW.regs ?_
      refine oMov eZ ?_
      refine oMov (eR rfl) ?_
      refine oFaddrN (m := 0) (eR rfl) rfl ?_
      refine oLoadV (q := 0) (c := (.d (.int .i64 a4.Lo))) eZ bZ rfl rfl ?_
      refine oFaddrN (m := 1) (eR rfl) rfl ?_
      refine oLoadV (q := 1) (c := (.d (.int .i64 a4.Hi))) eZ bZ rfl rfl ?_
      refine oMov (eR rfl) ?_
      refine oBuild (cs := [(.d (.int .i64 a3)), (.d (.int .i64 a4.Lo)), (.d (.int .i64 a4.Hi)), (.d (.int .i64 a5))]) (PsCons (eR rfl) (PsCons (eR rfl) (PsCons (eS rfl eZ) (PsCons eZ PsNil)))) rfl ?_
      obtain ⟨v9, h10, H⟩ := obind H
      refine oCall (u := (.one (.d (.sl 1 (List.map d_i64 v9))))) eC Cl.fn (c_spec_l12Foes h10) (Evs.cons (eR rfl) (Evs.cons eZ Evs.nil)) (VDs.cons VD.plain (VDs.cons (VD.agg rfl) VDs.nil)) rfl ?_
      refine oMov eZ ?_
      refine xNil ?_
      refine TQ.qn ?_
      refine AW.weaken (wk_mk [512] (SL.cons (k := 12) eZ rfl VWk.rfl (SL.cons (k := 1) (eR rfl) rfl VWk.rfl (SL.cons (k := 2) (eR rfl) rfl VWk.rfl (SL.cons (k := 11) (eR rfl) rfl VWk.rfl SL.nil)))) (BL.drop rfl BL.nil) BK.nil) ?_
      refine AW.seqJ (fun t11 : (List Int) => spec_LocksWaits_j11 t11 = some r) (fun t11 => mk [(11, (.one (.sl 320128 0 t11.length)))] [(320128, (.data 1 (List.map d_i64 t11) true none))] noG) ?_ ?_
      · intro t11 H
        unfold spec_LocksWaits_j11 at H
        refine AW.seq ?_
        refine AW.regs ?_
        refine oMov eZ ?_
        refine oMov eZ ?_
        refine xNil ?_
        refine TQ.qn ?_
        refine AW.ret ?_
        obtain rfl := Option.some.inj H
        exact endsR (RL.cons (RV.tmp eZ) (VO.sl bZ (List.length_map _) (allFlat fun _ => rfl)) RL.nil) (by decide)
      · refine AW.seq ?_
        refine AW.regs ?_
        refine oMov eC ?_
        refine xNil ?_
        refine TQ.qn ?_
        refine AW.block ?_
        refine AW.iter (fun s13 : ((List Int) × Int) => mk [(1, (.one (.d (.sl 1 (List.map d_i64 a2))))), (2, (.one (.d (.int .i64 a3)))), (11, (.one (.sl 320192 0 s13.1.length))), (12, (.one (.d (.sl 1 (List.map d_i64 v9))))), (13, (.one (.d (.int .i64 s13.2))))] [(320192, (.data 1 (List.map d_i64 s13.1) true none))] noG) H ((wk_mk [] (SL.cons (eR rfl) rfl VWk.rfl (SL.cons (eR rfl) rfl VWk.rfl (SL.cons eZ rfl (VWk.one (CWk.len (by first | (simp; done) | (simp; omega) | omega))) (SL.cons (eR rfl) rfl VWk.rfl (SL.cons (eS rfl eZ) rfl VWk.rfl SL.nil))))) (BL.keep rfl BL.nil) (BK.cons rfl bZ rfl rfl BK.nil)).trans (wk_zs 320192 1 11 true (eR rfl) nZ)) ?_
        intro kb14 s13 H
        unfold spec_LocksWaits_b13 at H
        refine AW.seq ?_
        refine AW.seq ?_
        refine AW.regs ?_
        refine oMov (eR rfl) ?_
        refine oMov (eR rfl) ?_
        refine oLenD eZ (n := v9.length) (List.length_map _) ?_
        refine oLss (eR rfl) eZ ?_
        refine xNil ?_
        refine TQ.qn ?_
        rcases oite H with ⟨h15, H⟩ | ⟨h15, H⟩
        · refine AW.condT eZ (decide_eq_true h15) ?_
          refine AW.skip ?_
          refine TQ.qn ?_
          refine AW.seq ?_
          refine AW.block ?_
          refine AW.seqJ (fun t16 : Bool => (spec_LocksWaits_j16 v9 s13 kb14) t16 = some r) (fun t16 => mk [(1, (.one (.d (.sl 1 (List.map d_i64 a2))))), (2, (.one (.d (.int .i64 a3)))), (11, (.one (.sl 320192 0 s13.1.length))), (12, (.one (.d (.sl 1 (List.map d_i64 v9))))), (13, (.one (.d (.int .i64 s13.2)))), (58, (.one (.d (.bool t16))))] [(320192, (.data 1 (List.map d_i64 s13.1) true none))] noG) ?_ ?_
          · intro t16 H
            unfold spec_LocksWaits_j16 at H
            rcases oite H with ⟨h18, H⟩ | ⟨h18, H⟩
            · refine AW.condT (eR rfl) h18 ?_
              refine AW.regs ?_
              refine oMov (eR rfl) ?_
              refine oMov (eR rfl) ?_
              refine oMov (eR rfl) ?_
              obtain ⟨v19, h20, H⟩ := obind H
              refine oAtD (eS rfl eZ) eZ h20 ?_
              refine oLoadB (e := (.int .i64 v19)) eZ rfl ?_
              refine oBslice (m := 4096) (q := 1) (cs := [(.d (.int .i64 v19))]) rfl (PsCons eZ PsNil) rfl (List.cons_ne_nil _ _) (by simp) (nS rfl nZ) ?_
              obtain ⟨h21, H⟩ := oguard H
              refine oAppN (f := d_i64) (xs := s13.1) (ys := [v19]) (q := (s13.1 ++ ([v19])).length) (eR rfl) eZ (bS rfl bZ) rfl (El.one (f := d_i64) (t := v19) (es := [(.int .i64 v19)]) bZ rfl rfl rfl) rfl h21 (by decide) (by decide) (erL.cons (v' := (.one (.sl 4096 0 1))) rfl (erL.cons (v' := (.one (.d (.int .i64 v19)))) rfl (erL.cons (v' := (.one (.ptr (.bd (d_i64 v19) 0)))) rfl (erL.cons (v' := (.one (.d (.int .i64 s13.2)))) rfl (erL.cons (v' := (.one (.d (.sl 1 (List.map d_i64 v9))))) rfl (erL.cons (v' := (.one .any)) rfl (erL.cons (v' := (.one (.d (.sl 1 (List.map d_i64 a2))))) rfl (erL.cons (v' := (.one (.d (.int .i64 a3)))) rfl (erL.cons (v' := (.one .any)) rfl (erL.cons (v' := (.one (.d (.sl 1 (List.map d_i64 v9))))) rfl (erL.cons (v' := (.one (.d (.int .i64 s13.2)))) rfl (erL.cons (v' := (.one (.d (.bool t16)))) rfl erL.nil)))))))))))) (erH.cons (v' := (.vars 1 [(.d (.int .i64 v19))])) rfl rfl (erH.drop rfl erH.nil)) ?_
              refine oMov eZ ?_
              refine xNil ?_
              refine BQ.qn ?_
              refine TQ.qn ?_
              refine AW.regs ?_
              refine oMov (eR rfl) ?_
              refine oAdd eZ eC ?_
              refine oMov eZ ?_
              refine xNil ?_
              exact TQ.qn ⟨((s13.1 ++ ([v19])), (IntKind.wrap .i64 (s13.2 + 1))), H, (wk_mk [4096] (SL.cons (eR rfl) rfl VWk.rfl (SL.cons (eR rfl) rfl VWk.rfl (SL.cons (eR rfl) rfl VWk.rfl (SL.cons (eR rfl) rfl VWk.rfl (SL.cons eZ rfl VWk.rfl SL.nil))))) (BL.keep rfl (BL.drop rfl BL.nil)) (BK.cons rfl bZ rfl rfl BK.nil))⟩
            · refine AW.condF (eR rfl) (nt h18) ?_
              refine AW.skip ?_
              refine BQ.qn ?_
              refine TQ.qn ?_
              refine AW.regs ?_
              refine oMov (eR rfl) ?_
              refine oAdd eZ eC ?_
              refine oMov eZ ?_
              refine xNil ?_
              exact TQ.qn ⟨(s13.1, (IntKind.wrap .i64 (s13.2 + 1))), H, (wk_mk [] (SL.cons (eR rfl) rfl VWk.rfl (SL.cons (eR rfl) rfl VWk.rfl (SL.cons (eR rfl) rfl VWk.rfl (SL.cons (eR rfl) rfl VWk.rfl (SL.cons eZ rfl VWk.rfl SL.nil))))) (BL.keep rfl BL.nil) (BK.cons rfl bZ rfl rfl BK.nil))⟩
          · refine AW.regs ?_
            refine oMov (eR rfl) ?_
            refine oMov (eR rfl) ?_
            obtain ⟨v22, h23, H⟩ := obind H
            refine oAtD (eS rfl eZ) eZ h23 ?_
            refine oLoadB (e := (.int .i64 v22)) eZ rfl ?_
            refine oMov (eR rfl) ?_
            refine oLss (eS rfl eZ) eZ ?_
            refine oMov eZ ?_
            rcases oite H with ⟨h24, H⟩ | ⟨h24, H⟩
            · refine gSkip eZ (decide_eq_true h24) rfl ?_
              refine gSkip (eS rfl eZ) (decide_eq_true h24) rfl ?_
              refine gSkip (eR rfl) (decide_eq_true h24) rfl ?_
              refine gSkip (eR rfl) (decide_eq_true h24) rfl ?_
              refine gSkip (eR rfl) (decide_eq_true h24) rfl ?_
              refine gSkip (eR rfl) (decide_eq_true h24) rfl ?_
              refine oPickT (eR rfl) (decide_eq_true h24) eC ?_
              refine xNil ?_
              exact TQ.qn ⟨true, H, (wk_mk [] (SL.cons (eR rfl) rfl VWk.rfl (SL.cons (eR rfl) rfl VWk.rfl (SL.cons (eR rfl) rfl VWk.rfl (SL.cons (eR rfl) rfl VWk.rfl (SL.cons (eR rfl) rfl VWk.rfl (SL.cons eZ rfl VWk.rfl SL.nil)))))) (BL.keep rfl BL.nil) (BK.cons rfl bZ rfl rfl BK.nil))⟩
            · refine gDo eZ (decide_eq_false h24) ?_
              refine oMov (eR rfl) ?_
              refine gDo (eS rfl eZ) (decide_eq_false h24) ?_
              refine oMov (eR rfl) ?_
              refine gDo (eR rfl) (decide_eq_false h24) ?_
              refine oMov (eR rfl) ?_
              refine gDo (eR rfl) (decide_eq_false h24) ?_
              obtain ⟨v25, h26, H⟩ := obind H
              refine oAtD (eS rfl eZ) eZ h26 ?_
              refine gDo (eR rfl) (decide_eq_false h24) ?_
              refine oLoadB (e := (.int .i64 v25)) eZ rfl ?_
              refine gDo (eR rfl) (decide_eq_false h24) ?_
              obtain ⟨v27, h28, H⟩ := obind H
              refine oCall (u := (.one (.d (.bool v27)))) eC Cl.fn (c_spec_l12Has h28) (Evs.cons (eR rfl) (Evs.cons eZ Evs.nil)) (VDs.cons VD.plain (VDs.cons VD.plain VDs.nil)) rfl ?_
              refine oPickF (eR rfl) (decide_eq_false h24) eZ ?_
              refine xNil ?_
              exact TQ.qn ⟨v27, H, (wk_mk [] (SL.cons (eR rfl) rfl VWk.rfl (SL.cons (eR rfl) rfl VWk.rfl (SL.cons (eR rfl) rfl VWk.rfl (SL.cons (eR rfl) rfl VWk.rfl (SL.cons (eR rfl) rfl VWk.rfl (SL.cons eZ rfl VWk.rfl SL.nil)))))) (BL.keep rfl BL.nil) (BK.cons rfl bZ rfl rfl BK.nil))⟩
        · refine AW.condF eZ (decide_eq_false h15) ?_
          refine AW.exit ?_
          refine TQ.qe ?_
          refine TQ.qe ?_
          refine BQ.qe ?_
          exact TQ.qn ⟨s13.1, H, ((wk_mk [] (SL.cons (eR rfl) rfl VWk.rfl SL.nil) (BL.keep rfl BL.nil) (BK.cons rfl bZ rfl rfl BK.nil)).trans (wk_ren 320192 320128 rfl rfl (nS rfl nZ)))⟩
  · refine AW.regs ?_
    refine oMov (eR rfl) ?_
    refine oMov (eR rfl) ?_
    refine oMov (eR rfl) ?_
    refine oLoadVA (es := [(.d (.int .i64 a4.Lo)), (.d (.int .i64 a4.Hi))]) (eR rfl) bZ rfl ?_
    refine oMov (eR rfl) ?_
    obtain ⟨v29, h30, H⟩ := obind H
    refine oCall (u := (.one (.d (.bool v29)))) eC Cl.fn (c_spec_l12Right h30) (Evs.cons (eR rfl) (Evs.cons (eR rfl) (Evs.cons (eR rfl) (Evs.cons (eS rfl eZ) (Evs.cons eZ Evs.nil))))) (VDs.cons VD.plain (VDs.cons VD.plain (VDs.cons VD.plain (VDs.cons (VD.agg rfl) (VDs.cons VD.plain VDs.nil))))) rfl ?_
    refine oInv eZ ?_
    refine oMov eZ ?_
    rcases oite H with ⟨h31, H⟩ | ⟨h31, H⟩
    · refine gDo eZ (congrArg Bool.not h31) ?_
      refine oMov (eR rfl) ?_
      refine gDo (eS rfl eZ) (congrArg Bool.not h31) ?_
      refine oMov (eR rfl) ?_
      refine gDo (eR rfl) (congrArg Bool.not h31) ?_
      refine oLoadVA (es := [(.d (.int .i64 a4.Lo)), (.d (.int .i64 a4.Hi))]) (eR rfl) bZ rfl ?_
      refine gDo (eR rfl) (congrArg Bool.not h31) ?_
      refine oMov (eR rfl) ?_
      refine gDo (eR rfl) (congrArg Bool.not h31) ?_
      obtain ⟨v32, h33, H⟩ := obind H
      refine oCall (u := (.one (.d (.bool v32)))) eC Cl.fn (c_spec_l12Holds h33) (Evs.cons (eR rfl) (Evs.cons (eR rfl) (Evs.cons (eS rfl eZ) (Evs.cons eZ Evs.nil)))) (VDs.cons VD.plain (VDs.cons VD.plain (VDs.cons (VD.agg rfl) (VDs.cons VD.plain VDs.nil)))) rfl ?_
      refine oPickF (eR rfl) (congrArg Bool.not h31) eZ ?_
      refine xNil ?_
      exact TQ.qn ⟨v32, H, (wk_mk [] (SL.cons (eR rfl) rfl VWk.rfl (SL.cons (eR rfl) rfl VWk.rfl (SL.cons (eR rfl) rfl VWk.rfl (SL.cons (eR rfl) rfl VWk.rfl (SL.cons (eR rfl) rfl VWk.rfl (SL.cons (eR rfl) rfl VWk.rfl (SL.cons eZ rfl VWk.rfl SL.nil))))))) (BL.keep rfl BL.nil) (BK.cons rfl bZ rfl rfl BK.nil))⟩
    · refine gSkip eZ (congrArg Bool.not (nt h31)) rfl ?_
      refine gSkip (eS rfl eZ) (congrArg Bool.not (nt h31)) rfl ?_
      refine gSkip (eR rfl) (congrArg Bool.not (nt h31)) rfl ?_
      refine gSkip (eR rfl) (congrArg Bool.not (nt h31)) rfl ?_
      refine gSkip (eR rfl) (congrArg Bool.not (nt h31)) rfl ?_
      refine oPickT (eR rfl) (congrArg Bool.not (nt h31)) eC ?_
      refine xNil ?_
      exact TQ.qn ⟨true, H, (wk_mk [] (SL.cons (eR rfl) rfl VWk.rfl (SL.cons (eR rfl) rfl VWk.rfl (SL.cons (eR rfl) rfl VWk.rfl (SL.cons (eR rfl) rfl VWk.rfl (SL.cons (eR rfl) rfl VWk.rfl (SL.cons (eR rfl) rfl VWk.rfl (SL.cons eZ rfl VWk.rfl SL.nil))))))) (BL.keep rfl BL.nil) (BK.cons rfl bZ rfl rfl BK.nil))⟩

theorem c_spec_l12Keep {a1 : (List TLock)} {a2 : Int} {a3 : Bool} {r : (List TLock)} (H : m_spec_l12Keep a1 a2 a3 = some r) : Fn Try.prog k_spec_l12Keep (lent [(.sl 4 (List.map d_TLock a1)), (.int .i64 a2), (.bool a3)]) true [(.sl 4 (List.map d_TLock r))] := by
  refine i_spec_l12Keep_fn (Nat.le_of_ble_eq_true rfl) ?_
  rw [init_mk]
  refine AW.weaken (wk_mk [] (SL.cons (v := (.one (.d (.sl 4 (List.map d_TLock a1))))) eZ rfl VWk.rfl (SL.cons (v := (.one (.d (.int .i64 a2)))) (eS rfl eZ) rfl VWk.rfl (SL.cons (v := (.one (.d (.bool a3)))) (eS rfl (eS rfl eZ)) rfl VWk.rfl SL.nil))) BL.nil BK.nil) ?_
  unfold m_spec_l12Keep at H
  unfold i_spec_l12Keep
  refine AW.seq ?_
  refine AW.regs ?_
  refine oMov eC ?_
  refine xNil ?_
  refine TQ.qn ?_
  refine AW.seq ?_
  refine AW.regs ?_
  refine oBsliceZ (m := 576) rfl nZ ?_
  refine oMov eZ ?_
  refine xNil ?_
  refine TQ.qn ?_
  refine AW.seqJ (fun t4 : (List TLock) => spec_l12Keep_j4 t4 = some r) (fun t4 => mk [(7, (.one (.sl 320128 0 t4.length)))] [(320128, (.data 4 (List.map d_TLock t4) true none))] noG) ?_ ?_
  · intro t4 H
    unfold spec_l12Keep_j4 at H
    refine AW.seq ?_
    refine AW.regs ?_
    refine oMov eZ ?_
    refine oMov eZ ?_
    refine xNil ?_
    refine TQ.qn ?_
    refine AW.ret ?_
    obtain rfl := Option.some.inj H
    exact endsR (RL.cons (RV.tmp eZ) (VO.sl bZ (List.length_map _) (allFlat fun _ => rfl)) RL.nil) (by decide)
  · refine AW.seq ?_
    refine AW.regs ?_
    refine oMov eC ?_
    refine xNil ?_
    refine TQ.qn ?_
    refine AW.block ?_
    refine AW.iter (fun s6 : ((List TLock) × Int) => mk [(0, (.one (.d (.sl 4 (List.map d_TLock a1))))), (1, (.one (.d (.int .i64 a2)))), (2, (.one (.d (.bool a3)))), (7, (.one (.sl 320192 0 s6.1.length))), (8, (.one (.d (.int .i64 s6.2))))] [(320192, (.data 4 (List.map d_TLock s6.1) true none))] noG) H ((wk_mk [] (SL.cons (eR rfl) rfl VWk.rfl (SL.cons (eR rfl) rfl VWk.rfl (SL.cons (eR rfl) rfl VWk.rfl (SL.cons eZ rfl (VWk.one (CWk.len (by first | (simp; done) | (simp; omega) | omega))) (SL.cons (eS rfl eZ) rfl VWk.rfl SL.nil))))) (BL.keep rfl BL.nil) (BK.cons rfl bZ rfl rfl BK.nil)).trans (wk_zs 320192 4 7 true (eS rfl eZ) nZ)) ?_
    intro kb7 s6 H
    unfold spec_l12Keep_b6 at H
    refine AW.seq ?_
    refine AW.seq ?_
    refine AW.regs ?_
    refine oMov (eR rfl) ?_
    refine oMov (eS rfl eZ) ?_
    refine oLenD eZ (n := a1.length) (List.length_map _) ?_
    refine oLss (eR rfl) eZ ?_
    refine xNil ?_
    refine TQ.qn ?_
    rcases oite H with ⟨h8, H⟩ | ⟨h8, H⟩
    · refine AW.condT eZ (decide_eq_true h8) ?_
      refine AW.skip ?_
      refine TQ.qn ?_
      refine AW.seq ?_
      refine AW.block ?_
      refine AW.seq ?_
      refine AW.regs ?_
      refine oMov (eR rfl) ?_
      refine oMov (eR rfl) ?_
      obtain ⟨v9, h10, H⟩ := obind H
      refine oAtD (eS rfl eZ) eZ h10 ?_
      refine oFaddrB (m := 0) eZ rfl ?_
      refine oLoadB (e := (.int .i64 v9.Tx)) eZ rfl ?_
      refine oMov (eR rfl) ?_
      refine oEql (eS rfl eZ) eZ ?_
      refine oMov (eR rfl) ?_
      refine oBeq (eS rfl eZ) eZ ?_
      refine xNil ?_
      refine TQ.qn ?_
      refine AW.weaken (wk_mk [] (SL.cons (k := 24) eZ rfl VWk.rfl (SL.cons (k := 0) (eR rfl) rfl VWk.rfl (SL.cons (k := 1) (eR rfl) rfl VWk.rfl (SL.cons (k := 2) (eR rfl) rfl VWk.rfl (SL.cons (k := 7) (eR rfl) rfl VWk.rfl (SL.cons (k := 8) (eR rfl) rfl VWk.rfl SL.nil)))))) (BL.keep rfl BL.nil) (BK.cons (n := 320192) rfl bZ rfl rfl BK.nil)) ?_
      rcases oite H with ⟨h11, H⟩ | ⟨h11, H⟩
      · refine AW.condT eZ h11 ?_
        refine AW.regs ?_
        refine oMov (eR rfl) ?_
        refine oMov (eR rfl) ?_
        refine oMov (eR rfl) ?_
        obtain ⟨v12, h13, H⟩ := obind H
        refine oAtD (eS rfl eZ) eZ h13 ?_
        refine oLoadBA (es := [(.d (.int .i64 v12.Tx)), (.d (.int .i64 v12.Lo)), (.d (.int .i64 v12.Hi)), (.d (.int .i64 v12.Mode))]) eZ rfl ?_
        refine oBslice (m := 1920) (q := 1) (cs := [(.d (.int .i64 v12.Tx)), (.d (.int .i64 v12.Lo)), (.d (.int .i64 v12.Hi)), (.d (.int .i64 v12.Mode))]) rfl (PsCons eZ PsNil) rfl (List.cons_ne_nil _ _) (by simp) (nS rfl nZ) ?_
        obtain ⟨h14, H⟩ := oguard H
        refine oAppN (f := d_TLock) (xs := s6.1) (ys := [v12]) (q := (s6.1 ++ ([v12])).length) (eR rfl) eZ (bS rfl bZ) rfl (El.one (f := d_TLock) (t := v12) (es := [(.int .i64 v12.Tx), (.int .i64 v12.Lo), (.int .i64 v12.Hi), (.int .i64 v12.Mode)]) bZ rfl rfl rfl) rfl h14 (by decide) (by decide) (erL.cons (v' := (.one (.sl 1920 0 1))) rfl (erL.cons (v' := (.agg [(.d (.int .i64 v12.Tx)), (.d (.int .i64 v12.Lo)), (.d (.int .i64 v12.Hi)), (.d (.int .i64 v12.Mode))])) rfl (erL.cons (v' := (.one (.ptr (.bd (d_TLock v12) 0)))) rfl (erL.cons (v' := (.one (.d (.int .i64 s6.2)))) rfl (erL.cons (v' := (.one (.d (.sl 4 (List.map d_TLock a1))))) rfl (erL.cons (v' := (.one .any)) rfl (erL.cons (v' := (.one (.d (.bool ((decide (v9.Tx = a2)) == a3))))) rfl (erL.cons (v' := (.one (.d (.sl 4 (List.map d_TLock a1))))) rfl (erL.cons (v' := (.one (.d (.int .i64 a2)))) rfl (erL.cons (v' := (.one (.d (.bool a3)))) rfl (erL.cons (v' := (.one .any)) rfl (erL.cons (v' := (.one (.d (.int .i64 s6.2)))) rfl erL.nil)))))))))))) (erH.cons (v' := (.vars 4 [(.d (.int .i64 v12.Tx)), (.d (.int .i64 v12.Lo)), (.d (.int .i64 v12.Hi)), (.d (.int .i64 v12.Mode))])) rfl rfl (erH.drop rfl erH.nil)) ?_
        refine oMov eZ ?_
        refine xNil ?_
        refine BQ.qn ?_
        refine TQ.qn ?_
        refine AW.regs ?_
        refine oMov (eR rfl) ?_
        refine oAdd eZ eC ?_
        refine oMov eZ ?_
        refine xNil ?_
        exact TQ.qn ⟨((s6.1 ++ ([v12])), (IntKind.wrap .i64 (s6.2 + 1))), H, (wk_mk [1920] (SL.cons (eR rfl) rfl VWk.rfl (SL.cons (eR rfl) rfl VWk.rfl (SL.cons (eR rfl) rfl VWk.rfl (SL.cons (eR rfl) rfl VWk.rfl (SL.cons eZ rfl VWk.rfl SL.nil))))) (BL.keep rfl (BL.drop rfl BL.nil)) (BK.cons rfl bZ rfl rfl BK.nil))⟩
      · refine AW.condF eZ (nt h11) ?_
        refine AW.skip ?_
        refine BQ.qn ?_
        refine TQ.qn ?_
        refine AW.regs ?_
        refine oMov (eR rfl) ?_
        refine oAdd eZ eC ?_
        refine oMov eZ ?_
        refine xNil ?_
        exact TQ.qn ⟨(s6.1, (IntKind.wrap .i64 (s6.2 + 1))), H, (wk_mk [] (SL.cons (eR rfl) rfl VWk.rfl (SL.cons (eR rfl) rfl VWk.rfl (SL.cons (eR rfl) rfl VWk.rfl (SL.cons (eR rfl) rfl VWk.rfl (SL.cons eZ rfl VWk.rfl SL.nil))))) (BL.keep rfl BL.nil) (BK.cons rfl bZ rfl rfl BK.nil))⟩
    · refine AW.condF eZ (decide_eq_false h8) ?_
      refine AW.exit ?_
      refine TQ.qe ?_
      refine TQ.qe ?_
      refine BQ.qe ?_
      exact TQ.qn ⟨s6.1, H, ((wk_mk [] (SL.cons (eR rfl) rfl VWk.rfl SL.nil) (BL.keep rfl BL.nil) (BK.cons rfl bZ rfl rfl BK.nil)).trans (wk_ren 320192 320128 rfl rfl (nS rfl nZ)))⟩

theorem c_spec_LockAsk {a1 : (List TLock)} {a2 : (List Int)} {a3 : Int} {a4 : TRange} {a5 : Int} {r : ((List TLock) × (List Int) × Int)} (H : m_spec_LockAsk a1 a2 a3 a4 a5 = some r) : Fn Try.prog k_spec_LockAsk (lent [(.sl 4 (List.map d_TLock a1)), (.sl 1 (List.map d_i64 a2)), (.int .i64 a3), (.agg (d_TRange a4)), (.int .i64 a5)]) true [(.sl 4 (List.map d_TLock r.1)), (.sl 1 (List.map d_i64 r.2.1)), (.int .i64 r.2.2)] := by
  refine i_spec_LockAsk_fn (Nat.le_of_ble_eq_true rfl) ?_
  rw [init_mk]
  refine AW.weaken (wk_mk [] (SL.cons (v := (.one (.d (.sl 4 (List.map d_TLock a1))))) eZ rfl VWk.rfl (SL.cons (v := (.one (.d (.sl 1 (List.map d_i64 a2))))) (eS rfl eZ) rfl VWk.rfl (SL.cons (v := (.one (.d (.int .i64 a3)))) (eS rfl (eS rfl eZ)) rfl VWk.rfl (SL.cons (v := (.agg [(.d (.int .i64 a4.Lo)), (.d (.int .i64 a4.Hi))])) (eS rfl (eS rfl (eS rfl eZ))) rfl VWk.rfl (SL.cons (v := (.one (.d (.int .i64 a5)))) (eS rfl (eS rfl (eS rfl (eS rfl eZ)))) rfl VWk.rfl SL.nil))))) BL.nil BK.nil) ?_
  unfold m_spec_LockAsk at H
  unfold i_spec_LockAsk
  refine AW.seq ?_
  refine AW.regs ?_
  refine oBox (n := 512) (m := 2) (cs := [(.d (.int .i64 a4.Lo)), (.d (.int .i64 a4.Hi))]) rfl (eR rfl) rfl rfl nZ ?_
  refine oMov eC ?_
  refine oMov eC ?_
  refine oMov eC ?_
  refine xNil ?_
  refine TQ.qn ?_
  refine AW.seq ?_
  refine AW.regs ?_
  refine oBsliceZ (m := 1216) rfl (nS rfl nZ) ?_
  refine oMov eZ ?_
  refine xNil ?_
  refine TQ.qn ?_
  refine AW.seq ?_
  refine AW.seq ?_
  refine AW.regs ?_
  refine oMov (eR rfl) ?_
  refine oMov (eR rfl) ?_
  refine oMov (eR rfl) ?_
  refine oLoadVA (es := [(.d (.int .i64 a4.Lo)), (.d (.int .i64 a4.Hi))]) (eR rfl) bZ rfl ?_
  refine oMov (eR rfl) ?_
  obtain ⟨v6, h7, H⟩ := obind H
  refine oCall (u := (.one (.d (.bool v6)))) eC Cl.fn (c_spec_l12Right h7) (Evs.cons (eR rfl) (Evs.cons (eR rfl) (Evs.cons (eR rfl) (Evs.cons (eS rfl eZ) (Evs.cons eZ Evs.nil))))) (VDs.cons VD.plain (VDs.cons VD.plain (VDs.cons VD.plain (VDs.cons (VD.agg rfl) (VDs.cons VD.plain VDs.nil))))) rfl ?_
  refine oInv eZ ?_
  refine xNil ?_
  refine TQ.qn ?_
  refine AW.weaken (wk_mk [] (SL.cons (k := 26) eZ rfl VWk.rfl (SL.cons (k := 13) (eR rfl) rfl VWk.rfl (SL.cons (k := 8) (eR rfl) rfl VWk.rfl (SL.cons (k := 0) (eR rfl) rfl VWk.rfl (SL.cons (k := 1) (eR rfl) rfl VWk.rfl (SL.cons (k := 2) (eR rfl) rfl VWk.rfl (SL.cons (k := 4) (eR rfl) rfl VWk.rfl SL.nil))))))) (BL.keep rfl BL.nil) (BK.cons (n := 512) rfl bZ rfl rfl BK.nil)) ?_
  rcases oite H with ⟨h8, H⟩ | ⟨h8, H⟩
  · refine AW.condF eZ (congrArg Bool.not h8) ?_
    refine AW.skip ?_
    refine TQ.qn ?_
    refine AW.seq ?_
    refine AW.regs ?_
    refine oBsliceZ (m := 1856) rfl (nS rfl nZ) ?_
    refine oMov (eR rfl) ?_
    obtain ⟨h9, H⟩ := oguard H
    refine oAppZ (f := d_TLock) (m := 1984) (own := true) (ys := a1) (q := a1.length) rfl rfl (eS rfl eZ) eZ (El.lent fun _ _ => rfl) rfl h9 (by decide) (nS rfl nZ) ?_
    refine oMov eZ ?_
    refine xNil ?_
    refine TQ.qn ?_
    refine AW.seq ?_
    refine AW.seq ?_
    refine AW.regs ?_
    refine oMov (eR rfl) ?_
    refine oMov (eR rfl) ?_
    refine oLoadVA (es := [(.d (.int .i64 a4.Lo)), (.d (.int .i64 a4.Hi))]) (eR rfl) (bS rfl bZ) rfl ?_
    refine oMov (eR rfl) ?_
    obtain ⟨v10, h11, H⟩ := obind H
    refine oCall (u := (.one (.d (.bool v10)))) eC Cl.fn (c_spec_l12Holds h11) (Evs.cons (eR rfl) (Evs.cons (eR rfl) (Evs.cons (eS rfl eZ) (Evs.cons eZ Evs.nil)))) (VDs.cons VD.plain (VDs.cons VD.plain (VDs.cons (VD.agg rfl) (VDs.cons VD.plain VDs.nil)))) rfl ?_
    refine xNil ?_
    refine TQ.qn ?_
    refine AW.weaken (wk_mk [] (SL.cons (k := 36) eZ rfl VWk.rfl (SL.cons (k := 14) (eR rfl) rfl VWk.rfl (SL.cons (k := 13) (eR rfl) rfl VWk.rfl (SL.cons (k := 8) (eR rfl) rfl VWk.rfl (SL.cons (k := 0) (eR rfl) rfl VWk.rfl (SL.cons (k := 1) (eR rfl) rfl VWk.rfl (SL.cons (k := 2) (eR rfl) rfl VWk.rfl (SL.cons (k := 4) (eR rfl) rfl VWk.rfl SL.nil)))))))) (BL.keep rfl (BL.keep rfl BL.nil)) (BK.cons (n := 1984) rfl bZ rfl rfl (BK.cons (n := 512) rfl (bS rfl bZ) rfl rfl BK.nil))) ?_
    rcases oite H with ⟨h12, H⟩ | ⟨h12, H⟩
    · refine AW.condT eZ h12 ?_
      refine AW.seq ?_
      refine AW.regs ?_
      refine oMov (eS rfl eZ) ?_
      refine oMov (eR rfl) ?_
      refine oMov (eS rfl eZ) ?_
      refine oMov (eS rfl eZ) ?_
      refine oMov eC ?_
      refine xNil ?_
      refine TQ.qn ?_
      refine AW.ret ?_
      refine TQ.qr ?_
      obtain rfl := Option.some.inj H
      exact endsR (RL.cons (RV.tmp (eR rfl)) (VO.sl bZ (List.length_map _) (allFlat fun _ => rfl)) (RL.cons (RV.tmp (eS rfl eZ)) VO.zs (RL.cons (RV.tmp eZ) (VO.flat rfl) RL.nil))) (by decide)
    · refine AW.condF eZ (nt h12) ?_
      refine AW.skip ?_
      refine TQ.qn ?_
      refine AW.seq ?_
      refine AW.seq ?_
      refine AW.regs ?_
      refine oMov (eR rfl) ?_
      refine oMov (eR rfl) ?_
      refine oMov (eR rfl) ?_
      refine oLoadVA (es := [(.d (.int .i64 a4.Lo)), (.d (.int .i64 a4.Hi))]) (eR rfl) (bS rfl bZ) rfl ?_
      refine oMov (eR rfl) ?_
      obtain ⟨v13, h14, H⟩ := obind H
      refine oCall (u := (.one (.d (.sl 1 (List.map d_i64 v13))))) eC Cl.fn (c_spec_LocksWaits h14) (Evs.cons (eR rfl) (Evs.cons (eR rfl) (Evs.cons (eR rfl) (Evs.cons (eS rfl eZ) (Evs.cons eZ Evs.nil))))) (VDs.cons VD.plain (VDs.cons VD.plain (VDs.cons VD.plain (VDs.cons (VD.agg rfl) (VDs.cons VD.plain VDs.nil))))) rfl ?_
      refine oLenD eZ (n := v13.length) (List.length_map _) ?_
      refine oGtr eZ eC ?_
      refine xNil ?_
      refine TQ.qn ?_
      refine AW.weaken (wk_mk [] (SL.cons (k := 46) eZ rfl VWk.rfl (SL.cons (k := 14) (eR rfl) rfl VWk.rfl (SL.cons (k := 13) (eR rfl) rfl VWk.rfl (SL.cons (k := 8) (eR rfl) rfl VWk.rfl (SL.cons (k := 0) (eR rfl) rfl VWk.rfl (SL.cons (k := 2) (eR rfl) rfl VWk.rfl (SL.cons (k := 4) (eR rfl) rfl VWk.rfl SL.nil))))))) (BL.keep rfl (BL.keep rfl BL.nil)) (BK.cons (n := 1984) rfl bZ rfl rfl (BK.cons (n := 512) rfl (bS rfl bZ) rfl rfl BK.nil))) ?_
      rcases oite H with ⟨h15, H⟩ | ⟨h15, H⟩
      · refine AW.condT eZ (decide_eq_true h15) ?_
        refine AW.seq ?_
        refine AW.regs ?_
        refine oMov (eS rfl eZ) ?_
        refine oMov (eR rfl) ?_
        refine oMov (eS rfl eZ) ?_
        refine oMov (eS rfl eZ) ?_
        refine oMov eC ?_
        refine xNil ?_
        refine TQ.qn ?_
        refine AW.ret ?_
        refine TQ.qr ?_
        obtain rfl := Option.some.inj H
        exact endsR (RL.cons (RV.tmp (eR rfl)) (VO.sl bZ (List.length_map _) (allFlat fun _ => rfl)) (RL.cons (RV.tmp (eS rfl eZ)) VO.zs (RL.cons (RV.tmp eZ) (VO.flat rfl) RL.nil))) (by decide)
      · refine AW.condF eZ (decide_eq_false h15) ?_
        refine AW.skip ?_
        refine TQ.qn ?_
        refine AW.seq ?_
        refine AW.regs ?_
        refine oMov (eR rfl) ?_
        refine oFaddrN (m := 0) (eR rfl) rfl ?_
        refine oLoadV (q := 0) (c := (.d (.int .i64 a4.Lo))) eZ (bS rfl bZ) rfl rfl ?_
        refine oFaddrN (m := 1) (eR rfl) rfl ?_
        refine oLoadV (q := 1) (c := (.d (.int .i64 a4.Hi))) eZ (bS rfl bZ) rfl rfl ?_
        refine oMov (eR rfl) ?_
        refine oBuild (cs := [(.d (.int .i64 a3)), (.d (.int .i64 a4.Lo)), (.d (.int .i64 a4.Hi)), (.d (.int .i64 a5))]) (PsCons (eR rfl) (PsCons (eR rfl) (PsCons (eS rfl eZ) (PsCons eZ PsNil)))) rfl ?_
        refine oVar (n := 960) (m := 4) rfl rfl (nS rfl (nS rfl nZ)) ?_
        refine oStoreV (es := [(.d (.int .i64 a3)), (.d (.int .i64 a4.Lo)), (.d (.int .i64 a4.Hi)), (.d (.int .i64 a5))]) eZ (eS rfl eZ) rfl rfl bZ rfl ?_
        refine xNil ?_
        refine TQ.qn ?_
        refine AW.seq ?_
        refine AW.regs ?_
        refine oMov (eR rfl) ?_
        refine oLoadVA (es := [(.d (.int .i64 a3)), (.d (.int .i64 a4.Lo)), (.d (.int .i64 a4.Hi)), (.d (.int .i64 a5))]) (eS rfl eZ) bZ rfl ?_
        obtain ⟨v16, h17, H⟩ := obind H
        refine oCallN (u := (.one (.sl 3712 0 v16.length))) (bs := [(3712, (.data 1 (List.map d_i64 v16) true none))]) eC Cl.fn (c_spec_l12Foes h17) (Evs.cons (eS rfl eZ) (Evs.cons eZ Evs.nil)) (VDs.cons VD.plain (VDs.cons (VD.agg rfl) VDs.nil)) (by simp [bindR, bindV, bindVs, bindC, bindCs]) rfl (fC (nS rfl (nS rfl (nS rfl (nS rfl nZ)))) rfl (fC (nS rfl (nS rfl (nS rfl (nS rfl nZ)))) rfl fN)) ?_
        refine oMov eZ ?_
        refine xNil ?_
        refine TQ.qn ?_
        refine AW.weaken (wk_mk [512] (SL.cons (k := 16) eZ rfl VWk.rfl (SL.cons (k := 15) (eR rfl) rfl VWk.rfl (SL.cons (k := 14) (eR rfl) rfl VWk.rfl (SL.cons (k := 13) (eR rfl) rfl VWk.rfl (SL.cons (k := 0) (eR rfl) rfl VWk.rfl SL.nil))))) (BL.keep rfl (BL.keep rfl (BL.keep rfl (BL.keep rfl (BL.drop rfl BL.nil))))) (BK.cons (n := 3712) rfl bZ rfl rfl (BK.cons (n := 960) rfl (bS rfl bZ) rfl rfl (BK.cons (n := 1984) rfl (bS rfl (bS rfl (bS rfl bZ))) rfl rfl BK.nil)))) ?_
        refine AW.seq ?_
        refine AW.regs ?_
        refine oMov (eR rfl) ?_
        refine oMov eZ ?_
        refine xNil ?_
        refine TQ.qn ?_
        refine AW.seqJ (fun t18 : (List TLock) => (spec_LockAsk_j18 a1 a3 a4 a5 v16) t18 = some r) (fun t18 => mk [(0, (.one (.d (.sl 4 (List.map d_TLock a1))))), (13, (.one .zs)), (15, (.one (.ptr (.nm 960 0 0)))), (16, (.one (.sl 3712 0 v16.length))), (17, (.one (.sl 320128 0 t18.length)))] [(320128, (.data 4 (List.map d_TLock t18) true none)), (960, (.vars 4 [(.d (.int .i64 a3)), (.d (.int .i64 a4.Lo)), (.d (.int .i64 a4.Hi)), (.d (.int .i64 a5))])), (3712, (.data 1 (List.map d_i64 v16) true none))] noG) ?_ ?_
        · intro t18 H
          unfold spec_LockAsk_j18 at H
          refine AW.seq ?_
          refine AW.seq ?_
          refine AW.regs ?_
          refine oMov (eR rfl) ?_
          refine oLenN eZ ?_
          refine oEql eZ eC ?_
          refine xNil ?_
          refine TQ.qn ?_
          rcases oite H with ⟨h20, H⟩ | ⟨h20, H⟩
          · refine AW.condT eZ (decide_eq_true h20) ?_
            refine AW.seq ?_
            refine AW.regs ?_
            refine oBsliceZ (m := 4800) rfl (nS rfl (nS rfl (nS rfl nZ))) ?_
            refine oMov (eR rfl) ?_
            obtain ⟨h21, H⟩ := oguard H
            refine oAppZ (f := d_TLock) (m := 4928) (own := true) (ys := a1) (q := a1.length) rfl rfl (eS rfl eZ) eZ (El.lent fun _ _ => rfl) rfl h21 (by decide) (nS rfl (nS rfl (nS rfl nZ))) ?_
            refine oMov (eR rfl) ?_
            refine oMov (eS rfl eZ) ?_
            refine oMov (eS rfl eZ) ?_
            refine oMov eC ?_
            refine xNil ?_
            refine TQ.qn ?_
            refine AW.ret ?_
            refine TQ.qr ?_
            obtain rfl := Option.some.inj H
            exact endsR (RL.cons (RV.tmp (eR rfl)) (VO.sl bZ (List.length_map _) (allFlat fun _ => rfl)) (RL.cons (RV.tmp (eS rfl eZ)) VO.zs (RL.cons (RV.tmp eZ) (VO.flat rfl) RL.nil))) (by decide)
          · refine AW.condF eZ (decide_eq_false h20) ?_
            refine AW.skip ?_
            refine TQ.qn ?_
            refine AW.seq ?_
            refine AW.regs ?_
            refine oMov (eR rfl) ?_
            refine oLoadVA (es := [(.d (.int .i64 a3)), (.d (.int .i64 a4.Lo)), (.d (.int .i64 a4.Hi)), (.d (.int .i64 a5))]) (eR rfl) (bS rfl bZ) rfl ?_
            refine oBslice (m := 5184) (q := 1) (cs := [(.d (.int .i64 a3)), (.d (.int .i64 a4.Lo)), (.d (.int .i64 a4.Hi)), (.d (.int .i64 a5))]) rfl (PsCons eZ PsNil) rfl (List.cons_ne_nil _ _) (by simp) (nS rfl (nS rfl (nS rfl nZ))) ?_
            obtain ⟨h22, H⟩ := oguard H
            refine oAppN (f := d_TLock) (xs := t18) (ys := [(TLock.mk a3 a4.Lo a4.Hi a5)]) (q := (t18 ++ ([(TLock.mk a3 a4.Lo a4.Hi a5)])).length) (eR rfl) eZ (bS rfl bZ) rfl (El.one (f := d_TLock) (t := (TLock.mk a3 a4.Lo a4.Hi a5)) (es := [(.int .i64 a3), (.int .i64 a4.Lo), (.int .i64 a4.Hi), (.int .i64 a5)]) bZ rfl rfl rfl) rfl h22 (by decide) (by decide) (erL.cons (v' := (.one (.sl 5184 0 1))) rfl (erL.cons (v' := (.agg [(.d (.int .i64 a3)), (.d (.int .i64 a4.Lo)), (.d (.int .i64 a4.Hi)), (.d (.int .i64 a5))])) rfl (erL.cons (v' := (.one .any)) rfl (erL.cons (v' := (.one (.d (.bool (decide (((t18.length : Nat) : Int) = 40)))))) rfl (erL.cons (v' := (.one (.d (.int .i64 ((t18.length : Nat) : Int))))) rfl (erL.cons (v' := (.one .any)) rfl (erL.cons (v' := (.one (.d (.sl 4 (List.map d_TLock a1))))) rfl (erL.cons (v' := (.one .zs)) rfl (erL.cons (v' := (.one (.ptr (.nm 960 0 0)))) rfl (erL.cons (v' := (.one (.sl 3712 0 v16.length))) rfl (erL.cons (v' := (.one .any)) rfl erL.nil))))))))))) (erH.cons (v' := (.vars 4 [(.d (.int .i64 a3)), (.d (.int .i64 a4.Lo)), (.d (.int .i64 a4.Hi)), (.d (.int .i64 a5))])) rfl rfl (erH.drop rfl (erH.cons (v' := (.vars 4 [(.d (.int .i64 a3)), (.d (.int .i64 a4.Lo)), (.d (.int .i64 a4.Hi)), (.d (.int .i64 a5))])) rfl rfl (erH.cons (v' := (.data 1 (List.map d_i64 v16) true none)) rfl rfl erH.nil)))) ?_
            refine oMov (eR rfl) ?_
            refine oMov (eS rfl eZ) ?_
            refine oMov (eS rfl eZ) ?_
            refine oMov eC ?_
            refine xNil ?_
            refine TQ.qn ?_
            refine AW.weaken (wk_mk [5184, 960] (SL.cons (k := 12) eZ rfl VWk.rfl (SL.cons (k := 11) (eS rfl eZ) rfl VWk.rfl (SL.cons (k := 10) (eR rfl) rfl VWk.rfl SL.nil))) (BL.keep rfl (BL.drop rfl (BL.drop rfl (BL.keep rfl BL.nil)))) (BK.cons (n := 320128) rfl bZ rfl rfl (BK.cons (n := 3712) rfl (bS rfl (bS rfl (bS rfl bZ))) rfl rfl BK.nil))) ?_
            refine AW.ret ?_
            obtain rfl := Option.some.inj H
            exact endsR (RL.cons (RV.tmp (eR rfl)) (VO.sl bZ (List.length_map _) (allFlat fun _ => rfl)) (RL.cons (RV.tmp (eS rfl eZ)) (VO.sl (bS rfl bZ) (List.length_map _) (allFlat fun _ => rfl)) (RL.cons (RV.tmp eZ) (VO.flat rfl) RL.nil))) (by decide)
        · refine AW.seq ?_
          refine AW.regs ?_
          refine oMov eC ?_
          refine xNil ?_
          refine TQ.qn ?_
          refine AW.block ?_
          refine AW.iter (fun s23 : ((List TLock) × Int) => mk [(0, (.one (.d (.sl 4 (List.map d_TLock a1))))), (13, (.one .zs)), (15, (.one (.ptr (.nm 960 0 0)))), (16, (.one (.sl 3712 0 v16.length))), (17, (.one (.sl 320192 0 s23.1.length))), (18, (.one (.d (.int .i64 s23.2))))] [(320192, (.data 4 (List.map d_TLock s23.1) true none)), (960, (.vars 4 [(.d (.int .i64 a3)), (.d (.int .i64 a4.Lo)), (.d (.int .i64 a4.Hi)), (.d (.int .i64 a5))])), (3712, (.data 1 (List.map d_i64 v16) true none))] noG) H ((wk_mk [] (SL.cons (eR rfl) rfl VWk.rfl (SL.cons (eR rfl) rfl VWk.rfl (SL.cons (eR rfl) rfl VWk.rfl (SL.cons (eR rfl) rfl VWk.rfl (SL.cons (eS rfl eZ) rfl VWk.rfl (SL.cons eZ rfl VWk.rfl SL.nil)))))) (BL.keep rfl (BL.keep rfl (BL.keep rfl BL.nil))) (BK.cons rfl (bS rfl (bS rfl bZ)) rfl rfl (BK.cons rfl (bS rfl bZ) rfl rfl (BK.cons rfl bZ rfl rfl BK.nil)))).trans (wk_ren 1984 320192 rfl rfl (nS rfl (nS rfl (nS rfl nZ))))) ?_
          intro kb24 s23 H
          unfold spec_LockAsk_b23 at H
          refine AW.seq ?_
          refine AW.seq ?_
          refine AW.regs ?_
          refine oMov (eR rfl) ?_
          refine oMov (eR rfl) ?_
          refine oLenN eZ ?_
          refine oLss (eR rfl) eZ ?_
          refine xNil ?_
          refine TQ.qn ?_
          rcases oite H with ⟨h25, H⟩ | ⟨h25, H⟩
          · refine AW.condT eZ (decide_eq_true h25) ?_
            refine AW.skip ?_
            refine TQ.qn ?_
            refine AW.seq ?_
            refine AW.block ?_
            refine AW.regs ?_
            refine oMov (eR rfl) ?_
            refine oMov (eR rfl) ?_
            refine oMov (eR rfl) ?_
            obtain ⟨v26, h27, H⟩ := obind H
            refine oAtN (eS rfl eZ) eZ (bS rfl (bS rfl bZ)) rfl h27 ?_
            refine oLoadD (t := v26) (e := (.int .i64 v26)) eZ (bS rfl (bS rfl bZ)) (idx_at h27) rfl rfl ?_
            obtain ⟨v28, h29, H⟩ := obind H
            refine oCallN (u := (.one (.sl 4544 0 v28.length))) (bs := [(4544, (.data 4 (List.map d_TLock v28) true none))]) eC Cl.fn (c_spec_l12Keep h29) (Evs.cons (eR rfl) (Evs.cons eZ (Evs.cons eC Evs.nil))) (VDs.cons (VD.sl bZ (List.length_map _)) (VDs.cons VD.plain (VDs.cons VD.plain VDs.nil))) (by simp [bindR, bindV, bindVs, bindC, bindCs]) rfl (fC (nS rfl (nS rfl (nS rfl nZ))) rfl (fC (nS rfl (nS rfl (nS rfl nZ))) rfl fN)) ?_
            refine oMov eZ ?_
            refine xNil ?_
            refine BQ.qn ?_
            refine TQ.qn ?_
            refine AW.weaken (wk_mk [320192] (SL.cons (k := 17) eZ rfl VWk.rfl (SL.cons (k := 0) (eR rfl) rfl VWk.rfl (SL.cons (k := 13) (eR rfl) rfl VWk.rfl (SL.cons (k := 15) (eR rfl) rfl VWk.rfl (SL.cons (k := 16) (eR rfl) rfl VWk.rfl (SL.cons (k := 18) (eR rfl) rfl VWk.rfl SL.nil)))))) (BL.keep rfl (BL.drop rfl (BL.keep rfl (BL.keep rfl BL.nil)))) (BK.cons (n := 4544) rfl bZ rfl rfl (BK.cons (n := 960) rfl (bS rfl (bS rfl bZ)) rfl rfl (BK.cons (n := 3712) rfl (bS rfl (bS rfl (bS rfl bZ))) rfl rfl BK.nil)))) ?_
            refine AW.regs ?_
            refine oMov (eR rfl) ?_
            refine oAdd eZ eC ?_
            refine oMov eZ ?_
            refine xNil ?_
            exact TQ.qn ⟨(v28, (IntKind.wrap .i64 (s23.2 + 1))), H, ((wk_mk [] (SL.cons (eR rfl) rfl VWk.rfl (SL.cons (eR rfl) rfl VWk.rfl (SL.cons (eR rfl) rfl VWk.rfl (SL.cons (eR rfl) rfl VWk.rfl (SL.cons (eR rfl) rfl VWk.rfl (SL.cons eZ rfl VWk.rfl SL.nil)))))) (BL.keep rfl (BL.keep rfl (BL.keep rfl BL.nil))) (BK.cons rfl bZ rfl rfl (BK.cons rfl (bS rfl bZ) rfl rfl (BK.cons rfl (bS rfl (bS rfl bZ)) rfl rfl BK.nil)))).trans (wk_ren 4544 320192 rfl rfl (nS rfl (nS rfl (nS rfl nZ)))))⟩
          · refine AW.condF eZ (decide_eq_false h25) ?_
            refine AW.exit ?_
            refine TQ.qe ?_
            refine TQ.qe ?_
            refine BQ.qe ?_
            exact TQ.qn ⟨s23.1, H, ((wk_mk [] (SL.cons (eR rfl) rfl VWk.rfl (SL.cons (eR rfl) rfl VWk.rfl (SL.cons (eR rfl) rfl VWk.rfl (SL.cons (eR rfl) rfl VWk.rfl (SL.cons (eR rfl) rfl VWk.rfl SL.nil))))) (BL.keep rfl (BL.keep rfl (BL.keep rfl BL.nil))) (BK.cons rfl bZ rfl rfl (BK.cons rfl (bS rfl bZ) rfl rfl (BK.cons rfl (bS rfl (bS rfl bZ)) rfl rfl BK.nil)))).trans (wk_ren 320192 320128 rfl rfl (nS rfl (nS rfl (nS rfl nZ)))))⟩
  · refine AW.condT eZ (congrArg Bool.not (nt h8)) ?_
    refine AW.seq ?_
    refine AW.regs ?_
    refine oBsliceZ (m := 1728) rfl (nS rfl nZ) ?_
    refine oMov (eR rfl) ?_
    refine oMov (eS rfl eZ) ?_
    refine oMov (eS rfl eZ) ?_
    refine oMov eC ?_
    refine xNil ?_
    refine TQ.qn ?_
    refine AW.ret ?_
    refine TQ.qr ?_
    obtain rfl := Option.some.inj H
    exact endsR (RL.cons (RV.tmp (eR rfl)) VO.zs (RL.cons (RV.tmp (eS rfl eZ)) VO.zs (RL.cons (RV.tmp eZ) (VO.flat rfl) RL.nil))) List.nodup_nil

theorem c_impl_from {a1 : Int} {a2 : Int} {a3 : Int} {r : Bool} (H : m_impl_from a1 a2 a3 = some r) : Fn Try.prog k_impl_from (lent [(.int .i64 a1), (.int .i64 a2), (.int .i64 a3)]) true [(.bool r)] := by
  refine i_impl_from_fn (Nat.le_of_ble_eq_true rfl) ?_
  rw [init_mk]
  refine AW.weaken (wk_mk [] (SL.cons (v := (.one (.d (.int .i64 a1)))) eZ rfl VWk.rfl (SL.cons (v := (.one (.d (.int .i64 a2)))) (eS rfl eZ) rfl VWk.rfl (SL.cons (v := (.one (.d (.int .i64 a3)))) (eS rfl (eS rfl eZ)) rfl VWk.rfl SL.nil))) BL.nil BK.nil) ?_
  unfold m_impl_from at H
  unfold i_impl_from
  refine AW.seq ?_
  refine AW.regs ?_
  refine oMov eC ?_
  refine xNil ?_
  refine TQ.qn ?_
  refine AW.seq ?_
  refine AW.regs ?_
  refine oMov (eS rfl eZ) ?_
  refine oMov (eR rfl) ?_
  refine oGeq (eS rfl eZ) eZ ?_
  refine oMov eZ ?_
  rcases oite H with ⟨h4, H⟩ | ⟨h4, H⟩
  · refine gDo eZ (decide_eq_true h4) ?_
    refine oMov (eR rfl) ?_
    refine gDo (eS rfl eZ) (decide_eq_true h4) ?_
    refine oMov (eR rfl) ?_
    refine gDo (eR rfl) (decide_eq_true h4) ?_
    refine oLeq (eS rfl eZ) eZ ?_
    refine oPickT (eR rfl) (decide_eq_true h4) eZ ?_
    refine oMov eZ ?_
    refine xNil ?_
    refine TQ.qn ?_
    refine AW.ret ?_
    obtain rfl := Option.some.inj H
    exact endsR (RL.cons (RV.tmp eZ) (VO.flat rfl) RL.nil) List.nodup_nil
  · refine gSkip eZ (decide_eq_false h4) rfl ?_
    refine gSkip (eS rfl eZ) (decide_eq_false h4) rfl ?_
    refine gSkip (eR rfl) (decide_eq_false h4) rfl ?_
    refine oPickF (eR rfl) (decide_eq_false h4) eC ?_
    refine oMov eZ ?_
    refine xNil ?_
    refine TQ.qn ?_
    refine AW.ret ?_
    obtain rfl := Option.some.inj H
    exact endsR (RL.cons (RV.tmp eZ) (VO.flat rfl) RL.nil) List.nodup_nil

theorem c_impl_isTx {a1 : Int} {r : Bool} (H : m_impl_isTx a1 = some r) : Fn Try.prog k_impl_isTx (lent [(.int .i64 a1)]) true [(.bool r)] := by
  refine i_impl_isTx_fn (Nat.le_of_ble_eq_true rfl) ?_
  rw [init_mk]
  refine AW.weaken (wk_mk [] (SL.cons (v := (.one (.d (.int .i64 a1)))) eZ rfl VWk.rfl SL.nil) BL.nil BK.nil) ?_
  unfold m_impl_isTx at H
  unfold i_impl_isTx
  refine AW.seq ?_
  refine AW.regs ?_
  refine oMov eC ?_
  refine xNil ?_
  refine TQ.qn ?_
  refine AW.seq ?_
  refine AW.regs ?_
  refine oMov (eS rfl eZ) ?_
  obtain ⟨v2, h3, H⟩ := obind H
  refine oCall (u := (.one (.d (.bool v2)))) eC Cl.fn (c_impl_from h3) (Evs.cons eZ (Evs.cons eC (Evs.cons eC Evs.nil))) (VDs.cons VD.plain (VDs.cons VD.plain (VDs.cons VD.plain VDs.nil))) rfl ?_
  refine oMov eZ ?_
  refine xNil ?_
  refine TQ.qn ?_
  refine AW.ret ?_
  obtain rfl := Option.some.inj H
  exact endsR (RL.cons (RV.tmp eZ) (VO.flat rfl) RL.nil) List.nodup_nil

theorem c_impl_Lock_keys {a1 : TLock} {r : TRange} (H : m_impl_Lock_keys a1 = some r) : Fn Try.prog k__impl_Lock_keys (lent [(.agg (d_TLock a1))]) true [(.agg (d_TRange r))] := by
  refine i__impl_Lock_keys_fn (Nat.le_of_ble_eq_true rfl) ?_
  rw [init_mk]
  refine AW.weaken (wk_mk [] (SL.cons (v := (.agg [(.d (.int .i64 a1.Tx)), (.d (.int .i64 a1.Lo)), (.d (.int .i64 a1.Hi)), (.d (.int .i64 a1.Mode))])) eZ rfl VWk.rfl SL.nil) BL.nil BK.nil) ?_
  unfold m_impl_Lock_keys at H
  unfold i__impl_Lock_keys
  refine AW.seq ?_
  refine AW.regs ?_
  refine oBox (n := 64) (m := 4) (cs := [(.d (.int .i64 a1.Tx)), (.d (.int .i64 a1.Lo)), (.d (.int .i64 a1.Hi)), (.d (.int .i64 a1.Mode))]) rfl eZ rfl rfl nZ ?_
  refine oVar (n := 128) (m := 2) rfl rfl (nS rfl nZ) ?_
  refine xNil ?_
  refine TQ.qn ?_
  refine AW.seq ?_
  refine AW.regs ?_
  refine oFaddrN (m := 1) (eS rfl eZ) rfl ?_
  refine oLoadV (q := 1) (c := (.d (.int .i64 a1.Lo))) eZ (bS rfl bZ) rfl rfl ?_
  refine oFaddrN (m := 2) (eR rfl) rfl ?_
  refine oLoadV (q := 2) (c := (.d (.int .i64 a1.Hi))) eZ (bS rfl bZ) rfl rfl ?_
  refine oBuild (cs := [(.d (.int .i64 a1.Lo)), (.d (.int .i64 a1.Hi))]) (PsCons (eR rfl) (PsCons eZ PsNil)) rfl ?_
  refine oStoreV (es := [(.d (.int .i64 a1.Lo)), (.d (.int .i64 a1.Hi))]) (eR rfl) eZ rfl rfl bZ rfl ?_
  refine xNil ?_
  refine TQ.qn ?_
  refine AW.ret ?_
  obtain rfl := Option.some.inj H
  exact endsR (RL.cons (RV.cellA (es := [(.d (.int .i64 a1.Lo)), (.d (.int .i64 a1.Hi))]) (eR rfl) bZ rfl) (VO.agg (ds := [(.int .i64 a1.Lo), (.int .i64 a1.Hi)]) rfl rfl) RL.nil) List.nodup_nil

theorem c_impl_RangeOk {a1 : TRange} {r : Bool} (H : m_impl_RangeOk a1 = some r) : Fn Try.prog k_impl_RangeOk (lent [(.agg (d_TRange a1))]) true [(.bool r)] := by
  refine i_impl_RangeOk_fn (Nat.le_of_ble_eq_true rfl) ?_
  rw [init_mk]
  refine AW.weaken (wk_mk [] (SL.cons (v := (.agg [(.d (.int .i64 a1.Lo)), (.d (.int .i64 a1.Hi))])) eZ rfl VWk.rfl SL.nil) BL.nil BK.nil) ?_
  unfold m_impl_RangeOk at H
  unfold i_impl_RangeOk
  refine AW.seq ?_
  refine AW.regs ?_
  refine oBox (n := 64) (m := 2) (cs := [(.d (.int .i64 a1.Lo)), (.d (.int .i64 a1.Hi))]) rfl eZ rfl rfl nZ ?_
  refine oMov eC ?_
  refine xNil ?_
  refine TQ.qn ?_
  refine AW.seq ?_
  refine AW.regs ?_
  refine oFaddrN (m := 0) (eS rfl eZ) rfl ?_
  refine oLoadV (q := 0) (c := (.d (.int .i64 a1.Lo))) eZ bZ rfl rfl ?_
  refine oGeq eZ eC ?_
  refine oMov eZ ?_
  rcases oite H with ⟨h2, H⟩ | ⟨h2, H⟩
  · refine gDo eZ (decide_eq_true h2) ?_
    refine oFaddrN (m := 0) (eR rfl) rfl ?_
    refine gDo (eS rfl eZ) (decide_eq_true h2) ?_
    refine oLoadV (q := 0) (c := (.d (.int .i64 a1.Lo))) eZ bZ rfl rfl ?_
    refine gDo (eR rfl) (decide_eq_true h2) ?_
    refine oFaddrN (m := 1) (eR rfl) rfl ?_
    refine gDo (eR rfl) (decide_eq_true h2) ?_
    refine oLoadV (q := 1) (c := (.d (.int .i64 a1.Hi))) eZ bZ rfl rfl ?_
    refine gDo (eR rfl) (decide_eq_true h2) ?_
    refine oLss (eR rfl) eZ ?_
    refine oPickT (eR rfl) (decide_eq_true h2) eZ ?_
    refine oMov eZ ?_
    rcases oite H with ⟨h3, H⟩ | ⟨h3, H⟩
    · refine gDo eZ (decide_eq_true h3) ?_
      refine oFaddrN (m := 1) (eR rfl) rfl ?_
      refine gDo (eS rfl eZ) (decide_eq_true h3) ?_
      refine oLoadV (q := 1) (c := (.d (.int .i64 a1.Hi))) eZ bZ rfl rfl ?_
      refine gDo (eR rfl) (decide_eq_true h3) ?_
      refine oLeq eZ eC ?_
      refine oPickT (eR rfl) (decide_eq_true h3) eZ ?_
      refine oMov eZ ?_
      refine xNil ?_
      refine TQ.qn ?_
      refine AW.weaken (wk_mk [64] (SL.cons (k := 2) eZ rfl VWk.rfl SL.nil) (BL.drop rfl BL.nil) BK.nil) ?_
      refine AW.ret ?_
      obtain rfl := Option.some.inj H
      exact endsR (RL.cons (RV.tmp eZ) (VO.flat rfl) RL.nil) List.nodup_nil
    · refine gSkip eZ (decide_eq_false h3) rfl ?_
      refine gSkip (eS rfl eZ) (decide_eq_false h3) rfl ?_
      refine gSkip (eR rfl) (decide_eq_false h3) rfl ?_
      refine oPickF (eR rfl) (decide_eq_false h3) eC ?_
      refine oMov eZ ?_
      refine xNil ?_
      refine TQ.qn ?_
      refine AW.weaken (wk_mk [64] (SL.cons (k := 2) eZ rfl VWk.rfl SL.nil) (BL.drop rfl BL.nil) BK.nil) ?_
      refine AW.ret ?_
      obtain rfl := Option.some.inj H
      exact endsR (RL.cons (RV.tmp eZ) (VO.flat rfl) RL.nil) List.nodup_nil
  · refine gSkip eZ (decide_eq_false h2) rfl ?_
    refine gSkip (eS rfl eZ) (decide_eq_false h2) rfl ?_
    refine gSkip (eR rfl) (decide_eq_false h2) rfl ?_
    refine gSkip (eR rfl) (decide_eq_false h2) rfl ?_
    refine gSkip (eR rfl) (decide_eq_false h2) rfl ?_
    refine oPickF (eR rfl) (decide_eq_false h2) eC ?_
    refine oMov eZ ?_
    refine gSkip eZ rfl rfl ?_
    refine gSkip (eS rfl eZ) rfl rfl ?_
    refine gSkip (eR rfl) rfl rfl ?_
    refine oPickF (eR rfl) rfl eC ?_
    refine oMov eZ ?_
    refine xNil ?_
    refine TQ.qn ?_
    refine AW.weaken (wk_mk [64] (SL.cons (k := 2) eZ rfl VWk.rfl SL.nil) (BL.drop rfl BL.nil) BK.nil) ?_
    refine AW.ret ?_
    obtain rfl := Option.some.inj H
    exact endsR (RL.cons (RV.tmp eZ) (VO.flat rfl) RL.nil) List.nodup_nil

theorem c_impl_isMode {a1 : Int} {r : Bool} (H : m_impl_isMode a1 = some r) : Fn Try.prog k_impl_isMode (lent [(.int .i64 a1)]) true [(.bool r)] := by
  refine i_impl_isMode_fn (Nat.le_of_ble_eq_true rfl) ?_
  rw [init_mk]
  refine AW.weaken (wk_mk [] (SL.cons (v := (.one (.d (.int .i64 a1)))) eZ rfl VWk.rfl SL.nil) BL.nil BK.nil) ?_
  unfold m_impl_isMode at H
  unfold i_impl_isMode
  refine AW.seq ?_
  refine AW.regs ?_
  refine oMov eC ?_
  refine xNil ?_
  refine TQ.qn ?_
  refine AW.seq ?_
  refine AW.regs ?_
  refine oMov (eS rfl eZ) ?_
  refine oEql eZ eC ?_
  refine oMov eZ ?_
  rcases oite H with ⟨h2, H⟩ | ⟨h2, H⟩
  · refine gSkip eZ (decide_eq_true h2) rfl ?_
    refine gSkip (eS rfl eZ) (decide_eq_true h2) rfl ?_
    refine oPickT (eR rfl) (decide_eq_true h2) eC ?_
    refine oMov eZ ?_
    refine xNil ?_
    refine TQ.qn ?_
    refine AW.ret ?_
    obtain rfl := Option.some.inj H
    exact endsR (RL.cons (RV.tmp eZ) (VO.flat rfl) RL.nil) List.nodup_nil
  · refine gDo eZ (decide_eq_false h2) ?_
    refine oMov (eR rfl) ?_
    refine gDo (eS rfl eZ) (decide_eq_false h2) ?_
    refine oEql eZ eC ?_
    refine oPickF (eR rfl) (decide_eq_false h2) eZ ?_
    refine oMov eZ ?_
    refine xNil ?_
    refine TQ.qn ?_
    refine AW.ret ?_
    obtain rfl := Option.some.inj H
    exact endsR (RL.cons (RV.tmp eZ) (VO.flat rfl) RL.nil) List.nodup_nil

theorem c_impl_meets {a1 : TRange} {a2 : TRange} {r : Bool} (H : m_impl_meets a1 a2 = some r) : Fn Try.prog k_impl_meets (lent [(.agg (d_TRange a1)), (.agg (d_TRange a2))]) true [(.bool r)] := by
  refine i_impl_meets_fn (Nat.le_of_ble_eq_true rfl) ?_
  rw [init_mk]
  refine AW.weaken (wk_mk [] (SL.cons (v := (.agg [(.d (.int .i64 a1.Lo)), (.d (.int .i64 a1.Hi))])) eZ rfl VWk.rfl (SL.cons (v := (.agg [(.d (.int .i64 a2.Lo)), (.d (.int .i64 a2.Hi))])) (eS rfl eZ) rfl VWk.rfl SL.nil)) BL.nil BK.nil) ?_
  unfold m_impl_meets at H
  unfold i_impl_meets
  refine AW.seq ?_
  refine AW.regs ?_
  refine oBox (n := 128) (m := 2) (cs := [(.d (.int .i64 a1.Lo)), (.d (.int .i64 a1.Hi))]) rfl eZ rfl rfl nZ ?_
  refine oBox (n := 192) (m := 2) (cs := [(.d (.int .i64 a2.Lo)), (.d (.int .i64 a2.Hi))]) rfl (eR rfl) rfl rfl (nS rfl nZ) ?_
  refine oMov eC ?_
  refine xNil ?_
  refine TQ.qn ?_
  refine AW.seq ?_
  refine AW.regs ?_
  refine oFaddrN (m := 0) (eR rfl) rfl ?_
  refine oLoadV (q := 0) (c := (.d (.int .i64 a1.Lo))) eZ (bS rfl bZ) rfl rfl ?_
  refine oFaddrN (m := 1) (eR rfl) rfl ?_
  refine oLoadV (q := 1) (c := (.d (.int .i64 a2.Hi))) eZ bZ rfl rfl ?_
  refine oLss (eR rfl) eZ ?_
  refine oMov eZ ?_
  rcases oite H with ⟨h3, H⟩ | ⟨h3, H⟩
  · refine gDo eZ (decide_eq_true h3) ?_
    refine oFaddrN (m := 0) (eR rfl) rfl ?_
    refine gDo (eS rfl eZ) (decide_eq_true h3) ?_
    refine oLoadV (q := 0) (c := (.d (.int .i64 a2.Lo))) eZ bZ rfl rfl ?_
    refine gDo (eR rfl) (decide_eq_true h3) ?_
    refine oFaddrN (m := 1) (eR rfl) rfl ?_
    refine gDo (eR rfl) (decide_eq_true h3) ?_
    refine oLoadV (q := 1) (c := (.d (.int .i64 a1.Hi))) eZ (bS rfl bZ) rfl rfl ?_
    refine gDo (eR rfl) (decide_eq_true h3) ?_
    refine oLss (eR rfl) eZ ?_
    refine oPickT (eR rfl) (decide_eq_true h3) eZ ?_
    refine oMov eZ ?_
    refine xNil ?_
    refine TQ.qn ?_
    refine AW.weaken (wk_mk [192, 128] (SL.cons (k := 4) eZ rfl VWk.rfl SL.nil) (BL.drop rfl (BL.drop rfl BL.nil)) BK.nil) ?_
    refine AW.ret ?_
    obtain rfl := Option.some.inj H
    exact endsR (RL.cons (RV.tmp eZ) (VO.flat rfl) RL.nil) List.nodup_nil
  · refine gSkip eZ (decide_eq_false h3) rfl ?_
    refine gSkip (eS rfl eZ) (decide_eq_false h3) rfl ?_
    refine gSkip (eR rfl) (decide_eq_false h3) rfl ?_
    refine gSkip (eR rfl) (decide_eq_false h3) rfl ?_
    refine gSkip (eR rfl) (decide_eq_false h3) rfl ?_
    refine oPickF (eR rfl) (decide_eq_false h3) eC ?_
    refine oMov eZ ?_
    refine xNil ?_
    refine TQ.qn ?_
    refine AW.weaken (wk_mk [192, 128] (SL.cons (k := 4) eZ rfl VWk.rfl SL.nil) (BL.drop rfl (BL.drop rfl BL.nil)) BK.nil) ?_
    refine AW.ret ?_
    obtain rfl := Option.some.inj H
    exact endsR (RL.cons (RV.tmp eZ) (VO.flat rfl) RL.nil) List.nodup_nil

theorem c_impl_clash {a1 : TLock} {a2 : TLock} {r : Bool} (H : m_impl_clash a1 a2 = some r) : Fn Try.prog k_impl_clash (lent [(.agg (d_TLock a1)), (.agg (d_TLock a2))]) true [(.bool r)] := by
  refine i_impl_clash_fn (Nat.le_of_ble_eq_true rfl) ?_
  rw [init_mk]
  refine AW.weaken (wk_mk [] (SL.cons (v := (.agg [(.d (.int .i64 a1.Tx)), (.d (.int .i64 a1.Lo)), (.d (.int .i64 a1.Hi)), (.d (.int .i64 a1.Mode))])) eZ rfl VWk.rfl (SL.cons (v := (.agg [(.d (.int .i64 a2.Tx)), (.d (.int .i64 a2.Lo)), (.d (.int .i64 a2.Hi)), (.d (.int .i64 a2.Mode))])) (eS rfl eZ) rfl VWk.rfl SL.nil)) BL.nil BK.nil) ?_
  unfold m_impl_clash at H
  unfold i_impl_clash
  refine AW.seq ?_
  refine AW.regs ?_
  refine oBox (n := 128) (m := 4) (cs := [(.d (.int .i64 a1.Tx)), (.d (.int .i64 a1.Lo)), (.d (.int .i64 a1.Hi)), (.d (.int .i64 a1.Mode))]) rfl eZ rfl rfl nZ ?_
  refine oBox (n := 192) (m := 4) (cs := [(.d (.int .i64 a2.Tx)), (.d (.int .i64 a2.Lo)), (.d (.int .i64 a2.Hi)), (.d (.int .i64 a2.Mode))]) rfl (eR rfl) rfl rfl (nS rfl nZ) ?_
  refine oMov eC ?_
  refine xNil ?_
  refine TQ.qn ?_
  refine AW.seq ?_
  refine AW.regd ?_
  refine oFaddrN (m := 0) (eR rfl) rfl ?_
  refine oLoadV (q := 0) (c := (.d (.int .i64 a1.Tx))) eZ (bS rfl bZ) rfl rfl ?_
  refine oFaddrN (m := 0) (eR rfl) rfl ?_
  refine oLoadV (q := 0) (c := (.d (.int .i64 a2.Tx))) eZ bZ rfl rfl ?_
  refine oNeq (eR rfl) eZ ?_
  refine oMov eZ ?_
  rcases oite H with ⟨h3, H⟩ | ⟨h3, H⟩
  · refine gDo eZ (decide_eq_true h3) ?_
    refine oFaddrN (m := 3) (eR rfl) rfl ?_
    refine gDo (eS rfl eZ) (decide_eq_true h3) ?_
    refine oLoadV (q := 3) (c := (.d (.int .i64 a1.Mode))) eZ (bS rfl bZ) rfl rfl ?_
    refine gDo (eR rfl) (decide_eq_true h3) ?_
    refine oEql eZ eC ?_
    refine gDo (eR rfl) (decide_eq_true h3) ?_
    refine oMov eZ ?_
    rcases oite H with ⟨h4, H⟩ | ⟨h4, H⟩
    · refine gSkip eZ (decide_eq_true h4) rfl ?_
      refine gSkip (eS rfl eZ) (decide_eq_true h4) rfl ?_
      refine gSkip (eR rfl) (decide_eq_true h4) rfl ?_
      refine gDo (eR rfl) (decide_eq_true h3) ?_
      refine oPickT (eR rfl) (decide_eq_true h4) eC ?_
      refine oPickT (eR rfl) (decide_eq_true h3) eZ ?_
      refine oMov eZ ?_
      refine gDo eZ rfl ?_
      refine oLoadVA (es := [(.d (.int .i64 a1.Tx)), (.d (.int .i64 a1.Lo)), (.d (.int .i64 a1.Hi)), (.d (.int .i64 a1.Mode))]) (eR rfl) (bS rfl bZ) rfl ?_
      refine gDo (eS rfl eZ) rfl ?_
      obtain ⟨v5, h6, H⟩ := obind H
      refine oCall (u := (.agg [(.d (.int .i64 v5.Lo)), (.d (.int .i64 v5.Hi))])) eC Cl.fn (c_impl_Lock_keys h6) (Evs.cons eZ Evs.nil) (VDs.cons (VD.agg rfl) VDs.nil) rfl ?_
      refine gDo (eR rfl) rfl ?_
      refine oLoadVA (es := [(.d (.int .i64 a2.Tx)), (.d (.int .i64 a2.Lo)), (.d (.int .i64 a2.Hi)), (.d (.int .i64 a2.Mode))]) (eR rfl) (hB rfl bZ) rfl ?_
      refine gDo (eR rfl) rfl ?_
      obtain ⟨v7, h8, H⟩ := obind H
      refine oCall (u := (.agg [(.d (.int .i64 v7.Lo)), (.d (.int .i64 v7.Hi))])) eC Cl.fn (c_impl_Lock_keys h8) (Evs.cons eZ Evs.nil) (VDs.cons (VD.agg rfl) VDs.nil) rfl ?_
      refine gDo (eR rfl) rfl ?_
      obtain ⟨v9, h10, H⟩ := obind H
      refine oCall (u := (.one (.d (.bool v9)))) eC Cl.fn (c_impl_meets h10) (Evs.cons (eR rfl) (Evs.cons eZ Evs.nil)) (VDs.cons (VD.agg rfl) (VDs.cons (VD.agg rfl) VDs.nil)) rfl ?_
      refine oPickT (eR rfl) rfl eZ ?_
      refine oMov eZ ?_
      refine xNil ?_
      refine TQ.qn ?_
      refine AW.weaken (wk_mk [192, 128] (SL.cons (k := 4) eZ rfl VWk.rfl SL.nil) (BL.drop rfl (BL.drop rfl BL.nil)) BK.nil) ?_
      refine AW.ret ?_
      obtain rfl := Option.some.inj H
      exact endsR (RL.cons (RV.tmp eZ) (VO.flat rfl) RL.nil) List.nodup_nil
    · refine gDo eZ (decide_eq_false h4) ?_
      refine oFaddrN (m := 3) (eR rfl) rfl ?_
      refine gDo (eS rfl eZ) (decide_eq_false h4) ?_
      refine oLoadV (q := 3) (c := (.d (.int .i64 a2.Mode))) eZ bZ rfl rfl ?_
      refine gDo (eR rfl) (decide_eq_false h4) ?_
      refine oEql eZ eC ?_
      refine gDo (eR rfl) (decide_eq_true h3) ?_
      refine oPickF (eR rfl) (decide_eq_false h4) eZ ?_
      refine oPickT (eR rfl) (decide_eq_true h3) eZ ?_
      refine oMov eZ ?_
      rcases oite H with ⟨h11, H⟩ | ⟨h11, H⟩
      · refine gDo eZ (decide_eq_true h11) ?_
        refine oLoadVA (es := [(.d (.int .i64 a1.Tx)), (.d (.int .i64 a1.Lo)), (.d (.int .i64 a1.Hi)), (.d (.int .i64 a1.Mode))]) (eR rfl) (bS rfl bZ) rfl ?_
        refine gDo (eS rfl eZ) (decide_eq_true h11) ?_
        obtain ⟨v12, h13, H⟩ := obind H
        refine oCall (u := (.agg [(.d (.int .i64 v12.Lo)), (.d (.int .i64 v12.Hi))])) eC Cl.fn (c_impl_Lock_keys h13) (Evs.cons eZ Evs.nil) (VDs.cons (VD.agg rfl) VDs.nil) rfl ?_
        refine gDo (eR rfl) (decide_eq_true h11) ?_
        refine oLoadVA (es := [(.d (.int .i64 a2.Tx)), (.d (.int .i64 a2.Lo)), (.d (.int .i64 a2.Hi)), (.d (.int .i64 a2.Mode))]) (eR rfl) (hB rfl bZ) rfl ?_
        refine gDo (eR rfl) (decide_eq_true h11) ?_
        obtain ⟨v14, h15, H⟩ := obind H
        refine oCall (u := (.agg [(.d (.int .i64 v14.Lo)), (.d (.int .i64 v14.Hi))])) eC Cl.fn (c_impl_Lock_keys h15) (Evs.cons eZ Evs.nil) (VDs.cons (VD.agg rfl) VDs.nil) rfl ?_
        refine gDo (eR rfl) (decide_eq_true h11) ?_
        obtain ⟨v16, h17, H⟩ := obind H
        refine oCall (u := (.one (.d (.bool v16)))) eC Cl.fn (c_impl_meets h17) (Evs.cons (eR rfl) (Evs.cons eZ Evs.nil)) (VDs.cons (VD.agg rfl) (VDs.cons (VD.agg rfl) VDs.nil)) rfl ?_
        refine oPickT (eR rfl) (decide_eq_true h11) eZ ?_
        refine oMov eZ ?_
        refine xNil ?_
        refine TQ.qn ?_
        refine AW.weaken (wk_mk [192, 128] (SL.cons (k := 4) eZ rfl VWk.rfl SL.nil) (BL.drop rfl (BL.drop rfl BL.nil)) BK.nil) ?_
        refine AW.ret ?_
        obtain rfl := Option.some.inj H
        exact endsR (RL.cons (RV.tmp eZ) (VO.flat rfl) RL.nil) List.nodup_nil
      · refine gSkip eZ (decide_eq_false h11) rfl ?_
        refine gSkip (eS rfl eZ) (decide_eq_false h11) rfl ?_
        refine gSkip (eR rfl) (decide_eq_false h11) rfl ?_
        refine gSkip (eR rfl) (decide_eq_false h11) rfl ?_
        refine gSkip (eR rfl) (decide_eq_false h11) rfl ?_
        refine oPickF (eR rfl) (decide_eq_false h11) eC ?_
        refine oMov eZ ?_
        refine xNil ?_
        refine TQ.qn ?_
        refine AW.weaken (wk_mk [192, 128] (SL.cons (k := 4) eZ rfl VWk.rfl SL.nil) (BL.drop rfl (BL.drop rfl BL.nil)) BK.nil) ?_
        refine AW.ret ?_
        obtain rfl := Option.some.inj H
        exact endsR (RL.cons (RV.tmp eZ) (VO.flat rfl) RL.nil) List.nodup_nil
  · refine gSkip eZ (decide_eq_false h3) rfl ?_
    refine gSkip (eS rfl eZ) (decide_eq_false h3) rfl ?_
    refine gSkip (eR rfl) (decide_eq_false h3) rfl ?_
    refine gSkip (eR rfl) (decide_eq_false h3) rfl ?_
    refine gSkipU eZ rfl ?_
    refine gSkipU (eS rfl eZ) rfl ?_
    refine gSkipU (eR rfl) rfl ?_
    refine gSkip (eR rfl) (decide_eq_false h3) rfl ?_
    refine oPickF (eR rfl) (decide_eq_false h3) eC ?_
    refine oMov eZ ?_
    refine gSkip eZ rfl rfl ?_
    refine gSkip (eS rfl eZ) rfl rfl ?_
    refine gSkip (eR rfl) rfl rfl ?_
    refine gSkip (eR rfl) rfl rfl ?_
    refine gSkip (eR rfl) rfl rfl ?_
    refine oPickF (eR rfl) rfl eC ?_
    refine oMov eZ ?_
    refine xNil ?_
    refine TQ.qn ?_
    refine AW.weaken (wk_mk [192, 128] (SL.cons (k := 4) eZ rfl VWk.rfl SL.nil) (BL.drop rfl (BL.drop rfl BL.nil)) BK.nil) ?_
    refine AW.ret ?_
    obtain rfl := Option.some.inj H
    exact endsR (RL.cons (RV.tmp eZ) (VO.flat rfl) RL.nil) List.nodup_nil

theorem c_impl_LocksOk_1 {a1 : TLock} {a2 : TLock} {r : Bool} (H : m_impl_LocksOk_1 a1 a2 = some r) : Fn Try.prog k_impl_LocksOk_1 (lent [(.agg (d_TLock a1)), (.ptr (d_TLock a2))]) true [(.bool r)] := by
  refine i_impl_LocksOk_1_fn (Nat.le_of_ble_eq_true rfl) ?_
  rw [init_mk]
  refine AW.weaken (wk_mk [] (SL.cons (v := (.agg [(.d (.int .i64 a1.Tx)), (.d (.int .i64 a1.Lo)), (.d (.int .i64 a1.Hi)), (.d (.int .i64 a1.Mode))])) eZ rfl VWk.rfl (SL.cons (v := (.one (.ptr (.bd (d_TLock a2) 0)))) (eS rfl eZ) rfl (VWk.one CWk.ptr) SL.nil)) BL.nil BK.nil) ?_
  unfold m_impl_LocksOk_1 at H
  unfold i_impl_LocksOk_1
  refine AW.seq ?_
  refine AW.regs ?_
  refine oBox (n := 128) (m := 4) (cs := [(.d (.int .i64 a1.Tx)), (.d (.int .i64 a1.Lo)), (.d (.int .i64 a1.Hi)), (.d (.int .i64 a1.Mode))]) rfl eZ rfl rfl nZ ?_
  refine oMov eC ?_
  refine xNil ?_
  refine TQ.qn ?_
  refine AW.seq ?_
  refine AW.regs ?_
  refine oLoadBA (es := [(.d (.int .i64 a2.Tx)), (.d (.int .i64 a2.Lo)), (.d (.int .i64 a2.Hi)), (.d (.int .i64 a2.Mode))]) (eR rfl) rfl ?_
  refine oLoadVA (es := [(.d (.int .i64 a1.Tx)), (.d (.int .i64 a1.Lo)), (.d (.int .i64 a1.Hi)), (.d (.int .i64 a1.Mode))]) (eR rfl) bZ rfl ?_
  obtain ⟨v3, h4, H⟩ := obind H
  refine oCall (u := (.one (.d (.bool v3)))) eC Cl.fn (c_impl_clash h4) (Evs.cons (eS rfl eZ) (Evs.cons eZ Evs.nil)) (VDs.cons (VD.agg rfl) (VDs.cons (VD.agg rfl) VDs.nil)) rfl ?_
  refine oMov eZ ?_
  refine xNil ?_
  refine TQ.qn ?_
  refine AW.ret ?_
  obtain rfl := Option.some.inj H
  exact endsR (RL.cons (RV.tmp eZ) (VO.flat rfl) RL.nil) List.nodup_nil

theorem c_slices_IndexFunc_Lock__LocksOk_1 {a1 : (List TLock)} {a2 : TLock} {r : Int} (H : m_slices_IndexFunc_Lock__LocksOk_1 a1 a2 = some r) : Fn Try.prog k_slices_IndexFunc___impl_Lock_impl_Lock_ (lent [(.sl 4 (List.map d_TLock a1)), (.fn k_impl_LocksOk_1 [.ptr (d_TLock a2)])]) true [(.int .i64 r)] := by
  refine i_slices_IndexFunc___impl_Lock_impl_Lock__fn (Nat.le_of_ble_eq_true rfl) ?_
  rw [init_mk]
  refine AW.weaken (wk_mk [] (SL.cons (v := (.one (.d (.sl 4 (List.map d_TLock a1))))) eZ rfl VWk.rfl (SL.cons (v := (.one (.fn k_impl_LocksOk_1 [(.bd (d_TLock a2) 0)]))) (eS rfl eZ) rfl (VWk.one (CWk.fn (css := [d_TLock a2]))) SL.nil)) BL.nil BK.nil) ?_
  unfold m_slices_IndexFunc_Lock__LocksOk_1 at H
  unfold i_slices_IndexFunc___impl_Lock_impl_Lock_
  refine AW.seq ?_
  refine AW.regs ?_
  refine oMov eC ?_
  refine xNil ?_
  refine TQ.qn ?_
  refine AW.seqJ (fun t3 : Unit => slices_IndexFunc_Lock__LocksOk_1_j3 t3 = some r) (fun t3 => mk [] [] noG) ?_ ?_
  · intro t3 H
    unfold slices_IndexFunc_Lock__LocksOk_1_j3 at H
    refine AW.seq ?_
    refine AW.regs ?_
    refine oMov eC ?_
    refine xNil ?_
    refine TQ.qn ?_
    refine AW.ret ?_
    obtain rfl := Option.some.inj H
    exact endsR (RL.cons (RV.tmp eZ) (VO.flat rfl) RL.nil) List.nodup_nil
  · refine AW.seq ?_
    refine AW.regs ?_
    refine oMov (eS rfl eZ) ?_
    refine oLenD eZ (n := a1.length) (List.length_map _) ?_
    refine oMov eC ?_
    refine xNil ?_
    refine TQ.qn ?_
    refine AW.block ?_
    refine AW.iter (fun s5 : Int => mk [(0, (.one (.d (.sl 4 (List.map d_TLock a1))))), (1, (.one (.fn k_impl_LocksOk_1 [(.bd (d_TLock a2) 0)]))), (7, (.one (.d (.int .i64 (a1.length : Int))))), (8, (.one (.d (.int .i64 s5))))] [] noG) H (wk_mk [] (SL.cons (eR rfl) rfl VWk.rfl (SL.cons (eR rfl) rfl VWk.rfl (SL.cons (eS rfl eZ) rfl VWk.rfl (SL.cons eZ rfl VWk.rfl SL.nil)))) BL.nil BK.nil) ?_
    intro kb6 s5 H
    unfold slices_IndexFunc_Lock__LocksOk_1_b5 at H
    refine AW.seq ?_
    refine AW.regs ?_
    refine oLss (eR rfl) (eR rfl) ?_
    refine xNil ?_
    refine TQ.qn ?_
    refine AW.seq ?_
    rcases oite H with ⟨h7, H⟩ | ⟨h7, H⟩
    · refine AW.condT eZ (decide_eq_true h7) ?_
      refine AW.skip ?_
      refine TQ.qn ?_
      refine AW.seq ?_
      refine AW.block ?_
      refine AW.seq ?_
      refine AW.regs ?_
      refine oMov (eR rfl) ?_
      refine oMov eZ ?_
      refine xNil ?_
      refine TQ.qn ?_
      refine AW.seq ?_
      refine AW.regs ?_
      refine oMov (eR rfl) ?_
      refine oMov (eR rfl) ?_
      refine oMov (eR rfl) ?_
      obtain ⟨v8, h9, H⟩ := obind H
      refine oAtD (eS rfl eZ) eZ h9 ?_
      refine oLoadBA (es := [(.d (.int .i64 v8.Tx)), (.d (.int .i64 v8.Lo)), (.d (.int .i64 v8.Hi)), (.d (.int .i64 v8.Mode))]) eZ rfl ?_
      obtain ⟨v10, h11, H⟩ := obind H
      refine oCall (u := (.one (.d (.bool v10)))) (eR rfl) Cl.fn (c_impl_LocksOk_1 h11) (Evs.cons eZ Evs.nil) (VDs.cons (VD.agg rfl) (VDs.cons VD.ptrB VDs.nil)) rfl ?_
      refine xNil ?_
      refine TQ.qn ?_
      rcases oite H with ⟨h12, H⟩ | ⟨h12, H⟩
      · refine AW.condT eZ h12 ?_
        refine AW.seq ?_
        refine AW.regs ?_
        refine oMov (eR rfl) ?_
        refine oMov eZ ?_
        refine xNil ?_
        refine TQ.qn ?_
        refine AW.ret ?_
        refine BQ.qr ?_
        refine TQ.qr ?_
        refine TQ.qr ?_
        refine BQ.qr ?_
        refine TQ.qr ?_
        obtain rfl := Option.some.inj H
        exact endsR (RL.cons (RV.tmp eZ) (VO.flat rfl) RL.nil) List.nodup_nil
      · refine AW.condF eZ (nt h12) ?_
        refine AW.skip ?_
        refine BQ.qn ?_
        refine TQ.qn ?_
        refine AW.regs ?_
        refine oAdd (eR rfl) eC ?_
        refine oMov eZ ?_
        refine xNil ?_
        exact TQ.qn ⟨(IntKind.wrap .i64 (s5 + 1)), H, (wk_mk [] (SL.cons (eR rfl) rfl VWk.rfl (SL.cons (eR rfl) rfl VWk.rfl (SL.cons (eR rfl) rfl VWk.rfl (SL.cons eZ rfl VWk.rfl SL.nil)))) BL.nil BK.nil)⟩
    · refine AW.condF eZ (decide_eq_false h7) ?_
      refine AW.exit ?_
      refine TQ.qe ?_
      refine TQ.qe ?_
      refine BQ.qe ?_
      exact TQ.qn ⟨(), H, (wk_mk [] SL.nil BL.nil BK.nil)⟩

theorem c_slices_ContainsFunc_Lock__LocksOk_1 {a1 : (List TLock)} {a2 : TLock} {r : Bool} (H : m_slices_ContainsFunc_Lock__LocksOk_1 a1 a2 = some r) : Fn Try.prog k_slices_ContainsFunc___impl_Lock_impl_Lock_ (lent [(.sl 4 (List.map d_TLock a1)), (.fn k_impl_LocksOk_1 [.ptr (d_TLock a2)])]) true [(.bool r)] := by
  refine i_slices_ContainsFunc___impl_Lock_impl_Lock__fn (Nat.le_of_ble_eq_true rfl) ?_
  rw [init_mk]
  refine AW.weaken (wk_mk [] (SL.cons (v := (.one (.d (.sl 4 (List.map d_TLock a1))))) eZ rfl VWk.rfl (SL.cons (v := (.one (.fn k_impl_LocksOk_1 [(.bd (d_TLock a2) 0)]))) (eS rfl eZ) rfl (VWk.one (CWk.fn (css := [d_TLock a2]))) SL.nil)) BL.nil BK.nil) ?_
  unfold m_slices_ContainsFunc_Lock__LocksOk_1 at H
  unfold i_slices_ContainsFunc___impl_Lock_impl_Lock_
  refine AW.seq ?_
  refine AW.regs ?_
  refine oMov eC ?_
  refine xNil ?_
  refine TQ.qn ?_
  refine AW.seq ?_
  refine AW.regs ?_
  refine oMov (eS rfl eZ) ?_
  refine oMov (eR rfl) ?_
  obtain ⟨v3, h4, H⟩ := obind H
  refine oCall (u := (.one (.d (.int .i64 v3)))) eC Cl.fn (c_slices_IndexFunc_Lock__LocksOk_1 h4) (Evs.cons (eS rfl eZ) (Evs.cons eZ Evs.nil)) (VDs.cons VD.plain (VDs.cons (VD.fn (PDs.cons VD.ptrB PDs.nil)) VDs.nil)) rfl ?_
  refine oGeq eZ eC ?_
  refine oMov eZ ?_
  refine xNil ?_
  refine TQ.qn ?_
  refine AW.ret ?_
  obtain rfl := Option.some.inj H
  exact endsR (RL.cons (RV.tmp eZ) (VO.flat rfl) RL.nil) List.nodup_nil

theorem c_impl_LocksOk {a1 : (List TLock)} {r : Bool} (H : m_impl_LocksOk a1 = some r) : Fn Try.prog k_impl_LocksOk (lent [(.sl 4 (List.map d_TLock a1))]) true [(.bool r)] := by
  refine i_impl_LocksOk_fn (Nat.le_of_ble_eq_true rfl) ?_
  rw [init_mk]
  refine AW.weaken (wk_mk [] (SL.cons (v := (.one (.d (.sl 4 (List.map d_TLock a1))))) eZ rfl VWk.rfl SL.nil) BL.nil BK.nil) ?_
  unfold m_impl_LocksOk at H
  unfold i_impl_LocksOk
  refine AW.seq ?_
  refine AW.regs ?_
  refine oMov eC ?_
  refine xNil ?_
  refine TQ.qn ?_
  refine AW.seqJ (fun t2 : Unit => (impl_LocksOk_j2 a1) t2 = some r) (fun t2 => mk [(0, (.one (.d (.sl 4 (List.map d_TLock a1)))))] [] noG) ?_ ?_
  · intro t2 H
    unfold impl_LocksOk_j2 at H
    refine AW.seq ?_
    refine AW.regs ?_
    refine oMov eZ ?_
    refine oLenD eZ (n := a1.length) (List.length_map _) ?_
    refine oLeq eZ eC ?_
    refine oMov eZ ?_
    refine xNil ?_
    refine TQ.qn ?_
    refine AW.ret ?_
    obtain rfl := Option.some.inj H
    exact endsR (RL.cons (RV.tmp eZ) (VO.flat rfl) RL.nil) List.nodup_nil
  · refine AW.seq ?_
    refine AW.regs ?_
    refine oMov (eS rfl eZ) ?_
    refine oLenD eZ (n := a1.length) (List.length_map _) ?_
    refine oMov eC ?_
    refine xNil ?_
    refine TQ.qn ?_
    refine AW.block ?_
    refine AW.iter (fun s4 : Int => mk [(0, (.one (.d (.sl 4 (List.map d_TLock a1))))), (5, (.one (.d (.sl 4 (List.map d_TLock a1))))), (6, (.one (.d (.int .i64 (a1.length : Int))))), (7, (.one (.d (.int .i64 s4))))] [] noG) H (wk_mk [] (SL.cons (eR rfl) rfl VWk.rfl (SL.cons (eR rfl) rfl VWk.rfl (SL.cons (eS rfl eZ) rfl VWk.rfl (SL.cons eZ rfl VWk.rfl SL.nil)))) BL.nil BK.nil) ?_
    intro kb5 s4 H
    unfold impl_LocksOk_b4 at H
    refine AW.seq ?_
    refine AW.regs ?_
    refine oLss (eR rfl) (eR rfl) ?_
    refine xNil ?_
    refine TQ.qn ?_
    refine AW.seq ?_
    rcases oite H with ⟨h6, H⟩ | ⟨h6, H⟩
    · refine AW.condT eZ (decide_eq_true h6) ?_
      refine AW.skip ?_
      refine TQ.qn ?_
      refine AW.seq ?_
      refine AW.block ?_
      refine AW.seq ?_
      refine AW.regs ?_
      refine oMov (eR rfl) ?_
      obtain ⟨v7, h8, H⟩ := obind H
      refine oAtD (eR rfl) (eR rfl) h8 ?_
      refine oLoadBA (es := [(.d (.int .i64 v7.Tx)), (.d (.int .i64 v7.Lo)), (.d (.int .i64 v7.Hi)), (.d (.int .i64 v7.Mode))]) eZ rfl ?_
      refine oVar (n := 256) (m := 4) rfl rfl nZ ?_
      refine oMov (eR rfl) ?_
      refine oStoreV (es := [(.d (.int .i64 v7.Tx)), (.d (.int .i64 v7.Lo)), (.d (.int .i64 v7.Hi)), (.d (.int .i64 v7.Mode))]) (eS rfl eZ) (eR rfl) rfl rfl bZ rfl ?_
      refine xNil ?_
      refine TQ.qn ?_
      refine AW.seqJ (fun t9 : Bool => (impl_LocksOk_j9 kb5 s4) t9 = some r) (fun t9 => mk [(0, (.one (.d (.sl 4 (List.map d_TLock a1))))), (5, (.one (.d (.sl 4 (List.map d_TLock a1))))), (6, (.one (.d (.int .i64 (a1.length : Int))))), (7, (.one (.d (.int .i64 s4)))), (34, (.one (.d (.bool t9))))] [] noG) ?_ ?_
      · intro t9 H
        unfold impl_LocksOk_j9 at H
        rcases oite H with ⟨h11, H⟩ | ⟨h11, H⟩
        · refine AW.condT (eR rfl) h11 ?_
          refine AW.seq ?_
          refine AW.regs ?_
          refine oMov eC ?_
          refine xNil ?_
          refine TQ.qn ?_
          refine AW.ret ?_
          refine BQ.qr ?_
          refine TQ.qr ?_
          refine TQ.qr ?_
          refine BQ.qr ?_
          refine TQ.qr ?_
          obtain rfl := Option.some.inj H
          exact endsR (RL.cons (RV.tmp eZ) (VO.flat rfl) RL.nil) List.nodup_nil
        · refine AW.condF (eR rfl) (nt h11) ?_
          refine AW.skip ?_
          refine BQ.qn ?_
          refine TQ.qn ?_
          refine AW.regs ?_
          refine oAdd (eR rfl) eC ?_
          refine oMov eZ ?_
          refine xNil ?_
          exact TQ.qn ⟨(IntKind.wrap .i64 (s4 + 1)), H, (wk_mk [] (SL.cons (eR rfl) rfl VWk.rfl (SL.cons (eR rfl) rfl VWk.rfl (SL.cons (eR rfl) rfl VWk.rfl (SL.cons eZ rfl VWk.rfl SL.nil)))) BL.nil BK.nil)⟩
      · refine AW.regs ?_
        refine oFaddrN (m := 0) (eS rfl eZ) rfl ?_
        refine oLoadV (q := 0) (c := (.d (.int .i64 v7.Tx))) eZ bZ rfl rfl ?_
        obtain ⟨v12, h13, H⟩ := obind H
        refine oCall (u := (.one (.d (.bool v12)))) eC Cl.fn (c_impl_isTx h13) (Evs.cons eZ Evs.nil) (VDs.cons VD.plain VDs.nil) rfl ?_
        refine oInv eZ ?_
        refine oMov eZ ?_
        rcases oite H with ⟨h14, H⟩ | ⟨h14, H⟩
        · refine gDo eZ (congrArg Bool.not h14) ?_
          refine oLoadVA (es := [(.d (.int .i64 v7.Tx)), (.d (.int .i64 v7.Lo)), (.d (.int .i64 v7.Hi)), (.d (.int .i64 v7.Mode))]) (eR rfl) bZ rfl ?_
          refine gDo (eS rfl eZ) (congrArg Bool.not h14) ?_
          obtain ⟨v15, h16, H⟩ := obind H
          refine oCall (u := (.agg [(.d (.int .i64 v15.Lo)), (.d (.int .i64 v15.Hi))])) eC Cl.fn (c_impl_Lock_keys h16) (Evs.cons eZ Evs.nil) (VDs.cons (VD.agg rfl) VDs.nil) rfl ?_
          refine gDo (eR rfl) (congrArg Bool.not h14) ?_
          obtain ⟨v17, h18, H⟩ := obind H
          refine oCall (u := (.one (.d (.bool v17)))) eC Cl.fn (c_impl_RangeOk h18) (Evs.cons eZ Evs.nil) (VDs.cons (VD.agg rfl) VDs.nil) rfl ?_
          refine gDo (eR rfl) (congrArg Bool.not h14) ?_
          refine oInv eZ ?_
          refine oPickF (eR rfl) (congrArg Bool.not h14) eZ ?_
          refine oMov eZ ?_
          rcases oite H with ⟨h19, H⟩ | ⟨h19, H⟩
          · refine gDo eZ (congrArg Bool.not h19) ?_
            refine oFaddrN (m := 3) (eR rfl) rfl ?_
            refine gDo (eS rfl eZ) (congrArg Bool.not h19) ?_
            refine oLoadV (q := 3) (c := (.d (.int .i64 v7.Mode))) eZ bZ rfl rfl ?_
            refine gDo (eR rfl) (congrArg Bool.not h19) ?_
            obtain ⟨v20, h21, H⟩ := obind H
            refine oCall (u := (.one (.d (.bool v20)))) eC Cl.fn (c_impl_isMode h21) (Evs.cons eZ Evs.nil) (VDs.cons VD.plain VDs.nil) rfl ?_
            refine gDo (eR rfl) (congrArg Bool.not h19) ?_
            refine oInv eZ ?_
            refine oPickF (eR rfl) (congrArg Bool.not h19) eZ ?_
            refine oMov eZ ?_
            rcases oite H with ⟨h22, H⟩ | ⟨h22, H⟩
            · refine gDo eZ (congrArg Bool.not h22) ?_
              refine oMov (eR rfl) ?_
              refine gDo (eS rfl eZ) (congrArg Bool.not h22) ?_
              refine oMov (eR rfl) ?_
              refine gDo (eR rfl) (congrArg Bool.not h22) ?_
              obtain ⟨v23, h24, H⟩ := obind H
              refine oCutD (eS rfl eZ) Bd.no (n := (a1.length : Int)) rfl (Bd.at eZ) h24 ?_
              refine gDo (eR rfl) (congrArg Bool.not h22) ?_
              refine oMkfn (ps := [(.nm 256 0 0)]) (Evs.cons (eR rfl) Evs.nil) ?_
              refine gDo (eR rfl) (congrArg Bool.not h22) ?_
              obtain ⟨v25, h26, H⟩ := obind H
              refine oCall (u := (.one (.d (.bool v25)))) eC Cl.fn (c_slices_ContainsFunc_Lock__LocksOk_1 h26) (Evs.cons (eS rfl eZ) (Evs.cons eZ Evs.nil)) (VDs.cons VD.plain (VDs.cons (VD.fn (PDs.cons (VD.ptrN bZ (CDs.plain (CDs.plain (CDs.plain (CDs.plain CDs.nil))))) PDs.nil)) VDs.nil)) rfl ?_
              refine oPickF (eR rfl) (congrArg Bool.not h22) eZ ?_
              refine xNil ?_
              exact TQ.qn ⟨v25, H, (wk_mk [256] (SL.cons (eR rfl) rfl VWk.rfl (SL.cons (eR rfl) rfl VWk.rfl (SL.cons (eR rfl) rfl VWk.rfl (SL.cons (eR rfl) rfl VWk.rfl (SL.cons eZ rfl VWk.rfl SL.nil))))) (BL.drop rfl (BL.drop rfl BL.nil)) BK.nil)⟩
            · refine gSkip eZ (congrArg Bool.not (nt h22)) rfl ?_
              refine gSkip (eS rfl eZ) (congrArg Bool.not (nt h22)) rfl ?_
              refine gSkip (eR rfl) (congrArg Bool.not (nt h22)) rfl ?_
              refine gSkip (eR rfl) (congrArg Bool.not (nt h22)) rfl ?_
              refine gSkip (eR rfl) (congrArg Bool.not (nt h22)) rfl ?_
              refine oPickT (eR rfl) (congrArg Bool.not (nt h22)) eC ?_
              refine xNil ?_
              exact TQ.qn ⟨true, H, (wk_mk [256] (SL.cons (eR rfl) rfl VWk.rfl (SL.cons (eR rfl) rfl VWk.rfl (SL.cons (eR rfl) rfl VWk.rfl (SL.cons (eR rfl) rfl VWk.rfl (SL.cons eZ rfl VWk.rfl SL.nil))))) (BL.drop rfl (BL.drop rfl BL.nil)) BK.nil)⟩
          · refine gSkip eZ (congrArg Bool.not (nt h19)) rfl ?_
            refine gSkip (eS rfl eZ) (congrArg Bool.not (nt h19)) rfl ?_
            refine gSkip (eR rfl) (congrArg Bool.not (nt h19)) rfl ?_
            refine gSkip (eR rfl) (congrArg Bool.not (nt h19)) rfl ?_
            refine oPickT (eR rfl) (congrArg Bool.not (nt h19)) eC ?_
            refine oMov eZ ?_
            refine gSkip eZ rfl rfl ?_
            refine gSkip (eS rfl eZ) rfl rfl ?_
            refine gSkip (eR rfl) rfl rfl ?_
            refine gSkip (eR rfl) rfl rfl ?_
            refine gSkip (eR rfl) rfl rfl ?_
            refine oPickT (eR rfl) rfl eC ?_
            refine xNil ?_
            exact TQ.qn ⟨true, H, (wk_mk [256] (SL.cons (eR rfl) rfl VWk.rfl (SL.cons (eR rfl) rfl VWk.rfl (SL.cons (eR rfl) rfl VWk.rfl (SL.cons (eR rfl) rfl VWk.rfl (SL.cons eZ rfl VWk.rfl SL.nil))))) (BL.drop rfl (BL.drop rfl BL.nil)) BK.nil)⟩
        · refine gSkip eZ (congrArg Bool.not (nt h14)) rfl ?_
          refine gSkip (eS rfl eZ) (congrArg Bool.not (nt h14)) rfl ?_
          refine gSkip (eR rfl) (congrArg Bool.not (nt h14)) rfl ?_
          refine gSkip (eR rfl) (congrArg Bool.not (nt h14)) rfl ?_
          refine oPickT (eR rfl) (congrArg Bool.not (nt h14)) eC ?_
          refine oMov eZ ?_
          refine gSkip eZ rfl rfl ?_
          refine gSkip (eS rfl eZ) rfl rfl ?_
          refine gSkip (eR rfl) rfl rfl ?_
          refine gSkip (eR rfl) rfl rfl ?_
          refine oPickT (eR rfl) rfl eC ?_
          refine oMov eZ ?_
          refine gSkip eZ rfl rfl ?_
          refine gSkip (eS rfl eZ) rfl rfl ?_
          refine gSkip (eR rfl) rfl rfl ?_
          refine gSkip (eR rfl) rfl rfl ?_
          refine gSkip (eR rfl) rfl rfl ?_
          refine oPickT (eR rfl) rfl eC ?_
          refine xNil ?_
          exact TQ.qn ⟨true, H, (wk_mk [256] (SL.cons (eR rfl) rfl VWk.rfl (SL.cons (eR rfl) rfl VWk.rfl (SL.cons (eR rfl) rfl VWk.rfl (SL.cons (eR rfl) rfl VWk.rfl (SL.cons eZ rfl VWk.rfl SL.nil))))) (BL.drop rfl (BL.drop rfl BL.nil)) BK.nil)⟩
    · refine AW.condF eZ (decide_eq_false h6) ?_
      refine AW.exit ?_
      refine TQ.qe ?_
      refine TQ.qe ?_
      refine BQ.qe ?_
      exact TQ.qn ⟨(), H, (wk_mk [] (SL.cons (eS rfl eZ) rfl VWk.rfl SL.nil) BL.nil BK.nil)⟩

theorem c_slices_Clone_Lock {a1 : (List TLock)} {r : (List TLock)} (H : m_slices_Clone_Lock a1 = some r) : Fn Try.prog k_slices_Clone___impl_Lock_impl_Lock_ (lent [(.sl 4 (List.map d_TLock a1))]) true [(.sl 4 (List.map d_TLock r))] := by
  refine i_slices_Clone___impl_Lock_impl_Lock__fn (Nat.le_of_ble_eq_true rfl) ?_
  rw [init_mk]
  refine AW.weaken (wk_mk [] (SL.cons (v := (.one (.d (.sl 4 (List.map d_TLock a1))))) eZ rfl VWk.rfl SL.nil) BL.nil BK.nil) ?_
  unfold m_slices_Clone_Lock at H
  unfold i_slices_Clone___impl_Lock_impl_Lock_
  refine AW.seq ?_
  refine AW.regs ?_
  refine oMov eC ?_
  refine xNil ?_
  refine TQ.qn ?_
  refine AW.seqJ (fun t2 : Unit => (slices_Clone_Lock_j2 a1) t2 = some r) (fun t2 => mk [(0, (.one (.d (.sl 4 (List.map d_TLock a1)))))] [] noG) ?_ ?_
  · intro t2 H
    unfold slices_Clone_Lock_j2 at H
    refine AW.seq ?_
    refine AW.regs ?_
    refine oBsliceZ (m := 320) rfl nZ ?_
    refine oMov (eS rfl eZ) ?_
    obtain ⟨h4, H⟩ := oguard H
    refine oAppZ (f := d_TLock) (m := 448) (own := true) (ys := a1) (q := a1.length) rfl rfl (eS rfl eZ) eZ (El.lent fun _ _ => rfl) rfl h4 (by decide) nZ ?_
    refine oMov eZ ?_
    refine xNil ?_
    refine TQ.qn ?_
    refine AW.ret ?_
    obtain rfl := Option.some.inj H
    exact endsR (RL.cons (RV.tmp eZ) (VO.sl bZ (List.length_map _) (allFlat fun _ => rfl)) RL.nil) (by decide)
  · refine AW.seq ?_
    refine AW.regs ?_
    refine oMov (eS rfl eZ) ?_
    rcases oite H with ⟨h5, H⟩ | ⟨h5, H⟩
    · refine oNilD0 eZ h5 ?_
      refine xNil ?_
      refine TQ.qn ?_
      refine AW.condU eZ ?_ ?_
      · have H : (some ([] : (List TLock))) = some r := by rw [← H]; simp [List.eq_nil_of_length_eq_zero h5, slices_Clone_Lock_j2]
        refine AW.seq ?_
        refine AW.regs ?_
        refine oMov eC ?_
        refine xNil ?_
        refine TQ.qn ?_
        refine AW.ret ?_
        refine TQ.qr ?_
        obtain rfl := Option.some.inj H
        exact endsR (RL.cons (RV.tmp eZ) VO.zs RL.nil) List.nodup_nil
      · refine AW.skip ?_
        exact TQ.qn ⟨(), H, (wk_mk [] (SL.cons (eR rfl) rfl VWk.rfl SL.nil) BL.nil BK.nil)⟩
    · refine oNilD eZ h5 ?_
      refine xNil ?_
      refine TQ.qn ?_
      refine AW.condF eZ rfl ?_
      refine AW.skip ?_
      exact TQ.qn ⟨(), H, (wk_mk [] (SL.cons (eR rfl) rfl VWk.rfl SL.nil) BL.nil BK.nil)⟩

theorem c_impl_LocksHold_1 {a1 : TLock} {a2 : Int} {a3 : Int} {a4 : TRange} {r : Bool} (H : m_impl_LocksHold_1 a1 a2 a3 a4 = some r) : Fn Try.prog k_impl_LocksHold_1 (lent [(.agg (d_TLock a1)), (.ptr (d_i64 a2)), (.ptr (d_i64 a3)), (.ptr (d_TRange a4))]) true [(.bool r)] := by
  refine i_impl_LocksHold_1_fn (Nat.le_of_ble_eq_true rfl) ?_
  rw [init_mk]
  refine AW.weaken (wk_mk [] (SL.cons (v := (.agg [(.d (.int .i64 a1.Tx)), (.d (.int .i64 a1.Lo)), (.d (.int .i64 a1.Hi)), (.d (.int .i64 a1.Mode))])) eZ rfl VWk.rfl (SL.cons (v := (.one (.ptr (.bd (d_i64 a2) 0)))) (eS rfl eZ) rfl (VWk.one CWk.ptr) (SL.cons (v := (.one (.ptr (.bd (d_i64 a3) 0)))) (eS rfl (eS rfl eZ)) rfl (VWk.one CWk.ptr) (SL.cons (v := (.one (.ptr (.bd (d_TRange a4) 0)))) (eS rfl (eS rfl (eS rfl eZ))) rfl (VWk.one CWk.ptr) SL.nil)))) BL.nil BK.nil) ?_
  unfold m_impl_LocksHold_1 at H
  unfold i_impl_LocksHold_1
  refine AW.seq ?_
  refine AW.regs ?_
  refine oBox (n := 256) (m := 4) (cs := [(.d (.int .i64 a1.Tx)), (.d (.int .i64 a1.Lo)), (.d (.int .i64 a1.Hi)), (.d (.int .i64 a1.Mode))]) rfl eZ rfl rfl nZ ?_
  refine oMov eC ?_
  refine xNil ?_
  refine TQ.qn ?_
  refine AW.seq ?_
  refine AW.regs ?_
  refine oFaddrN (m := 0) (eS rfl eZ) rfl ?_
  refine oLoadV (q := 0) (c := (.d (.int .i64 a1.Tx))) eZ bZ rfl rfl ?_
  refine oLoadB (e := (.int .i64 a2)) (eR rfl) rfl ?_
  refine oEql (eS rfl eZ) eZ ?_
  refine oMov eZ ?_
  rcases oite H with ⟨h5, H⟩ | ⟨h5, H⟩
  · refine gDo eZ (decide_eq_true h5) ?_
    refine oFaddrN (m := 3) (eR rfl) rfl ?_
    refine gDo (eS rfl eZ) (decide_eq_true h5) ?_
    refine oLoadV (q := 3) (c := (.d (.int .i64 a1.Mode))) eZ bZ rfl rfl ?_
    refine gDo (eR rfl) (decide_eq_true h5) ?_
    refine oLoadB (e := (.int .i64 a3)) (eR rfl) rfl ?_
    refine gDo (eR rfl) (decide_eq_true h5) ?_
    refine oEql (eS rfl eZ) eZ ?_
    refine gDo (eR rfl) (decide_eq_true h5) ?_
    refine oMov eZ ?_
    rcases oite H with ⟨h6, H⟩ | ⟨h6, H⟩
    · refine gSkip eZ (decide_eq_true h6) rfl ?_
      refine gSkip (eS rfl eZ) (decide_eq_true h6) rfl ?_
      refine gSkip (eR rfl) (decide_eq_true h6) rfl ?_
      refine gDo (eR rfl) (decide_eq_true h5) ?_
      refine oPickT (eR rfl) (decide_eq_true h6) eC ?_
      refine oPickT (eR rfl) (decide_eq_true h5) eZ ?_
      refine oMov eZ ?_
      refine gDo eZ rfl ?_
      refine oFaddrN (m := 1) (eR rfl) rfl ?_
      refine gDo (eS rfl eZ) rfl ?_
      refine oLoadV (q := 1) (c := (.d (.int .i64 a1.Lo))) eZ bZ rfl rfl ?_
      refine gDo (eR rfl) rfl ?_
      refine oFaddrB (m := 0) (eR rfl) rfl ?_
      refine gDo (eR rfl) rfl ?_
      refine oLoadB (e := (.int .i64 a4.Lo)) eZ rfl ?_
      refine gDo (eR rfl) rfl ?_
      refine oLeq (eR rfl) eZ ?_
      refine oPickT (eR rfl) rfl eZ ?_
      refine oMov eZ ?_
      rcases oite H with ⟨h7, H⟩ | ⟨h7, H⟩
      · refine gDo eZ (decide_eq_true h7) ?_
        refine oFaddrB (m := 1) (eR rfl) rfl ?_
        refine gDo (eS rfl eZ) (decide_eq_true h7) ?_
        refine oLoadB (e := (.int .i64 a4.Hi)) eZ rfl ?_
        refine gDo (eR rfl) (decide_eq_true h7) ?_
        refine oFaddrN (m := 2) (eR rfl) rfl ?_
        refine gDo (eR rfl) (decide_eq_true h7) ?_
        refine oLoadV (q := 2) (c := (.d (.int .i64 a1.Hi))) eZ bZ rfl rfl ?_
        refine gDo (eR rfl) (decide_eq_true h7) ?_
        refine oLeq (eR rfl) eZ ?_
        refine oPickT (eR rfl) (decide_eq_true h7) eZ ?_
        refine oMov eZ ?_
        refine xNil ?_
        refine TQ.qn ?_
        refine AW.weaken (wk_mk [256] (SL.cons (k := 5) eZ rfl VWk.rfl SL.nil) (BL.drop rfl BL.nil) BK.nil) ?_
        refine AW.ret ?_
        obtain rfl := Option.some.inj H
        exact endsR (RL.cons (RV.tmp eZ) (VO.flat rfl) RL.nil) List.nodup_nil
      · refine gSkip eZ (decide_eq_false h7) rfl ?_
        refine gSkip (eS rfl eZ) (decide_eq_false h7) rfl ?_
        refine gSkip (eR rfl) (decide_eq_false h7) rfl ?_
        refine gSkip (eR rfl) (decide_eq_false h7) rfl ?_
        refine gSkip (eR rfl) (decide_eq_false h7) rfl ?_
        refine oPickF (eR rfl) (decide_eq_false h7) eC ?_
        refine oMov eZ ?_
        refine xNil ?_
        refine TQ.qn ?_
        refine AW.weaken (wk_mk [256] (SL.cons (k := 5) eZ rfl VWk.rfl SL.nil) (BL.drop rfl BL.nil) BK.nil) ?_
        refine AW.ret ?_
        obtain rfl := Option.some.inj H
        exact endsR (RL.cons (RV.tmp eZ) (VO.flat rfl) RL.nil) List.nodup_nil
    · refine gDo eZ (decide_eq_false h6) ?_
      refine oFaddrN (m := 3) (eR rfl) rfl ?_
      refine gDo (eS rfl eZ) (decide_eq_false h6) ?_
      refine oLoadV (q := 3) (c := (.d (.int .i64 a1.Mode))) eZ bZ rfl rfl ?_
      refine gDo (eR rfl) (decide_eq_false h6) ?_
      refine oEql eZ eC ?_
      refine gDo (eR rfl) (decide_eq_true h5) ?_
      refine oPickF (eR rfl) (decide_eq_false h6) eZ ?_
      refine oPickT (eR rfl) (decide_eq_true h5) eZ ?_
      refine oMov eZ ?_
      rcases oite H with ⟨h8, H⟩ | ⟨h8, H⟩
      · refine gDo eZ (decide_eq_true h8) ?_
        refine oFaddrN (m := 1) (eR rfl) rfl ?_
        refine gDo (eS rfl eZ) (decide_eq_true h8) ?_
        refine oLoadV (q := 1) (c := (.d (.int .i64 a1.Lo))) eZ bZ rfl rfl ?_
        refine gDo (eR rfl) (decide_eq_true h8) ?_
        refine oFaddrB (m := 0) (eR rfl) rfl ?_
        refine gDo (eR rfl) (decide_eq_true h8) ?_
        refine oLoadB (e := (.int .i64 a4.Lo)) eZ rfl ?_
        refine gDo (eR rfl) (decide_eq_true h8) ?_
        refine oLeq (eR rfl) eZ ?_
        refine oPickT (eR rfl) (decide_eq_true h8) eZ ?_
        refine oMov eZ ?_
        rcases oite H with ⟨h9, H⟩ | ⟨h9, H⟩
        · refine gDo eZ (decide_eq_true h9) ?_
          refine oFaddrB (m := 1) (eR rfl) rfl ?_
          refine gDo (eS rfl eZ) (decide_eq_true h9) ?_
          refine oLoadB (e := (.int .i64 a4.Hi)) eZ rfl ?_
          refine gDo (eR rfl) (decide_eq_true h9) ?_
          refine oFaddrN (m := 2) (eR rfl) rfl ?_
          refine gDo (eR rfl) (decide_eq_true h9) ?_
          refine oLoadV (q := 2) (c := (.d (.int .i64 a1.Hi))) eZ bZ rfl rfl ?_
          refine gDo (eR rfl) (decide_eq_true h9) ?_
          refine oLeq (eR rfl) eZ ?_
          refine oPickT (eR rfl) (decide_eq_true h9) eZ ?_
          refine oMov eZ ?_
          refine xNil ?_
          refine TQ.qn ?_
          refine AW.weaken (wk_mk [256] (SL.cons (k := 5) eZ rfl VWk.rfl SL.nil) (BL.drop rfl BL.nil) BK.nil) ?_
          refine AW.ret ?_
          obtain rfl := Option.some.inj H
          exact endsR (RL.cons (RV.tmp eZ) (VO.flat rfl) RL.nil) List.nodup_nil
        · refine gSkip eZ (decide_eq_false h9) rfl ?_
          refine gSkip (eS rfl eZ) (decide_eq_false h9) rfl ?_
          refine gSkip (eR rfl) (decide_eq_false h9) rfl ?_
          refine gSkip (eR rfl) (decide_eq_false h9) rfl ?_
          refine gSkip (eR rfl) (decide_eq_false h9) rfl ?_
          refine oPickF (eR rfl) (decide_eq_false h9) eC ?_
          refine oMov eZ ?_
          refine xNil ?_
          refine TQ.qn ?_
          refine AW.weaken (wk_mk [256] (SL.cons (k := 5) eZ rfl VWk.rfl SL.nil) (BL.drop rfl BL.nil) BK.nil) ?_
          refine AW.ret ?_
          obtain rfl := Option.some.inj H
          exact endsR (RL.cons (RV.tmp eZ) (VO.flat rfl) RL.nil) List.nodup_nil
      · refine gSkip eZ (decide_eq_false h8) rfl ?_
        refine gSkip (eS rfl eZ) (decide_eq_false h8) rfl ?_
        refine gSkip (eR rfl) (decide_eq_false h8) rfl ?_
        refine gSkip (eR rfl) (decide_eq_false h8) rfl ?_
        refine gSkip (eR rfl) (decide_eq_false h8) rfl ?_
        refine oPickF (eR rfl) (decide_eq_false h8) eC ?_
        refine oMov eZ ?_
        refine gSkip eZ rfl rfl ?_
        refine gSkip (eS rfl eZ) rfl rfl ?_
        refine gSkip (eR rfl) rfl rfl ?_
        refine gSkip (eR rfl) rfl rfl ?_
        refine gSkip (eR rfl) rfl rfl ?_
        refine oPickF (eR rfl) rfl eC ?_
        refine oMov eZ ?_
        refine xNil ?_
        refine TQ.qn ?_
        refine AW.weaken (wk_mk [256] (SL.cons (k := 5) eZ rfl VWk.rfl SL.nil) (BL.drop rfl BL.nil) BK.nil) ?_
        refine AW.ret ?_
        obtain rfl := Option.some.inj H
        exact endsR (RL.cons (RV.tmp eZ) (VO.flat rfl) RL.nil) List.nodup_nil
  · refine gSkip eZ (decide_eq_false h5) rfl ?_
    refine gSkip (eS rfl eZ) (decide_eq_false h5) rfl ?_
    refine gSkip (eR rfl) (decide_eq_false h5) rfl ?_
    refine gSkip (eR rfl) (decide_eq_false h5) rfl ?_
    refine gSkip (eR rfl) (decide_eq_false h5) rfl ?_
    refine gSkipU eZ rfl ?_
    refine gSkipU (eS rfl eZ) rfl ?_
    refine gSkipU (eR rfl) rfl ?_
    refine gSkip (eR rfl) (decide_eq_false h5) rfl ?_
    refine oPickF (eR rfl) (decide_eq_false h5) eC ?_
    refine oMov eZ ?_
    refine gSkip eZ rfl rfl ?_
    refine gSkip (eS rfl eZ) rfl rfl ?_
    refine gSkip (eR rfl) rfl rfl ?_
    refine gSkip (eR rfl) rfl rfl ?_
    refine gSkip (eR rfl) rfl rfl ?_
    refine oPickF (eR rfl) rfl eC ?_
    refine oMov eZ ?_
    refine gSkip eZ rfl rfl ?_
    refine gSkip (eS rfl eZ) rfl rfl ?_
    refine gSkip (eR rfl) rfl rfl ?_
    refine gSkip (eR rfl) rfl rfl ?_
    refine gSkip (eR rfl) rfl rfl ?_
    refine oPickF (eR rfl) rfl eC ?_
    refine oMov eZ ?_
    refine xNil ?_
    refine TQ.qn ?_
    refine AW.weaken (wk_mk [256] (SL.cons (k := 5) eZ rfl VWk.rfl SL.nil) (BL.drop rfl BL.nil) BK.nil) ?_
    refine AW.ret ?_
    obtain rfl := Option.some.inj H
    exact endsR (RL.cons (RV.tmp eZ) (VO.flat rfl) RL.nil) List.nodup_nil

theorem c_slices_IndexFunc_Lock__LocksHold_1 {a1 : (List TLock)} {a2 : Int} {a3 : Int} {a4 : TRange} {r : Int} (H : m_slices_IndexFunc_Lock__LocksHold_1 a1 a2 a3 a4 = some r) : Fn Try.prog k_slices_IndexFunc___impl_Lock_impl_Lock_ (lent [(.sl 4 (List.map d_TLock a1)), (.fn k_impl_LocksHold_1 [.ptr (d_i64 a2), .ptr (d_i64 a3), .ptr (d_TRange a4)])]) true [(.int .i64 r)] := by
  refine i_slices_IndexFunc___impl_Lock_impl_Lock__fn (Nat.le_of_ble_eq_true rfl) ?_
  rw [init_mk]
  refine AW.weaken (wk_mk [] (SL.cons (v := (.one (.d (.sl 4 (List.map d_TLock a1))))) eZ rfl VWk.rfl (SL.cons (v := (.one (.fn k_impl_LocksHold_1 [(.bd (d_i64 a2) 0), (.bd (d_i64 a3) 0), (.bd (d_TRange a4) 0)]))) (eS rfl eZ) rfl (VWk.one (CWk.fn (css := [d_i64 a2, d_i64 a3, d_TRange a4]))) SL.nil)) BL.nil BK.nil) ?_
  unfold m_slices_IndexFunc_Lock__LocksHold_1 at H
  unfold i_slices_IndexFunc___impl_Lock_impl_Lock_
  refine AW.seq ?_
  refine AW.regs ?_
  refine oMov eC ?_
  refine xNil ?_
  refine TQ.qn ?_
  refine AW.seqJ (fun t5 : Unit => slices_IndexFunc_Lock__LocksHold_1_j5 t5 = some r) (fun t5 => mk [] [] noG) ?_ ?_
  · intro t5 H
    unfold slices_IndexFunc_Lock__LocksHold_1_j5 at H
    refine AW.seq ?_
    refine AW.regs ?_
    refine oMov eC ?_
    refine xNil ?_
    refine TQ.qn ?_
    refine AW.ret ?_
    obtain rfl := Option.some.inj H
    exact endsR (RL.cons (RV.tmp eZ) (VO.flat rfl) RL.nil) List.nodup_nil
  · refine AW.seq ?_
    refine AW.regs ?_
    refine oMov (eS rfl eZ) ?_
    refine oLenD eZ (n := a1.length) (List.length_map _) ?_
    refine oMov eC ?_
    refine xNil ?_
    refine TQ.qn ?_
    refine AW.block ?_
    refine AW.iter (fun s7 : Int => mk [(0, (.one (.d (.sl 4 (List.map d_TLock a1))))), (1, (.one (.fn k_impl_LocksHold_1 [(.bd (d_i64 a2) 0), (.bd (d_i64 a3) 0), (.bd (d_TRange a4) 0)]))), (7, (.one (.d (.int .i64 (a1.length : Int))))), (8, (.one (.d (.int .i64 s7))))] [] noG) H (wk_mk [] (SL.cons (eR rfl) rfl VWk.rfl (SL.cons (eR rfl) rfl VWk.rfl (SL.cons (eS rfl eZ) rfl VWk.rfl (SL.cons eZ rfl VWk.rfl SL.nil)))) BL.nil BK.nil) ?_
    intro kb8 s7 H
    unfold slices_IndexFunc_Lock__LocksHold_1_b7 at H
    refine AW.seq ?_
    refine AW.regs ?_
    refine oLss (eR rfl) (eR rfl) ?_
    refine xNil ?_
    refine TQ.qn ?_
    refine AW.seq ?_
    rcases oite H with ⟨h9, H⟩ | ⟨h9, H⟩
    · refine AW.condT eZ (decide_eq_true h9) ?_
      refine AW.skip ?_
      refine TQ.qn ?_
      refine AW.seq ?_
      refine AW.block ?_
      refine AW.seq ?_
      refine AW.regs ?_
      refine oMov (eR rfl) ?_
      refine oMov eZ ?_
      refine xNil ?_
      refine TQ.qn ?_
      refine AW.seq ?_
      refine AW.regs ?_
      refine oMov (eR rfl) ?_
      refine oMov (eR rfl) ?_
      refine oMov (eR rfl) ?_
      obtain ⟨v10, h11, H⟩ := obind H
      refine oAtD (eS rfl eZ) eZ h11 ?_
      refine oLoadBA (es := [(.d (.int .i64 v10.Tx)), (.d (.int .i64 v10.Lo)), (.d (.int .i64 v10.Hi)), (.d (.int .i64 v10.Mode))]) eZ rfl ?_
      obtain ⟨v12, h13, H⟩ := obind H
      refine oCall (u := (.one (.d (.bool v12)))) (eR rfl) Cl.fn (c_impl_LocksHold_1 h13) (Evs.cons eZ Evs.nil) (VDs.cons (VD.agg rfl) (VDs.cons VD.ptrB (VDs.cons VD.ptrB (VDs.cons VD.ptrB VDs.nil)))) rfl ?_
      refine xNil ?_
      refine TQ.qn ?_
      rcases oite H with ⟨h14, H⟩ | ⟨h14, H⟩
      · refine AW.condT eZ h14 ?_
        refine AW.seq ?_
        refine AW.regs ?_
        refine oMov (eR rfl) ?_
        refine oMov eZ ?_
        refine xNil ?_
        refine TQ.qn ?_
        refine AW.ret ?_
        refine BQ.qr ?_
        refine TQ.qr ?_
        refine TQ.qr ?_
        refine BQ.qr ?_
        refine TQ.qr ?_
        obtain rfl := Option.some.inj H
        exact endsR (RL.cons (RV.tmp eZ) (VO.flat rfl) RL.nil) List.nodup_nil
      · refine AW.condF eZ (nt h14) ?_
        refine AW.skip ?_
        refine BQ.qn ?_
        refine TQ.qn ?_
        refine AW.regs ?_
        refine oAdd (eR rfl) eC ?_
        refine oMov eZ ?_
        refine xNil ?_
        exact TQ.qn ⟨(IntKind.wrap .i64 (s7 + 1)), H, (wk_mk [] (SL.cons (eR rfl) rfl VWk.rfl (SL.cons (eR rfl) rfl VWk.rfl (SL.cons (eR rfl) rfl VWk.rfl (SL.cons eZ rfl VWk.rfl SL.nil)))) BL.nil BK.nil)⟩
    · refine AW.condF eZ (decide_eq_false h9) ?_
      refine AW.exit ?_
      refine TQ.qe ?_
      refine TQ.qe ?_
      refine BQ.qe ?_
      exact TQ.qn ⟨(), H, (wk_mk [] SL.nil BL.nil BK.nil)⟩

theorem c_slices_ContainsFunc_Lock__LocksHold_1 {a1 : (List TLock)} {a2 : Int} {a3 : Int} {a4 : TRange} {r : Bool} (H : m_slices_ContainsFunc_Lock__LocksHold_1 a1 a2 a3 a4 = some r) : Fn Try.prog k_slices_ContainsFunc___impl_Lock_impl_Lock_ (lent [(.sl 4 (List.map d_TLock a1)), (.fn k_impl_LocksHold_1 [.ptr (d_i64 a2), .ptr (d_i64 a3), .ptr (d_TRange a4)])]) true [(.bool r)] := by
  refine i_slices_ContainsFunc___impl_Lock_impl_Lock__fn (Nat.le_of_ble_eq_true rfl) ?_
  rw [init_mk]
  refine AW.weaken (wk_mk [] (SL.cons (v := (.one (.d (.sl 4 (List.map d_TLock a1))))) eZ rfl VWk.rfl (SL.cons (v := (.one (.fn k_impl_LocksHold_1 [(.bd (d_i64 a2) 0), (.bd (d_i64 a3) 0), (.bd (d_TRange a4) 0)]))) (eS rfl eZ) rfl (VWk.one (CWk.fn (css := [d_i64 a2, d_i64 a3, d_TRange a4]))) SL.nil)) BL.nil BK.nil) ?_
  unfold m_slices_ContainsFunc_Lock__LocksHold_1 at H
  unfold i_slices_ContainsFunc___impl_Lock_impl_Lock_
  refine AW.seq ?_
  refine AW.regs ?_
  refine oMov eC ?_
  refine xNil ?_
  refine TQ.qn ?_
  refine AW.seq ?_
  refine AW.regs ?_
  refine oMov (eS rfl eZ) ?_
  refine oMov (eR rfl) ?_
  obtain ⟨v5, h6, H⟩ := obind H
  refine oCall (u := (.one (.d (.int .i64 v5)))) eC Cl.fn (c_slices_IndexFunc_Lock__LocksHold_1 h6) (Evs.cons (eS rfl eZ) (Evs.cons eZ Evs.nil)) (VDs.cons VD.plain (VDs.cons (VD.fn (PDs.cons VD.ptrB (PDs.cons VD.ptrB (PDs.cons VD.ptrB PDs.nil)))) VDs.nil)) rfl ?_
  refine oGeq eZ eC ?_
  refine oMov eZ ?_
  refine xNil ?_
  refine TQ.qn ?_
  refine AW.ret ?_
  obtain rfl := Option.some.inj H
  exact endsR (RL.cons (RV.tmp eZ) (VO.flat rfl) RL.nil) List.nodup_nil

theorem c_impl_LocksHold {a1 : (List TLock)} {a2 : Int} {a3 : TRange} {a4 : Int} {r : Bool} (H : m_impl_LocksHold a1 a2 a3 a4 = some r) : Fn Try.prog k_impl_LocksHold (lent [(.sl 4 (List.map d_TLock a1)), (.int .i64 a2), (.agg (d_TRange a3)), (.int .i64 a4)]) true [(.bool r)] := by
  refine i_impl_LocksHold_fn (Nat.le_of_ble_eq_true rfl) ?_
  rw [init_mk]
  refine AW.weaken (wk_mk [] (SL.cons (v := (.one (.d (.sl 4 (List.map d_TLock a1))))) eZ rfl VWk.rfl (SL.cons (v := (.one (.d (.int .i64 a2)))) (eS rfl eZ) rfl VWk.rfl (SL.cons (v := (.agg [(.d (.int .i64 a3.Lo)), (.d (.int .i64 a3.Hi))])) (eS rfl (eS rfl eZ)) rfl VWk.rfl (SL.cons (v := (.one (.d (.int .i64 a4)))) (eS rfl (eS rfl (eS rfl eZ))) rfl VWk.rfl SL.nil)))) BL.nil BK.nil) ?_
  unfold m_impl_LocksHold at H
  unfold i_impl_LocksHold
  refine AW.seq ?_
  refine AW.regs ?_
  refine oBox (n := 320) (m := 1) (cs := [(.d (.int .i64 a2))]) rfl (eS rfl eZ) rfl rfl nZ ?_
  refine oBox (n := 384) (m := 2) (cs := [(.d (.int .i64 a3.Lo)), (.d (.int .i64 a3.Hi))]) rfl (eR rfl) rfl rfl (nS rfl nZ) ?_
  refine oBox (n := 448) (m := 1) (cs := [(.d (.int .i64 a4))]) rfl (eR rfl) rfl rfl (nS rfl (nS rfl nZ)) ?_
  refine oMov eC ?_
  refine xNil ?_
  refine TQ.qn ?_
  refine AW.seq ?_
  refine AW.regs ?_
  refine oMov (eR rfl) ?_
  obtain ⟨v5, h6, H⟩ := obind H
  refine oCall (u := (.one (.d (.bool v5)))) eC Cl.fn (c_impl_LocksOk h6) (Evs.cons eZ Evs.nil) (VDs.cons VD.plain VDs.nil) rfl ?_
  refine oMov eZ ?_
  rcases oite H with ⟨h7, H⟩ | ⟨h7, H⟩
  · refine gDo eZ h7 ?_
    refine oLoadVA (es := [(.d (.int .i64 a3.Lo)), (.d (.int .i64 a3.Hi))]) (eR rfl) (bS rfl bZ) rfl ?_
    refine gDo (eS rfl eZ) h7 ?_
    obtain ⟨v8, h9, H⟩ := obind H
    refine oCall (u := (.one (.d (.bool v8)))) eC Cl.fn (c_impl_RangeOk h9) (Evs.cons eZ Evs.nil) (VDs.cons (VD.agg rfl) VDs.nil) rfl ?_
    refine oPickT (eR rfl) h7 eZ ?_
    refine oMov eZ ?_
    rcases oite H with ⟨h10, H⟩ | ⟨h10, H⟩
    · refine gDo eZ h10 ?_
      refine oLoadV (q := 0) (c := (.d (.int .i64 a4))) (eR rfl) bZ rfl rfl ?_
      refine gDo (eS rfl eZ) h10 ?_
      obtain ⟨v11, h12, H⟩ := obind H
      refine oCall (u := (.one (.d (.bool v11)))) eC Cl.fn (c_impl_isMode h12) (Evs.cons eZ Evs.nil) (VDs.cons VD.plain VDs.nil) rfl ?_
      refine oPickT (eR rfl) h10 eZ ?_
      refine oMov eZ ?_
      rcases oite H with ⟨h13, H⟩ | ⟨h13, H⟩
      · refine gDo eZ h13 ?_
        refine oMov (eR rfl) ?_
        refine gDo (eS rfl eZ) h13 ?_
        refine oMkfn (ps := [(.nm 320 0 0), (.nm 448 0 0), (.nm 384 0 0)]) (Evs.cons (eR rfl) (Evs.cons (eR rfl) (Evs.cons (eR rfl) Evs.nil))) ?_
        refine gDo (eR rfl) h13 ?_
        obtain ⟨v14, h15, H⟩ := obind H
        refine oCall (u := (.one (.d (.bool v14)))) eC Cl.fn (c_slices_ContainsFunc_Lock__LocksHold_1 h15) (Evs.cons (eS rfl eZ) (Evs.cons eZ Evs.nil)) (VDs.cons VD.plain (VDs.cons (VD.fn (PDs.cons (VD.ptrN (bS rfl (bS rfl bZ)) (CDs.plain CDs.nil)) (PDs.cons (VD.ptrN bZ (CDs.plain CDs.nil)) (PDs.cons (VD.ptrN (bS rfl bZ) (CDs.plain (CDs.plain CDs.nil))) PDs.nil)))) VDs.nil)) rfl ?_
        refine oPickT (eR rfl) h13 eZ ?_
        refine oMov eZ ?_
        refine xNil ?_
        refine TQ.qn ?_
        refine AW.weaken (wk_mk [448, 384, 320] (SL.cons (k := 8) eZ rfl VWk.rfl SL.nil) (BL.drop rfl (BL.drop rfl (BL.drop rfl BL.nil))) BK.nil) ?_
        refine AW.ret ?_
        obtain rfl := Option.some.inj H
        exact endsR (RL.cons (RV.tmp eZ) (VO.flat rfl) RL.nil) List.nodup_nil
      · refine gSkip eZ (nt h13) rfl ?_
        refine gSkip (eS rfl eZ) (nt h13) rfl ?_
        refine gSkip (eR rfl) (nt h13) rfl ?_
        refine oPickF (eR rfl) (nt h13) eC ?_
        refine oMov eZ ?_
        refine xNil ?_
        refine TQ.qn ?_
        refine AW.weaken (wk_mk [448, 384, 320] (SL.cons (k := 8) eZ rfl VWk.rfl SL.nil) (BL.drop rfl (BL.drop rfl (BL.drop rfl BL.nil))) BK.nil) ?_
        refine AW.ret ?_
        obtain rfl := Option.some.inj H
        exact endsR (RL.cons (RV.tmp eZ) (VO.flat rfl) RL.nil) List.nodup_nil
    · refine gSkip eZ (nt h10) rfl ?_
      refine gSkip (eS rfl eZ) (nt h10) rfl ?_
      refine oPickF (eR rfl) (nt h10) eC ?_
      refine oMov eZ ?_
      refine gSkip eZ rfl rfl ?_
      refine gSkip (eS rfl eZ) rfl rfl ?_
      refine gSkip (eR rfl) rfl rfl ?_
      refine oPickF (eR rfl) rfl eC ?_
      refine oMov eZ ?_
      refine xNil ?_
      refine TQ.qn ?_
      refine AW.weaken (wk_mk [448, 384, 320] (SL.cons (k := 8) eZ rfl VWk.rfl SL.nil) (BL.drop rfl (BL.drop rfl (BL.drop rfl BL.nil))) BK.nil) ?_
      refine AW.ret ?_
      obtain rfl := Option.some.inj H
      exact endsR (RL.cons (RV.tmp eZ) (VO.flat rfl) RL.nil) List.nodup_nil
  · refine gSkip eZ (nt h7) rfl ?_
    refine gSkip (eS rfl eZ) (nt h7) rfl ?_
    refine oPickF (eR rfl) (nt h7) eC ?_
    refine oMov eZ ?_
    refine gSkip eZ rfl rfl ?_
    refine gSkip (eS rfl eZ) rfl rfl ?_
    refine oPickF (eR rfl) rfl eC ?_
    refine oMov eZ ?_
    refine gSkip eZ rfl rfl ?_
    refine gSkip (eS rfl eZ) rfl rfl ?_
    refine gSkip (eR rfl) rfl rfl ?_
    refine oPickF (eR rfl) rfl eC ?_
    refine oMov eZ ?_
    refine xNil ?_
    refine TQ.qn ?_
    refine AW.weaken (wk_mk [448, 384, 320] (SL.cons (k := 8) eZ rfl VWk.rfl SL.nil) (BL.drop rfl (BL.drop rfl (BL.drop rfl BL.nil))) BK.nil) ?_
    refine AW.ret ?_
    obtain rfl := Option.some.inj H
    exact endsR (RL.cons (RV.tmp eZ) (VO.flat rfl) RL.nil) List.nodup_nil

theorem c_cmp_isNaN_int {a1 : Int} {r : Bool} (H : m_cmp_isNaN_int a1 = some r) : Fn Try.prog k_cmp_isNaN_int_ (lent [(.int .i64 a1)]) true [(.bool r)] := by
  refine i_cmp_isNaN_int__fn (Nat.le_of_ble_eq_true rfl) ?_
  rw [init_mk]
  refine AW.weaken (wk_mk [] (SL.cons (v := (.one (.d (.int .i64 a1)))) eZ rfl VWk.rfl SL.nil) BL.nil BK.nil) ?_
  unfold m_cmp_isNaN_int at H
  unfold i_cmp_isNaN_int_
  refine AW.seq ?_
  refine AW.regs ?_
  refine oMov eC ?_
  refine xNil ?_
  refine TQ.qn ?_
  refine AW.seq ?_
  refine AW.regs ?_
  refine oMov (eS rfl eZ) ?_
  refine oMov (eR rfl) ?_
  refine oNeq (eS rfl eZ) eZ ?_
  refine oMov eZ ?_
  refine xNil ?_
  refine TQ.qn ?_
  refine AW.ret ?_
  obtain rfl := Option.some.inj H
  exact endsR (RL.cons (RV.tmp eZ) (VO.flat rfl) RL.nil) List.nodup_nil

theorem c_cmp_Less_int {a1 : Int} {a2 : Int} {r : Bool} (H : m_cmp_Less_int a1 a2 = some r) : Fn Try.prog k_cmp_Less_int_ (lent [(.int .i64 a1), (.int .i64 a2)]) true [(.bool r)] := by
  refine i_cmp_Less_int__fn (Nat.le_of_ble_eq_true rfl) ?_
  rw [init_mk]
  refine AW.weaken (wk_mk [] (SL.cons (v := (.one (.d (.int .i64 a1)))) eZ rfl VWk.rfl (SL.cons (v := (.one (.d (.int .i64 a2)))) (eS rfl eZ) rfl VWk.rfl SL.nil)) BL.nil BK.nil) ?_
  unfold m_cmp_Less_int at H
  unfold i_cmp_Less_int_
  refine AW.seq ?_
  refine AW.regs ?_
  refine oMov eC ?_
  refine xNil ?_
  refine TQ.qn ?_
  refine AW.seq ?_
  refine AW.regs ?_
  refine oMov (eS rfl eZ) ?_
  obtain ⟨v3, h4, H⟩ := obind H
  refine oCall (u := (.one (.d (.bool v3)))) eC Cl.fn (c_cmp_isNaN_int h4) (Evs.cons eZ Evs.nil) (VDs.cons VD.plain VDs.nil) rfl ?_
  refine oMov eZ ?_
  rcases oite H with ⟨h5, H⟩ | ⟨h5, H⟩
  · refine gDo eZ h5 ?_
    refine oMov (eR rfl) ?_
    refine gDo (eS rfl eZ) h5 ?_
    obtain ⟨v6, h7, H⟩ := obind H
    refine oCall (u := (.one (.d (.bool v6)))) eC Cl.fn (c_cmp_isNaN_int h7) (Evs.cons eZ Evs.nil) (VDs.cons VD.plain VDs.nil) rfl ?_
    refine gDo (eR rfl) h5 ?_
    refine oInv eZ ?_
    refine oPickT (eR rfl) h5 eZ ?_
    refine oMov eZ ?_
    rcases oite H with ⟨h8, H⟩ | ⟨h8, H⟩
    · refine gDo eZ (congrArg Bool.not h8) ?_
      refine oMov (eR rfl) ?_
      refine gDo (eS rfl eZ) (congrArg Bool.not h8) ?_
      refine oMov (eR rfl) ?_
      refine gDo (eR rfl) (congrArg Bool.not h8) ?_
      refine oLss (eS rfl eZ) eZ ?_
      refine oPickF (eR rfl) (congrArg Bool.not h8) eZ ?_
      refine oMov eZ ?_
      refine xNil ?_
      refine TQ.qn ?_
      refine AW.weaken (wk_mk [] (SL.cons (k := 4) eZ rfl VWk.rfl SL.nil) BL.nil BK.nil) ?_
      refine AW.ret ?_
      obtain rfl := Option.some.inj H
      exact endsR (RL.cons (RV.tmp eZ) (VO.flat rfl) RL.nil) List.nodup_nil
    · refine gSkip eZ (congrArg Bool.not (nt h8)) rfl ?_
      refine gSkip (eS rfl eZ) (congrArg Bool.not (nt h8)) rfl ?_
      refine gSkip (eR rfl) (congrArg Bool.not (nt h8)) rfl ?_
      refine oPickT (eR rfl) (congrArg Bool.not (nt h8)) eC ?_
      refine oMov eZ ?_
      refine xNil ?_
      refine TQ.qn ?_
      refine AW.weaken (wk_mk [] (SL.cons (k := 4) eZ rfl VWk.rfl SL.nil) BL.nil BK.nil) ?_
      refine AW.ret ?_
      obtain rfl := Option.some.inj H
      exact endsR (RL.cons (RV.tmp eZ) (VO.flat rfl) RL.nil) List.nodup_nil
  · refine gSkip eZ (nt h5) rfl ?_
    refine gSkip (eS rfl eZ) (nt h5) rfl ?_
    refine gSkip (eR rfl) (nt h5) rfl ?_
    refine oPickF (eR rfl) (nt h5) eC ?_
    refine oMov eZ ?_
    refine gDo eZ rfl ?_
    refine oMov (eR rfl) ?_
    refine gDo (eS rfl eZ) rfl ?_
    refine oMov (eR rfl) ?_
    refine gDo (eR rfl) rfl ?_
    refine oLss (eS rfl eZ) eZ ?_
    refine oPickF (eR rfl) rfl eZ ?_
    refine oMov eZ ?_
    refine xNil ?_
    refine TQ.qn ?_
    refine AW.weaken (wk_mk [] (SL.cons (k := 4) eZ rfl VWk.rfl SL.nil) BL.nil BK.nil) ?_
    refine AW.ret ?_
    obtain rfl := Option.some.inj H
    exact endsR (RL.cons (RV.tmp eZ) (VO.flat rfl) RL.nil) List.nodup_nil

theorem c_slices_isNaN_int {a1 : Int} {r : Bool} (H : m_slices_isNaN_int a1 = some r) : Fn Try.prog k_slices_isNaN_int_ (lent [(.int .i64 a1)]) true [(.bool r)] := by
  refine i_slices_isNaN_int__fn (Nat.le_of_ble_eq_true rfl) ?_
  rw [init_mk]
  refine AW.weaken (wk_mk [] (SL.cons (v := (.one (.d (.int .i64 a1)))) eZ rfl VWk.rfl SL.nil) BL.nil BK.nil) ?_
  unfold m_slices_isNaN_int at H
  unfold i_slices_isNaN_int_
  refine AW.seq ?_
  refine AW.regs ?_
  refine oMov eC ?_
  refine xNil ?_
  refine TQ.qn ?_
  refine AW.seq ?_
  refine AW.regs ?_
  refine oMov (eS rfl eZ) ?_
  refine oMov (eR rfl) ?_
  refine oNeq (eS rfl eZ) eZ ?_
  refine oMov eZ ?_
  refine xNil ?_
  refine TQ.qn ?_
  refine AW.ret ?_
  obtain rfl := Option.some.inj H
  exact endsR (RL.cons (RV.tmp eZ) (VO.flat rfl) RL.nil) List.nodup_nil

theorem c_slices_BinarySearch_int {a1 : (List Int)} {a2 : Int} {r : (Int × Bool)} (H : m_slices_BinarySearch_int a1 a2 = some r) : Fn Try.prog k_slices_BinarySearch___int_int_ (lent [(.sl 1 (List.map d_i64 a1)), (.int .i64 a2)]) true [(.int .i64 r.1), (.bool r.2)] := by
  refine i_slices_BinarySearch___int_int__fn (Nat.le_of_ble_eq_true rfl) ?_
  rw [init_mk]
  refine AW.weaken (wk_mk [] (SL.cons (v := (.one (.d (.sl 1 (List.map d_i64 a1))))) eZ rfl VWk.rfl (SL.cons (v := (.one (.d (.int .i64 a2)))) (eS rfl eZ) rfl VWk.rfl SL.nil)) BL.nil BK.nil) ?_
  unfold m_slices_BinarySearch_int at H
  unfold i_slices_BinarySearch___int_int_
  refine AW.seq ?_
  refine AW.regs ?_
  refine oMov eC ?_
  refine oMov eC ?_
  refine xNil ?_
  refine TQ.qn ?_
  refine AW.seq ?_
  refine AW.regs ?_
  refine oMov (eR rfl) ?_
  refine oLenD eZ (n := a1.length) (List.length_map _) ?_
  refine oMov eZ ?_
  refine xNil ?_
  refine TQ.qn ?_
  refine AW.seq ?_
  refine AW.regs ?_
  refine oMov eZ ?_
  refine oMov eC ?_
  refine oMov (eS rfl eZ) ?_
  refine xNil ?_
  refine TQ.qn ?_
  refine AW.seqJ (fun t3 : Int => (slices_BinarySearch_int_j3 a1 a2) t3 = some r) (fun t3 => mk [(0, (.one (.d (.sl 1 (List.map d_i64 a1))))), (1, (.one (.d (.int .i64 a2)))), (6, (.one (.d (.int .i64 (a1.length : Int))))), (7, (.one (.d (.int .i64 t3))))] [] noG) ?_ ?_
  · intro t3 H
    unfold slices_BinarySearch_int_j3 at H
    refine AW.seq ?_
    refine AW.regs ?_
    refine oMov (eR rfl) ?_
    refine oMov (eR rfl) ?_
    refine oMov (eR rfl) ?_
    refine oLss (eS rfl eZ) eZ ?_
    refine oMov eZ ?_
    rcases oite H with ⟨h5, H⟩ | ⟨h5, H⟩
    · refine gDo eZ (decide_eq_true h5) ?_
      refine oMov (eR rfl) ?_
      refine gDo (eS rfl eZ) (decide_eq_true h5) ?_
      refine oMov (eR rfl) ?_
      refine gDo (eR rfl) (decide_eq_true h5) ?_
      obtain ⟨v6, h7, H⟩ := obind H
      refine oAtD (eS rfl eZ) eZ h7 ?_
      refine gDo (eR rfl) (decide_eq_true h5) ?_
      refine oLoadB (e := (.int .i64 v6)) eZ rfl ?_
      refine gDo (eR rfl) (decide_eq_true h5) ?_
      refine oMov (eR rfl) ?_
      refine gDo (eR rfl) (decide_eq_true h5) ?_
      refine oEql (eS rfl eZ) eZ ?_
      refine gDo (eR rfl) (decide_eq_true h5) ?_
      refine oMov eZ ?_
      rcases oite H with ⟨h8, H⟩ | ⟨h8, H⟩
      · refine gSkip eZ (decide_eq_true h8) rfl ?_
        refine gSkip (eS rfl eZ) (decide_eq_true h8) rfl ?_
        refine gSkip (eR rfl) (decide_eq_true h8) rfl ?_
        refine gSkip (eR rfl) (decide_eq_true h8) rfl ?_
        refine gSkip (eR rfl) (decide_eq_true h8) rfl ?_
        refine gSkip (eR rfl) (decide_eq_true h8) rfl ?_
        refine gSkipU eZ rfl ?_
        refine gSkipU (eS rfl eZ) rfl ?_
        refine gSkip (eR rfl) (decide_eq_true h8) rfl ?_
        refine gDo (eR rfl) (decide_eq_true h5) ?_
        refine oPickT (eR rfl) (decide_eq_true h8) eC ?_
        refine oPickT (eR rfl) (decide_eq_true h5) eZ ?_
        refine oMov (eR rfl) ?_
        refine oMov (eS rfl eZ) ?_
        refine xNil ?_
        refine TQ.qn ?_
        refine AW.weaken (wk_mk [] (SL.cons (k := 5) eZ rfl VWk.rfl (SL.cons (k := 4) (eS rfl eZ) rfl VWk.rfl SL.nil)) BL.nil BK.nil) ?_
        refine AW.ret ?_
        obtain rfl := Option.some.inj H
        exact endsR (RL.cons (RV.tmp (eS rfl eZ)) (VO.flat rfl) (RL.cons (RV.tmp eZ) (VO.flat rfl) RL.nil)) List.nodup_nil
      · refine gDo eZ (decide_eq_false h8) ?_
        refine oMov (eR rfl) ?_
        refine gDo (eS rfl eZ) (decide_eq_false h8) ?_
        refine oMov (eR rfl) ?_
        refine gDo (eR rfl) (decide_eq_false h8) ?_
        obtain ⟨v9, h10, H⟩ := obind H
        refine oAtD (eS rfl eZ) eZ h10 ?_
        refine gDo (eR rfl) (decide_eq_false h8) ?_
        refine oLoadB (e := (.int .i64 v9)) eZ rfl ?_
        refine gDo (eR rfl) (decide_eq_false h8) ?_
        obtain ⟨v11, h12, H⟩ := obind H
        refine oCall (u := (.one (.d (.bool v11)))) eC Cl.fn (c_slices_isNaN_int h12) (Evs.cons eZ Evs.nil) (VDs.cons VD.plain VDs.nil) rfl ?_
        refine gDo (eR rfl) (decide_eq_false h8) ?_
        refine oMov eZ ?_
        rcases oite H with ⟨h13, H⟩ | ⟨h13, H⟩
        · refine gDo eZ h13 ?_
          refine oMov (eR rfl) ?_
          refine gDo (eS rfl eZ) h13 ?_
          obtain ⟨v14, h15, H⟩ := obind H
          refine oCall (u := (.one (.d (.bool v14)))) eC Cl.fn (c_slices_isNaN_int h15) (Evs.cons eZ Evs.nil) (VDs.cons VD.plain VDs.nil) rfl ?_
          refine gDo (eR rfl) (decide_eq_false h8) ?_
          refine oPickT (eR rfl) h13 eZ ?_
          refine gDo (eR rfl) (decide_eq_true h5) ?_
          refine oPickF (eR rfl) (decide_eq_false h8) eZ ?_
          refine oPickT (eR rfl) (decide_eq_true h5) eZ ?_
          refine oMov (eR rfl) ?_
          refine oMov (eS rfl eZ) ?_
          refine xNil ?_
          refine TQ.qn ?_
          refine AW.weaken (wk_mk [] (SL.cons (k := 5) eZ rfl VWk.rfl (SL.cons (k := 4) (eS rfl eZ) rfl VWk.rfl SL.nil)) BL.nil BK.nil) ?_
          refine AW.ret ?_
          obtain rfl := Option.some.inj H
          exact endsR (RL.cons (RV.tmp (eS rfl eZ)) (VO.flat rfl) (RL.cons (RV.tmp eZ) (VO.flat rfl) RL.nil)) List.nodup_nil
        · refine gSkip eZ (nt h13) rfl ?_
          refine gSkip (eS rfl eZ) (nt h13) rfl ?_
          refine gDo (eR rfl) (decide_eq_false h8) ?_
          refine oPickF (eR rfl) (nt h13) eC ?_
          refine gDo (eR rfl) (decide_eq_true h5) ?_
          refine oPickF (eR rfl) (decide_eq_false h8) eZ ?_
          refine oPickT (eR rfl) (decide_eq_true h5) eZ ?_
          refine oMov (eR rfl) ?_
          refine oMov (eS rfl eZ) ?_
          refine xNil ?_
          refine TQ.qn ?_
          refine AW.weaken (wk_mk [] (SL.cons (k := 5) eZ rfl VWk.rfl (SL.cons (k := 4) (eS rfl eZ) rfl VWk.rfl SL.nil)) BL.nil BK.nil) ?_
          refine AW.ret ?_
          obtain rfl := Option.some.inj H
          exact endsR (RL.cons (RV.tmp (eS rfl eZ)) (VO.flat rfl) (RL.cons (RV.tmp eZ) (VO.flat rfl) RL.nil)) List.nodup_nil
    · refine gSkip eZ (decide_eq_false h5) rfl ?_
      refine gSkip (eS rfl eZ) (decide_eq_false h5) rfl ?_
      refine gSkip (eR rfl) (decide_eq_false h5) rfl ?_
      refine gSkip (eR rfl) (decide_eq_false h5) rfl ?_
      refine gSkip (eR rfl) (decide_eq_false h5) rfl ?_
      refine gSkip (eR rfl) (decide_eq_false h5) rfl ?_
      refine gSkip (eR rfl) (decide_eq_false h5) rfl ?_
      refine gSkipU eZ rfl ?_
      refine gSkipU (eS rfl eZ) rfl ?_
      refine gSkipU (eR rfl) rfl ?_
      refine gSkipU (eR rfl) rfl ?_
      refine gSkipU (eR rfl) rfl ?_
      refine gSkipU (eR rfl) rfl ?_
      refine gSkipU eZ rfl ?_
      refine gSkipU (eS rfl eZ) rfl ?_
      refine gSkipU (eR rfl) rfl ?_
      refine gSkip (eR rfl) (decide_eq_false h5) rfl ?_
      refine oPickF (eR rfl) (decide_eq_false h5) eC ?_
      refine oMov (eR rfl) ?_
      refine oMov (eS rfl eZ) ?_
      refine xNil ?_
      refine TQ.qn ?_
      refine AW.weaken (wk_mk [] (SL.cons (k := 5) eZ rfl VWk.rfl (SL.cons (k := 4) (eS rfl eZ) rfl VWk.rfl SL.nil)) BL.nil BK.nil) ?_
      refine AW.ret ?_
      obtain rfl := Option.some.inj H
      exact endsR (RL.cons (RV.tmp (eS rfl eZ)) (VO.flat rfl) (RL.cons (RV.tmp eZ) (VO.flat rfl) RL.nil)) List.nodup_nil
  · refine AW.block ?_
    refine AW.iter (fun s16 : (Int × Int) => mk [(0, (.one (.d (.sl 1 (List.map d_i64 a1))))), (1, (.one (.d (.int .i64 a2)))), (6, (.one (.d (.int .i64 (a1.length : Int))))), (7, (.one (.d (.int .i64 s16.1)))), (8, (.one (.d (.int .i64 s16.2))))] [] noG) H (wk_mk [] (SL.cons (eR rfl) rfl VWk.rfl (SL.cons (eR rfl) rfl VWk.rfl (SL.cons (eR rfl) rfl VWk.rfl (SL.cons (eS rfl eZ) rfl VWk.rfl (SL.cons eZ rfl VWk.rfl SL.nil))))) BL.nil BK.nil) ?_
    intro kb17 s16 H
    unfold slices_BinarySearch_int_b16 at H
    refine AW.seq ?_
    refine AW.seq ?_
    refine AW.regs ?_
    refine oMov (eR rfl) ?_
    refine oMov (eR rfl) ?_
    refine oLss (eS rfl eZ) eZ ?_
    refine xNil ?_
    refine TQ.qn ?_
    rcases oite H with ⟨h18, H⟩ | ⟨h18, H⟩
    · refine AW.condT eZ (decide_eq_true h18) ?_
      refine AW.skip ?_
      refine TQ.qn ?_
      refine AW.block ?_
      refine AW.seq ?_
      refine AW.regs ?_
      refine oMov (eR rfl) ?_
      refine oMov (eR rfl) ?_
      refine oAdd (eS rfl eZ) eZ ?_
      refine oConv eZ ?_
      refine oShr eZ eC (by decide) ?_
      refine oConv eZ ?_
      refine oMov eZ ?_
      refine xNil ?_
      refine TQ.qn ?_
      refine AW.seq ?_
      refine AW.regs ?_
      refine oMov (eR rfl) ?_
      refine oMov (eS rfl eZ) ?_
      obtain ⟨v19, h20, H⟩ := obind H
      refine oAtD (eS rfl eZ) eZ h20 ?_
      refine oLoadB (e := (.int .i64 v19)) eZ rfl ?_
      refine oMov (eR rfl) ?_
      obtain ⟨v21, h22, H⟩ := obind H
      refine oCall (u := (.one (.d (.bool v21)))) eC Cl.fn (c_cmp_Less_int h22) (Evs.cons (eS rfl eZ) (Evs.cons eZ Evs.nil)) (VDs.cons VD.plain (VDs.cons VD.plain VDs.nil)) rfl ?_
      refine xNil ?_
      refine TQ.qn ?_
      refine AW.weaken (wk_mk [] (SL.cons (k := 27) eZ rfl VWk.rfl (SL.cons (k := 9) (eR rfl) rfl VWk.rfl (SL.cons (k := 0) (eR rfl) rfl VWk.rfl (SL.cons (k := 1) (eR rfl) rfl VWk.rfl (SL.cons (k := 6) (eR rfl) rfl VWk.rfl (SL.cons (k := 7) (eR rfl) rfl VWk.rfl (SL.cons (k := 8) (eR rfl) rfl VWk.rfl SL.nil))))))) BL.nil BK.nil) ?_
      rcases oite H with ⟨h23, H⟩ | ⟨h23, H⟩
      · refine AW.condT eZ h23 ?_
        refine AW.regs ?_
        refine oMov (eS rfl eZ) ?_
        refine oAdd eZ eC ?_
        refine oMov eZ ?_
        refine xNil ?_
        refine BQ.qn ?_
        exact TQ.qn ⟨((IntKind.wrap .i64 ((IntKind.wrap .i64 (Int.fdiv (IntKind.wrap .u64 (IntKind.wrap .i64 (s16.1 + s16.2))) (2 ^ (min (Int.toNat 1) (IntKind.bits .u64))))) + 1)), s16.2), H, (wk_mk [] (SL.cons (eR rfl) rfl VWk.rfl (SL.cons (eR rfl) rfl VWk.rfl (SL.cons (eR rfl) rfl VWk.rfl (SL.cons eZ rfl VWk.rfl (SL.cons (eR rfl) rfl VWk.rfl SL.nil))))) BL.nil BK.nil)⟩
      · refine AW.condF eZ (nt h23) ?_
        refine AW.regs ?_
        refine oMov (eS rfl eZ) ?_
        refine oMov eZ ?_
        refine xNil ?_
        refine BQ.qn ?_
        exact TQ.qn ⟨(s16.1, (IntKind.wrap .i64 (Int.fdiv (IntKind.wrap .u64 (IntKind.wrap .i64 (s16.1 + s16.2))) (2 ^ (min (Int.toNat 1) (IntKind.bits .u64)))))), H, (wk_mk [] (SL.cons (eR rfl) rfl VWk.rfl (SL.cons (eR rfl) rfl VWk.rfl (SL.cons (eR rfl) rfl VWk.rfl (SL.cons (eR rfl) rfl VWk.rfl (SL.cons eZ rfl VWk.rfl SL.nil))))) BL.nil BK.nil)⟩
    · refine AW.condF eZ (decide_eq_false h18) ?_
      refine AW.exit ?_
      refine TQ.qe ?_
      refine TQ.qe ?_
      refine BQ.qe ?_
      exact TQ.qn ⟨s16.1, H, (wk_mk [] (SL.cons (eR rfl) rfl VWk.rfl (SL.cons (eR rfl) rfl VWk.rfl (SL.cons (eR rfl) rfl VWk.rfl (SL.cons (eR rfl) rfl VWk.rfl SL.nil)))) BL.nil BK.nil)⟩

theorem c_slices_Clone_int {a1 : (List Int)} {r : (List Int)} (H : m_slices_Clone_int a1 = some r) : Fn Try.prog k_slices_Clone___int_int_ (lent [(.sl 1 (List.map d_i64 a1))]) true [(.sl 1 (List.map d_i64 r))] := by
  refine i_slices_Clone___int_int__fn (Nat.le_of_ble_eq_true rfl) ?_
  rw [init_mk]
  refine AW.weaken (wk_mk [] (SL.cons (v := (.one (.d (.sl 1 (List.map d_i64 a1))))) eZ rfl VWk.rfl SL.nil) BL.nil BK.nil) ?_
  unfold m_slices_Clone_int at H
  unfold i_slices_Clone___int_int_
  refine AW.seq ?_
  refine AW.regs ?_
  refine oMov eC ?_
  refine xNil ?_
  refine TQ.qn ?_
  refine AW.seqJ (fun t2 : Unit => (slices_Clone_int_j2 a1) t2 = some r) (fun t2 => mk [(0, (.one (.d (.sl 1 (List.map d_i64 a1)))))] [] noG) ?_ ?_
  · intro t2 H
    unfold slices_Clone_int_j2 at H
    refine AW.seq ?_
    refine AW.regs ?_
    refine oBsliceZ (m := 320) rfl nZ ?_
    refine oMov (eS rfl eZ) ?_
    obtain ⟨h4, H⟩ := oguard H
    refine oAppZ (f := d_i64) (m := 448) (own := true) (ys := a1) (q := a1.length) rfl rfl (eS rfl eZ) eZ (El.lent fun _ _ => rfl) rfl h4 (by decide) nZ ?_
    refine oMov eZ ?_
    refine xNil ?_
    refine TQ.qn ?_
    refine AW.ret ?_
    obtain rfl := Option.some.inj H
    exact endsR (RL.cons (RV.tmp eZ) (VO.sl bZ (List.length_map _) (allFlat fun _ => rfl)) RL.nil) (by decide)
  · refine AW.seq ?_
    refine AW.regs ?_
    refine oMov (eS rfl eZ) ?_
    rcases oite H with ⟨h5, H⟩ | ⟨h5, H⟩
    · refine oNilD0 eZ h5 ?_
      refine xNil ?_
      refine TQ.qn ?_
      refine AW.condU eZ ?_ ?_
      · have H : (some ([] : (List Int))) = some r := by rw [← H]; simp [List.eq_nil_of_length_eq_zero h5, slices_Clone_int_j2]
        refine AW.seq ?_
        refine AW.regs ?_
        refine oMov eC ?_
        refine xNil ?_
        refine TQ.qn ?_
        refine AW.ret ?_
        refine TQ.qr ?_
        obtain rfl := Option.some.inj H
        exact endsR (RL.cons (RV.tmp eZ) VO.zs RL.nil) List.nodup_nil
      · refine AW.skip ?_
        exact TQ.qn ⟨(), H, (wk_mk [] (SL.cons (eR rfl) rfl VWk.rfl SL.nil) BL.nil BK.nil)⟩
    · refine oNilD eZ h5 ?_
      refine xNil ?_
      refine TQ.qn ?_
      refine AW.condF eZ rfl ?_
      refine AW.skip ?_
      exact TQ.qn ⟨(), H, (wk_mk [] (SL.cons (eR rfl) rfl VWk.rfl SL.nil) BL.nil BK.nil)⟩

theorem c_slices_Insert_int {a1 : List Int} {a2 : Int} {a3 r : List Int} (H : m_slices_Insert_int a1 a2 a3 = some r) : Fn Try.prog k_slices_Insert___int_int_ [⟨(.sl 1 (List.map d_i64 a1)), .g⟩, ⟨(.int .i64 a2), .b⟩, ⟨(.sl 1 (List.map d_i64 a3)), .g⟩] true [(.sl 1 (List.map d_i64 r))] := by
  obtain ⟨⟨h1, h2, h3, h4⟩, H⟩ := oguard H
  obtain rfl := Option.some.inj H
  obtain ⟨i, rfl⟩ : ∃ i : Nat, a2 = (i : Int) := ⟨Int.toNat a2, by omega⟩
  obtain ⟨x, rfl⟩ := List.length_eq_one_iff.1 h3
  rw [Int.toNat_natCast]
  refine i_slices_Insert___int_int__fnM (Nat.le_of_ble_eq_true rfl) (fC nZ rfl (fC nZ rfl fN)) rfl ?_
  rw [initM_mk]
  refine AW.weaken (t := mk [(0, .one (.sl 0 0 a1.length)), (1, .one (.d (.int .i64 (i : Int)))), (2, .one (.sl 128 0 1))] [(128, .data 1 (List.map d_i64 [x]) true none), (0, .data 1 (List.map d_i64 a1) true none)] (lk [])) (wk_mkG (gl := []) [] (SL.cons (v := (.one (.sl 0 0 a1.length))) eZ rfl (VWk.one (CWk.len (by simp))) (SL.cons (v := (.one (.d (.int .i64 (i : Int))))) (eS rfl eZ) rfl VWk.rfl (SL.cons (v := (.one (.sl 128 0 1))) (eS rfl (eS rfl eZ)) rfl (VWk.one (CWk.len (by simp))) SL.nil))) (BL.keep rfl (BL.keep rfl BL.nil)) (BK.cons (n := 128) rfl bZ rfl rfl (BK.cons (n := 0) rfl (bS rfl bZ) rfl rfl BK.nil)) GK.nil) ?_
  exact insAW (f := d_i64) (zv := 0) (sz := 1) (bytes := 8) (zs := [(.int .i64 0)]) (ov := k_slices_overlaps_int_) (sx := k_slices_rotateRight_int_) (fun _ => rfl) rfl (by decide) (by decide) (by omega) (by omega) (ovlOk (fn := Try.f281) (tS := 58) (tR := 4) (e := 3) Try.func281 (by kernel_rfl) (by kernel_rfl) (by kernel_rfl) (by kernel_rfl) Try.underlying58 (Option.some_get (by kernel_rfl : (Try.prog.info? 3).isSome = true)).symm)

theorem c_impl_inserted {a1 : (List Int)} {a2 : Int} {r : (List Int)} (H : m_impl_inserted a1 a2 = some r) : Fn Try.prog k_impl_inserted [⟨(.sl 1 (List.map d_i64 a1)), .g⟩, ⟨(.int .i64 a2), .b⟩] true [(.sl 1 (List.map d_i64 r))] := by
  refine i_impl_inserted_fnM (Nat.le_of_ble_eq_true rfl) (fC nZ rfl fN) rfl ?_
  rw [initM_mk]
  refine AW.weaken (t := mk [(0, (.one (.sl 0 0 a1.length))), (1, (.one (.d (.int .i64 a2))))] [(0, (.data 1 (List.map d_i64 a1) true none))] (lk [])) (wk_mkG (gl := []) [] (SL.cons (v := (.one (.sl 0 0 a1.length))) eZ rfl (VWk.one (CWk.len (List.length_map _))) (SL.cons (v := (.one (.d (.int .i64 a2)))) (eS rfl eZ) rfl VWk.rfl SL.nil)) (BL.keep rfl BL.nil) (BK.cons (n := 0) rfl bZ rfl rfl BK.nil) GK.nil) ?_
  unfold m_impl_inserted at H
  unfold i_impl_inserted
  refine AW.seq ?_
  refine AW.regs ?_
  refine oMov eC ?_
  refine xNil ?_
  refine TQ.qn ?_
  refine AW.seq ?_
  refine AW.regs ?_
  refine oMov (eS rfl eZ) ?_
  refine oMov (eR rfl) ?_
  obtain ⟨v3, h4, H⟩ := obind H
  refine oCall (u := (.tup [(.one (.d (.int .i64 v3.1))), (.one (.d (.bool v3.2)))])) eC Cl.fn (c_slices_BinarySearch_int h4) (Evs.cons (eS rfl eZ) (Evs.cons eZ Evs.nil)) (VDs.cons (VD.sl bZ (List.length_map _)) (VDs.cons VD.plain VDs.nil)) rfl ?_
  refine oMov eZ ?_
  refine oExt (v := (.one (.d (.int .i64 v3.1)))) eZ rfl ?_
  refine oExt (v := (.one (.d (.bool v3.2)))) (eS rfl eZ) rfl ?_
  refine oMov (eS rfl eZ) ?_
  refine oMov (eS rfl eZ) ?_
  refine xNil ?_
  refine TQ.qn ?_
  refine AW.seq ?_
  refine AW.seq ?_
  refine AW.regs ?_
  refine oMov eZ ?_
  refine xNil ?_
  refine TQ.qn ?_
  rcases oite H with ⟨h5, H⟩ | ⟨h5, H⟩
  · refine AW.condT eZ h5 ?_
    refine AW.seq ?_
    refine AW.regs ?_
    refine oMov (eR rfl) ?_
    refine oMov eZ ?_
    refine xNil ?_
    refine TQ.qn ?_
    refine AW.ret ?_
    refine TQ.qr ?_
    obtain rfl := Option.some.inj H
    exact endsRM (RL.cons (RV.tmp eZ) (VO.sl bZ (List.length_map _) (allFlat fun _ => rfl)) RL.nil) (ML.give (ML.lent ML.nil)) (by decide)
  · refine AW.condF eZ (nt h5) ?_
    refine AW.skip ?_
    refine TQ.qn ?_
    refine AW.seq ?_
    refine AW.regm ?_
    refine rmOne ?_
    refine oMov (eR rfl) ?_
    refine xNil ?_
    refine rmOne ?_
    obtain ⟨v6, h7, H⟩ := obind H
    refine oCallN (u := (.one (.sl 1024 0 v6.length))) (bs := [(1024, (.data 1 (List.map d_i64 v6) true none))]) eC Cl.fn (c_slices_Clone_int h7) (Evs.cons eZ Evs.nil) (VDs.cons (VD.sl bZ (List.length_map _)) VDs.nil) (by simp [bindR, bindV, bindVs, bindC, bindCs]) rfl (fC (nS rfl nZ) rfl (fC (nS rfl nZ) rfl fN)) ?_
    refine xNil ?_
    refine rmOne ?_
    refine oMov (eR rfl) ?_
    refine xNil ?_
    refine rmOne ?_
    refine oMov (eR rfl) ?_
    refine xNil ?_
    refine rmOne ?_
    refine oBslice (m := 1216) (q := 1) (cs := [(.d (.int .i64 a2))]) rfl (PsCons eZ PsNil) rfl (List.cons_ne_nil _ _) (by simp) (nS rfl (nS rfl nZ)) ?_
    refine xNil ?_
    obtain ⟨v8, h9, H⟩ := obind H
    refine rmWeaken (wk_dataF 1216 (zs := []) (f := d_i64) (t := a2) bZ rfl rfl) ?_
    refine rmCall (ON := [1024, 1216]) (ls := []) (G := [1024, 1216]) (E := [1024, 1216]) (MB := []) (u := (.one (.sl 1280 0 v8.length))) (bs := [(1280, (.data 1 (List.map d_i64 v8) true none))]) eC Cl.fn (c_slices_Insert_int h9) (Evs.cons (eR rfl) (Evs.cons (eR rfl) (Evs.cons eZ Evs.nil))) (AO.give (VO.sl (bS rfl (bS rfl bZ)) (List.length_map _) (allFlat fun _ => rfl)) (AO.lent VD.plain rfl (AO.give (VO.sl bZ rfl (allFlat fun _ => rfl)) AO.nil))) rfl rfl rfl SZ.nil (erL.cons (v' := (.one .any)) rfl (erL.cons (v' := (.one (.d (.int .i64 a2)))) rfl (erL.cons (v' := (.one (.d (.int .i64 v3.1)))) rfl (erL.cons (v' := (.one .any)) rfl (erL.cons (v' := (.one (.sl 0 0 a1.length))) rfl (erL.cons (v' := (.one (.d (.bool v3.2)))) rfl (erL.cons (v' := (.one (.d (.bool v3.2)))) rfl (erL.cons (v' := (.one (.d (.int .i64 v3.1)))) rfl (erL.cons (v' := (.one (.d (.bool v3.2)))) rfl (erL.cons (v' := (.one (.d (.int .i64 v3.1)))) rfl (erL.cons (v' := (.tup [(.one (.d (.int .i64 v3.1))), (.one (.d (.bool v3.2)))])) rfl (erL.cons (v' := (.tup [(.one (.d (.int .i64 v3.1))), (.one (.d (.bool v3.2)))])) rfl (erL.cons (v' := (.one (.d (.int .i64 a2)))) rfl (erL.cons (v' := (.one (.sl 0 0 a1.length))) rfl (erL.cons (v' := (.one .zs)) rfl (erL.cons (v' := (.one (.sl 0 0 a1.length))) rfl (erL.cons (v' := (.one (.d (.int .i64 a2)))) rfl erL.nil))))))))))))))))) (erH.drop rfl (erH.drop rfl (erH.drop rfl (erH.cons (v' := (.data 1 (List.map d_i64 a1) true none)) rfl rfl erH.nil)))) erL.nil (by simp [bindR, bindV, bindVs, bindC, bindCs]) rfl (fC (nS rfl nZ) rfl (fC (nS rfl nZ) rfl fN)) ?_
    refine rmRest ?_
    refine oMov eZ ?_
    refine xNil ?_
    refine TQ.qn ?_
    refine AW.weaken (wk_mkG [0] (SL.cons (k := 4) eZ rfl VWk.rfl SL.nil) (BL.keep rfl (BL.drop rfl BL.nil)) (BK.cons (n := 1280) rfl bZ rfl rfl BK.nil) GK.nil) ?_
    refine AW.ret ?_
    obtain rfl := Option.some.inj H
    exact endsRM (RL.cons (RV.tmp eZ) (VO.sl bZ (List.length_map _) (allFlat fun _ => rfl)) RL.nil) (ML.give (ML.lent ML.nil)) (by decide)

theorem c_slices_Index_int {a1 : (List Int)} {a2 : Int} {r : Int} (H : m_slices_Index_int a1 a2 = some r) : Fn Try.prog k_slices_Index___int_int_ (lent [(.sl 1 (List.map d_i64 a1)), (.int .i64 a2)]) true [(.int .i64 r)] := by
  refine i_slices_Index___int_int__fn (Nat.le_of_ble_eq_true rfl) ?_
  rw [init_mk]
  refine AW.weaken (wk_mk [] (SL.cons (v := (.one (.d (.sl 1 (List.map d_i64 a1))))) eZ rfl VWk.rfl (SL.cons (v := (.one (.d (.int .i64 a2)))) (eS rfl eZ) rfl VWk.rfl SL.nil)) BL.nil BK.nil) ?_
  unfold m_slices_Index_int at H
  unfold i_slices_Index___int_int_
  refine AW.seq ?_
  refine AW.regs ?_
  refine oMov eC ?_
  refine xNil ?_
  refine TQ.qn ?_
  refine AW.seqJ (fun t3 : Unit => slices_Index_int_j3 t3 = some r) (fun t3 => mk [] [] noG) ?_ ?_
  · intro t3 H
    unfold slices_Index_int_j3 at H
    refine AW.seq ?_
    refine AW.regs ?_
    refine oMov eC ?_
    refine xNil ?_
    refine TQ.qn ?_
    refine AW.ret ?_
    obtain rfl := Option.some.inj H
    exact endsR (RL.cons (RV.tmp eZ) (VO.flat rfl) RL.nil) List.nodup_nil
  · refine AW.seq ?_
    refine AW.regs ?_
    refine oMov (eS rfl eZ) ?_
    refine oLenD eZ (n := a1.length) (List.length_map _) ?_
    refine oMov eC ?_
    refine xNil ?_
    refine TQ.qn ?_
    refine AW.block ?_
    refine AW.iter (fun s5 : Int => mk [(0, (.one (.d (.sl 1 (List.map d_i64 a1))))), (1, (.one (.d (.int .i64 a2)))), (7, (.one (.d (.int .i64 (a1.length : Int))))), (8, (.one (.d (.int .i64 s5))))] [] noG) H (wk_mk [] (SL.cons (eR rfl) rfl VWk.rfl (SL.cons (eR rfl) rfl VWk.rfl (SL.cons (eS rfl eZ) rfl VWk.rfl (SL.cons eZ rfl VWk.rfl SL.nil)))) BL.nil BK.nil) ?_
    intro kb6 s5 H
    unfold slices_Index_int_b5 at H
    refine AW.seq ?_
    refine AW.regs ?_
    refine oLss (eR rfl) (eR rfl) ?_
    refine xNil ?_
    refine TQ.qn ?_
    refine AW.seq ?_
    rcases oite H with ⟨h7, H⟩ | ⟨h7, H⟩
    · refine AW.condT eZ (decide_eq_true h7) ?_
      refine AW.skip ?_
      refine TQ.qn ?_
      refine AW.seq ?_
      refine AW.block ?_
      refine AW.seq ?_
      refine AW.regs ?_
      refine oMov (eR rfl) ?_
      refine oMov eZ ?_
      refine xNil ?_
      refine TQ.qn ?_
      refine AW.seq ?_
      refine AW.regs ?_
      refine oMov (eR rfl) ?_
      refine oMov (eR rfl) ?_
      refine oMov (eR rfl) ?_
      obtain ⟨v8, h9, H⟩ := obind H
      refine oAtD (eS rfl eZ) eZ h9 ?_
      refine oLoadB (e := (.int .i64 v8)) eZ rfl ?_
      refine oEql (eR rfl) eZ ?_
      refine xNil ?_
      refine TQ.qn ?_
      rcases oite H with ⟨h10, H⟩ | ⟨h10, H⟩
      · refine AW.condT eZ (decide_eq_true h10) ?_
        refine AW.seq ?_
        refine AW.regs ?_
        refine oMov (eR rfl) ?_
        refine oMov eZ ?_
        refine xNil ?_
        refine TQ.qn ?_
        refine AW.ret ?_
        refine BQ.qr ?_
        refine TQ.qr ?_
        refine TQ.qr ?_
        refine BQ.qr ?_
        refine TQ.qr ?_
        obtain rfl := Option.some.inj H
        exact endsR (RL.cons (RV.tmp eZ) (VO.flat rfl) RL.nil) List.nodup_nil
      · refine AW.condF eZ (decide_eq_false h10) ?_
        refine AW.skip ?_
        refine BQ.qn ?_
        refine TQ.qn ?_
        refine AW.regs ?_
        refine oAdd (eR rfl) eC ?_
        refine oMov eZ ?_
        refine xNil ?_
        exact TQ.qn ⟨(IntKind.wrap .i64 (s5 + 1)), H, (wk_mk [] (SL.cons (eR rfl) rfl VWk.rfl (SL.cons (eR rfl) rfl VWk.rfl (SL.cons (eR rfl) rfl VWk.rfl (SL.cons eZ rfl VWk.rfl SL.nil)))) BL.nil BK.nil)⟩
    · refine AW.condF eZ (decide_eq_false h7) ?_
      refine AW.exit ?_
      refine TQ.qe ?_
      refine TQ.qe ?_
      refine BQ.qe ?_
      exact TQ.qn ⟨(), H, (wk_mk [] SL.nil BL.nil BK.nil)⟩

theorem c_slices_Contains_int {a1 : (List Int)} {a2 : Int} {r : Bool} (H : m_slices_Contains_int a1 a2 = some r) : Fn Try.prog k_slices_Contains___int_int_ (lent [(.sl 1 (List.map d_i64 a1)), (.int .i64 a2)]) true [(.bool r)] := by
  refine i_slices_Contains___int_int__fn (Nat.le_of_ble_eq_true rfl) ?_
  rw [init_mk]
  refine AW.weaken (wk_mk [] (SL.cons (v := (.one (.d (.sl 1 (List.map d_i64 a1))))) eZ rfl VWk.rfl (SL.cons (v := (.one (.d (.int .i64 a2)))) (eS rfl eZ) rfl VWk.rfl SL.nil)) BL.nil BK.nil) ?_
  unfold m_slices_Contains_int at H
  unfold i_slices_Contains___int_int_
  refine AW.seq ?_
  refine AW.regs ?_
  refine oMov eC ?_
  refine xNil ?_
  refine TQ.qn ?_
  refine AW.seq ?_
  refine AW.regs ?_
  refine oMov (eS rfl eZ) ?_
  refine oMov (eR rfl) ?_
  obtain ⟨v3, h4, H⟩ := obind H
  refine oCall (u := (.one (.d (.int .i64 v3)))) eC Cl.fn (c_slices_Index_int h4) (Evs.cons (eS rfl eZ) (Evs.cons eZ Evs.nil)) (VDs.cons VD.plain (VDs.cons VD.plain VDs.nil)) rfl ?_
  refine oGeq eZ eC ?_
  refine oMov eZ ?_
  refine xNil ?_
  refine TQ.qn ?_
  refine AW.ret ?_
  obtain rfl := Option.some.inj H
  exact endsR (RL.cons (RV.tmp eZ) (VO.flat rfl) RL.nil) List.nodup_nil

end Go.AW
