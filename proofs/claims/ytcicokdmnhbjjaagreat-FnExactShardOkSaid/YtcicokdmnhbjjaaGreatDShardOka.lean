/- That functions of the program compute what the plain functions say: printed by a program of the prover's own (tool/dec.py). Conditions: each theorem's own. -/
import Derived.Test.YtcicokdmnhbjjaaGreatMShardOk
import Derived.Test.YtcicokdmnhbjjaaGreatGShardOk
import Derived.Test.YtcicokdmnhbjjaaGreatSShardOk
import Derived.Test.YtcicokdmnhbjjaaGreatYt
import Derived.KernelRfl
set_option linter.unusedVariables false
set_option linter.unusedSimpArgs false
set_option maxRecDepth 100000
namespace Go.AW
open Go.Proofs
theorem c_laws_szRangeS {a1 : (List TRange)} {a2 : Int} {r : Int} (H : m_laws_szRangeS a1 a2 = some r) : Fn Tryz.prog k_laws_szRangeS (lent [(.sl 2 (List.map d_TRange a1)), (.int .i64 a2)]) true [(.int .i64 r)] := by
 refine i_laws_szRangeS_fn (fle rfl) ?_
 rw [init_mk]
 refine AW.weaken (wk_mk [] (kv 0 (.one (.d (.sl 2 (List.map d_TRange a1)))) rfl rfl (kv 1 (oI a2) rfl rfl SL.nil)) BL.nil BK.nil) ?_
 unfold m_laws_szRangeS at H
 unfold i_laws_szRangeS
 refine aV (oMov eC (xQ (aV (oMov (eR rfl) (oMov (eR rfl) (oLenD eZ (n := a1.length) (List.length_map _) (oSub (eR rfl) eZ (oMov eZ (xQ (aS (aV (oMov eZ (oLss eZ eC (xQ ?_))))))))))))))
 rcases oite H with ⟨h3, H⟩ | ⟨h3, H⟩
 ·refine AW.condT eZ (decide_eq_true h3) (aV (oMov eC (xQ (AW.ret (TQ.qr ?_)))))
  cases H
  exact eE rfl rfl
 ·refine AW.condF eZ (decide_eq_false h3) (AW.skip (TQ.qn (aV (oMov (eR rfl) (oMov eZ (xQ (AW.ret ?_)))))))
  cases H
  exact eE rfl rfl
theorem c_laws_szCellS {a1 : (List TCell)} {a2 : Int} {r : Int} (H : m_laws_szCellS a1 a2 = some r) : Fn Tryz.prog k_laws_szCellS (lent [(.sl 2 (List.map d_TCell a1)), (.int .i64 a2)]) true [(.int .i64 r)] := by
 refine i_laws_szCellS_fn (fle rfl) ?_
 rw [init_mk]
 refine AW.weaken (wk_mk [] (kv 0 (.one (.d (.sl 2 (List.map d_TCell a1)))) rfl rfl (kv 1 (oI a2) rfl rfl SL.nil)) BL.nil BK.nil) ?_
 unfold m_laws_szCellS at H
 unfold i_laws_szCellS
 refine aV (oMov eC (xQ (aV (oMov (eR rfl) (oMov (eR rfl) (oLenD eZ (n := a1.length) (List.length_map _) (oSub (eR rfl) eZ (oMov eZ (xQ (aS (aV (oMov eZ (oLss eZ eC (xQ ?_))))))))))))))
 rcases oite H with ⟨h3, H⟩ | ⟨h3, H⟩
 ·refine AW.condT eZ (decide_eq_true h3) (aV (oMov eC (xQ (AW.ret (TQ.qr ?_)))))
  cases H
  exact eE rfl rfl
 ·refine AW.condF eZ (decide_eq_false h3) (AW.skip (TQ.qn (aV (oMov (eR rfl) (oMov eZ (xQ (AW.ret ?_)))))))
  cases H
  exact eE rfl rfl
theorem c_laws_szLockS {a1 : (List TLock)} {a2 : Int} {r : Int} (H : m_laws_szLockS a1 a2 = some r) : Fn Tryz.prog k_laws_szLockS (lent [(.sl 4 (List.map d_TLock a1)), (.int .i64 a2)]) true [(.int .i64 r)] := by
 refine i_laws_szLockS_fn (fle rfl) ?_
 rw [init_mk]
 refine AW.weaken (wk_mk [] (kv 0 (.one (.d (.sl 4 (List.map d_TLock a1)))) rfl rfl (kv 1 (oI a2) rfl rfl SL.nil)) BL.nil BK.nil) ?_
 unfold m_laws_szLockS at H
 unfold i_laws_szLockS
 refine aV (oMov eC (xQ (aV (oMov (eR rfl) (oMov (eR rfl) (oLenD eZ (n := a1.length) (List.length_map _) (oSub (eR rfl) eZ (oMov eZ (xQ (aS (aV (oMov eZ (oLss eZ eC (xQ ?_))))))))))))))
 rcases oite H with ⟨h3, H⟩ | ⟨h3, H⟩
 ·refine AW.condT eZ (decide_eq_true h3) (aV (oMov eC (xQ (AW.ret (TQ.qr ?_)))))
  cases H
  exact eE rfl rfl
 ·refine AW.condF eZ (decide_eq_false h3) (AW.skip (TQ.qn (aV (oMov (eR rfl) (oMov eZ (xQ (AW.ret ?_)))))))
  cases H
  exact eE rfl rfl
theorem c_laws_szWriteS {a1 : (List TCell)} {a2 : Int} {r : Int} (H : m_laws_szWriteS a1 a2 = some r) : Fn Tryz.prog k_laws_szWriteS (lent [(.sl 2 (List.map d_TCell a1)), (.int .i64 a2)]) true [(.int .i64 r)] := by
 refine i_laws_szWriteS_fn (fle rfl) ?_
 rw [init_mk]
 refine AW.weaken (wk_mk [] (kv 0 (.one (.d (.sl 2 (List.map d_TCell a1)))) rfl rfl (kv 1 (oI a2) rfl rfl SL.nil)) BL.nil BK.nil) ?_
 unfold m_laws_szWriteS at H
 unfold i_laws_szWriteS
 refine aV (oMov eC (xQ (aV (oMov (eR rfl) (oMov (eR rfl) (oLenD eZ (n := a1.length) (List.length_map _) (oSub (eR rfl) eZ (oMov eZ (xQ (aS (aV (oMov eZ (oLss eZ eC (xQ ?_))))))))))))))
 rcases oite H with ⟨h3, H⟩ | ⟨h3, H⟩
 ·refine AW.condT eZ (decide_eq_true h3) (aV (oMov eC (xQ (AW.ret (TQ.qr ?_)))))
  cases H
  exact eE rfl rfl
 ·refine AW.condF eZ (decide_eq_false h3) (AW.skip (TQ.qn (aV (oMov (eR rfl) (oMov eZ (xQ (AW.ret ?_)))))))
  cases H
  exact eE rfl rfl
theorem c_laws_szHeld {a1 : THeld} {a2 : Int} {r : Int} (H : m_laws_szHeld a1 a2 = some r) : Fn Tryz.prog k_laws_szHeld (lent [(.agg (d_THeld a1)), (.int .i64 a2)]) true [(.int .i64 r)] := by
 refine i_laws_szHeld_fn (fle rfl) ?_
 rw [init_mk]
 refine AW.weaken (wk_mk [] (kv 0 (.agg [(dI a1.Tx), (.d (.sl 2 (List.map d_TCell a1.Writes)))]) rfl rfl (kv 1 (oI a2) rfl rfl SL.nil)) BL.nil BK.nil) ?_
 unfold m_laws_szHeld at H
 unfold i_laws_szHeld
 refine aV (oBox (n := 128) (m := 2) (cs := [(dI a1.Tx), (.d (.sl 2 (List.map d_TCell a1.Writes)))]) rfl eZ rfl rfl nZ (oMov eC (xQ (aV (oFaddrN (m := 1) (eR rfl) rfl (oLoadV (q := 1) (c := (.d (.sl 2 (List.map d_TCell a1.Writes)))) eZ bZ rfl rfl (oMov (eR rfl) ?_)))))))
 obtain ⟨v3, h4, H⟩ := obind H
 refine oCall (u := (oI v3)) eC Cl.fn (c_laws_szWriteS h4) (Evs.cons (eR rfl) (Evs.cons eZ Evs.nil)) (VDs.cons VD.plain (VDs.cons VD.plain VDs.nil)) rfl (oMov eZ (xQ (aS (aV (oMov eZ (oLss eZ eC (xQ ?_)))))))
 rcases oite H with ⟨h5, H⟩ | ⟨h5, H⟩
 ·refine AW.condT eZ (decide_eq_true h5) (aV (oMov eC (xQ (AW.ret (TQ.qr ?_)))))
  cases H
  exact eE rfl rfl
 ·refine AW.condF eZ (decide_eq_false h5) (AW.skip (TQ.qn (aV (oMov (eR rfl) (oMov eZ (xQ (AW.ret ?_)))))))
  cases H
  exact eE rfl rfl
theorem c_laws_szHeldS {a1 : (List THeld)} {a2 : Int} {r : Int} (H : m_laws_szHeldS a1 a2 = some r) : Fn Tryz.prog k_laws_szHeldS (lent [(.sl 2 (List.map d_THeld a1)), (.int .i64 a2)]) true [(.int .i64 r)] := by
 refine i_laws_szHeldS_fn (fle rfl) ?_
 rw [init_mk]
 refine AW.weaken (wk_mk [] (kv 0 (.one (.d (.sl 2 (List.map d_THeld a1)))) rfl rfl (kv 1 (oI a2) rfl rfl SL.nil)) BL.nil BK.nil) ?_
 unfold m_laws_szHeldS at H
 unfold i_laws_szHeldS
 refine aV (oMov eC (xQ (aV (oMov (eR rfl) (oMov (eR rfl) (oLenD eZ (n := a1.length) (List.length_map _) (oSub (eR rfl) eZ (oMov eZ (xQ (aS (aV (oMov eZ (oLss eZ eC (xQ ?_))))))))))))))
 rcases oite H with ⟨h3, H⟩ | ⟨h3, H⟩
 ·refine AW.condT eZ (decide_eq_true h3) (aV (oMov eC (xQ (AW.ret (TQ.qr ?_)))))
  cases H
  exact eE rfl rfl
 ·refine AW.condF eZ (decide_eq_false h3) (AW.skip (TQ.qn (AW.seqJ (fun t4 : Int => laws_szHeldS_j4 t4 = some r) (fun t4 => mk [(1, (oI t4))] [] noG) ?_ ?_)))
  ·intro t4 H
   unfold laws_szHeldS_j4 at H
   refine aV (oMov eZ (oMov eZ (xQ (AW.ret ?_))))
   cases H
   exact eE rfl rfl
  ·refine aV (oMov eC (xQ (AW.block (AW.iter (fun s6 : (Int × Int) => mk [(0, (.one (.d (.sl 2 (List.map d_THeld a1))))), (1, (oI s6.1)), (5, (oI s6.2))] [] noG) H (wk_mk [] (kR rfl rfl (kR rfl rfl (kR rfl rfl SL.nil))) BL.nil BK.nil) ?_))))
   intro kb7 s6 H
   unfold laws_szHeldS_b6 at H
   refine aS (aV (oMov (eR rfl) (oMov (eR rfl) (oLenD eZ (n := a1.length) (List.length_map _) (oLss (eR rfl) eZ (xQ ?_))))))
   rcases oite H with ⟨h8, H⟩ | ⟨h8, H⟩
   ·refine AW.condT eZ (decide_eq_true h8) (AW.skip (TQ.qn (aS (AW.block (aV (oMov (eR rfl) (oMov (eR rfl) ?_)))))))
    obtain ⟨v9, h10, H⟩ := obind H
    refine oAtD (eR rfl) eZ h10 (oLoadBA (es := [(dI v9.Tx), (.d (.sl 2 (List.map d_TCell v9.Writes)))]) eZ rfl (oMov (eR rfl) ?_))
    obtain ⟨v11, h12, H⟩ := obind H
    refine oCall (u := (oI v11)) eC Cl.fn (c_laws_szHeld h12) (Evs.cons (eR rfl) (Evs.cons eZ Evs.nil)) (VDs.cons (VD.agg rfl) (VDs.cons VD.plain VDs.nil)) rfl (oMov eZ (xQ (aV (oMov eZ (oLss eZ eC (xQ (AW.weaken (wk_mk [] (kr 25 rfl rfl (kr 1 rfl rfl (kr 0 rfl rfl (kr 5 rfl rfl SL.nil)))) BL.nil BK.nil) ?_)))))))
    rcases oite H with ⟨h13, H⟩ | ⟨h13, H⟩
    ·refine AW.condT eZ (decide_eq_true h13) (aV (oMov eC (xQ (AW.ret (BQ.qr (TQ.qr (TQ.qr (BQ.qr (TQ.qr ?_)))))))))
     cases H
     exact eE rfl rfl
    ·exact AW.condF eZ (decide_eq_false h13) (AW.skip (BQ.qn (TQ.qn (aR (oMov (eR rfl) (oAdd eZ eC (oMov eZ (xNil (TQ.qn ⟨(v11, (IntKind.wrap .i64 (s6.2 + 1))), H, (wk_mk [] (kR rfl rfl (kR rfl rfl (kR rfl rfl SL.nil))) BL.nil BK.nil)⟩)))))))))
   ·exact AW.condF eZ (decide_eq_false h8) (AW.exit (TQ.qe (TQ.qe (BQ.qe (TQ.qn ⟨s6.1, H, (wk_mk [] (kR rfl rfl SL.nil) BL.nil BK.nil)⟩)))))
theorem c_laws_szIntS {a1 : (List Int)} {a2 : Int} {r : Int} (H : m_laws_szIntS a1 a2 = some r) : Fn Tryz.prog k_laws_szIntS (lent [(.sl 1 (List.map d_i64 a1)), (.int .i64 a2)]) true [(.int .i64 r)] := by
 refine i_laws_szIntS_fn (fle rfl) ?_
 rw [init_mk]
 refine AW.weaken (wk_mk [] (kv 0 (.one (.d (.sl 1 (List.map d_i64 a1)))) rfl rfl (kv 1 (oI a2) rfl rfl SL.nil)) BL.nil BK.nil) ?_
 unfold m_laws_szIntS at H
 unfold i_laws_szIntS
 refine aV (oMov eC (xQ (aV (oMov (eR rfl) (oMov (eR rfl) (oLenD eZ (n := a1.length) (List.length_map _) (oSub (eR rfl) eZ (oMov eZ (xQ (aS (aV (oMov eZ (oLss eZ eC (xQ ?_))))))))))))))
 rcases oite H with ⟨h3, H⟩ | ⟨h3, H⟩
 ·refine AW.condT eZ (decide_eq_true h3) (aV (oMov eC (xQ (AW.ret (TQ.qr ?_)))))
  cases H
  exact eE rfl rfl
 ·refine AW.condF eZ (decide_eq_false h3) (AW.skip (TQ.qn (aV (oMov (eR rfl) (oMov eZ (xQ (AW.ret ?_)))))))
  cases H
  exact eE rfl rfl
theorem c_laws_szShard {a1 : TShard} {a2 : Int} {r : Int} (H : m_laws_szShard a1 a2 = some r) : Fn Tryz.prog k_laws_szShard (lent [(.agg (d_TShard a1)), (.int .i64 a2)]) true [(.int .i64 r)] := by
 refine i_laws_szShard_fn (fle rfl) ?_
 rw [init_mk]
 refine AW.weaken (wk_mk [] (kv 0 (.agg [(dI a1.Me), (.d (.sl 2 (List.map d_TRange a1.Own))), (.d (.sl 2 (List.map d_TRange a1.Frozen))), (.d (.sl 2 (List.map d_TCell a1.Cells))), (.d (.sl 4 (List.map d_TLock a1.Locks))), (.d (.sl 2 (List.map d_THeld a1.Helds))), (.d (.sl 1 (List.map d_i64 a1.Wounded))), (.d (.sl 1 (List.map d_i64 a1.Ended))), (dI a1.Rank)]) rfl rfl (kv 1 (oI a2) rfl rfl SL.nil)) BL.nil BK.nil) ?_
 unfold m_laws_szShard at H
 unfold i_laws_szShard
 refine aV (oBox (n := 128) (m := 9) (cs := [(dI a1.Me), (.d (.sl 2 (List.map d_TRange a1.Own))), (.d (.sl 2 (List.map d_TRange a1.Frozen))), (.d (.sl 2 (List.map d_TCell a1.Cells))), (.d (.sl 4 (List.map d_TLock a1.Locks))), (.d (.sl 2 (List.map d_THeld a1.Helds))), (.d (.sl 1 (List.map d_i64 a1.Wounded))), (.d (.sl 1 (List.map d_i64 a1.Ended))), (dI a1.Rank)]) rfl eZ rfl rfl nZ (oMov eC (xQ (aV (oFaddrN (m := 1) (eR rfl) rfl (oLoadV (q := 1) (c := (.d (.sl 2 (List.map d_TRange a1.Own)))) eZ bZ rfl rfl (oMov (eR rfl) ?_)))))))
 obtain ⟨v3, h4, H⟩ := obind H
 refine oCall (u := (oI v3)) eC Cl.fn (c_laws_szRangeS h4) (Evs.cons (eR rfl) (Evs.cons eZ Evs.nil)) (VDs.cons VD.plain (VDs.cons VD.plain VDs.nil)) rfl (oMov eZ (xQ (aS (aV (oMov eZ (oLss eZ eC (xQ ?_)))))))
 rcases oite H with ⟨h5, H⟩ | ⟨h5, H⟩
 ·refine AW.condT eZ (decide_eq_true h5) (aV (oMov eC (xQ (AW.ret (TQ.qr ?_)))))
  cases H
  exact eE rfl rfl
 ·refine AW.condF eZ (decide_eq_false h5) (AW.skip (TQ.qn (aV (oFaddrN (m := 2) (eR rfl) rfl (oLoadV (q := 2) (c := (.d (.sl 2 (List.map d_TRange a1.Frozen)))) eZ bZ rfl rfl (oMov (eR rfl) ?_))))))
  obtain ⟨v6, h7, H⟩ := obind H
  refine oCall (u := (oI v6)) eC Cl.fn (c_laws_szRangeS h7) (Evs.cons (eR rfl) (Evs.cons eZ Evs.nil)) (VDs.cons VD.plain (VDs.cons VD.plain VDs.nil)) rfl (oMov eZ (xQ (AW.weaken (wk_mk [] (kr 1 rfl rfl (kr 2 rfl rfl SL.nil)) (BL.keep rfl BL.nil) (BK.cons (n := 128) rfl bZ rfl rfl BK.nil)) (aS (aV (oMov eZ (oLss eZ eC (xQ ?_))))))))
  rcases oite H with ⟨h8, H⟩ | ⟨h8, H⟩
  ·refine AW.condT eZ (decide_eq_true h8) (aV (oMov eC (xQ (AW.ret (TQ.qr ?_)))))
   cases H
   exact eE rfl rfl
  ·refine AW.condF eZ (decide_eq_false h8) (AW.skip (TQ.qn (aV (oFaddrN (m := 3) (eR rfl) rfl (oLoadV (q := 3) (c := (.d (.sl 2 (List.map d_TCell a1.Cells)))) eZ bZ rfl rfl (oMov (eR rfl) ?_))))))
   obtain ⟨v9, h10, H⟩ := obind H
   refine oCall (u := (oI v9)) eC Cl.fn (c_laws_szCellS h10) (Evs.cons (eR rfl) (Evs.cons eZ Evs.nil)) (VDs.cons VD.plain (VDs.cons VD.plain VDs.nil)) rfl (oMov eZ (xQ (aS (aV (oMov eZ (oLss eZ eC (xQ ?_)))))))
   rcases oite H with ⟨h11, H⟩ | ⟨h11, H⟩
   ·refine AW.condT eZ (decide_eq_true h11) (aV (oMov eC (xQ (AW.ret (TQ.qr ?_)))))
    cases H
    exact eE rfl rfl
   ·refine AW.condF eZ (decide_eq_false h11) (AW.skip (TQ.qn (aV (oFaddrN (m := 4) (eR rfl) rfl (oLoadV (q := 4) (c := (.d (.sl 4 (List.map d_TLock a1.Locks)))) eZ bZ rfl rfl (oMov (eR rfl) ?_))))))
    obtain ⟨v12, h13, H⟩ := obind H
    refine oCall (u := (oI v12)) eC Cl.fn (c_laws_szLockS h13) (Evs.cons (eR rfl) (Evs.cons eZ Evs.nil)) (VDs.cons VD.plain (VDs.cons VD.plain VDs.nil)) rfl (oMov eZ (xQ (AW.weaken (wk_mk [] (kr 1 rfl rfl (kr 2 rfl rfl SL.nil)) (BL.keep rfl BL.nil) (BK.cons (n := 128) rfl bZ rfl rfl BK.nil)) (aS (aV (oMov eZ (oLss eZ eC (xQ ?_))))))))
    rcases oite H with ⟨h14, H⟩ | ⟨h14, H⟩
    ·refine AW.condT eZ (decide_eq_true h14) (aV (oMov eC (xQ (AW.ret (TQ.qr ?_)))))
     cases H
     exact eE rfl rfl
    ·refine AW.condF eZ (decide_eq_false h14) (AW.skip (TQ.qn (aV (oFaddrN (m := 5) (eR rfl) rfl (oLoadV (q := 5) (c := (.d (.sl 2 (List.map d_THeld a1.Helds)))) eZ bZ rfl rfl (oMov (eR rfl) ?_))))))
     obtain ⟨v15, h16, H⟩ := obind H
     refine oCall (u := (oI v15)) eC Cl.fn (c_laws_szHeldS h16) (Evs.cons (eR rfl) (Evs.cons eZ Evs.nil)) (VDs.cons VD.plain (VDs.cons VD.plain VDs.nil)) rfl (oMov eZ (xQ (aS (aV (oMov eZ (oLss eZ eC (xQ ?_)))))))
     rcases oite H with ⟨h17, H⟩ | ⟨h17, H⟩
     ·refine AW.condT eZ (decide_eq_true h17) (aV (oMov eC (xQ (AW.ret (TQ.qr ?_)))))
      cases H
      exact eE rfl rfl
     ·refine AW.condF eZ (decide_eq_false h17) (AW.skip (TQ.qn (aV (oFaddrN (m := 6) (eR rfl) rfl (oLoadV (q := 6) (c := (.d (.sl 1 (List.map d_i64 a1.Wounded)))) eZ bZ rfl rfl (oMov (eR rfl) ?_))))))
      obtain ⟨v18, h19, H⟩ := obind H
      refine oCall (u := (oI v18)) eC Cl.fn (c_laws_szIntS h19) (Evs.cons (eR rfl) (Evs.cons eZ Evs.nil)) (VDs.cons VD.plain (VDs.cons VD.plain VDs.nil)) rfl (oMov eZ (xQ (AW.weaken (wk_mk [] (kr 1 rfl rfl (kr 2 rfl rfl SL.nil)) (BL.keep rfl BL.nil) (BK.cons (n := 128) rfl bZ rfl rfl BK.nil)) (aS (aV (oMov eZ (oLss eZ eC (xQ ?_))))))))
      rcases oite H with ⟨h20, H⟩ | ⟨h20, H⟩
      ·refine AW.condT eZ (decide_eq_true h20) (aV (oMov eC (xQ (AW.ret (TQ.qr ?_)))))
       cases H
       exact eE rfl rfl
      ·refine AW.condF eZ (decide_eq_false h20) (AW.skip (TQ.qn (aV (oFaddrN (m := 7) (eR rfl) rfl (oLoadV (q := 7) (c := (.d (.sl 1 (List.map d_i64 a1.Ended)))) eZ bZ rfl rfl (oMov (eR rfl) ?_))))))
       obtain ⟨v21, h22, H⟩ := obind H
       refine oCall (u := (oI v21)) eC Cl.fn (c_laws_szIntS h22) (Evs.cons (eR rfl) (Evs.cons eZ Evs.nil)) (VDs.cons VD.plain (VDs.cons VD.plain VDs.nil)) rfl (oMov eZ (xQ (aS (aV (oMov eZ (oLss eZ eC (xQ ?_)))))))
       rcases oite H with ⟨h23, H⟩ | ⟨h23, H⟩
       ·refine AW.condT eZ (decide_eq_true h23) (aV (oMov eC (xQ (AW.ret (TQ.qr ?_)))))
        cases H
        exact eE rfl rfl
       ·refine AW.condF eZ (decide_eq_false h23) (AW.skip (TQ.qn (aV (oMov (eR rfl) (oMov eZ (xQ (AW.ret ?_)))))))
        cases H
        exact eE rfl rfl
theorem c_laws_toRange {a1 : TRange} {r : TRange} (H : m_laws_toRange a1 = some r) : Fn Tryz.prog k_laws_toRange (lent [(.agg (d_TRange a1))]) true [(.agg (d_TRange r))] := by
 refine i_laws_toRange_fn (fle rfl) ?_
 rw [init_mk]
 refine AW.weaken (wk_mk [] (kv 0 (.agg [(dI a1.Lo), (dI a1.Hi)]) rfl rfl SL.nil) BL.nil BK.nil) ?_
 unfold m_laws_toRange at H
 unfold i_laws_toRange
 refine aV (oBox (n := 64) (m := 2) (cs := [(dI a1.Lo), (dI a1.Hi)]) rfl eZ rfl rfl nZ (oVar (n := 128) (m := 2) rfl rfl (nS rfl nZ) (xQ (aV (oVar (n := 192) (m := 2) rfl rfl (nS rfl (nS rfl nZ)) (xQ (aV (oFaddrN (m := 0) (eR rfl) rfl (oLoadV (q := 0) (c := (dI a1.Lo)) eZ (bS rfl (bS rfl bZ)) rfl rfl (oFaddrN (m := 0) (eR rfl) rfl (oStoreV (es := [(dI a1.Lo), (dI 0)]) eZ (eR rfl) rfl rfl bZ rfl (xQ (aV (oFaddrN (m := 1) (eR rfl) rfl (oLoadV (q := 1) (c := (dI a1.Hi)) eZ (bS rfl (bS rfl (bS rfl bZ))) rfl rfl (oFaddrN (m := 1) (eR rfl) rfl (oStoreV (es := [(dI a1.Lo), (dI a1.Hi)]) eZ (eR rfl) rfl rfl bZ rfl (xQ (aV (oLoadVA (es := [(dI a1.Lo), (dI a1.Hi)]) (eR rfl) bZ rfl (oStoreV (es := [(dI a1.Lo), (dI a1.Hi)]) (eR rfl) eZ rfl rfl (bS rfl (bS rfl (bS rfl bZ))) rfl (xQ (AW.ret ?_)))))))))))))))))))))))
 cases H
 exact endsR (RL.cons (RV.cellA (es := [(dI a1.Lo), (dI a1.Hi)]) (eR rfl) bZ rfl) (VO.agg (ds := [(.int .i64 a1.Lo), (.int .i64 a1.Hi)]) rfl rfl) RL.nil) List.nodup_nil
theorem c_laws_toRangeS {a1 : (List TRange)} {r : (List TRange)} (H : m_laws_toRangeS a1 = some r) : Fn Tryz.prog k_laws_toRangeS (lent [(.sl 2 (List.map d_TRange a1))]) true [(.sl 2 (List.map d_TRange r))] := by
 refine i_laws_toRangeS_fn (fle rfl) ?_
 rw [init_mk]
 refine AW.weaken (wk_mk [] (kv 0 (.one (.d (.sl 2 (List.map d_TRange a1)))) rfl rfl SL.nil) BL.nil BK.nil) ?_
 unfold m_laws_toRangeS at H
 unfold i_laws_toRangeS
 refine aV (oMov eC (xQ (aV (oMov (eR rfl) (oLenD eZ (n := a1.length) (List.length_map _) ?_)))))
 obtain ⟨h2, H⟩ := oguard H
 refine oMksl (f := d_TRange) (zv := (TRange.mk 0 0)) (own := true) (m := 448) (q := (Int.toNat (a1.length : Int))) rfl rfl eZ eZ h2.1 h2.2 rfl (by decide) rfl nZ (oMov eZ (xQ (AW.seqJ (fun t3 : (List TRange) => laws_toRangeS_j3 t3 = some r) (fun t3 => mk [(3, (.one (.sl 320128 0 t3.length)))] [(320128, (.data 2 (List.map d_TRange t3) true none))] noG) ?_ ?_)))
 ·intro t3 H
  unfold laws_toRangeS_j3 at H
  refine aV (oMov eZ (oMov eZ (xQ (AW.ret ?_))))
  cases H
  exact endsR (RL.cons (RV.tmp eZ) (VO.sl bZ (List.length_map _) (allFlat fun _ => rfl)) RL.nil) (by decide)
 ·refine aV (oMov eC (xQ (AW.block (AW.iter (fun s5 : ((List TRange) × Int) => mk [(0, (.one (.d (.sl 2 (List.map d_TRange a1))))), (3, (.one (.sl 320192 0 s5.1.length))), (4, (oI s5.2))] [(320192, (.data 2 (List.map d_TRange s5.1) true none))] noG) H ((wk_mk [] (kR rfl rfl (SL.cons (eR rfl) rfl (VWk.one (CWk.len (by first | (simp; done) | (simp; omega) | omega | (simp only [List.length_map]; omega)))) (kR rfl rfl SL.nil))) (BL.keep rfl BL.nil) (BK.cons rfl bZ rfl rfl BK.nil)).trans (wk_ren 448 320192 rfl rfl (nS rfl nZ))) ?_))))
  intro kb6 s5 H
  unfold laws_toRangeS_b5 at H
  refine aS (aV (oMov (eR rfl) (oMov (eR rfl) (oLenD eZ (n := a1.length) (List.length_map _) (oLss (eR rfl) eZ (xQ ?_))))))
  rcases oite H with ⟨h7, H⟩ | ⟨h7, H⟩
  ·refine AW.condT eZ (decide_eq_true h7) (AW.skip (TQ.qn (aS (AW.block (aR (oMov (eR rfl) (oMov (eR rfl) (oMov (eR rfl) (oMov (eR rfl) ?_)))))))))
   obtain ⟨v8, h9, H⟩ := obind H
   refine oAtD (eR rfl) eZ h9 (oLoadBA (es := [(dI v8.Lo), (dI v8.Hi)]) eZ rfl ?_)
   obtain ⟨v10, h11, H⟩ := obind H
   refine oCall (u := (.agg [(dI v10.Lo), (dI v10.Hi)])) eC Cl.fn (c_laws_toRange h11) (Evs.cons eZ Evs.nil) (VDs.cons (VD.agg rfl) VDs.nil) rfl ?_
   obtain ⟨v12, h13, H⟩ := obind H
   exact oAtN (eR rfl) (eR rfl) bZ rfl h13 (oStoreD (t := v12) (t' := v10) (es := [(.int .i64 v10.Lo), (.int .i64 v10.Hi)]) eZ (eR rfl) rfl rfl bZ (idx_at h13) rfl rfl (xNil (BQ.qn (TQ.qn (aR (oMov (eR rfl) (oAdd eZ eC (oMov eZ (xNil (TQ.qn ⟨(s5.1.set (Int.toNat s5.2) v10, (IntKind.wrap .i64 (s5.2 + 1))), H, (wk_mk [] (kR rfl rfl (SL.cons (eR rfl) rfl (VWk.one (CWk.len (by first | (simp; done) | (simp; omega) | omega | (simp only [List.length_map]; omega)))) (kR rfl rfl SL.nil))) (BL.keep rfl (BL.keep rfl BL.nil)) (BK.cons rfl bZ rfl rfl BK.nil))⟩))))))))))
  ·exact AW.condF eZ (decide_eq_false h7) (AW.exit (TQ.qe (TQ.qe (BQ.qe (TQ.qn ⟨s5.1, H, ((wk_mk [] (kR rfl rfl SL.nil) (BL.keep rfl BL.nil) (BK.cons rfl bZ rfl rfl BK.nil)).trans (wk_ren 320192 320128 rfl rfl (nS rfl nZ)))⟩)))))
theorem c_laws_toCell {a1 : TCell} {r : TCell} (H : m_laws_toCell a1 = some r) : Fn Tryz.prog k_laws_toCell (lent [(.agg (d_TCell a1))]) true [(.agg (d_TCell r))] := by
 refine i_laws_toCell_fn (fle rfl) ?_
 rw [init_mk]
 refine AW.weaken (wk_mk [] (kv 0 (.agg [(dI a1.Key), (dI a1.Value)]) rfl rfl SL.nil) BL.nil BK.nil) ?_
 unfold m_laws_toCell at H
 unfold i_laws_toCell
 refine aV (oBox (n := 64) (m := 2) (cs := [(dI a1.Key), (dI a1.Value)]) rfl eZ rfl rfl nZ (oVar (n := 128) (m := 2) rfl rfl (nS rfl nZ) (xQ (aV (oVar (n := 192) (m := 2) rfl rfl (nS rfl (nS rfl nZ)) (xQ (aV (oFaddrN (m := 0) (eR rfl) rfl (oLoadV (q := 0) (c := (dI a1.Key)) eZ (bS rfl (bS rfl bZ)) rfl rfl (oFaddrN (m := 0) (eR rfl) rfl (oStoreV (es := [(dI a1.Key), (dI 0)]) eZ (eR rfl) rfl rfl bZ rfl (xQ (aV (oFaddrN (m := 1) (eR rfl) rfl (oLoadV (q := 1) (c := (dI a1.Value)) eZ (bS rfl (bS rfl (bS rfl bZ))) rfl rfl (oFaddrN (m := 1) (eR rfl) rfl (oStoreV (es := [(dI a1.Key), (dI a1.Value)]) eZ (eR rfl) rfl rfl bZ rfl (xQ (aV (oLoadVA (es := [(dI a1.Key), (dI a1.Value)]) (eR rfl) bZ rfl (oStoreV (es := [(dI a1.Key), (dI a1.Value)]) (eR rfl) eZ rfl rfl (bS rfl (bS rfl (bS rfl bZ))) rfl (xQ (AW.ret ?_)))))))))))))))))))))))
 cases H
 exact endsR (RL.cons (RV.cellA (es := [(dI a1.Key), (dI a1.Value)]) (eR rfl) bZ rfl) (VO.agg (ds := [(.int .i64 a1.Key), (.int .i64 a1.Value)]) rfl rfl) RL.nil) List.nodup_nil
theorem c_laws_toCellS {a1 : (List TCell)} {r : (List TCell)} (H : m_laws_toCellS a1 = some r) : Fn Tryz.prog k_laws_toCellS (lent [(.sl 2 (List.map d_TCell a1))]) true [(.sl 2 (List.map d_TCell r))] := by
 refine i_laws_toCellS_fn (fle rfl) ?_
 rw [init_mk]
 refine AW.weaken (wk_mk [] (kv 0 (.one (.d (.sl 2 (List.map d_TCell a1)))) rfl rfl SL.nil) BL.nil BK.nil) ?_
 unfold m_laws_toCellS at H
 unfold i_laws_toCellS
 refine aV (oMov eC (xQ (aV (oMov (eR rfl) (oLenD eZ (n := a1.length) (List.length_map _) ?_)))))
 obtain ⟨h2, H⟩ := oguard H
 refine oMksl (f := d_TCell) (zv := (TCell.mk 0 0)) (own := true) (m := 448) (q := (Int.toNat (a1.length : Int))) rfl rfl eZ eZ h2.1 h2.2 rfl (by decide) rfl nZ (oMov eZ (xQ (AW.seqJ (fun t3 : (List TCell) => laws_toCellS_j3 t3 = some r) (fun t3 => mk [(3, (.one (.sl 320128 0 t3.length)))] [(320128, (.data 2 (List.map d_TCell t3) true none))] noG) ?_ ?_)))
 ·intro t3 H
  unfold laws_toCellS_j3 at H
  refine aV (oMov eZ (oMov eZ (xQ (AW.ret ?_))))
  cases H
  exact endsR (RL.cons (RV.tmp eZ) (VO.sl bZ (List.length_map _) (allFlat fun _ => rfl)) RL.nil) (by decide)
 ·refine aV (oMov eC (xQ (AW.block (AW.iter (fun s5 : ((List TCell) × Int) => mk [(0, (.one (.d (.sl 2 (List.map d_TCell a1))))), (3, (.one (.sl 320192 0 s5.1.length))), (4, (oI s5.2))] [(320192, (.data 2 (List.map d_TCell s5.1) true none))] noG) H ((wk_mk [] (kR rfl rfl (SL.cons (eR rfl) rfl (VWk.one (CWk.len (by first | (simp; done) | (simp; omega) | omega | (simp only [List.length_map]; omega)))) (kR rfl rfl SL.nil))) (BL.keep rfl BL.nil) (BK.cons rfl bZ rfl rfl BK.nil)).trans (wk_ren 448 320192 rfl rfl (nS rfl nZ))) ?_))))
  intro kb6 s5 H
  unfold laws_toCellS_b5 at H
  refine aS (aV (oMov (eR rfl) (oMov (eR rfl) (oLenD eZ (n := a1.length) (List.length_map _) (oLss (eR rfl) eZ (xQ ?_))))))
  rcases oite H with ⟨h7, H⟩ | ⟨h7, H⟩
  ·refine AW.condT eZ (decide_eq_true h7) (AW.skip (TQ.qn (aS (AW.block (aR (oMov (eR rfl) (oMov (eR rfl) (oMov (eR rfl) (oMov (eR rfl) ?_)))))))))
   obtain ⟨v8, h9, H⟩ := obind H
   refine oAtD (eR rfl) eZ h9 (oLoadBA (es := [(dI v8.Key), (dI v8.Value)]) eZ rfl ?_)
   obtain ⟨v10, h11, H⟩ := obind H
   refine oCall (u := (.agg [(dI v10.Key), (dI v10.Value)])) eC Cl.fn (c_laws_toCell h11) (Evs.cons eZ Evs.nil) (VDs.cons (VD.agg rfl) VDs.nil) rfl ?_
   obtain ⟨v12, h13, H⟩ := obind H
   exact oAtN (eR rfl) (eR rfl) bZ rfl h13 (oStoreD (t := v12) (t' := v10) (es := [(.int .i64 v10.Key), (.int .i64 v10.Value)]) eZ (eR rfl) rfl rfl bZ (idx_at h13) rfl rfl (xNil (BQ.qn (TQ.qn (aR (oMov (eR rfl) (oAdd eZ eC (oMov eZ (xNil (TQ.qn ⟨(s5.1.set (Int.toNat s5.2) v10, (IntKind.wrap .i64 (s5.2 + 1))), H, (wk_mk [] (kR rfl rfl (SL.cons (eR rfl) rfl (VWk.one (CWk.len (by first | (simp; done) | (simp; omega) | omega | (simp only [List.length_map]; omega)))) (kR rfl rfl SL.nil))) (BL.keep rfl (BL.keep rfl BL.nil)) (BK.cons rfl bZ rfl rfl BK.nil))⟩))))))))))
  ·exact AW.condF eZ (decide_eq_false h7) (AW.exit (TQ.qe (TQ.qe (BQ.qe (TQ.qn ⟨s5.1, H, ((wk_mk [] (kR rfl rfl SL.nil) (BL.keep rfl BL.nil) (BK.cons rfl bZ rfl rfl BK.nil)).trans (wk_ren 320192 320128 rfl rfl (nS rfl nZ)))⟩)))))
theorem c_laws_toLock {a1 : TLock} {r : TLock} (H : m_laws_toLock a1 = some r) : Fn Tryz.prog k_laws_toLock (lent [(.agg (d_TLock a1))]) true [(.agg (d_TLock r))] := by
 refine i_laws_toLock_fn (fle rfl) ?_
 rw [init_mk]
 refine AW.weaken (wk_mk [] (kv 0 (.agg [(dI a1.Tx), (dI a1.Lo), (dI a1.Hi), (dI a1.Mode)]) rfl rfl SL.nil) BL.nil BK.nil) ?_
 unfold m_laws_toLock at H
 unfold i_laws_toLock
 refine aV (oBox (n := 64) (m := 4) (cs := [(dI a1.Tx), (dI a1.Lo), (dI a1.Hi), (dI a1.Mode)]) rfl eZ rfl rfl nZ (oVar (n := 128) (m := 4) rfl rfl (nS rfl nZ) (xQ (aV (oVar (n := 192) (m := 4) rfl rfl (nS rfl (nS rfl nZ)) (xQ (aV (oFaddrN (m := 0) (eR rfl) rfl (oLoadV (q := 0) (c := (dI a1.Tx)) eZ (bS rfl (bS rfl bZ)) rfl rfl (oFaddrN (m := 0) (eR rfl) rfl (oStoreV (es := [(dI a1.Tx), (dI 0), (dI 0), (dI 0)]) eZ (eR rfl) rfl rfl bZ rfl (xQ (aV (oFaddrN (m := 1) (eR rfl) rfl (oLoadV (q := 1) (c := (dI a1.Lo)) eZ (bS rfl (bS rfl (bS rfl bZ))) rfl rfl (oFaddrN (m := 1) (eR rfl) rfl (oStoreV (es := [(dI a1.Tx), (dI a1.Lo), (dI 0), (dI 0)]) eZ (eR rfl) rfl rfl bZ rfl (xQ (aV (oFaddrN (m := 2) (eR rfl) rfl (oLoadV (q := 2) (c := (dI a1.Hi)) eZ (bS rfl (bS rfl (bS rfl (bS rfl bZ)))) rfl rfl (oFaddrN (m := 2) (eR rfl) rfl (oStoreV (es := [(dI a1.Tx), (dI a1.Lo), (dI a1.Hi), (dI 0)]) eZ (eR rfl) rfl rfl bZ rfl (xQ (aV (oFaddrN (m := 3) (eR rfl) rfl (oLoadV (q := 3) (c := (dI a1.Mode)) eZ (bS rfl (bS rfl (bS rfl (bS rfl (bS rfl bZ))))) rfl rfl (oFaddrN (m := 3) (eR rfl) rfl ?_))))))))))))))))))))))))))))
 refine oStoreV (es := [(dI a1.Tx), (dI a1.Lo), (dI a1.Hi), (dI a1.Mode)]) eZ (eR rfl) rfl rfl bZ rfl (xQ (AW.weaken (wk_mk [64] (kr 3 rfl rfl (kr 2 rfl rfl SL.nil)) (BL.keep rfl (BL.keep rfl (BL.keep rfl (BL.keep rfl (BL.keep rfl (BL.keep rfl (BL.drop rfl BL.nil))))))) (BK.cons (n := 192) rfl bZ rfl rfl (BK.cons (n := 128) rfl (bS rfl (bS rfl (bS rfl (bS rfl (bS rfl bZ))))) rfl rfl BK.nil))) (aV (oLoadVA (es := [(dI a1.Tx), (dI a1.Lo), (dI a1.Hi), (dI a1.Mode)]) eZ bZ rfl (oStoreV (es := [(dI a1.Tx), (dI a1.Lo), (dI a1.Hi), (dI a1.Mode)]) (eR rfl) eZ rfl rfl (bS rfl bZ) rfl (xQ (AW.ret ?_)))))))
 cases H
 exact endsR (RL.cons (RV.cellA (es := [(dI a1.Tx), (dI a1.Lo), (dI a1.Hi), (dI a1.Mode)]) (eR rfl) bZ rfl) (VO.agg (ds := [(.int .i64 a1.Tx), (.int .i64 a1.Lo), (.int .i64 a1.Hi), (.int .i64 a1.Mode)]) rfl rfl) RL.nil) List.nodup_nil
theorem c_laws_toLockS {a1 : (List TLock)} {r : (List TLock)} (H : m_laws_toLockS a1 = some r) : Fn Tryz.prog k_laws_toLockS (lent [(.sl 4 (List.map d_TLock a1))]) true [(.sl 4 (List.map d_TLock r))] := by
 refine i_laws_toLockS_fn (fle rfl) ?_
 rw [init_mk]
 refine AW.weaken (wk_mk [] (kv 0 (.one (.d (.sl 4 (List.map d_TLock a1)))) rfl rfl SL.nil) BL.nil BK.nil) ?_
 unfold m_laws_toLockS at H
 unfold i_laws_toLockS
 refine aV (oMov eC (xQ (aV (oMov (eR rfl) (oLenD eZ (n := a1.length) (List.length_map _) ?_)))))
 obtain ⟨h2, H⟩ := oguard H
 refine oMksl (f := d_TLock) (zv := (TLock.mk 0 0 0 0)) (own := true) (m := 448) (q := (Int.toNat (a1.length : Int))) rfl rfl eZ eZ h2.1 h2.2 rfl (by decide) rfl nZ (oMov eZ (xQ (AW.seqJ (fun t3 : (List TLock) => laws_toLockS_j3 t3 = some r) (fun t3 => mk [(3, (.one (.sl 320128 0 t3.length)))] [(320128, (.data 4 (List.map d_TLock t3) true none))] noG) ?_ ?_)))
 ·intro t3 H
  unfold laws_toLockS_j3 at H
  refine aV (oMov eZ (oMov eZ (xQ (AW.ret ?_))))
  cases H
  exact endsR (RL.cons (RV.tmp eZ) (VO.sl bZ (List.length_map _) (allFlat fun _ => rfl)) RL.nil) (by decide)
 ·refine aV (oMov eC (xQ (AW.block (AW.iter (fun s5 : ((List TLock) × Int) => mk [(0, (.one (.d (.sl 4 (List.map d_TLock a1))))), (3, (.one (.sl 320192 0 s5.1.length))), (4, (oI s5.2))] [(320192, (.data 4 (List.map d_TLock s5.1) true none))] noG) H ((wk_mk [] (kR rfl rfl (SL.cons (eR rfl) rfl (VWk.one (CWk.len (by first | (simp; done) | (simp; omega) | omega | (simp only [List.length_map]; omega)))) (kR rfl rfl SL.nil))) (BL.keep rfl BL.nil) (BK.cons rfl bZ rfl rfl BK.nil)).trans (wk_ren 448 320192 rfl rfl (nS rfl nZ))) ?_))))
  intro kb6 s5 H
  unfold laws_toLockS_b5 at H
  refine aS (aV (oMov (eR rfl) (oMov (eR rfl) (oLenD eZ (n := a1.length) (List.length_map _) (oLss (eR rfl) eZ (xQ ?_))))))
  rcases oite H with ⟨h7, H⟩ | ⟨h7, H⟩
  ·refine AW.condT eZ (decide_eq_true h7) (AW.skip (TQ.qn (aS (AW.block (aR (oMov (eR rfl) (oMov (eR rfl) (oMov (eR rfl) (oMov (eR rfl) ?_)))))))))
   obtain ⟨v8, h9, H⟩ := obind H
   refine oAtD (eR rfl) eZ h9 (oLoadBA (es := [(dI v8.Tx), (dI v8.Lo), (dI v8.Hi), (dI v8.Mode)]) eZ rfl ?_)
   obtain ⟨v10, h11, H⟩ := obind H
   refine oCall (u := (.agg [(dI v10.Tx), (dI v10.Lo), (dI v10.Hi), (dI v10.Mode)])) eC Cl.fn (c_laws_toLock h11) (Evs.cons eZ Evs.nil) (VDs.cons (VD.agg rfl) VDs.nil) rfl ?_
   obtain ⟨v12, h13, H⟩ := obind H
   exact oAtN (eR rfl) (eR rfl) bZ rfl h13 (oStoreD (t := v12) (t' := v10) (es := [(.int .i64 v10.Tx), (.int .i64 v10.Lo), (.int .i64 v10.Hi), (.int .i64 v10.Mode)]) eZ (eR rfl) rfl rfl bZ (idx_at h13) rfl rfl (xNil (BQ.qn (TQ.qn (aR (oMov (eR rfl) (oAdd eZ eC (oMov eZ (xNil (TQ.qn ⟨(s5.1.set (Int.toNat s5.2) v10, (IntKind.wrap .i64 (s5.2 + 1))), H, (wk_mk [] (kR rfl rfl (SL.cons (eR rfl) rfl (VWk.one (CWk.len (by first | (simp; done) | (simp; omega) | omega | (simp only [List.length_map]; omega)))) (kR rfl rfl SL.nil))) (BL.keep rfl (BL.keep rfl BL.nil)) (BK.cons rfl bZ rfl rfl BK.nil))⟩))))))))))
  ·exact AW.condF eZ (decide_eq_false h7) (AW.exit (TQ.qe (TQ.qe (BQ.qe (TQ.qn ⟨s5.1, H, ((wk_mk [] (kR rfl rfl SL.nil) (BL.keep rfl BL.nil) (BK.cons rfl bZ rfl rfl BK.nil)).trans (wk_ren 320192 320128 rfl rfl (nS rfl nZ)))⟩)))))
theorem c_laws_toWrite {a1 : TCell} {r : TCell} (H : m_laws_toWrite a1 = some r) : Fn Tryz.prog k_laws_toWrite (lent [(.agg (d_TCell a1))]) true [(.agg (d_TCell r))] := by
 refine i_laws_toWrite_fn (fle rfl) ?_
 rw [init_mk]
 refine AW.weaken (wk_mk [] (kv 0 (.agg [(dI a1.Key), (dI a1.Value)]) rfl rfl SL.nil) BL.nil BK.nil) ?_
 unfold m_laws_toWrite at H
 unfold i_laws_toWrite
 refine aV (oBox (n := 64) (m := 2) (cs := [(dI a1.Key), (dI a1.Value)]) rfl eZ rfl rfl nZ (oVar (n := 128) (m := 2) rfl rfl (nS rfl nZ) (xQ (aV (oVar (n := 192) (m := 2) rfl rfl (nS rfl (nS rfl nZ)) (xQ (aV (oFaddrN (m := 0) (eR rfl) rfl (oLoadV (q := 0) (c := (dI a1.Key)) eZ (bS rfl (bS rfl bZ)) rfl rfl (oFaddrN (m := 0) (eR rfl) rfl (oStoreV (es := [(dI a1.Key), (dI 0)]) eZ (eR rfl) rfl rfl bZ rfl (xQ (aV (oFaddrN (m := 1) (eR rfl) rfl (oLoadV (q := 1) (c := (dI a1.Value)) eZ (bS rfl (bS rfl (bS rfl bZ))) rfl rfl (oFaddrN (m := 1) (eR rfl) rfl (oStoreV (es := [(dI a1.Key), (dI a1.Value)]) eZ (eR rfl) rfl rfl bZ rfl (xQ (aV (oLoadVA (es := [(dI a1.Key), (dI a1.Value)]) (eR rfl) bZ rfl (oStoreV (es := [(dI a1.Key), (dI a1.Value)]) (eR rfl) eZ rfl rfl (bS rfl (bS rfl (bS rfl bZ))) rfl (xQ (AW.ret ?_)))))))))))))))))))))))
 cases H
 exact endsR (RL.cons (RV.cellA (es := [(dI a1.Key), (dI a1.Value)]) (eR rfl) bZ rfl) (VO.agg (ds := [(.int .i64 a1.Key), (.int .i64 a1.Value)]) rfl rfl) RL.nil) List.nodup_nil
theorem c_laws_toWriteS {a1 : (List TCell)} {r : (List TCell)} (H : m_laws_toWriteS a1 = some r) : Fn Tryz.prog k_laws_toWriteS (lent [(.sl 2 (List.map d_TCell a1))]) true [(.sl 2 (List.map d_TCell r))] := by
 refine i_laws_toWriteS_fn (fle rfl) ?_
 rw [init_mk]
 refine AW.weaken (wk_mk [] (kv 0 (.one (.d (.sl 2 (List.map d_TCell a1)))) rfl rfl SL.nil) BL.nil BK.nil) ?_
 unfold m_laws_toWriteS at H
 unfold i_laws_toWriteS
 refine aV (oMov eC (xQ (aV (oMov (eR rfl) (oLenD eZ (n := a1.length) (List.length_map _) ?_)))))
 obtain ⟨h2, H⟩ := oguard H
 refine oMksl (f := d_TCell) (zv := (TCell.mk 0 0)) (own := true) (m := 448) (q := (Int.toNat (a1.length : Int))) rfl rfl eZ eZ h2.1 h2.2 rfl (by decide) rfl nZ (oMov eZ (xQ (AW.seqJ (fun t3 : (List TCell) => laws_toWriteS_j3 t3 = some r) (fun t3 => mk [(3, (.one (.sl 320128 0 t3.length)))] [(320128, (.data 2 (List.map d_TCell t3) true none))] noG) ?_ ?_)))
 ·intro t3 H
  unfold laws_toWriteS_j3 at H
  refine aV (oMov eZ (oMov eZ (xQ (AW.ret ?_))))
  cases H
  exact endsR (RL.cons (RV.tmp eZ) (VO.sl bZ (List.length_map _) (allFlat fun _ => rfl)) RL.nil) (by decide)
 ·refine aV (oMov eC (xQ (AW.block (AW.iter (fun s5 : ((List TCell) × Int) => mk [(0, (.one (.d (.sl 2 (List.map d_TCell a1))))), (3, (.one (.sl 320192 0 s5.1.length))), (4, (oI s5.2))] [(320192, (.data 2 (List.map d_TCell s5.1) true none))] noG) H ((wk_mk [] (kR rfl rfl (SL.cons (eR rfl) rfl (VWk.one (CWk.len (by first | (simp; done) | (simp; omega) | omega | (simp only [List.length_map]; omega)))) (kR rfl rfl SL.nil))) (BL.keep rfl BL.nil) (BK.cons rfl bZ rfl rfl BK.nil)).trans (wk_ren 448 320192 rfl rfl (nS rfl nZ))) ?_))))
  intro kb6 s5 H
  unfold laws_toWriteS_b5 at H
  refine aS (aV (oMov (eR rfl) (oMov (eR rfl) (oLenD eZ (n := a1.length) (List.length_map _) (oLss (eR rfl) eZ (xQ ?_))))))
  rcases oite H with ⟨h7, H⟩ | ⟨h7, H⟩
  ·refine AW.condT eZ (decide_eq_true h7) (AW.skip (TQ.qn (aS (AW.block (aR (oMov (eR rfl) (oMov (eR rfl) (oMov (eR rfl) (oMov (eR rfl) ?_)))))))))
   obtain ⟨v8, h9, H⟩ := obind H
   refine oAtD (eR rfl) eZ h9 (oLoadBA (es := [(dI v8.Key), (dI v8.Value)]) eZ rfl ?_)
   obtain ⟨v10, h11, H⟩ := obind H
   refine oCall (u := (.agg [(dI v10.Key), (dI v10.Value)])) eC Cl.fn (c_laws_toWrite h11) (Evs.cons eZ Evs.nil) (VDs.cons (VD.agg rfl) VDs.nil) rfl ?_
   obtain ⟨v12, h13, H⟩ := obind H
   exact oAtN (eR rfl) (eR rfl) bZ rfl h13 (oStoreD (t := v12) (t' := v10) (es := [(.int .i64 v10.Key), (.int .i64 v10.Value)]) eZ (eR rfl) rfl rfl bZ (idx_at h13) rfl rfl (xNil (BQ.qn (TQ.qn (aR (oMov (eR rfl) (oAdd eZ eC (oMov eZ (xNil (TQ.qn ⟨(s5.1.set (Int.toNat s5.2) v10, (IntKind.wrap .i64 (s5.2 + 1))), H, (wk_mk [] (kR rfl rfl (SL.cons (eR rfl) rfl (VWk.one (CWk.len (by first | (simp; done) | (simp; omega) | omega | (simp only [List.length_map]; omega)))) (kR rfl rfl SL.nil))) (BL.keep rfl (BL.keep rfl BL.nil)) (BK.cons rfl bZ rfl rfl BK.nil))⟩))))))))))
  ·exact AW.condF eZ (decide_eq_false h7) (AW.exit (TQ.qe (TQ.qe (BQ.qe (TQ.qn ⟨s5.1, H, ((wk_mk [] (kR rfl rfl SL.nil) (BL.keep rfl BL.nil) (BK.cons rfl bZ rfl rfl BK.nil)).trans (wk_ren 320192 320128 rfl rfl (nS rfl nZ)))⟩)))))
theorem c_laws_toHeld {a1 : THeld} {r : THeld} (H : m_laws_toHeld a1 = some r) : Fn Tryz.prog k_laws_toHeld (lent [(.agg (d_THeld a1))]) true [(.agg (d_THeld r))] := by
 refine i_laws_toHeld_fn (fle rfl) ?_
 rw [init_mk]
 refine AW.weaken (t := mk [(0, (.agg [(dI a1.Tx), (.d (.sl 2 (List.map d_TCell a1.Writes)))]))] [] (lk [])) (wk_mk [] (kv 0 (.agg [(dI a1.Tx), (.d (.sl 2 (List.map d_TCell a1.Writes)))]) rfl rfl SL.nil) BL.nil BK.nil) ?_
 unfold m_laws_toHeld at H
 unfold i_laws_toHeld
 refine aV (oBox (n := 64) (m := 2) (cs := [(dI a1.Tx), (.d (.sl 2 (List.map d_TCell a1.Writes)))]) rfl eZ rfl rfl nZ (oVar (n := 128) (m := 2) rfl rfl (nS rfl nZ) (xQ (aV (oVar (n := 192) (m := 2) rfl rfl (nS rfl (nS rfl nZ)) (xQ (aV (oFaddrN (m := 0) (eR rfl) rfl (oLoadV (q := 0) (c := (dI a1.Tx)) eZ (bS rfl (bS rfl bZ)) rfl rfl (oFaddrN (m := 0) (eR rfl) rfl (oStoreV (es := [(dI a1.Tx), .zs]) eZ (eR rfl) rfl rfl bZ rfl (xQ (aS (AW.regm (rmOne (oFaddrN (m := 1) (eR rfl) rfl (xNil (rmOne (oLoadV (q := 1) (c := (.d (.sl 2 (List.map d_TCell a1.Writes)))) eZ (bS rfl (bS rfl (bS rfl bZ))) rfl rfl (xNil (rmOne ?_)))))))))))))))))))))
 obtain ⟨v2, h3, H⟩ := obind H
 refine oCallN (u := (.one (.sl 576 0 v2.length))) (bs := [(576, (.data 2 (List.map d_TCell v2) true none))]) eC Cl.fn (c_laws_toWriteS h3) (Evs.cons eZ Evs.nil) (VDs.cons VD.plain VDs.nil) (by simp [bindR, bindV, bindVs, bindC, bindCs]) rfl (fC (nS rfl (nS rfl (nS rfl (nS rfl nZ)))) rfl (fC (nS rfl (nS rfl (nS rfl (nS rfl nZ)))) rfl fN)) (xNil (rmOne (oFaddrN (m := 1) (eR rfl) rfl (xNil (rmOne (oStoreV (es := [(dI a1.Tx), (.sl 576 0 v2.length)]) eZ (eR rfl) rfl rfl (bS rfl bZ) rfl (xNil (rmRest (xQ (aS (AW.regm (rmOne (oLoadVA (es := [(dI a1.Tx), (.sl 576 0 v2.length)]) (eR rfl) bZ rfl (xNil (rmOne (oStoreV (es := [(dI a1.Tx), (.sl 576 0 v2.length)]) (eR rfl) eZ rfl rfl (bS rfl (bS rfl (bS rfl (bS rfl bZ)))) rfl (xNil (rmRest (xQ (AW.ret ?_))))))))))))))))))))
 cases H
 exact endsR (RL.cons (RV.cellA (es := [(dI a1.Tx), (.sl 576 0 v2.length)]) (eR rfl) bZ rfl) (VO.aggs (VOs.cons (VO.flat rfl) (VOs.cons (VO.sl (bS rfl (bS rfl bZ)) (List.length_map _) (allFlat fun _ => rfl)) VOs.nil))) RL.nil) (by decide)
theorem c_laws_toHeldS {a1 : (List THeld)} {r : (List THeld)} (H : m_laws_toHeldS a1 = some r) : Fn Tryz.prog k_laws_toHeldS (lent [(.sl 2 (List.map d_THeld a1))]) true [(.sl 2 (List.map d_THeld r))] := by
 refine i_laws_toHeldS_fn (fle rfl) ?_
 rw [init_mk]
 refine AW.weaken (t := mk [(0, (.one (.d (.sl 2 (List.map d_THeld a1)))))] [] (lk [])) (wk_mk [] (kv 0 (.one (.d (.sl 2 (List.map d_THeld a1)))) rfl rfl SL.nil) BL.nil BK.nil) ?_
 unfold m_laws_toHeldS at H
 unfold i_laws_toHeldS
 refine aV (oMov eC (xQ (aS (AW.regm (rmOne (oMov (eR rfl) (xNil (rmOne (oLenD eZ (n := a1.length) (List.length_map _) (xNil ?_))))))))))
 obtain ⟨h2, H⟩ := oguard H
 refine rmMksl (f := d_THeld) (zv := (THeld.mk 0 ([] : (List TCell)))) (m := 448) (q := (Int.toNat (a1.length : Int))) rfl eZ eZ h2.1 h2.2 rfl (by decide) rfl nZ (rmRest (oMov eZ (xQ (AW.seqJ (fun t3 : (List THeld) => laws_toHeldS_j3 t3 = some r) (fun t3 => mk [(3, (.one (.sl 320128 0 t3.length)))] [(320128, (.data 2 (List.map d_THeld t3) true none))] (lk [])) ?_ ?_))))
 ·intro t3 H
  unfold laws_toHeldS_j3 at H
  refine aV (oMov eZ (oMov eZ (xQ (AW.ret ?_))))
  cases H
  exact endsR (RL.cons (RV.tmp eZ) (VO.sln bZ (List.length_map _) rfl) RL.nil) (by decide)
 ·refine aV (oMov eC (xQ (AW.block (AW.iter (fun s5 : ((List THeld) × Int) => mk [(0, (.one (.d (.sl 2 (List.map d_THeld a1))))), (3, (.one (.sl 320192 0 s5.1.length))), (4, (oI s5.2))] [(320192, (.data 2 (List.map d_THeld s5.1) true none))] (lk [])) H ((wk_mkG [] (kR rfl rfl (SL.cons (eR rfl) rfl (VWk.one (CWk.len (by first | (simp; done) | (simp; omega) | omega | (simp only [List.length_map]; omega)))) (kR rfl rfl SL.nil))) (BL.keep rfl BL.nil) (BK.cons rfl bZ rfl rfl BK.nil) GK.nil).trans (wk_renG 448 320192 rfl rfl (nS rfl nZ) GR.nil)) ?_))))
  intro kb6 s5 H
  unfold laws_toHeldS_b5 at H
  refine aS (aV (oMov (eR rfl) (oMov (eR rfl) (oLenD eZ (n := a1.length) (List.length_map _) (oLss (eR rfl) eZ (xQ ?_))))))
  rcases oite H with ⟨h7, H⟩ | ⟨h7, H⟩
  ·refine AW.condT eZ (decide_eq_true h7) (AW.skip (TQ.qn (aS (AW.block (AW.regm (rmOne (oMov (eR rfl) (xNil (rmOne (oMov (eR rfl) (xNil (rmOne (oMov (eR rfl) (xNil (rmOne (oMov (eR rfl) (xNil (rmOne ?_))))))))))))))))))
   obtain ⟨v8, h9, H⟩ := obind H
   refine oAtD (eR rfl) eZ h9 (xNil (rmOne (oLoadBA (es := [(dI v8.Tx), (.d (.sl 2 (List.map d_TCell v8.Writes)))]) eZ rfl (xNil (rmOne ?_)))))
   obtain ⟨v10, h11, H⟩ := obind H
   refine oCallN (u := (.agg [(dI v10.Tx), (.sl 1281 0 v10.Writes.length)])) (bs := [(1281, (.data 2 (List.map d_TCell v10.Writes) true none))]) eC Cl.fn (c_laws_toHeld h11) (Evs.cons eZ Evs.nil) (VDs.cons (VD.agg rfl) VDs.nil) (by simp [bindR, bindV, bindVs, bindC, bindCs]) rfl (fC (nS rfl nZ) rfl (fC (nS rfl nZ) rfl fN)) (xNil (rmOne ?_))
   obtain ⟨v12, h13, H⟩ := obind H
   exact oAtN (eR rfl) (eR rfl) (bS rfl bZ) rfl h13 (xNil (rmStoreAbs (f := d_THeld) (t := v12) (t' := v10) (ds := [(.int .i64 v10.Tx), (.sl 2 (List.map d_TCell v10.Writes))]) (ns := [1281]) eZ (eR rfl) rfl rfl (bS rfl bZ) (idx_at h13) (VOs.cons (VO.flat rfl) (VOs.cons (VO.sl bZ (List.length_map _) (allFlat fun _ => rfl)) VOs.nil)) rfl rfl (erL.cons (v' := (.one (.ptr (.nm 320192 (Int.toNat s5.2) 0)))) rfl (erL.cons (v' := (.agg [(dI v10.Tx), .any])) rfl (erL.cons (v' := (.agg [(dI v8.Tx), (.d (.sl 2 (List.map d_TCell v8.Writes)))])) rfl (erL.cons (v' := (.one (.ptr (.bd (d_THeld v8) 0)))) rfl (erL.cons (v' := (oI s5.2)) rfl (erL.cons (v' := (.one (.d (.sl 2 (List.map d_THeld a1))))) rfl (erL.cons (v' := (oI s5.2)) rfl (erL.cons (v' := (.one (.sl 320192 0 s5.1.length))) rfl (erL.cons (v' := (oB (decide (s5.2 < (a1.length : Int))))) rfl (erL.cons (v' := (oI (a1.length : Int))) rfl (erL.cons (v' := (.one (.d (.sl 2 (List.map d_THeld a1))))) rfl (erL.cons (v' := (oI s5.2)) rfl (erL.cons (v' := (.one (.d (.sl 2 (List.map d_THeld a1))))) rfl (erL.cons (v' := (.one (.sl 320192 0 s5.1.length))) rfl (erL.cons (v' := (oI s5.2)) rfl erL.nil))))))))))))))) (erH.drop rfl (erH.cons (v' := (.data 2 (List.map d_THeld s5.1) true none)) rfl rfl erH.nil)) erL.nil (rmRest (xNil (BQ.qn (TQ.qn (aR (oMov (eR rfl) (oAdd eZ eC (oMov eZ (xNil (TQ.qn ⟨(s5.1.set (Int.toNat s5.2) v10, (IntKind.wrap .i64 (s5.2 + 1))), H, (wk_mkG [] (kR rfl rfl (SL.cons (eR rfl) rfl (VWk.one (CWk.len (by first | (simp; done) | (simp; omega) | omega | (simp only [List.length_map]; omega)))) (kR rfl rfl SL.nil))) (BL.keep rfl (BL.keep rfl BL.nil)) (BK.cons rfl bZ rfl rfl BK.nil) GK.nil)⟩))))))))))))
  ·exact AW.condF eZ (decide_eq_false h7) (AW.exit (TQ.qe (TQ.qe (BQ.qe (TQ.qn ⟨s5.1, H, ((wk_mkG [] (kR rfl rfl SL.nil) (BL.keep rfl BL.nil) (BK.cons rfl bZ rfl rfl BK.nil) GK.nil).trans (wk_renG 320192 320128 rfl rfl (nS rfl nZ) GR.nil))⟩)))))
theorem c_laws_toIntS {a1 : (List Int)} {r : (List Int)} (H : m_laws_toIntS a1 = some r) : Fn Tryz.prog k_laws_toIntS (lent [(.sl 1 (List.map d_i64 a1))]) true [(.sl 1 (List.map d_i64 r))] := by
 refine i_laws_toIntS_fn (fle rfl) ?_
 rw [init_mk]
 refine AW.weaken (wk_mk [] (kv 0 (.one (.d (.sl 1 (List.map d_i64 a1)))) rfl rfl SL.nil) BL.nil BK.nil) ?_
 unfold m_laws_toIntS at H
 unfold i_laws_toIntS
 refine aV (oMov eC (xQ (aV (oMov (eR rfl) (oLenD eZ (n := a1.length) (List.length_map _) ?_)))))
 obtain ⟨h2, H⟩ := oguard H
 refine oMksl (f := d_i64) (zv := 0) (own := true) (m := 448) (q := (Int.toNat (a1.length : Int))) rfl rfl eZ eZ h2.1 h2.2 rfl (by decide) rfl nZ (oMov eZ (xQ (AW.seqJ (fun t3 : (List Int) => laws_toIntS_j3 t3 = some r) (fun t3 => mk [(3, (.one (.sl 320128 0 t3.length)))] [(320128, (.data 1 (List.map d_i64 t3) true none))] noG) ?_ ?_)))
 ·intro t3 H
  unfold laws_toIntS_j3 at H
  refine aV (oMov eZ (oMov eZ (xQ (AW.ret ?_))))
  cases H
  exact endsR (RL.cons (RV.tmp eZ) (VO.sl bZ (List.length_map _) (allFlat fun _ => rfl)) RL.nil) (by decide)
 ·refine aV (oMov eC (xQ (AW.block (AW.iter (fun s5 : ((List Int) × Int) => mk [(0, (.one (.d (.sl 1 (List.map d_i64 a1))))), (3, (.one (.sl 320192 0 s5.1.length))), (4, (oI s5.2))] [(320192, (.data 1 (List.map d_i64 s5.1) true none))] noG) H ((wk_mk [] (kR rfl rfl (SL.cons (eR rfl) rfl (VWk.one (CWk.len (by first | (simp; done) | (simp; omega) | omega | (simp only [List.length_map]; omega)))) (kR rfl rfl SL.nil))) (BL.keep rfl BL.nil) (BK.cons rfl bZ rfl rfl BK.nil)).trans (wk_ren 448 320192 rfl rfl (nS rfl nZ))) ?_))))
  intro kb6 s5 H
  unfold laws_toIntS_b5 at H
  refine aS (aV (oMov (eR rfl) (oMov (eR rfl) (oLenD eZ (n := a1.length) (List.length_map _) (oLss (eR rfl) eZ (xQ ?_))))))
  rcases oite H with ⟨h7, H⟩ | ⟨h7, H⟩
  ·refine AW.condT eZ (decide_eq_true h7) (AW.skip (TQ.qn (aS (AW.block (aR (oMov (eR rfl) (oMov (eR rfl) (oMov (eR rfl) (oMov (eR rfl) ?_)))))))))
   obtain ⟨v8, h9, H⟩ := obind H
   refine oAtD (eR rfl) eZ h9 (oLoadB (e := (.int .i64 v8)) eZ rfl ?_)
   obtain ⟨v10, h11, H⟩ := obind H
   exact oAtN (eR rfl) (eR rfl) bZ rfl h11 (oStoreD (t := v10) (t' := v8) (es := [(.int .i64 v8)]) eZ (eR rfl) rfl rfl bZ (idx_at h11) rfl rfl (xNil (BQ.qn (TQ.qn (aR (oMov (eR rfl) (oAdd eZ eC (oMov eZ (xNil (TQ.qn ⟨(s5.1.set (Int.toNat s5.2) v8, (IntKind.wrap .i64 (s5.2 + 1))), H, (wk_mk [] (kR rfl rfl (SL.cons (eR rfl) rfl (VWk.one (CWk.len (by first | (simp; done) | (simp; omega) | omega | (simp only [List.length_map]; omega)))) (kR rfl rfl SL.nil))) (BL.keep rfl (BL.keep rfl BL.nil)) (BK.cons rfl bZ rfl rfl BK.nil))⟩))))))))))
  ·exact AW.condF eZ (decide_eq_false h7) (AW.exit (TQ.qe (TQ.qe (BQ.qe (TQ.qn ⟨s5.1, H, ((wk_mk [] (kR rfl rfl SL.nil) (BL.keep rfl BL.nil) (BK.cons rfl bZ rfl rfl BK.nil)).trans (wk_ren 320192 320128 rfl rfl (nS rfl nZ)))⟩)))))
theorem c_laws_toShard {a1 : TShard} {r : TShard} (H : m_laws_toShard a1 = some r) : Fn Tryz.prog k_laws_toShard (lent [(.agg (d_TShard a1))]) true [(.agg (d_TShard r))] := by
 refine i_laws_toShard_fn (fle rfl) ?_
 rw [init_mk]
 refine AW.weaken (t := mk [(0, (.agg [(dI a1.Me), (.d (.sl 2 (List.map d_TRange a1.Own))), (.d (.sl 2 (List.map d_TRange a1.Frozen))), (.d (.sl 2 (List.map d_TCell a1.Cells))), (.d (.sl 4 (List.map d_TLock a1.Locks))), (.d (.sl 2 (List.map d_THeld a1.Helds))), (.d (.sl 1 (List.map d_i64 a1.Wounded))), (.d (.sl 1 (List.map d_i64 a1.Ended))), (dI a1.Rank)]))] [] (lk [])) (wk_mk [] (kv 0 (.agg [(dI a1.Me), (.d (.sl 2 (List.map d_TRange a1.Own))), (.d (.sl 2 (List.map d_TRange a1.Frozen))), (.d (.sl 2 (List.map d_TCell a1.Cells))), (.d (.sl 4 (List.map d_TLock a1.Locks))), (.d (.sl 2 (List.map d_THeld a1.Helds))), (.d (.sl 1 (List.map d_i64 a1.Wounded))), (.d (.sl 1 (List.map d_i64 a1.Ended))), (dI a1.Rank)]) rfl rfl SL.nil) BL.nil BK.nil) ?_
 unfold m_laws_toShard at H
 unfold i_laws_toShard
 refine aV (oBox (n := 64) (m := 9) (cs := [(dI a1.Me), (.d (.sl 2 (List.map d_TRange a1.Own))), (.d (.sl 2 (List.map d_TRange a1.Frozen))), (.d (.sl 2 (List.map d_TCell a1.Cells))), (.d (.sl 4 (List.map d_TLock a1.Locks))), (.d (.sl 2 (List.map d_THeld a1.Helds))), (.d (.sl 1 (List.map d_i64 a1.Wounded))), (.d (.sl 1 (List.map d_i64 a1.Ended))), (dI a1.Rank)]) rfl eZ rfl rfl nZ (oVar (n := 128) (m := 9) rfl rfl (nS rfl nZ) (xQ (aV (oVar (n := 192) (m := 9) rfl rfl (nS rfl (nS rfl nZ)) (xQ (aV (oFaddrN (m := 0) (eR rfl) rfl (oLoadV (q := 0) (c := (dI a1.Me)) eZ (bS rfl (bS rfl bZ)) rfl rfl (oFaddrN (m := 0) (eR rfl) rfl (oStoreV (es := [(dI a1.Me), .zs, .zs, .zs, .zs, .zs, .zs, .zs, (dI 0)]) eZ (eR rfl) rfl rfl bZ rfl (xQ (aS (AW.regm (rmOne (oFaddrN (m := 1) (eR rfl) rfl (xNil (rmOne (oLoadV (q := 1) (c := (.d (.sl 2 (List.map d_TRange a1.Own)))) eZ (bS rfl (bS rfl (bS rfl bZ))) rfl rfl (xNil (rmOne ?_)))))))))))))))))))))
 obtain ⟨v2, h3, H⟩ := obind H
 refine oCallN (u := (.one (.sl 576 0 v2.length))) (bs := [(576, (.data 2 (List.map d_TRange v2) true none))]) eC Cl.fn (c_laws_toRangeS h3) (Evs.cons eZ Evs.nil) (VDs.cons VD.plain VDs.nil) (by simp [bindR, bindV, bindVs, bindC, bindCs]) rfl (fC (nS rfl (nS rfl (nS rfl (nS rfl nZ)))) rfl (fC (nS rfl (nS rfl (nS rfl (nS rfl nZ)))) rfl fN)) (xNil (rmOne (oFaddrN (m := 1) (eR rfl) rfl (xNil (rmOne (oStoreV (es := [(dI a1.Me), (.sl 576 0 v2.length), .zs, .zs, .zs, .zs, .zs, .zs, (dI 0)]) eZ (eR rfl) rfl rfl (bS rfl bZ) rfl (xNil (rmRest (xQ (aS (AW.regm (rmOne (oFaddrN (m := 2) (eR rfl) rfl (xNil (rmOne (oLoadV (q := 2) (c := (.d (.sl 2 (List.map d_TRange a1.Frozen)))) eZ (bS rfl (bS rfl (bS rfl (bS rfl (bS rfl bZ))))) rfl rfl (xNil (rmOne ?_))))))))))))))))))
 obtain ⟨v4, h5, H⟩ := obind H
 refine oCallN (u := (.one (.sl 832 0 v4.length))) (bs := [(832, (.data 2 (List.map d_TRange v4) true none))]) eC Cl.fn (c_laws_toRangeS h5) (Evs.cons eZ Evs.nil) (VDs.cons VD.plain VDs.nil) (by simp [bindR, bindV, bindVs, bindC, bindCs]) rfl (fC (nS rfl (nS rfl (nS rfl (nS rfl (nS rfl (nS rfl nZ)))))) rfl (fC (nS rfl (nS rfl (nS rfl (nS rfl (nS rfl (nS rfl nZ)))))) rfl fN)) (xNil (rmOne (oFaddrN (m := 2) (eR rfl) rfl (xNil (rmOne (oStoreV (es := [(dI a1.Me), (.sl 576 0 v2.length), (.sl 832 0 v4.length), .zs, .zs, .zs, .zs, .zs, (dI 0)]) eZ (eR rfl) rfl rfl (bS rfl bZ) rfl (xNil (rmRest (xQ (aS (AW.regm (rmOne (oFaddrN (m := 3) (eR rfl) rfl (xNil (rmOne (oLoadV (q := 3) (c := (.d (.sl 2 (List.map d_TCell a1.Cells)))) eZ (bS rfl (bS rfl (bS rfl (bS rfl (bS rfl (bS rfl (bS rfl bZ))))))) rfl rfl (xNil (rmOne ?_))))))))))))))))))
 obtain ⟨v6, h7, H⟩ := obind H
 refine oCallN (u := (.one (.sl 1088 0 v6.length))) (bs := [(1088, (.data 2 (List.map d_TCell v6) true none))]) eC Cl.fn (c_laws_toCellS h7) (Evs.cons eZ Evs.nil) (VDs.cons VD.plain VDs.nil) (by simp [bindR, bindV, bindVs, bindC, bindCs]) rfl (fC (nS rfl (nS rfl (nS rfl (nS rfl (nS rfl (nS rfl (nS rfl (nS rfl nZ)))))))) rfl (fC (nS rfl (nS rfl (nS rfl (nS rfl (nS rfl (nS rfl (nS rfl (nS rfl nZ)))))))) rfl fN)) (xNil (rmOne (oFaddrN (m := 3) (eR rfl) rfl (xNil (rmOne (oStoreV (es := [(dI a1.Me), (.sl 576 0 v2.length), (.sl 832 0 v4.length), (.sl 1088 0 v6.length), .zs, .zs, .zs, .zs, (dI 0)]) eZ (eR rfl) rfl rfl (bS rfl bZ) rfl (xNil (rmRest (xQ (AW.weaken (wk_mkG [] (kr 3 rfl rfl (kr 2 rfl rfl (kr 1 rfl rfl SL.nil))) (BL.keep rfl (BL.keep rfl (BL.keep rfl (BL.keep rfl (BL.keep rfl (BL.keep rfl (BL.keep rfl (BL.keep rfl (BL.keep rfl (BL.keep rfl BL.nil)))))))))) (BK.cons (n := 192) rfl bZ rfl rfl (BK.cons (n := 1088) rfl (bS rfl bZ) rfl rfl (BK.cons (n := 832) rfl (bS rfl (bS rfl (bS rfl bZ))) rfl rfl (BK.cons (n := 576) rfl (bS rfl (bS rfl (bS rfl (bS rfl (bS rfl bZ))))) rfl rfl (BK.cons (n := 128) rfl (bS rfl (bS rfl (bS rfl (bS rfl (bS rfl (bS rfl (bS rfl (bS rfl bZ)))))))) rfl rfl (BK.cons (n := 64) rfl (bS rfl (bS rfl (bS rfl (bS rfl (bS rfl (bS rfl (bS rfl (bS rfl (bS rfl bZ))))))))) rfl rfl BK.nil)))))) GK.nil) (aS (AW.regm (rmOne (oFaddrN (m := 4) (eR rfl) rfl (xNil (rmOne (oLoadV (q := 4) (c := (.d (.sl 4 (List.map d_TLock a1.Locks)))) eZ (bS rfl (bS rfl (bS rfl (bS rfl (bS rfl bZ))))) rfl rfl (xNil (rmOne ?_)))))))))))))))))))
 obtain ⟨v8, h9, H⟩ := obind H
 refine oCallN (u := (.one (.sl 1344 0 v8.length))) (bs := [(1344, (.data 4 (List.map d_TLock v8) true none))]) eC Cl.fn (c_laws_toLockS h9) (Evs.cons eZ Evs.nil) (VDs.cons VD.plain VDs.nil) (by simp [bindR, bindV, bindVs, bindC, bindCs]) rfl (fC (nS rfl (nS rfl (nS rfl (nS rfl (nS rfl (nS rfl nZ)))))) rfl (fC (nS rfl (nS rfl (nS rfl (nS rfl (nS rfl (nS rfl nZ)))))) rfl fN)) (xNil (rmOne (oFaddrN (m := 4) (eR rfl) rfl (xNil (rmOne (oStoreV (es := [(dI a1.Me), (.sl 576 0 v2.length), (.sl 832 0 v4.length), (.sl 1088 0 v6.length), (.sl 1344 0 v8.length), .zs, .zs, .zs, (dI 0)]) eZ (eR rfl) rfl rfl (bS rfl bZ) rfl (xNil (rmRest (xQ (aS (AW.regm (rmOne (oFaddrN (m := 5) (eR rfl) rfl (xNil (rmOne (oLoadV (q := 5) (c := (.d (.sl 2 (List.map d_THeld a1.Helds)))) eZ (bS rfl (bS rfl (bS rfl (bS rfl (bS rfl (bS rfl (bS rfl bZ))))))) rfl rfl (xNil (rmOne ?_))))))))))))))))))
 obtain ⟨v10, h11, H⟩ := obind H
 refine oCallN (u := (.one (.sl 1600 0 v10.length))) (bs := [(1600, (.data 2 (List.map d_THeld v10) true none))]) eC Cl.fn (c_laws_toHeldS h11) (Evs.cons eZ Evs.nil) (VDs.cons VD.plain VDs.nil) (by simp [bindR, bindV, bindVs, bindC, bindCs]) rfl (fC (nS rfl (nS rfl (nS rfl (nS rfl (nS rfl (nS rfl (nS rfl (nS rfl nZ)))))))) rfl (fC (nS rfl (nS rfl (nS rfl (nS rfl (nS rfl (nS rfl (nS rfl (nS rfl nZ)))))))) rfl fN)) (xNil (rmOne (oFaddrN (m := 5) (eR rfl) rfl (xNil (rmOne (oStoreV (es := [(dI a1.Me), (.sl 576 0 v2.length), (.sl 832 0 v4.length), (.sl 1088 0 v6.length), (.sl 1344 0 v8.length), (.sl 1600 0 v10.length), .zs, .zs, (dI 0)]) eZ (eR rfl) rfl rfl (bS rfl bZ) rfl (xNil (rmRest (xQ (aS (AW.regm (rmOne (oFaddrN (m := 6) (eR rfl) rfl (xNil (rmOne (oLoadV (q := 6) (c := (.d (.sl 1 (List.map d_i64 a1.Wounded)))) eZ (bS rfl (bS rfl (bS rfl (bS rfl (bS rfl (bS rfl (bS rfl (bS rfl (bS rfl bZ))))))))) rfl rfl (xNil (rmOne ?_))))))))))))))))))
 obtain ⟨v12, h13, H⟩ := obind H
 refine oCallN (u := (.one (.sl 1856 0 v12.length))) (bs := [(1856, (.data 1 (List.map d_i64 v12) true none))]) eC Cl.fn (c_laws_toIntS h13) (Evs.cons eZ Evs.nil) (VDs.cons VD.plain VDs.nil) (by simp [bindR, bindV, bindVs, bindC, bindCs]) rfl (fC (nS rfl (nS rfl (nS rfl (nS rfl (nS rfl (nS rfl (nS rfl (nS rfl (nS rfl (nS rfl nZ)))))))))) rfl (fC (nS rfl (nS rfl (nS rfl (nS rfl (nS rfl (nS rfl (nS rfl (nS rfl (nS rfl (nS rfl nZ)))))))))) rfl fN)) (xNil (rmOne (oFaddrN (m := 6) (eR rfl) rfl (xNil (rmOne (oStoreV (es := [(dI a1.Me), (.sl 576 0 v2.length), (.sl 832 0 v4.length), (.sl 1088 0 v6.length), (.sl 1344 0 v8.length), (.sl 1600 0 v10.length), (.sl 1856 0 v12.length), .zs, (dI 0)]) eZ (eR rfl) rfl rfl (bS rfl bZ) rfl (xNil (rmRest (xQ (aS (AW.regm (rmOne (oFaddrN (m := 7) (eR rfl) rfl (xNil (rmOne (oLoadV (q := 7) (c := (.d (.sl 1 (List.map d_i64 a1.Ended)))) eZ (bS rfl (bS rfl (bS rfl (bS rfl (bS rfl (bS rfl (bS rfl (bS rfl (bS rfl (bS rfl (bS rfl bZ))))))))))) rfl rfl (xNil (rmOne ?_))))))))))))))))))
 obtain ⟨v14, h15, H⟩ := obind H
 refine oCallN (u := (.one (.sl 2112 0 v14.length))) (bs := [(2112, (.data 1 (List.map d_i64 v14) true none))]) eC Cl.fn (c_laws_toIntS h15) (Evs.cons eZ Evs.nil) (VDs.cons VD.plain VDs.nil) (by simp [bindR, bindV, bindVs, bindC, bindCs]) rfl (fC (nS rfl (nS rfl (nS rfl (nS rfl (nS rfl (nS rfl (nS rfl (nS rfl (nS rfl (nS rfl (nS rfl (nS rfl nZ)))))))))))) rfl (fC (nS rfl (nS rfl (nS rfl (nS rfl (nS rfl (nS rfl (nS rfl (nS rfl (nS rfl (nS rfl (nS rfl (nS rfl nZ)))))))))))) rfl fN)) (xNil (rmOne (oFaddrN (m := 7) (eR rfl) rfl (xNil (rmOne (oStoreV (es := [(dI a1.Me), (.sl 576 0 v2.length), (.sl 832 0 v4.length), (.sl 1088 0 v6.length), (.sl 1344 0 v8.length), (.sl 1600 0 v10.length), (.sl 1856 0 v12.length), (.sl 2112 0 v14.length), (dI 0)]) eZ (eR rfl) rfl rfl (bS rfl bZ) rfl (xNil (rmRest (xQ (AW.weaken (wk_mkG [] (kr 3 rfl rfl (kr 2 rfl rfl (kr 1 rfl rfl SL.nil))) (BL.keep rfl (BL.keep rfl (BL.keep rfl (BL.keep rfl (BL.keep rfl (BL.keep rfl (BL.keep rfl (BL.keep rfl (BL.keep rfl (BL.keep rfl (BL.keep rfl (BL.keep rfl (BL.keep rfl (BL.keep rfl BL.nil)))))))))))))) (BK.cons (n := 192) rfl bZ rfl rfl (BK.cons (n := 2112) rfl (bS rfl bZ) rfl rfl (BK.cons (n := 1856) rfl (bS rfl (bS rfl (bS rfl bZ))) rfl rfl (BK.cons (n := 1600) rfl (bS rfl (bS rfl (bS rfl (bS rfl (bS rfl bZ))))) rfl rfl (BK.cons (n := 1344) rfl (bS rfl (bS rfl (bS rfl (bS rfl (bS rfl (bS rfl (bS rfl bZ))))))) rfl rfl (BK.cons (n := 1088) rfl (bS rfl (bS rfl (bS rfl (bS rfl (bS rfl (bS rfl (bS rfl (bS rfl (bS rfl bZ))))))))) rfl rfl (BK.cons (n := 832) rfl (bS rfl (bS rfl (bS rfl (bS rfl (bS rfl (bS rfl (bS rfl (bS rfl (bS rfl (bS rfl bZ)))))))))) rfl rfl (BK.cons (n := 576) rfl (bS rfl (bS rfl (bS rfl (bS rfl (bS rfl (bS rfl (bS rfl (bS rfl (bS rfl (bS rfl (bS rfl bZ))))))))))) rfl rfl (BK.cons (n := 128) rfl (bS rfl (bS rfl (bS rfl (bS rfl (bS rfl (bS rfl (bS rfl (bS rfl (bS rfl (bS rfl (bS rfl (bS rfl bZ)))))))))))) rfl rfl (BK.cons (n := 64) rfl (bS rfl (bS rfl (bS rfl (bS rfl (bS rfl (bS rfl (bS rfl (bS rfl (bS rfl (bS rfl (bS rfl (bS rfl (bS rfl bZ))))))))))))) rfl rfl BK.nil)))))))))) GK.nil) (aV (oFaddrN (m := 8) (eR rfl) rfl (oLoadV (q := 8) (c := (dI a1.Rank)) eZ (bS rfl (bS rfl (bS rfl (bS rfl (bS rfl (bS rfl (bS rfl (bS rfl (bS rfl bZ))))))))) rfl rfl (oFaddrN (m := 8) (eR rfl) rfl (oStoreV (es := [(dI a1.Me), (.sl 576 0 v2.length), (.sl 832 0 v4.length), (.sl 1088 0 v6.length), (.sl 1344 0 v8.length), (.sl 1600 0 v10.length), (.sl 1856 0 v12.length), (.sl 2112 0 v14.length), (dI a1.Rank)]) eZ (eR rfl) rfl rfl bZ rfl (xQ (aS (AW.regm (rmOne (oLoadVA (es := [(dI a1.Me), (.sl 576 0 v2.length), (.sl 832 0 v4.length), (.sl 1088 0 v6.length), (.sl 1344 0 v8.length), (.sl 1600 0 v10.length), (.sl 1856 0 v12.length), (.sl 2112 0 v14.length), (dI a1.Rank)]) (eR rfl) bZ rfl (xNil (rmOne (oStoreV (es := [(dI a1.Me), (.sl 576 0 v2.length), (.sl 832 0 v4.length), (.sl 1088 0 v6.length), (.sl 1344 0 v8.length), (.sl 1600 0 v10.length), (.sl 1856 0 v12.length), (.sl 2112 0 v14.length), (dI a1.Rank)]) (eR rfl) eZ rfl rfl (bS rfl (bS rfl (bS rfl (bS rfl (bS rfl (bS rfl (bS rfl (bS rfl (bS rfl bZ))))))))) rfl (xNil (rmRest (xQ (AW.ret ?_)))))))))))))))))))))))))))
 cases H
 exact endsR (RL.cons (RV.cellA (es := [(dI a1.Me), (.sl 576 0 v2.length), (.sl 832 0 v4.length), (.sl 1088 0 v6.length), (.sl 1344 0 v8.length), (.sl 1600 0 v10.length), (.sl 1856 0 v12.length), (.sl 2112 0 v14.length), (dI a1.Rank)]) (eR rfl) bZ rfl) (VO.aggs (VOs.cons (VO.flat rfl) (VOs.cons (VO.sl (bS rfl (bS rfl (bS rfl (bS rfl (bS rfl (bS rfl (bS rfl (bS rfl (bS rfl bZ))))))))) (List.length_map _) (allFlat fun _ => rfl)) (VOs.cons (VO.sl (bS rfl (bS rfl (bS rfl (bS rfl (bS rfl (bS rfl (bS rfl (bS rfl bZ)))))))) (List.length_map _) (allFlat fun _ => rfl)) (VOs.cons (VO.sl (bS rfl (bS rfl (bS rfl (bS rfl (bS rfl (bS rfl (bS rfl bZ))))))) (List.length_map _) (allFlat fun _ => rfl)) (VOs.cons (VO.sl (bS rfl (bS rfl (bS rfl (bS rfl (bS rfl (bS rfl bZ)))))) (List.length_map _) (allFlat fun _ => rfl)) (VOs.cons (VO.sln (bS rfl (bS rfl (bS rfl (bS rfl (bS rfl bZ))))) (List.length_map _) rfl) (VOs.cons (VO.sl (bS rfl (bS rfl (bS rfl (bS rfl bZ)))) (List.length_map _) (allFlat fun _ => rfl)) (VOs.cons (VO.sl (bS rfl (bS rfl (bS rfl bZ))) (List.length_map _) (allFlat fun _ => rfl)) (VOs.cons (VO.flat rfl) VOs.nil)))))))))) RL.nil) (by decide)
theorem c_spec_l1In {a1 : Int} {a2 : Int} {a3 : Int} {r : Bool} (H : m_spec_l1In a1 a2 a3 = some r) : Fn Tryz.prog k_spec_l1In (lent [(.int .i64 a1), (.int .i64 a2), (.int .i64 a3)]) true [(.bool r)] := by
 refine i_spec_l1In_fn (fle rfl) ?_
 rw [init_mk]
 refine AW.weaken (wk_mk [] (kv 0 (oI a1) rfl rfl (kv 1 (oI a2) rfl rfl (kv 2 (oI a3) rfl rfl SL.nil))) BL.nil BK.nil) ?_
 unfold m_spec_l1In at H
 unfold i_spec_l1In
 refine aV (oMov eC (xQ (aV (oMov (eR rfl) (oMov (eR rfl) (oGeq (eR rfl) eZ (oMov eZ ?_)))))))
 rcases oite H with ⟨h4, H⟩ | ⟨h4, H⟩
 ·refine gDo eZ (decide_eq_true h4) (oMov (eR rfl) (gDo (eR rfl) (decide_eq_true h4) (oMov (eR rfl) (gDo (eR rfl) (decide_eq_true h4) (oLeq (eR rfl) eZ (oPickT (eR rfl) (decide_eq_true h4) eZ (oMov eZ (xQ (AW.ret ?_)))))))))
  cases H
  exact eE rfl rfl
 ·refine gSkip eZ (decide_eq_false h4) rfl (gSkip (eR rfl) (decide_eq_false h4) rfl (gSkip (eR rfl) (decide_eq_false h4) rfl (oPickF (eR rfl) (decide_eq_false h4) eC (oMov eZ (xQ (AW.ret ?_))))))
  cases H
  exact eE rfl rfl
theorem c_spec_RangeOk {a1 : TRange} {r : Bool} (H : m_spec_RangeOk a1 = some r) : Fn Tryz.prog k_spec_RangeOk (lent [(.agg (d_TRange a1))]) true [(.bool r)] := by
 refine i_spec_RangeOk_fn (fle rfl) ?_
 rw [init_mk]
 refine AW.weaken (wk_mk [] (kv 0 (.agg [(dI a1.Lo), (dI a1.Hi)]) rfl rfl SL.nil) BL.nil BK.nil) ?_
 unfold m_spec_RangeOk at H
 unfold i_spec_RangeOk
 refine aV (oBox (n := 64) (m := 2) (cs := [(dI a1.Lo), (dI a1.Hi)]) rfl eZ rfl rfl nZ (oMov eC (xQ (aV (oFaddrN (m := 0) (eR rfl) rfl (oLoadV (q := 0) (c := (dI a1.Lo)) eZ bZ rfl rfl (oGeq eZ eC (oMov eZ ?_))))))))
 rcases oite H with ⟨h2, H⟩ | ⟨h2, H⟩
 ·refine gDo eZ (decide_eq_true h2) (oFaddrN (m := 0) (eR rfl) rfl (gDo (eR rfl) (decide_eq_true h2) (oLoadV (q := 0) (c := (dI a1.Lo)) eZ bZ rfl rfl (gDo (eR rfl) (decide_eq_true h2) (oFaddrN (m := 1) (eR rfl) rfl (gDo (eR rfl) (decide_eq_true h2) (oLoadV (q := 1) (c := (dI a1.Hi)) eZ bZ rfl rfl (gDo (eR rfl) (decide_eq_true h2) (oLss (eR rfl) eZ (oPickT (eR rfl) (decide_eq_true h2) eZ (oMov eZ ?_)))))))))))
  rcases oite H with ⟨h3, H⟩ | ⟨h3, H⟩
  ·refine gDo eZ (decide_eq_true h3) (oFaddrN (m := 1) (eR rfl) rfl (gDo (eR rfl) (decide_eq_true h3) (oLoadV (q := 1) (c := (dI a1.Hi)) eZ bZ rfl rfl (gDo (eR rfl) (decide_eq_true h3) (oLeq eZ eC (oPickT (eR rfl) (decide_eq_true h3) eZ (oMov eZ (xQ (AW.weaken (wk_mk [64] (kr 2 rfl rfl SL.nil) (BL.drop rfl BL.nil) BK.nil) (AW.ret ?_))))))))))
   cases H
   exact eE rfl rfl
  ·refine gSkip eZ (decide_eq_false h3) rfl (gSkip (eR rfl) (decide_eq_false h3) rfl (gSkip (eR rfl) (decide_eq_false h3) rfl (oPickF (eR rfl) (decide_eq_false h3) eC (oMov eZ (xQ (AW.weaken (wk_mk [64] (kr 2 rfl rfl SL.nil) (BL.drop rfl BL.nil) BK.nil) (AW.ret ?_)))))))
   cases H
   exact eE rfl rfl
 ·refine gSkip eZ (decide_eq_false h2) rfl (gSkip (eR rfl) (decide_eq_false h2) rfl (gSkip (eR rfl) (decide_eq_false h2) rfl (gSkip (eR rfl) (decide_eq_false h2) rfl (gSkip (eR rfl) (decide_eq_false h2) rfl (oPickF (eR rfl) (decide_eq_false h2) eC (oMov eZ (gSkip eZ rfl rfl (gSkip (eR rfl) rfl rfl (gSkip (eR rfl) rfl rfl (oPickF (eR rfl) rfl eC (oMov eZ (xQ (AW.weaken (wk_mk [64] (kr 2 rfl rfl SL.nil) (BL.drop rfl BL.nil) BK.nil) (AW.ret ?_))))))))))))))
  cases H
  exact eE rfl rfl
theorem c_spec_RangesOk {a1 : (List TRange)} {r : Bool} (H : m_spec_RangesOk a1 = some r) : Fn Tryz.prog k_spec_RangesOk (lent [(.sl 2 (List.map d_TRange a1))]) true [(.bool r)] := by
 refine i_spec_RangesOk_fn (fle rfl) ?_
 rw [init_mk]
 refine AW.weaken (wk_mk [] (kv 0 (.one (.d (.sl 2 (List.map d_TRange a1)))) rfl rfl SL.nil) BL.nil BK.nil) ?_
 unfold m_spec_RangesOk at H
 unfold i_spec_RangesOk
 refine aV (oMov eC (xQ (aS (aV (oMov (eR rfl) (oLenD eZ (n := a1.length) (List.length_map _) (oGtr eZ eC (xQ ?_))))))))
 rcases oite H with ⟨h2, H⟩ | ⟨h2, H⟩
 ·refine AW.condT eZ (decide_eq_true h2) (aV (oMov eC (xQ (AW.ret (TQ.qr ?_)))))
  cases H
  exact eE rfl rfl
 ·refine AW.condF eZ (decide_eq_false h2) (AW.skip (TQ.qn (AW.seqJ (fun t3 : Unit => spec_RangesOk_j3 t3 = some r) (fun t3 => mk [] [] noG) ?_ ?_)))
  ·intro t3 H
   unfold spec_RangesOk_j3 at H
   refine aV (oMov eC (xQ (AW.ret ?_)))
   cases H
   exact eE rfl rfl
  ·refine aV (oMov eC (xQ (AW.block (AW.iter (fun s5 : Int => mk [(0, (.one (.d (.sl 2 (List.map d_TRange a1))))), (3, (oI s5))] [] noG) H (wk_mk [] (kR rfl rfl (kR rfl rfl SL.nil)) BL.nil BK.nil) ?_))))
   intro kb6 s5 H
   unfold spec_RangesOk_b5 at H
   refine aS (aV (oMov (eR rfl) (oMov (eR rfl) (oLenD eZ (n := a1.length) (List.length_map _) (oLss (eR rfl) eZ (xQ ?_))))))
   rcases oite H with ⟨h7, H⟩ | ⟨h7, H⟩
   ·refine AW.condT eZ (decide_eq_true h7) (AW.skip (TQ.qn (aS (AW.block (AW.seqJ (fun t8 : Bool => (spec_RangesOk_j8 kb6 s5) t8 = some r) (fun t8 => mk [(0, (.one (.d (.sl 2 (List.map d_TRange a1))))), (3, (oI s5)), (36, (oB t8))] [] noG) ?_ ?_)))))
    ·intro t8 H
     unfold spec_RangesOk_j8 at H
     rcases oite H with ⟨h10, H⟩ | ⟨h10, H⟩
     ·refine AW.condT (eR rfl) h10 (aV (oMov eC (xQ (AW.ret (BQ.qr (TQ.qr (TQ.qr (BQ.qr (TQ.qr ?_)))))))))
      cases H
      exact eE rfl rfl
     ·exact AW.condF (eR rfl) (nt h10) (AW.skip (BQ.qn (TQ.qn (aR (oMov (eR rfl) (oAdd eZ eC (oMov eZ (xNil (TQ.qn ⟨(IntKind.wrap .i64 (s5 + 1)), H, (wk_mk [] (kR rfl rfl (kR rfl rfl SL.nil)) BL.nil BK.nil)⟩)))))))))
    ·refine AW.regd (oMov (eR rfl) (oMov (eR rfl) ?_))
     obtain ⟨v11, h12, H⟩ := obind H
     refine oAtD (eR rfl) eZ h12 (oLoadBA (es := [(dI v11.Lo), (dI v11.Hi)]) eZ rfl ?_)
     obtain ⟨v13, h14, H⟩ := obind H
     refine oCall (u := (oB v13)) eC Cl.fn (c_spec_RangeOk h14) (Evs.cons eZ Evs.nil) (VDs.cons (VD.agg rfl) VDs.nil) rfl (oInv eZ (oMov eZ ?_))
     rcases oite H with ⟨h15, H⟩ | ⟨h15, H⟩
     ·refine gDo eZ (congrArg Bool.not h15) (oMov (eR rfl) (gDo (eR rfl) (congrArg Bool.not h15) (oGtr eZ eC (gDo (eR rfl) (congrArg Bool.not h15) (oMov eZ ?_)))))
      rcases oite H with ⟨h16, H⟩ | ⟨h16, H⟩
      ·refine gDo eZ (decide_eq_true h16) (oMov (eR rfl) (gDo (eR rfl) (decide_eq_true h16) (oMov (eR rfl) (gDo (eR rfl) (decide_eq_true h16) ?_))))
       obtain ⟨v17, h18, H⟩ := obind H
       refine oAtD (eR rfl) eZ h18 (gDo (eR rfl) (decide_eq_true h16) (oFaddrB (m := 0) eZ rfl (gDo (eR rfl) (decide_eq_true h16) (oLoadB (e := (.int .i64 v17.Lo)) eZ rfl (gDo (eR rfl) (decide_eq_true h16) (oMov (eR rfl) (gDo (eR rfl) (decide_eq_true h16) (oMov (eR rfl) (gDo (eR rfl) (decide_eq_true h16) (oSub eZ eC (gDo (eR rfl) (decide_eq_true h16) ?_)))))))))))
       obtain ⟨v19, h20, H⟩ := obind H
       exact oAtD (eR rfl) eZ h20 (gDo (eR rfl) (decide_eq_true h16) (oFaddrB (m := 1) eZ rfl (gDo (eR rfl) (decide_eq_true h16) (oLoadB (e := (.int .i64 v19.Hi)) eZ rfl (gDo (eR rfl) (decide_eq_true h16) (oLss (eR rfl) eZ (gDo (eR rfl) (congrArg Bool.not h15) (oPickT (eR rfl) (decide_eq_true h16) eZ (oPickF (eR rfl) (congrArg Bool.not h15) eZ (xNil (TQ.qn ⟨(decide (v17.Lo < v19.Hi)), H, (wk_mk [] (kR rfl rfl (kR rfl rfl (kR rfl rfl SL.nil))) BL.nil BK.nil)⟩)))))))))))
      ·exact gSkip eZ (decide_eq_false h16) rfl (gSkip (eR rfl) (decide_eq_false h16) rfl (gSkip (eR rfl) (decide_eq_false h16) rfl (gSkip (eR rfl) (decide_eq_false h16) rfl (gSkip (eR rfl) (decide_eq_false h16) rfl (gSkip (eR rfl) (decide_eq_false h16) rfl (gSkip (eR rfl) (decide_eq_false h16) rfl (gSkip (eR rfl) (decide_eq_false h16) rfl (gSkip (eR rfl) (decide_eq_false h16) rfl (gSkip (eR rfl) (decide_eq_false h16) rfl (gSkip (eR rfl) (decide_eq_false h16) rfl (gSkip (eR rfl) (decide_eq_false h16) rfl (gDo (eR rfl) (congrArg Bool.not h15) (oPickF (eR rfl) (decide_eq_false h16) eC (oPickF (eR rfl) (congrArg Bool.not h15) eZ (xNil (TQ.qn ⟨false, H, (wk_mk [] (kR rfl rfl (kR rfl rfl (kR rfl rfl SL.nil))) BL.nil BK.nil)⟩))))))))))))))))
     ·exact gSkip eZ (congrArg Bool.not (nt h15)) rfl (gSkip (eR rfl) (congrArg Bool.not (nt h15)) rfl (gSkip (eR rfl) (congrArg Bool.not (nt h15)) rfl (gSkipU eZ rfl (gSkipU (eR rfl) rfl (gSkipU (eR rfl) rfl (gSkipU (eR rfl) rfl (gSkipU (eR rfl) rfl (gSkipU (eR rfl) rfl (gSkipU (eR rfl) rfl (gSkipU (eR rfl) rfl (gSkipU (eR rfl) rfl (gSkipU (eR rfl) rfl (gSkipU (eR rfl) rfl (gSkipU (eR rfl) rfl (gSkip (eR rfl) (congrArg Bool.not (nt h15)) rfl (oPickT (eR rfl) (congrArg Bool.not (nt h15)) eC (xNil (TQ.qn ⟨true, H, (wk_mk [] (kR rfl rfl (kR rfl rfl (kR rfl rfl SL.nil))) BL.nil BK.nil)⟩))))))))))))))))))
   ·exact AW.condF eZ (decide_eq_false h7) (AW.exit (TQ.qe (TQ.qe (BQ.qe (TQ.qn ⟨(), H, (wk_mk [] SL.nil BL.nil BK.nil)⟩)))))
theorem c_spec_l10Key {a1 : Int} {r : Bool} (H : m_spec_l10Key a1 = some r) : Fn Tryz.prog k_spec_l10Key (lent [(.int .i64 a1)]) true [(.bool r)] := by
 refine i_spec_l10Key_fn (fle rfl) ?_
 rw [init_mk]
 refine AW.weaken (wk_mk [] (kv 0 (oI a1) rfl rfl SL.nil) BL.nil BK.nil) ?_
 unfold m_spec_l10Key at H
 unfold i_spec_l10Key
 refine aV (oMov eC (xQ (aV (oMov (eR rfl) ?_))))
 obtain ⟨v2, h3, H⟩ := obind H
 refine oCall (u := (oB v2)) eC Cl.fn (c_spec_l1In h3) (Evs.cons eZ (Evs.cons eC (Evs.cons eC Evs.nil))) (VDs.cons VD.plain (VDs.cons VD.plain (VDs.cons VD.plain VDs.nil))) rfl (oMov eZ (xQ (AW.ret ?_)))
 cases H
 exact eE rfl rfl
theorem c_spec_l1Whole {a1 : Int} {r : Bool} (H : m_spec_l1Whole a1 = some r) : Fn Tryz.prog k_spec_l1Whole (lent [(.int .i64 a1)]) true [(.bool r)] := by
 refine i_spec_l1Whole_fn (fle rfl) ?_
 rw [init_mk]
 refine AW.weaken (wk_mk [] (kv 0 (oI a1) rfl rfl SL.nil) BL.nil BK.nil) ?_
 unfold m_spec_l1Whole at H
 unfold i_spec_l1Whole
 refine aV (oMov eC (xQ (aV (oMov (eR rfl) ?_))))
 obtain ⟨v2, h3, H⟩ := obind H
 refine oCall (u := (oB v2)) eC Cl.fn (c_spec_l1In h3) (Evs.cons eZ (Evs.cons eC (Evs.cons eC Evs.nil))) (VDs.cons VD.plain (VDs.cons VD.plain (VDs.cons VD.plain VDs.nil))) rfl (oMov eZ (xQ (AW.ret ?_)))
 cases H
 exact eE rfl rfl
theorem c_spec_StoreOk {a1 : (List TCell)} {r : Bool} (H : m_spec_StoreOk a1 = some r) : Fn Tryz.prog k_spec_StoreOk (lent [(.sl 2 (List.map d_TCell a1))]) true [(.bool r)] := by
 refine i_spec_StoreOk_fn (fle rfl) ?_
 rw [init_mk]
 refine AW.weaken (wk_mk [] (kv 0 (.one (.d (.sl 2 (List.map d_TCell a1)))) rfl rfl SL.nil) BL.nil BK.nil) ?_
 unfold m_spec_StoreOk at H
 unfold i_spec_StoreOk
 refine aV (oMov eC (xQ (aS (aV (oMov (eR rfl) (oLenD eZ (n := a1.length) (List.length_map _) (oGtr eZ eC (xQ ?_))))))))
 rcases oite H with ⟨h2, H⟩ | ⟨h2, H⟩
 ·refine AW.condT eZ (decide_eq_true h2) (aV (oMov eC (xQ (AW.ret (TQ.qr ?_)))))
  cases H
  exact eE rfl rfl
 ·refine AW.condF eZ (decide_eq_false h2) (AW.skip (TQ.qn (AW.seqJ (fun t3 : Unit => spec_StoreOk_j3 t3 = some r) (fun t3 => mk [] [] noG) ?_ ?_)))
  ·intro t3 H
   unfold spec_StoreOk_j3 at H
   refine aV (oMov eC (xQ (AW.ret ?_)))
   cases H
   exact eE rfl rfl
  ·refine aV (oMov eC (xQ (AW.block (AW.iter (fun s5 : Int => mk [(0, (.one (.d (.sl 2 (List.map d_TCell a1))))), (3, (oI s5))] [] noG) H (wk_mk [] (kR rfl rfl (kR rfl rfl SL.nil)) BL.nil BK.nil) ?_))))
   intro kb6 s5 H
   unfold spec_StoreOk_b5 at H
   refine aS (aV (oMov (eR rfl) (oMov (eR rfl) (oLenD eZ (n := a1.length) (List.length_map _) (oLss (eR rfl) eZ (xQ ?_))))))
   rcases oite H with ⟨h7, H⟩ | ⟨h7, H⟩
   ·refine AW.condT eZ (decide_eq_true h7) (AW.skip (TQ.qn (aS (AW.block (AW.seqJ (fun t8 : Bool => (spec_StoreOk_j8 kb6 s5) t8 = some r) (fun t8 => mk [(0, (.one (.d (.sl 2 (List.map d_TCell a1))))), (3, (oI s5)), (46, (oB t8))] [] noG) ?_ ?_)))))
    ·intro t8 H
     unfold spec_StoreOk_j8 at H
     rcases oite H with ⟨h10, H⟩ | ⟨h10, H⟩
     ·refine AW.condT (eR rfl) h10 (aV (oMov eC (xQ (AW.ret (BQ.qr (TQ.qr (TQ.qr (BQ.qr (TQ.qr ?_)))))))))
      cases H
      exact eE rfl rfl
     ·exact AW.condF (eR rfl) (nt h10) (AW.skip (BQ.qn (TQ.qn (aR (oMov (eR rfl) (oAdd eZ eC (oMov eZ (xNil (TQ.qn ⟨(IntKind.wrap .i64 (s5 + 1)), H, (wk_mk [] (kR rfl rfl (kR rfl rfl SL.nil)) BL.nil BK.nil)⟩)))))))))
    ·refine AW.regd (oMov (eR rfl) (oMov (eR rfl) ?_))
     obtain ⟨v11, h12, H⟩ := obind H
     refine oAtD (eR rfl) eZ h12 (oFaddrB (m := 0) eZ rfl (oLoadB (e := (.int .i64 v11.Key)) eZ rfl ?_))
     obtain ⟨v13, h14, H⟩ := obind H
     refine oCall (u := (oB v13)) eC Cl.fn (c_spec_l10Key h14) (Evs.cons eZ Evs.nil) (VDs.cons VD.plain VDs.nil) rfl (oInv eZ (oMov eZ ?_))
     rcases oite H with ⟨h15, H⟩ | ⟨h15, H⟩
     ·refine gDo eZ (congrArg Bool.not h15) (oMov (eR rfl) (gDo (eR rfl) (congrArg Bool.not h15) (oMov (eR rfl) (gDo (eR rfl) (congrArg Bool.not h15) ?_))))
      obtain ⟨v16, h17, H⟩ := obind H
      refine oAtD (eR rfl) eZ h17 (gDo (eR rfl) (congrArg Bool.not h15) (oFaddrB (m := 1) eZ rfl (gDo (eR rfl) (congrArg Bool.not h15) (oLoadB (e := (.int .i64 v16.Value)) eZ rfl (gDo (eR rfl) (congrArg Bool.not h15) ?_)))))
      obtain ⟨v18, h19, H⟩ := obind H
      refine oCall (u := (oB v18)) eC Cl.fn (c_spec_l1Whole h19) (Evs.cons eZ Evs.nil) (VDs.cons VD.plain VDs.nil) rfl (gDo (eR rfl) (congrArg Bool.not h15) (oInv eZ (oPickF (eR rfl) (congrArg Bool.not h15) eZ (oMov eZ ?_))))
      rcases oite H with ⟨h20, H⟩ | ⟨h20, H⟩
      ·refine gDo eZ (congrArg Bool.not h20) (oMov (eR rfl) (gDo (eR rfl) (congrArg Bool.not h20) (oGtr eZ eC (gDo (eR rfl) (congrArg Bool.not h20) (oMov eZ ?_)))))
       rcases oite H with ⟨h21, H⟩ | ⟨h21, H⟩
       ·refine gDo eZ (decide_eq_true h21) (oMov (eR rfl) (gDo (eR rfl) (decide_eq_true h21) (oMov (eR rfl) (gDo (eR rfl) (decide_eq_true h21) (oSub eZ eC (gDo (eR rfl) (decide_eq_true h21) ?_))))))
        obtain ⟨v22, h23, H⟩ := obind H
        refine oAtD (eR rfl) eZ h23 (gDo (eR rfl) (decide_eq_true h21) (oFaddrB (m := 0) eZ rfl (gDo (eR rfl) (decide_eq_true h21) (oLoadB (e := (.int .i64 v22.Key)) eZ rfl (gDo (eR rfl) (decide_eq_true h21) (oMov (eR rfl) (gDo (eR rfl) (decide_eq_true h21) (oMov (eR rfl) (gDo (eR rfl) (decide_eq_true h21) ?_)))))))))
        obtain ⟨v24, h25, H⟩ := obind H
        exact oAtD (eR rfl) eZ h25 (gDo (eR rfl) (decide_eq_true h21) (oFaddrB (m := 0) eZ rfl (gDo (eR rfl) (decide_eq_true h21) (oLoadB (e := (.int .i64 v24.Key)) eZ rfl (gDo (eR rfl) (decide_eq_true h21) (oGeq (eR rfl) eZ (gDo (eR rfl) (congrArg Bool.not h20) (oPickT (eR rfl) (decide_eq_true h21) eZ (oPickF (eR rfl) (congrArg Bool.not h20) eZ (xNil (TQ.qn ⟨(decide (v24.Key ≤ v22.Key)), H, (wk_mk [] (kR rfl rfl (kR rfl rfl (kR rfl rfl SL.nil))) BL.nil BK.nil)⟩)))))))))))
       ·exact gSkip eZ (decide_eq_false h21) rfl (gSkip (eR rfl) (decide_eq_false h21) rfl (gSkip (eR rfl) (decide_eq_false h21) rfl (gSkip (eR rfl) (decide_eq_false h21) rfl (gSkip (eR rfl) (decide_eq_false h21) rfl (gSkip (eR rfl) (decide_eq_false h21) rfl (gSkip (eR rfl) (decide_eq_false h21) rfl (gSkip (eR rfl) (decide_eq_false h21) rfl (gSkip (eR rfl) (decide_eq_false h21) rfl (gSkip (eR rfl) (decide_eq_false h21) rfl (gSkip (eR rfl) (decide_eq_false h21) rfl (gSkip (eR rfl) (decide_eq_false h21) rfl (gDo (eR rfl) (congrArg Bool.not h20) (oPickF (eR rfl) (decide_eq_false h21) eC (oPickF (eR rfl) (congrArg Bool.not h20) eZ (xNil (TQ.qn ⟨false, H, (wk_mk [] (kR rfl rfl (kR rfl rfl (kR rfl rfl SL.nil))) BL.nil BK.nil)⟩))))))))))))))))
      ·exact gSkip eZ (congrArg Bool.not (nt h20)) rfl (gSkip (eR rfl) (congrArg Bool.not (nt h20)) rfl (gSkip (eR rfl) (congrArg Bool.not (nt h20)) rfl (gSkipU eZ rfl (gSkipU (eR rfl) rfl (gSkipU (eR rfl) rfl (gSkipU (eR rfl) rfl (gSkipU (eR rfl) rfl (gSkipU (eR rfl) rfl (gSkipU (eR rfl) rfl (gSkipU (eR rfl) rfl (gSkipU (eR rfl) rfl (gSkipU (eR rfl) rfl (gSkipU (eR rfl) rfl (gSkipU (eR rfl) rfl (gSkip (eR rfl) (congrArg Bool.not (nt h20)) rfl (oPickT (eR rfl) (congrArg Bool.not (nt h20)) eC (xNil (TQ.qn ⟨true, H, (wk_mk [] (kR rfl rfl (kR rfl rfl (kR rfl rfl SL.nil))) BL.nil BK.nil)⟩))))))))))))))))))
     ·exact gSkip eZ (congrArg Bool.not (nt h15)) rfl (gSkip (eR rfl) (congrArg Bool.not (nt h15)) rfl (gSkip (eR rfl) (congrArg Bool.not (nt h15)) rfl (gSkip (eR rfl) (congrArg Bool.not (nt h15)) rfl (gSkip (eR rfl) (congrArg Bool.not (nt h15)) rfl (gSkip (eR rfl) (congrArg Bool.not (nt h15)) rfl (gSkip (eR rfl) (congrArg Bool.not (nt h15)) rfl (oPickT (eR rfl) (congrArg Bool.not (nt h15)) eC (oMov eZ (gSkip eZ rfl rfl (gSkip (eR rfl) rfl rfl (gSkip (eR rfl) rfl rfl (gSkipU eZ rfl (gSkipU (eR rfl) rfl (gSkipU (eR rfl) rfl (gSkipU (eR rfl) rfl (gSkipU (eR rfl) rfl (gSkipU (eR rfl) rfl (gSkipU (eR rfl) rfl (gSkipU (eR rfl) rfl (gSkipU (eR rfl) rfl (gSkipU (eR rfl) rfl (gSkipU (eR rfl) rfl (gSkipU (eR rfl) rfl (gSkip (eR rfl) rfl rfl (oPickT (eR rfl) rfl eC (xNil (TQ.qn ⟨true, H, (wk_mk [] (kR rfl rfl (kR rfl rfl (kR rfl rfl SL.nil))) BL.nil BK.nil)⟩)))))))))))))))))))))))))))
   ·exact AW.condF eZ (decide_eq_false h7) (AW.exit (TQ.qe (TQ.qe (BQ.qe (TQ.qn ⟨(), H, (wk_mk [] SL.nil BL.nil BK.nil)⟩)))))
theorem c_spec_l12Tx {a1 : Int} {r : Bool} (H : m_spec_l12Tx a1 = some r) : Fn Tryz.prog k_spec_l12Tx (lent [(.int .i64 a1)]) true [(.bool r)] := by
 refine i_spec_l12Tx_fn (fle rfl) ?_
 rw [init_mk]
 refine AW.weaken (wk_mk [] (kv 0 (oI a1) rfl rfl SL.nil) BL.nil BK.nil) ?_
 unfold m_spec_l12Tx at H
 unfold i_spec_l12Tx
 refine aV (oMov eC (xQ (aV (oMov (eR rfl) ?_))))
 obtain ⟨v2, h3, H⟩ := obind H
 refine oCall (u := (oB v2)) eC Cl.fn (c_spec_l1In h3) (Evs.cons eZ (Evs.cons eC (Evs.cons eC Evs.nil))) (VDs.cons VD.plain (VDs.cons VD.plain (VDs.cons VD.plain VDs.nil))) rfl (oMov eZ (xQ (AW.ret ?_)))
 cases H
 exact eE rfl rfl
theorem c_spec_l12Range {a1 : TLock} {r : TRange} (H : m_spec_l12Range a1 = some r) : Fn Tryz.prog k_spec_l12Range (lent [(.agg (d_TLock a1))]) true [(.agg (d_TRange r))] := by
 refine i_spec_l12Range_fn (fle rfl) ?_
 rw [init_mk]
 refine AW.weaken (wk_mk [] (kv 0 (.agg [(dI a1.Tx), (dI a1.Lo), (dI a1.Hi), (dI a1.Mode)]) rfl rfl SL.nil) BL.nil BK.nil) ?_
 unfold m_spec_l12Range at H
 unfold i_spec_l12Range
 refine aV (oBox (n := 64) (m := 4) (cs := [(dI a1.Tx), (dI a1.Lo), (dI a1.Hi), (dI a1.Mode)]) rfl eZ rfl rfl nZ (oVar (n := 128) (m := 2) rfl rfl (nS rfl nZ) (xQ (aV (oFaddrN (m := 1) (eR rfl) rfl (oLoadV (q := 1) (c := (dI a1.Lo)) eZ (bS rfl bZ) rfl rfl (oFaddrN (m := 2) (eR rfl) rfl (oLoadV (q := 2) (c := (dI a1.Hi)) eZ (bS rfl bZ) rfl rfl (oBuild (cs := [(dI a1.Lo), (dI a1.Hi)]) (PsCons (eR rfl) (PsCons eZ PsNil)) rfl (oStoreV (es := [(dI a1.Lo), (dI a1.Hi)]) (eR rfl) eZ rfl rfl bZ rfl (xQ (AW.ret ?_))))))))))))
 cases H
 exact endsR (RL.cons (RV.cellA (es := [(dI a1.Lo), (dI a1.Hi)]) (eR rfl) bZ rfl) (VO.agg (ds := [(.int .i64 a1.Lo), (.int .i64 a1.Hi)]) rfl rfl) RL.nil) List.nodup_nil
theorem c_spec_l12Mode {a1 : Int} {r : Bool} (H : m_spec_l12Mode a1 = some r) : Fn Tryz.prog k_spec_l12Mode (lent [(.int .i64 a1)]) true [(.bool r)] := by
 refine i_spec_l12Mode_fn (fle rfl) ?_
 rw [init_mk]
 refine AW.weaken (wk_mk [] (kv 0 (oI a1) rfl rfl SL.nil) BL.nil BK.nil) ?_
 unfold m_spec_l12Mode at H
 unfold i_spec_l12Mode
 refine aV (oMov eC (xQ (aV (oMov (eR rfl) (oEql eZ eC (oMov eZ ?_))))))
 rcases oite H with ⟨h2, H⟩ | ⟨h2, H⟩
 ·refine gSkip eZ (decide_eq_true h2) rfl (gSkip (eR rfl) (decide_eq_true h2) rfl (oPickT (eR rfl) (decide_eq_true h2) eC (oMov eZ (xQ (AW.ret ?_)))))
  cases H
  exact eE rfl rfl
 ·refine gDo eZ (decide_eq_false h2) (oMov (eR rfl) (gDo (eR rfl) (decide_eq_false h2) (oEql eZ eC (oPickF (eR rfl) (decide_eq_false h2) eZ (oMov eZ (xQ (AW.ret ?_)))))))
  cases H
  exact eE rfl rfl
theorem c_spec_l1Max {a1 : Int} {a2 : Int} {r : Int} (H : m_spec_l1Max a1 a2 = some r) : Fn Tryz.prog k_spec_l1Max (lent [(.int .i64 a1), (.int .i64 a2)]) true [(.int .i64 r)] := by
 refine i_spec_l1Max_fn (fle rfl) ?_
 rw [init_mk]
 refine AW.weaken (wk_mk [] (kv 0 (oI a1) rfl rfl (kv 1 (oI a2) rfl rfl SL.nil)) BL.nil BK.nil) ?_
 unfold m_spec_l1Max at H
 unfold i_spec_l1Max
 refine aV (oMov eC (xQ (aS (aV (oMov (eR rfl) (oMov (eR rfl) (oGtr (eR rfl) eZ (xQ ?_))))))))
 rcases oite H with ⟨h3, H⟩ | ⟨h3, H⟩
 ·refine AW.condT eZ (decide_eq_true h3) (aV (oMov (eR rfl) (oMov eZ (xQ (AW.ret (TQ.qr ?_))))))
  cases H
  exact eE rfl rfl
 ·refine AW.condF eZ (decide_eq_false h3) (AW.skip (TQ.qn (aV (oMov (eR rfl) (oMov eZ (xQ (AW.ret ?_)))))))
  cases H
  exact eE rfl rfl
theorem c_spec_l1Min {a1 : Int} {a2 : Int} {r : Int} (H : m_spec_l1Min a1 a2 = some r) : Fn Tryz.prog k_spec_l1Min (lent [(.int .i64 a1), (.int .i64 a2)]) true [(.int .i64 r)] := by
 refine i_spec_l1Min_fn (fle rfl) ?_
 rw [init_mk]
 refine AW.weaken (wk_mk [] (kv 0 (oI a1) rfl rfl (kv 1 (oI a2) rfl rfl SL.nil)) BL.nil BK.nil) ?_
 unfold m_spec_l1Min at H
 unfold i_spec_l1Min
 refine aV (oMov eC (xQ (aS (aV (oMov (eR rfl) (oMov (eR rfl) (oLss (eR rfl) eZ (xQ ?_))))))))
 rcases oite H with ⟨h3, H⟩ | ⟨h3, H⟩
 ·refine AW.condT eZ (decide_eq_true h3) (aV (oMov (eR rfl) (oMov eZ (xQ (AW.ret (TQ.qr ?_))))))
  cases H
  exact eE rfl rfl
 ·refine AW.condF eZ (decide_eq_false h3) (AW.skip (TQ.qn (aV (oMov (eR rfl) (oMov eZ (xQ (AW.ret ?_)))))))
  cases H
  exact eE rfl rfl
theorem c_spec_RangeMeet {a1 : TRange} {a2 : TRange} {r : (TRange × Bool)} (H : m_spec_RangeMeet a1 a2 = some r) : Fn Tryz.prog k_spec_RangeMeet (lent [(.agg (d_TRange a1)), (.agg (d_TRange a2))]) true [(.agg (d_TRange r.1)), (.bool r.2)] := by
 refine i_spec_RangeMeet_fn (fle rfl) ?_
 rw [init_mk]
 refine AW.weaken (wk_mk [] (kv 0 (.agg [(dI a1.Lo), (dI a1.Hi)]) rfl rfl (kv 1 (.agg [(dI a2.Lo), (dI a2.Hi)]) rfl rfl SL.nil)) BL.nil BK.nil) ?_
 unfold m_spec_RangeMeet at H
 unfold i_spec_RangeMeet
 refine aV (oBox (n := 128) (m := 2) (cs := [(dI a1.Lo), (dI a1.Hi)]) rfl eZ rfl rfl nZ (oBox (n := 192) (m := 2) (cs := [(dI a2.Lo), (dI a2.Hi)]) rfl (eR rfl) rfl rfl (nS rfl nZ) (oVar (n := 256) (m := 2) rfl rfl (nS rfl (nS rfl nZ)) (oMov eC (xQ (aS (AW.regd (oFaddrN (m := 0) (eR rfl) rfl (oLoadV (q := 0) (c := (dI a1.Lo)) eZ (hB rfl (bS rfl (bS rfl bZ))) rfl rfl (oFaddrN (m := 0) (eR rfl) rfl (oLoadV (q := 0) (c := (dI a2.Lo)) eZ (hB rfl (bS rfl bZ)) rfl rfl ?_)))))))))))
 obtain ⟨v3, h4, H⟩ := obind H
 refine oCall (u := (oI v3)) eC Cl.fn (c_spec_l1Max h4) (Evs.cons (eR rfl) (Evs.cons eZ Evs.nil)) (VDs.cons VD.plain (VDs.cons VD.plain VDs.nil)) rfl (oFaddrN (m := 1) (eR rfl) rfl (oLoadV (q := 1) (c := (dI a1.Hi)) eZ (hB rfl (bS rfl (bS rfl bZ))) rfl rfl (oFaddrN (m := 1) (eR rfl) rfl (oLoadV (q := 1) (c := (dI a2.Hi)) eZ (hB rfl (bS rfl bZ)) rfl rfl ?_))))
 obtain ⟨v5, h6, H⟩ := obind H
 refine oCall (u := (oI v5)) eC Cl.fn (c_spec_l1Min h6) (Evs.cons (eR rfl) (Evs.cons eZ Evs.nil)) (VDs.cons VD.plain (VDs.cons VD.plain VDs.nil)) rfl (oBuild (cs := [(dI v3), (dI v5)]) (PsCons (eR rfl) (PsCons eZ PsNil)) rfl (oVar (n := 384) (m := 2) rfl rfl (hN (nS rfl (nS rfl (nS rfl nZ)))) (oStoreV (es := [(dI v3), (dI v5)]) eZ (eR rfl) rfl rfl bZ rfl (xQ (AW.weaken (wk_mk [] (kr 6 rfl rfl (kr 4 rfl rfl (kr 3 rfl rfl (kr 2 rfl rfl SL.nil)))) (BL.keep rfl (BL.keep rfl (BL.keep rfl (BL.keep rfl (BL.keep rfl BL.nil))))) (BK.cons (n := 384) rfl bZ rfl rfl (BK.cons (n := 256) rfl (bS rfl (bS rfl bZ)) rfl rfl (BK.cons (n := 192) rfl (bS rfl (bS rfl (bS rfl bZ))) rfl rfl (BK.cons (n := 128) rfl (bS rfl (bS rfl (bS rfl (bS rfl bZ)))) rfl rfl BK.nil))))) (aS (AW.seqJ (fun t7 : Bool => (spec_RangeMeet_j7 v3 v5) t7 = some r) (fun t7 => mk [(4, (.one (.ptr (.nm 256 0 0)))), (6, (.one (.ptr (.nm 384 0 0)))), (30, (oB t7))] [(256, (.vars 2 [(dI 0), (dI 0)])), (384, (.vars 2 [(dI v3), (dI v5)]))] noG) ?_ ?_)))))))
 ·intro t7 H
  unfold spec_RangeMeet_j7 at H
  rcases oite H with ⟨h9, H⟩ | ⟨h9, H⟩
  ·refine AW.condT (eR rfl) h9 (aV (oBuild (cs := [(dI 0), (dI 0)]) PsNil rfl (oStoreV (es := [(dI 0), (dI 0)]) (eR rfl) eZ rfl rfl bZ rfl (oMov eC (xQ (AW.ret (TQ.qr ?_)))))))
   cases H
   exact endsR (RL.cons (RV.cellA (es := [(dI 0), (dI 0)]) (eR rfl) bZ rfl) (VO.agg (ds := [(.int .i64 0), (.int .i64 0)]) rfl rfl) (RL.cons (RV.tmp eZ) (VO.flat rfl) RL.nil)) List.nodup_nil
  ·refine AW.condF (eR rfl) (nt h9) (AW.skip (TQ.qn (aV (oLoadVA (es := [(dI v3), (dI v5)]) (eR rfl) (bS rfl bZ) rfl (oStoreV (es := [(dI v3), (dI v5)]) (eR rfl) eZ rfl rfl bZ rfl (oMov eC (xQ (AW.ret ?_))))))))
   cases H
   exact endsR (RL.cons (RV.cellA (es := [(dI v3), (dI v5)]) (eR rfl) bZ rfl) (VO.agg (ds := [(.int .i64 v3), (.int .i64 v5)]) rfl rfl) (RL.cons (RV.tmp eZ) (VO.flat rfl) RL.nil)) List.nodup_nil
 ·refine aR (oLoadVA (es := [(dI a1.Lo), (dI a1.Hi)]) (eR rfl) (bS rfl (bS rfl (bS rfl bZ))) rfl ?_)
  obtain ⟨v10, h11, H⟩ := obind H
  refine oCall (u := (oB v10)) eC Cl.fn (c_spec_RangeOk h11) (Evs.cons eZ Evs.nil) (VDs.cons (VD.agg rfl) VDs.nil) rfl (oInv eZ (oMov eZ ?_))
  rcases oite H with ⟨h12, H⟩ | ⟨h12, H⟩
  ·refine gDo eZ (congrArg Bool.not h12) (oLoadVA (es := [(dI a2.Lo), (dI a2.Hi)]) (eR rfl) (bS rfl (bS rfl bZ)) rfl (gDo (eR rfl) (congrArg Bool.not h12) ?_))
   obtain ⟨v13, h14, H⟩ := obind H
   refine oCall (u := (oB v13)) eC Cl.fn (c_spec_RangeOk h14) (Evs.cons eZ Evs.nil) (VDs.cons (VD.agg rfl) VDs.nil) rfl (gDo (eR rfl) (congrArg Bool.not h12) (oInv eZ (oPickF (eR rfl) (congrArg Bool.not h12) eZ (oMov eZ ?_))))
   rcases oite H with ⟨h15, H⟩ | ⟨h15, H⟩
   ·refine gDo eZ (congrArg Bool.not h15) (oLoadVA (es := [(dI v3), (dI v5)]) (eR rfl) bZ rfl (gDo (eR rfl) (congrArg Bool.not h15) ?_))
    obtain ⟨v16, h17, H⟩ := obind H
    exact oCall (u := (oB v16)) eC Cl.fn (c_spec_RangeOk h17) (Evs.cons eZ Evs.nil) (VDs.cons (VD.agg rfl) VDs.nil) rfl (gDo (eR rfl) (congrArg Bool.not h15) (oInv eZ (oPickF (eR rfl) (congrArg Bool.not h15) eZ (xNil (TQ.qn ⟨(!v16), H, (wk_mk [192, 128] (kR rfl rfl (kR rfl rfl (kR rfl rfl SL.nil))) (BL.keep rfl (BL.keep rfl (BL.drop rfl (BL.drop rfl BL.nil)))) (BK.cons rfl (bS rfl bZ) rfl rfl (BK.cons rfl bZ rfl rfl BK.nil)))⟩)))))
   ·exact gSkip eZ (congrArg Bool.not (nt h15)) rfl (gSkip (eR rfl) (congrArg Bool.not (nt h15)) rfl (gSkip (eR rfl) (congrArg Bool.not (nt h15)) rfl (oPickT (eR rfl) (congrArg Bool.not (nt h15)) eC (xNil (TQ.qn ⟨true, H, (wk_mk [192, 128] (kR rfl rfl (kR rfl rfl (kR rfl rfl SL.nil))) (BL.keep rfl (BL.keep rfl (BL.drop rfl (BL.drop rfl BL.nil)))) (BK.cons rfl (bS rfl bZ) rfl rfl (BK.cons rfl bZ rfl rfl BK.nil)))⟩)))))
  ·exact gSkip eZ (congrArg Bool.not (nt h12)) rfl (gSkip (eR rfl) (congrArg Bool.not (nt h12)) rfl (gSkip (eR rfl) (congrArg Bool.not (nt h12)) rfl (oPickT (eR rfl) (congrArg Bool.not (nt h12)) eC (oMov eZ (gSkip eZ rfl rfl (gSkip (eR rfl) rfl rfl (gSkip (eR rfl) rfl rfl (oPickT (eR rfl) rfl eC (xNil (TQ.qn ⟨true, H, (wk_mk [192, 128] (kR rfl rfl (kR rfl rfl (kR rfl rfl SL.nil))) (BL.keep rfl (BL.keep rfl (BL.drop rfl (BL.drop rfl BL.nil)))) (BK.cons rfl (bS rfl bZ) rfl rfl (BK.cons rfl bZ rfl rfl BK.nil)))⟩))))))))))
theorem c_spec_l12Clash {a1 : TLock} {a2 : TLock} {r : Bool} (H : m_spec_l12Clash a1 a2 = some r) : Fn Tryz.prog k_spec_l12Clash (lent [(.agg (d_TLock a1)), (.agg (d_TLock a2))]) true [(.bool r)] := by
 refine i_spec_l12Clash_fn (fle rfl) ?_
 rw [init_mk]
 refine AW.weaken (wk_mk [] (kv 0 (.agg [(dI a1.Tx), (dI a1.Lo), (dI a1.Hi), (dI a1.Mode)]) rfl rfl (kv 1 (.agg [(dI a2.Tx), (dI a2.Lo), (dI a2.Hi), (dI a2.Mode)]) rfl rfl SL.nil)) BL.nil BK.nil) ?_
 unfold m_spec_l12Clash at H
 unfold i_spec_l12Clash
 refine aV (oBox (n := 128) (m := 4) (cs := [(dI a1.Tx), (dI a1.Lo), (dI a1.Hi), (dI a1.Mode)]) rfl eZ rfl rfl nZ (oBox (n := 192) (m := 4) (cs := [(dI a2.Tx), (dI a2.Lo), (dI a2.Hi), (dI a2.Mode)]) rfl (eR rfl) rfl rfl (nS rfl nZ) (oMov eC (xQ (aS (AW.regd (oLoadVA (es := [(dI a1.Tx), (dI a1.Lo), (dI a1.Hi), (dI a1.Mode)]) (eR rfl) (hB rfl (bS rfl bZ)) rfl ?_)))))))
 obtain ⟨v3, h4, H⟩ := obind H
 refine oCall (u := (.agg [(dI v3.Lo), (dI v3.Hi)])) eC Cl.fn (c_spec_l12Range h4) (Evs.cons eZ Evs.nil) (VDs.cons (VD.agg rfl) VDs.nil) rfl (oLoadVA (es := [(dI a2.Tx), (dI a2.Lo), (dI a2.Hi), (dI a2.Mode)]) (eR rfl) (hB rfl bZ) rfl ?_)
 obtain ⟨v5, h6, H⟩ := obind H
 refine oCall (u := (.agg [(dI v5.Lo), (dI v5.Hi)])) eC Cl.fn (c_spec_l12Range h6) (Evs.cons eZ Evs.nil) (VDs.cons (VD.agg rfl) VDs.nil) rfl ?_
 obtain ⟨v7, h8, H⟩ := obind H
 refine oCall (u := (.tup [(.agg [(dI v7.1.Lo), (dI v7.1.Hi)]), (oB v7.2)])) eC Cl.fn (c_spec_RangeMeet h8) (Evs.cons (eR rfl) (Evs.cons eZ Evs.nil)) (VDs.cons (VD.agg rfl) (VDs.cons (VD.agg rfl) VDs.nil)) rfl (oMov eZ (oExt (v := (.agg [(dI v7.1.Lo), (dI v7.1.Hi)])) eZ rfl (oExt (v := (oB v7.2)) (eR rfl) rfl (oVar (n := 320) (m := 2) rfl rfl (hN (nS rfl (nS rfl nZ))) (oStoreV (es := [(dI v7.1.Lo), (dI v7.1.Hi)]) eZ (eR rfl) rfl rfl bZ rfl (oMov (eR rfl) (xQ (aV (oMov eZ (oMov eZ ?_))))))))))
 rcases oite H with ⟨h9, H⟩ | ⟨h9, H⟩
 ·refine gDo eZ h9 (oFaddrN (m := 0) (eR rfl) rfl (gDo (eR rfl) h9 (oLoadV (q := 0) (c := (dI a1.Tx)) eZ (bS rfl (bS rfl (bS rfl bZ))) rfl rfl (gDo (eR rfl) h9 (oFaddrN (m := 0) (eR rfl) rfl (gDo (eR rfl) h9 (oLoadV (q := 0) (c := (dI a2.Tx)) eZ (bS rfl (bS rfl bZ)) rfl rfl (gDo (eR rfl) h9 (oNeq (eR rfl) eZ (oPickT (eR rfl) h9 eZ (oMov eZ ?_)))))))))))
  rcases oite H with ⟨h10, H⟩ | ⟨h10, H⟩
  ·refine gDo eZ (decide_eq_true h10) (oFaddrN (m := 3) (eR rfl) rfl (gDo (eR rfl) (decide_eq_true h10) (oLoadV (q := 3) (c := (dI a1.Mode)) eZ (bS rfl (bS rfl (bS rfl bZ))) rfl rfl (gDo (eR rfl) (decide_eq_true h10) (oEql eZ eC (gDo (eR rfl) (decide_eq_true h10) (oMov eZ ?_)))))))
   rcases oite H with ⟨h11, H⟩ | ⟨h11, H⟩
   ·refine gSkip eZ (decide_eq_true h11) rfl (gSkip (eR rfl) (decide_eq_true h11) rfl (gSkip (eR rfl) (decide_eq_true h11) rfl (gDo (eR rfl) (decide_eq_true h10) (oPickT (eR rfl) (decide_eq_true h11) eC (oPickT (eR rfl) (decide_eq_true h10) eZ (oMov eZ (xQ (AW.weaken (wk_mk [320, 192, 128] (kr 4 rfl rfl SL.nil) (BL.drop rfl (BL.drop rfl (BL.drop rfl (BL.drop rfl BL.nil)))) BK.nil) (AW.ret ?_)))))))))
    cases H
    exact eE rfl rfl
   ·refine gDo eZ (decide_eq_false h11) (oFaddrN (m := 3) (eR rfl) rfl (gDo (eR rfl) (decide_eq_false h11) (oLoadV (q := 3) (c := (dI a2.Mode)) eZ (bS rfl (bS rfl bZ)) rfl rfl (gDo (eR rfl) (decide_eq_false h11) (oEql eZ eC (gDo (eR rfl) (decide_eq_true h10) (oPickF (eR rfl) (decide_eq_false h11) eZ (oPickT (eR rfl) (decide_eq_true h10) eZ (oMov eZ (xQ (AW.weaken (wk_mk [320, 192, 128] (kr 4 rfl rfl SL.nil) (BL.drop rfl (BL.drop rfl (BL.drop rfl (BL.drop rfl BL.nil)))) BK.nil) (AW.ret ?_))))))))))))
    cases H
    exact eE rfl rfl
  ·refine gSkip eZ (decide_eq_false h10) rfl (gSkip (eR rfl) (decide_eq_false h10) rfl (gSkip (eR rfl) (decide_eq_false h10) rfl (gSkip (eR rfl) (decide_eq_false h10) rfl (gSkipU eZ rfl (gSkipU (eR rfl) rfl (gSkipU (eR rfl) rfl (gSkip (eR rfl) (decide_eq_false h10) rfl (oPickF (eR rfl) (decide_eq_false h10) eC (oMov eZ (xQ (AW.weaken (wk_mk [320, 192, 128] (kr 4 rfl rfl SL.nil) (BL.drop rfl (BL.drop rfl (BL.drop rfl (BL.drop rfl BL.nil)))) BK.nil) (AW.ret ?_))))))))))))
   cases H
   exact eE rfl rfl
 ·refine gSkip eZ (nt h9) rfl (gSkip (eR rfl) (nt h9) rfl (gSkip (eR rfl) (nt h9) rfl (gSkip (eR rfl) (nt h9) rfl (gSkip (eR rfl) (nt h9) rfl (oPickF (eR rfl) (nt h9) eC (oMov eZ (gSkip eZ rfl rfl (gSkip (eR rfl) rfl rfl (gSkip (eR rfl) rfl rfl (gSkip (eR rfl) rfl rfl (gSkipU eZ rfl (gSkipU (eR rfl) rfl (gSkipU (eR rfl) rfl (gSkip (eR rfl) rfl rfl (oPickF (eR rfl) rfl eC (oMov eZ (xQ (AW.weaken (wk_mk [320, 192, 128] (kr 4 rfl rfl SL.nil) (BL.drop rfl (BL.drop rfl (BL.drop rfl (BL.drop rfl BL.nil)))) BK.nil) (AW.ret ?_)))))))))))))))))))
  cases H
  exact eE rfl rfl
theorem c_spec_LocksOk {a1 : (List TLock)} {r : Bool} (H : m_spec_LocksOk a1 = some r) : Fn Tryz.prog k_spec_LocksOk (lent [(.sl 4 (List.map d_TLock a1))]) true [(.bool r)] := by
 refine i_spec_LocksOk_fn (fle rfl) ?_
 rw [init_mk]
 refine AW.weaken (wk_mk [] (kv 0 (.one (.d (.sl 4 (List.map d_TLock a1)))) rfl rfl SL.nil) BL.nil BK.nil) ?_
 unfold m_spec_LocksOk at H
 unfold i_spec_LocksOk
 refine aV (oMov eC (xQ (aS (aV (oMov (eR rfl) (oLenD eZ (n := a1.length) (List.length_map _) (oGtr eZ eC (xQ ?_))))))))
 rcases oite H with ⟨h2, H⟩ | ⟨h2, H⟩
 ·refine AW.condT eZ (decide_eq_true h2) (aV (oMov eC (xQ (AW.ret (TQ.qr ?_)))))
  cases H
  exact eE rfl rfl
 ·refine AW.condF eZ (decide_eq_false h2) (AW.skip (TQ.qn (AW.seqJ (fun t3 : Unit => spec_LocksOk_j3 t3 = some r) (fun t3 => mk [] [] noG) ?_ ?_)))
  ·intro t3 H
   unfold spec_LocksOk_j3 at H
   refine aV (oMov eC (xQ (AW.ret ?_)))
   cases H
   exact eE rfl rfl
  ·refine aV (oMov eC (xQ (AW.block (AW.iter (fun s5 : Int => mk [(0, (.one (.d (.sl 4 (List.map d_TLock a1))))), (3, (oI s5))] [] noG) H (wk_mk [] (kR rfl rfl (kR rfl rfl SL.nil)) BL.nil BK.nil) ?_))))
   intro kb6 s5 H
   unfold spec_LocksOk_b5 at H
   refine aS (aV (oMov (eR rfl) (oMov (eR rfl) (oLenD eZ (n := a1.length) (List.length_map _) (oLss (eR rfl) eZ (xQ ?_))))))
   rcases oite H with ⟨h7, H⟩ | ⟨h7, H⟩
   ·refine AW.condT eZ (decide_eq_true h7) (AW.skip (TQ.qn (AW.seqJ (fun t8 : Unit => (spec_LocksOk_j8 kb6 s5) t8 = some r) (fun t8 => mk [(0, (.one (.d (.sl 4 (List.map d_TLock a1))))), (3, (oI s5))] [] noG) ?_ ?_)))
    ·intro t8 H
     unfold spec_LocksOk_j8 at H
     exact aR (oMov (eR rfl) (oAdd eZ eC (oMov eZ (xNil (TQ.qn ⟨(IntKind.wrap .i64 (s5 + 1)), H, (wk_mk [] (kR rfl rfl (kR rfl rfl SL.nil)) BL.nil BK.nil)⟩)))))
    ·refine AW.block (aS (AW.seqJ (fun t10 : Bool => (spec_LocksOk_j10 s5 a1 (spec_LocksOk_j8 kb6 s5)) t10 = some r) (fun t10 => mk [(0, (.one (.d (.sl 4 (List.map d_TLock a1))))), (3, (oI s5)), (38, (oB t10))] [] noG) ?_ ?_))
     ·intro t10 H
      unfold spec_LocksOk_j10 at H
      rcases oite H with ⟨h12, H⟩ | ⟨h12, H⟩
      ·refine AW.condT (eR rfl) h12 (aV (oMov eC (xQ (AW.ret (TQ.qr (BQ.qr (TQ.qr (TQ.qr (BQ.qr (TQ.qr ?_))))))))))
       cases H
       exact eE rfl rfl
      ·refine AW.condF (eR rfl) (nt h12) (AW.skip (TQ.qn (aV (oMov eC (xQ (AW.block (AW.iter (fun s13 : Int => mk [(0, (.one (.d (.sl 4 (List.map d_TLock a1))))), (3, (oI s5)), (4, (oI s13))] [] noG) H (wk_mk [] (kR rfl rfl (kR rfl rfl (kR rfl rfl SL.nil))) BL.nil BK.nil) ?_)))))))
       intro kb14 s13 H
       unfold spec_LocksOk_b13 at H
       refine aS (aV (oMov (eR rfl) (oMov (eR rfl) (oLss (eR rfl) eZ (xQ ?_)))))
       rcases oite H with ⟨h15, H⟩ | ⟨h15, H⟩
       ·refine AW.condT eZ (decide_eq_true h15) (AW.skip (TQ.qn (aS (AW.block (aS (AW.regd (oMov (eR rfl) (oMov (eR rfl) ?_))))))))
        obtain ⟨v16, h17, H⟩ := obind H
        refine oAtD (eR rfl) eZ h17 (oLoadBA (es := [(dI v16.Tx), (dI v16.Lo), (dI v16.Hi), (dI v16.Mode)]) eZ rfl (oMov (eR rfl) (oMov (eR rfl) ?_)))
        obtain ⟨v18, h19, H⟩ := obind H
        refine oAtD (eR rfl) eZ h19 (oLoadBA (es := [(dI v18.Tx), (dI v18.Lo), (dI v18.Hi), (dI v18.Mode)]) eZ rfl ?_)
        obtain ⟨v20, h21, H⟩ := obind H
        refine oCall (u := (oB v20)) eC Cl.fn (c_spec_l12Clash h21) (Evs.cons (eR rfl) (Evs.cons eZ Evs.nil)) (VDs.cons (VD.agg rfl) (VDs.cons (VD.agg rfl) VDs.nil)) rfl (xQ ?_)
        rcases oite H with ⟨h22, H⟩ | ⟨h22, H⟩
        ·refine AW.condT eZ h22 (aV (oMov eC (xQ (AW.weaken (wk_mk [] (kr 2 rfl rfl SL.nil) BL.nil BK.nil) (AW.ret (BQ.qr (TQ.qr (TQ.qr (BQ.qr (BQ.qr (TQ.qr (TQ.qr (BQ.qr (TQ.qr ?_))))))))))))))
         cases H
         exact eE rfl rfl
        ·exact AW.condF eZ (nt h22) (AW.skip (BQ.qn (TQ.qn (aR (oMov (eR rfl) (oAdd eZ eC (oMov eZ (xNil (TQ.qn ⟨(IntKind.wrap .i64 (s13 + 1)), H, (wk_mk [] (kR rfl rfl (kR rfl rfl (kR rfl rfl SL.nil))) BL.nil BK.nil)⟩)))))))))
       ·exact AW.condF eZ (decide_eq_false h15) (AW.exit (TQ.qe (TQ.qe (BQ.qe (BQ.qn (TQ.qn ⟨(), H, (wk_mk [] (kR rfl rfl (kR rfl rfl SL.nil)) BL.nil BK.nil)⟩))))))
     ·refine aR (oMov (eR rfl) (oMov (eR rfl) ?_))
      obtain ⟨v23, h24, H⟩ := obind H
      refine oAtD (eR rfl) eZ h24 (oFaddrB (m := 0) eZ rfl (oLoadB (e := (.int .i64 v23.Tx)) eZ rfl ?_))
      obtain ⟨v25, h26, H⟩ := obind H
      refine oCall (u := (oB v25)) eC Cl.fn (c_spec_l12Tx h26) (Evs.cons eZ Evs.nil) (VDs.cons VD.plain VDs.nil) rfl (oInv eZ (oMov eZ ?_))
      rcases oite H with ⟨h27, H⟩ | ⟨h27, H⟩
      ·refine gDo eZ (congrArg Bool.not h27) (oMov (eR rfl) (gDo (eR rfl) (congrArg Bool.not h27) (oMov (eR rfl) (gDo (eR rfl) (congrArg Bool.not h27) ?_))))
       obtain ⟨v28, h29, H⟩ := obind H
       refine oAtD (eR rfl) eZ h29 (gDo (eR rfl) (congrArg Bool.not h27) (oLoadBA (es := [(dI v28.Tx), (dI v28.Lo), (dI v28.Hi), (dI v28.Mode)]) eZ rfl (gDo (eR rfl) (congrArg Bool.not h27) ?_)))
       obtain ⟨v30, h31, H⟩ := obind H
       refine oCall (u := (.agg [(dI v30.Lo), (dI v30.Hi)])) eC Cl.fn (c_spec_l12Range h31) (Evs.cons eZ Evs.nil) (VDs.cons (VD.agg rfl) VDs.nil) rfl (gDo (eR rfl) (congrArg Bool.not h27) ?_)
       obtain ⟨v32, h33, H⟩ := obind H
       refine oCall (u := (oB v32)) eC Cl.fn (c_spec_RangeOk h33) (Evs.cons eZ Evs.nil) (VDs.cons (VD.agg rfl) VDs.nil) rfl (gDo (eR rfl) (congrArg Bool.not h27) (oInv eZ (oPickF (eR rfl) (congrArg Bool.not h27) eZ (oMov eZ ?_))))
       rcases oite H with ⟨h34, H⟩ | ⟨h34, H⟩
       ·refine gDo eZ (congrArg Bool.not h34) (oMov (eR rfl) (gDo (eR rfl) (congrArg Bool.not h34) (oMov (eR rfl) (gDo (eR rfl) (congrArg Bool.not h34) ?_))))
        obtain ⟨v35, h36, H⟩ := obind H
        refine oAtD (eR rfl) eZ h36 (gDo (eR rfl) (congrArg Bool.not h34) (oFaddrB (m := 3) eZ rfl (gDo (eR rfl) (congrArg Bool.not h34) (oLoadB (e := (.int .i64 v35.Mode)) eZ rfl (gDo (eR rfl) (congrArg Bool.not h34) ?_)))))
        obtain ⟨v37, h38, H⟩ := obind H
        exact oCall (u := (oB v37)) eC Cl.fn (c_spec_l12Mode h38) (Evs.cons eZ Evs.nil) (VDs.cons VD.plain VDs.nil) rfl (gDo (eR rfl) (congrArg Bool.not h34) (oInv eZ (oPickF (eR rfl) (congrArg Bool.not h34) eZ (xNil (TQ.qn ⟨(!v37), H, (wk_mk [] (kR rfl rfl (kR rfl rfl (kR rfl rfl SL.nil))) BL.nil BK.nil)⟩)))))
       ·exact gSkip eZ (congrArg Bool.not (nt h34)) rfl (gSkip (eR rfl) (congrArg Bool.not (nt h34)) rfl (gSkip (eR rfl) (congrArg Bool.not (nt h34)) rfl (gSkip (eR rfl) (congrArg Bool.not (nt h34)) rfl (gSkip (eR rfl) (congrArg Bool.not (nt h34)) rfl (gSkip (eR rfl) (congrArg Bool.not (nt h34)) rfl (gSkip (eR rfl) (congrArg Bool.not (nt h34)) rfl (oPickT (eR rfl) (congrArg Bool.not (nt h34)) eC (xNil (TQ.qn ⟨true, H, (wk_mk [] (kR rfl rfl (kR rfl rfl (kR rfl rfl SL.nil))) BL.nil BK.nil)⟩)))))))))
      ·exact gSkip eZ (congrArg Bool.not (nt h27)) rfl (gSkip (eR rfl) (congrArg Bool.not (nt h27)) rfl (gSkip (eR rfl) (congrArg Bool.not (nt h27)) rfl (gSkip (eR rfl) (congrArg Bool.not (nt h27)) rfl (gSkip (eR rfl) (congrArg Bool.not (nt h27)) rfl (gSkip (eR rfl) (congrArg Bool.not (nt h27)) rfl (gSkip (eR rfl) (congrArg Bool.not (nt h27)) rfl (oPickT (eR rfl) (congrArg Bool.not (nt h27)) eC (oMov eZ (gSkip eZ rfl rfl (gSkip (eR rfl) rfl rfl (gSkip (eR rfl) rfl rfl (gSkip (eR rfl) rfl rfl (gSkip (eR rfl) rfl rfl (gSkip (eR rfl) rfl rfl (gSkip (eR rfl) rfl rfl (oPickT (eR rfl) rfl eC (xNil (TQ.qn ⟨true, H, (wk_mk [] (kR rfl rfl (kR rfl rfl (kR rfl rfl SL.nil))) BL.nil BK.nil)⟩))))))))))))))))))
   ·exact AW.condF eZ (decide_eq_false h7) (AW.exit (TQ.qe (TQ.qe (BQ.qe (TQ.qn ⟨(), H, (wk_mk [] SL.nil BL.nil BK.nil)⟩)))))
theorem c_spec_l13Txs {a1 : (List Int)} {r : Bool} (H : m_spec_l13Txs a1 = some r) : Fn Tryz.prog k_spec_l13Txs (lent [(.sl 1 (List.map d_i64 a1))]) true [(.bool r)] := by
 refine i_spec_l13Txs_fn (fle rfl) ?_
 rw [init_mk]
 refine AW.weaken (wk_mk [] (kv 0 (.one (.d (.sl 1 (List.map d_i64 a1)))) rfl rfl SL.nil) BL.nil BK.nil) ?_
 unfold m_spec_l13Txs at H
 unfold i_spec_l13Txs
 refine aV (oMov eC (xQ (AW.seqJ (fun t2 : Unit => spec_l13Txs_j2 t2 = some r) (fun t2 => mk [] [] noG) ?_ ?_)))
 ·intro t2 H
  unfold spec_l13Txs_j2 at H
  refine aV (oMov eC (xQ (AW.ret ?_)))
  cases H
  exact eE rfl rfl
 ·refine aV (oMov eC (xQ (AW.block (AW.iter (fun s4 : Int => mk [(0, (.one (.d (.sl 1 (List.map d_i64 a1))))), (3, (oI s4))] [] noG) H (wk_mk [] (kR rfl rfl (kR rfl rfl SL.nil)) BL.nil BK.nil) ?_))))
  intro kb5 s4 H
  unfold spec_l13Txs_b4 at H
  refine aS (aV (oMov (eR rfl) (oMov (eR rfl) (oLenD eZ (n := a1.length) (List.length_map _) (oLss (eR rfl) eZ (xQ ?_))))))
  rcases oite H with ⟨h6, H⟩ | ⟨h6, H⟩
  ·refine AW.condT eZ (decide_eq_true h6) (AW.skip (TQ.qn (aS (AW.block (AW.seqJ (fun t7 : Bool => (spec_l13Txs_j7 kb5 s4) t7 = some r) (fun t7 => mk [(0, (.one (.d (.sl 1 (List.map d_i64 a1))))), (3, (oI s4)), (31, (oB t7))] [] noG) ?_ ?_)))))
   ·intro t7 H
    unfold spec_l13Txs_j7 at H
    rcases oite H with ⟨h9, H⟩ | ⟨h9, H⟩
    ·refine AW.condT (eR rfl) h9 (aV (oMov eC (xQ (AW.ret (BQ.qr (TQ.qr (TQ.qr (BQ.qr (TQ.qr ?_)))))))))
     cases H
     exact eE rfl rfl
    ·exact AW.condF (eR rfl) (nt h9) (AW.skip (BQ.qn (TQ.qn (aR (oMov (eR rfl) (oAdd eZ eC (oMov eZ (xNil (TQ.qn ⟨(IntKind.wrap .i64 (s4 + 1)), H, (wk_mk [] (kR rfl rfl (kR rfl rfl SL.nil)) BL.nil BK.nil)⟩)))))))))
   ·refine AW.regd (oMov (eR rfl) (oMov (eR rfl) ?_))
    obtain ⟨v10, h11, H⟩ := obind H
    refine oAtD (eR rfl) eZ h11 (oLoadB (e := (.int .i64 v10)) eZ rfl ?_)
    obtain ⟨v12, h13, H⟩ := obind H
    refine oCall (u := (oB v12)) eC Cl.fn (c_spec_l12Tx h13) (Evs.cons eZ Evs.nil) (VDs.cons VD.plain VDs.nil) rfl (oInv eZ (oMov eZ ?_))
    rcases oite H with ⟨h14, H⟩ | ⟨h14, H⟩
    ·refine gDo eZ (congrArg Bool.not h14) (oMov (eR rfl) (gDo (eR rfl) (congrArg Bool.not h14) (oGtr eZ eC (gDo (eR rfl) (congrArg Bool.not h14) (oMov eZ ?_)))))
     rcases oite H with ⟨h15, H⟩ | ⟨h15, H⟩
     ·refine gDo eZ (decide_eq_true h15) (oMov (eR rfl) (gDo (eR rfl) (decide_eq_true h15) (oMov (eR rfl) (gDo (eR rfl) (decide_eq_true h15) (oSub eZ eC (gDo (eR rfl) (decide_eq_true h15) ?_))))))
      obtain ⟨v16, h17, H⟩ := obind H
      refine oAtD (eR rfl) eZ h17 (gDo (eR rfl) (decide_eq_true h15) (oLoadB (e := (.int .i64 v16)) eZ rfl (gDo (eR rfl) (decide_eq_true h15) (oMov (eR rfl) (gDo (eR rfl) (decide_eq_true h15) (oMov (eR rfl) (gDo (eR rfl) (decide_eq_true h15) ?_)))))))
      obtain ⟨v18, h19, H⟩ := obind H
      exact oAtD (eR rfl) eZ h19 (gDo (eR rfl) (decide_eq_true h15) (oLoadB (e := (.int .i64 v18)) eZ rfl (gDo (eR rfl) (decide_eq_true h15) (oGeq (eR rfl) eZ (gDo (eR rfl) (congrArg Bool.not h14) (oPickT (eR rfl) (decide_eq_true h15) eZ (oPickF (eR rfl) (congrArg Bool.not h14) eZ (xNil (TQ.qn ⟨(decide (v18 ≤ v16)), H, (wk_mk [] (kR rfl rfl (kR rfl rfl (kR rfl rfl SL.nil))) BL.nil BK.nil)⟩)))))))))
     ·exact gSkip eZ (decide_eq_false h15) rfl (gSkip (eR rfl) (decide_eq_false h15) rfl (gSkip (eR rfl) (decide_eq_false h15) rfl (gSkip (eR rfl) (decide_eq_false h15) rfl (gSkip (eR rfl) (decide_eq_false h15) rfl (gSkip (eR rfl) (decide_eq_false h15) rfl (gSkip (eR rfl) (decide_eq_false h15) rfl (gSkip (eR rfl) (decide_eq_false h15) rfl (gSkip (eR rfl) (decide_eq_false h15) rfl (gSkip (eR rfl) (decide_eq_false h15) rfl (gDo (eR rfl) (congrArg Bool.not h14) (oPickF (eR rfl) (decide_eq_false h15) eC (oPickF (eR rfl) (congrArg Bool.not h14) eZ (xNil (TQ.qn ⟨false, H, (wk_mk [] (kR rfl rfl (kR rfl rfl (kR rfl rfl SL.nil))) BL.nil BK.nil)⟩))))))))))))))
    ·exact gSkip eZ (congrArg Bool.not (nt h14)) rfl (gSkip (eR rfl) (congrArg Bool.not (nt h14)) rfl (gSkip (eR rfl) (congrArg Bool.not (nt h14)) rfl (gSkipU eZ rfl (gSkipU (eR rfl) rfl (gSkipU (eR rfl) rfl (gSkipU (eR rfl) rfl (gSkipU (eR rfl) rfl (gSkipU (eR rfl) rfl (gSkipU (eR rfl) rfl (gSkipU (eR rfl) rfl (gSkipU (eR rfl) rfl (gSkipU (eR rfl) rfl (gSkip (eR rfl) (congrArg Bool.not (nt h14)) rfl (oPickT (eR rfl) (congrArg Bool.not (nt h14)) eC (xNil (TQ.qn ⟨true, H, (wk_mk [] (kR rfl rfl (kR rfl rfl (kR rfl rfl SL.nil))) BL.nil BK.nil)⟩))))))))))))))))
  ·exact AW.condF eZ (decide_eq_false h6) (AW.exit (TQ.qe (TQ.qe (BQ.qe (TQ.qn ⟨(), H, (wk_mk [] SL.nil BL.nil BK.nil)⟩)))))
theorem c_spec_RangesHave {a1 : (List TRange)} {a2 : TRange} {r : Bool} (H : m_spec_RangesHave a1 a2 = some r) : Fn Tryz.prog k_spec_RangesHave (lent [(.sl 2 (List.map d_TRange a1)), (.agg (d_TRange a2))]) true [(.bool r)] := by
 refine i_spec_RangesHave_fn (fle rfl) ?_
 rw [init_mk]
 refine AW.weaken (wk_mk [] (kv 0 (.one (.d (.sl 2 (List.map d_TRange a1)))) rfl rfl (kv 1 (.agg [(dI a2.Lo), (dI a2.Hi)]) rfl rfl SL.nil)) BL.nil BK.nil) ?_
 unfold m_spec_RangesHave at H
 unfold i_spec_RangesHave
 refine aV (oBox (n := 192) (m := 2) (cs := [(dI a2.Lo), (dI a2.Hi)]) rfl (eR rfl) rfl rfl nZ (oMov eC (xQ (aS (AW.seqJ (fun t3 : Bool => (spec_RangesHave_j3 a1 a2) t3 = some r) (fun t3 => mk [(0, (.one (.d (.sl 2 (List.map d_TRange a1))))), (3, (.one (.ptr (.nm 192 0 0)))), (14, (oB t3))] [(192, (.vars 2 [(dI a2.Lo), (dI a2.Hi)]))] noG) ?_ ?_)))))
 ·intro t3 H
  unfold spec_RangesHave_j3 at H
  rcases oite H with ⟨h5, H⟩ | ⟨h5, H⟩
  ·refine AW.condT (eR rfl) h5 (aV (oMov eC (xQ (AW.ret (TQ.qr ?_)))))
   cases H
   exact eE rfl rfl
  ·refine AW.condF (eR rfl) (nt h5) (AW.skip (TQ.qn (aV (oFaddrN (m := 0) (eR rfl) rfl (oLoadV (q := 0) (c := (dI a2.Lo)) eZ bZ rfl rfl (oMov eZ (xQ (AW.seqJ (fun t6 : Int => (spec_RangesHave_j6 a2) t6 = some r) (fun t6 => mk [(3, (.one (.ptr (.nm 192 0 0)))), (5, (oI t6))] [(192, (.vars 2 [(dI a2.Lo), (dI a2.Hi)]))] noG) ?_ ?_))))))))
   ·intro t6 H
    unfold spec_RangesHave_j6 at H
    refine aV (oMov (eR rfl) (oFaddrN (m := 1) (eR rfl) rfl (oLoadV (q := 1) (c := (dI a2.Hi)) eZ bZ rfl rfl (oGeq (eR rfl) eZ (oMov eZ (xQ (AW.ret ?_)))))))
    cases H
    exact eE rfl rfl
   ·refine aV (oMov eC (xQ (AW.block (AW.iter (fun s8 : (Int × Int) => mk [(0, (.one (.d (.sl 2 (List.map d_TRange a1))))), (3, (.one (.ptr (.nm 192 0 0)))), (5, (oI s8.1)), (6, (oI s8.2))] [(192, (.vars 2 [(dI a2.Lo), (dI a2.Hi)]))] noG) H (wk_mk [] (kR rfl rfl (kR rfl rfl (kR rfl rfl (kR rfl rfl SL.nil)))) (BL.keep rfl BL.nil) (BK.cons rfl bZ rfl rfl BK.nil)) ?_))))
    intro kb9 s8 H
    unfold spec_RangesHave_b8 at H
    refine aS (aV (oMov (eR rfl) (oMov (eR rfl) (oLenD eZ (n := a1.length) (List.length_map _) (oLss (eR rfl) eZ (xQ ?_))))))
    rcases oite H with ⟨h10, H⟩ | ⟨h10, H⟩
    ·refine AW.condT eZ (decide_eq_true h10) (AW.skip (TQ.qn (aS (AW.block (AW.seqJ (fun t11 : Bool => (spec_RangesHave_j11 a1 s8 kb9) t11 = some r) (fun t11 => mk [(0, (.one (.d (.sl 2 (List.map d_TRange a1))))), (3, (.one (.ptr (.nm 192 0 0)))), (5, (oI s8.1)), (6, (oI s8.2)), (38, (oB t11))] [(192, (.vars 2 [(dI a2.Lo), (dI a2.Hi)]))] noG) ?_ ?_)))))
     ·intro t11 H
      unfold spec_RangesHave_j11 at H
      rcases oite H with ⟨h13, H⟩ | ⟨h13, H⟩
      ·refine AW.condT (eR rfl) h13 (aR (oMov eZ (oMov (eR rfl) ?_)))
       obtain ⟨v14, h15, H⟩ := obind H
       exact oAtD (eR rfl) eZ h15 (oFaddrB (m := 1) eZ rfl (oLoadB (e := (.int .i64 v14.Hi)) eZ rfl (oMov eZ (xNil (BQ.qn (TQ.qn (aR (oMov (eR rfl) (oAdd eZ eC (oMov eZ (xNil (TQ.qn ⟨(v14.Hi, (IntKind.wrap .i64 (s8.2 + 1))), H, (wk_mk [] (kR rfl rfl (kR rfl rfl (kR rfl rfl (kR rfl rfl SL.nil)))) (BL.keep rfl BL.nil) (BK.cons rfl bZ rfl rfl BK.nil))⟩))))))))))))
      ·exact AW.condF (eR rfl) (nt h13) (AW.skip (BQ.qn (TQ.qn (aR (oMov (eR rfl) (oAdd eZ eC (oMov eZ (xNil (TQ.qn ⟨(s8.1, (IntKind.wrap .i64 (s8.2 + 1))), H, (wk_mk [] (kR rfl rfl (kR rfl rfl (kR rfl rfl (kR rfl rfl SL.nil)))) (BL.keep rfl BL.nil) (BK.cons rfl bZ rfl rfl BK.nil))⟩)))))))))
     ·refine aR (oMov (eR rfl) (oMov (eR rfl) ?_))
      obtain ⟨v16, h17, H⟩ := obind H
      refine oAtD (eR rfl) eZ h17 (oFaddrB (m := 0) eZ rfl (oLoadB (e := (.int .i64 v16.Lo)) eZ rfl (oMov (eR rfl) (oLeq (eR rfl) eZ (oMov eZ ?_)))))
      rcases oite H with ⟨h18, H⟩ | ⟨h18, H⟩
      ·refine gDo eZ (decide_eq_true h18) (oMov (eR rfl) (gDo (eR rfl) (decide_eq_true h18) (oMov (eR rfl) (gDo (eR rfl) (decide_eq_true h18) (oMov (eR rfl) (gDo (eR rfl) (decide_eq_true h18) ?_))))))
       obtain ⟨v19, h20, H⟩ := obind H
       exact oAtD (eR rfl) eZ h20 (gDo (eR rfl) (decide_eq_true h18) (oFaddrB (m := 1) eZ rfl (gDo (eR rfl) (decide_eq_true h18) (oLoadB (e := (.int .i64 v19.Hi)) eZ rfl (gDo (eR rfl) (decide_eq_true h18) (oLss (eR rfl) eZ (oPickT (eR rfl) (decide_eq_true h18) eZ (xNil (TQ.qn ⟨(decide (s8.1 < v19.Hi)), H, (wk_mk [] (kR rfl rfl (kR rfl rfl (kR rfl rfl (kR rfl rfl (kR rfl rfl SL.nil))))) (BL.keep rfl BL.nil) (BK.cons rfl bZ rfl rfl BK.nil))⟩)))))))))
      ·exact gSkip eZ (decide_eq_false h18) rfl (gSkip (eR rfl) (decide_eq_false h18) rfl (gSkip (eR rfl) (decide_eq_false h18) rfl (gSkip (eR rfl) (decide_eq_false h18) rfl (gSkip (eR rfl) (decide_eq_false h18) rfl (gSkip (eR rfl) (decide_eq_false h18) rfl (gSkip (eR rfl) (decide_eq_false h18) rfl (oPickF (eR rfl) (decide_eq_false h18) eC (xNil (TQ.qn ⟨false, H, (wk_mk [] (kR rfl rfl (kR rfl rfl (kR rfl rfl (kR rfl rfl (kR rfl rfl SL.nil))))) (BL.keep rfl BL.nil) (BK.cons rfl bZ rfl rfl BK.nil))⟩)))))))))
    ·exact AW.condF eZ (decide_eq_false h10) (AW.exit (TQ.qe (TQ.qe (BQ.qe (TQ.qn ⟨s8.1, H, (wk_mk [] (kR rfl rfl (kR rfl rfl SL.nil)) (BL.keep rfl BL.nil) (BK.cons rfl bZ rfl rfl BK.nil))⟩)))))
 ·refine aR (oMov (eR rfl) ?_)
  obtain ⟨v21, h22, H⟩ := obind H
  refine oCall (u := (oB v21)) eC Cl.fn (c_spec_RangesOk h22) (Evs.cons eZ Evs.nil) (VDs.cons VD.plain VDs.nil) rfl (oInv eZ (oMov eZ ?_))
  rcases oite H with ⟨h23, H⟩ | ⟨h23, H⟩
  ·refine gDo eZ (congrArg Bool.not h23) (oLoadVA (es := [(dI a2.Lo), (dI a2.Hi)]) (eR rfl) bZ rfl (gDo (eR rfl) (congrArg Bool.not h23) ?_))
   obtain ⟨v24, h25, H⟩ := obind H
   exact oCall (u := (oB v24)) eC Cl.fn (c_spec_RangeOk h25) (Evs.cons eZ Evs.nil) (VDs.cons (VD.agg rfl) VDs.nil) rfl (gDo (eR rfl) (congrArg Bool.not h23) (oInv eZ (oPickF (eR rfl) (congrArg Bool.not h23) eZ (xNil (TQ.qn ⟨(!v24), H, (wk_mk [] (kR rfl rfl (kR rfl rfl (kR rfl rfl SL.nil))) (BL.keep rfl BL.nil) (BK.cons rfl bZ rfl rfl BK.nil))⟩)))))
  ·exact gSkip eZ (congrArg Bool.not (nt h23)) rfl (gSkip (eR rfl) (congrArg Bool.not (nt h23)) rfl (gSkip (eR rfl) (congrArg Bool.not (nt h23)) rfl (oPickT (eR rfl) (congrArg Bool.not (nt h23)) eC (xNil (TQ.qn ⟨true, H, (wk_mk [] (kR rfl rfl (kR rfl rfl (kR rfl rfl SL.nil))) (BL.keep rfl BL.nil) (BK.cons rfl bZ rfl rfl BK.nil))⟩)))))
theorem c_spec_l10One {a1 : Int} {r : TRange} (H : m_spec_l10One a1 = some r) : Fn Tryz.prog k_spec_l10One (lent [(.int .i64 a1)]) true [(.agg (d_TRange r))] := by
 refine i_spec_l10One_fn (fle rfl) ?_
 rw [init_mk]
 refine AW.weaken (wk_mk [] (kv 0 (oI a1) rfl rfl SL.nil) BL.nil BK.nil) ?_
 unfold m_spec_l10One at H
 unfold i_spec_l10One
 refine aV (oVar (n := 128) (m := 2) rfl rfl nZ (xQ (aV (oMov (eR rfl) (oMov (eR rfl) (oAdd eZ eC (oBuild (cs := [(dI a1), (dI (IntKind.wrap .i64 (a1 + 1)))]) (PsCons (eR rfl) (PsCons eZ PsNil)) rfl (oStoreV (es := [(dI a1), (dI (IntKind.wrap .i64 (a1 + 1)))]) (eR rfl) eZ rfl rfl bZ rfl (xQ (AW.ret ?_))))))))))
 cases H
 exact endsR (RL.cons (RV.cellA (es := [(dI a1), (dI (IntKind.wrap .i64 (a1 + 1)))]) (eR rfl) bZ rfl) (VO.agg (ds := [(.int .i64 a1), (.int .i64 (IntKind.wrap .i64 (a1 + 1)))]) rfl rfl) RL.nil) List.nodup_nil
theorem c_spec_l12Has {a1 : (List Int)} {a2 : Int} {r : Bool} (H : m_spec_l12Has a1 a2 = some r) : Fn Tryz.prog k_spec_l12Has (lent [(.sl 1 (List.map d_i64 a1)), (.int .i64 a2)]) true [(.bool r)] := by
 refine i_spec_l12Has_fn (fle rfl) ?_
 rw [init_mk]
 refine AW.weaken (wk_mk [] (kv 0 (.one (.d (.sl 1 (List.map d_i64 a1)))) rfl rfl (kv 1 (oI a2) rfl rfl SL.nil)) BL.nil BK.nil) ?_
 unfold m_spec_l12Has at H
 unfold i_spec_l12Has
 refine aV (oMov eC (xQ (AW.seqJ (fun t3 : Unit => spec_l12Has_j3 t3 = some r) (fun t3 => mk [] [] noG) ?_ ?_)))
 ·intro t3 H
  unfold spec_l12Has_j3 at H
  refine aV (oMov eC (xQ (AW.ret ?_)))
  cases H
  exact eE rfl rfl
 ·refine aV (oMov eC (xQ (AW.block (AW.iter (fun s5 : Int => mk [(0, (.one (.d (.sl 1 (List.map d_i64 a1))))), (1, (oI a2)), (5, (oI s5))] [] noG) H (wk_mk [] (kR rfl rfl (kR rfl rfl (kR rfl rfl SL.nil))) BL.nil BK.nil) ?_))))
  intro kb6 s5 H
  unfold spec_l12Has_b5 at H
  refine aS (aV (oMov (eR rfl) (oMov (eR rfl) (oLenD eZ (n := a1.length) (List.length_map _) (oLss (eR rfl) eZ (xQ ?_))))))
  rcases oite H with ⟨h7, H⟩ | ⟨h7, H⟩
  ·refine AW.condT eZ (decide_eq_true h7) (AW.skip (TQ.qn (aS (AW.block (aV (oMov (eR rfl) (oMov (eR rfl) ?_)))))))
   obtain ⟨v8, h9, H⟩ := obind H
   refine oAtD (eR rfl) eZ h9 (oLoadB (e := (.int .i64 v8)) eZ rfl (oMov (eR rfl) (oEql (eR rfl) eZ (xQ ?_))))
   rcases oite H with ⟨h10, H⟩ | ⟨h10, H⟩
   ·refine AW.condT eZ (decide_eq_true h10) (aV (oMov eC (xQ (AW.ret (BQ.qr (TQ.qr (TQ.qr (BQ.qr (TQ.qr ?_)))))))))
    cases H
    exact eE rfl rfl
   ·exact AW.condF eZ (decide_eq_false h10) (AW.skip (BQ.qn (TQ.qn (aR (oMov (eR rfl) (oAdd eZ eC (oMov eZ (xNil (TQ.qn ⟨(IntKind.wrap .i64 (s5 + 1)), H, (wk_mk [] (kR rfl rfl (kR rfl rfl (kR rfl rfl SL.nil))) BL.nil BK.nil)⟩)))))))))
  ·exact AW.condF eZ (decide_eq_false h7) (AW.exit (TQ.qe (TQ.qe (BQ.qe (TQ.qn ⟨(), H, (wk_mk [] SL.nil BL.nil BK.nil)⟩)))))
theorem c_spec_WritesOk {a1 : (List TCell)} {r : Bool} (H : m_spec_WritesOk a1 = some r) : Fn Tryz.prog k_spec_WritesOk (lent [(.sl 2 (List.map d_TCell a1))]) true [(.bool r)] := by
 refine i_spec_WritesOk_fn (fle rfl) ?_
 rw [init_mk]
 refine AW.weaken (wk_mk [] (kv 0 (.one (.d (.sl 2 (List.map d_TCell a1)))) rfl rfl SL.nil) BL.nil BK.nil) ?_
 unfold m_spec_WritesOk at H
 unfold i_spec_WritesOk
 refine aV (oMov eC (xQ (aS (aV (oMov (eR rfl) (oLenD eZ (n := a1.length) (List.length_map _) (oGtr eZ eC (xQ ?_))))))))
 rcases oite H with ⟨h2, H⟩ | ⟨h2, H⟩
 ·refine AW.condT eZ (decide_eq_true h2) (aV (oMov eC (xQ (AW.ret (TQ.qr ?_)))))
  cases H
  exact eE rfl rfl
 ·refine AW.condF eZ (decide_eq_false h2) (AW.skip (TQ.qn (AW.seqJ (fun t3 : Unit => spec_WritesOk_j3 t3 = some r) (fun t3 => mk [] [] noG) ?_ ?_)))
  ·intro t3 H
   unfold spec_WritesOk_j3 at H
   refine aV (oMov eC (xQ (AW.ret ?_)))
   cases H
   exact eE rfl rfl
  ·refine aV (oMov eC (xQ (AW.block (AW.iter (fun s5 : Int => mk [(0, (.one (.d (.sl 2 (List.map d_TCell a1))))), (3, (oI s5))] [] noG) H (wk_mk [] (kR rfl rfl (kR rfl rfl SL.nil)) BL.nil BK.nil) ?_))))
   intro kb6 s5 H
   unfold spec_WritesOk_b5 at H
   refine aS (aV (oMov (eR rfl) (oMov (eR rfl) (oLenD eZ (n := a1.length) (List.length_map _) (oLss (eR rfl) eZ (xQ ?_))))))
   rcases oite H with ⟨h7, H⟩ | ⟨h7, H⟩
   ·refine AW.condT eZ (decide_eq_true h7) (AW.skip (TQ.qn (aS (AW.block (AW.seqJ (fun t8 : Bool => (spec_WritesOk_j8 kb6 s5) t8 = some r) (fun t8 => mk [(0, (.one (.d (.sl 2 (List.map d_TCell a1))))), (3, (oI s5)), (46, (oB t8))] [] noG) ?_ ?_)))))
    ·intro t8 H
     unfold spec_WritesOk_j8 at H
     rcases oite H with ⟨h10, H⟩ | ⟨h10, H⟩
     ·refine AW.condT (eR rfl) h10 (aV (oMov eC (xQ (AW.ret (BQ.qr (TQ.qr (TQ.qr (BQ.qr (TQ.qr ?_)))))))))
      cases H
      exact eE rfl rfl
     ·exact AW.condF (eR rfl) (nt h10) (AW.skip (BQ.qn (TQ.qn (aR (oMov (eR rfl) (oAdd eZ eC (oMov eZ (xNil (TQ.qn ⟨(IntKind.wrap .i64 (s5 + 1)), H, (wk_mk [] (kR rfl rfl (kR rfl rfl SL.nil)) BL.nil BK.nil)⟩)))))))))
    ·refine AW.regd (oMov (eR rfl) (oMov (eR rfl) ?_))
     obtain ⟨v11, h12, H⟩ := obind H
     refine oAtD (eR rfl) eZ h12 (oFaddrB (m := 0) eZ rfl (oLoadB (e := (.int .i64 v11.Key)) eZ rfl ?_))
     obtain ⟨v13, h14, H⟩ := obind H
     refine oCall (u := (oB v13)) eC Cl.fn (c_spec_l10Key h14) (Evs.cons eZ Evs.nil) (VDs.cons VD.plain VDs.nil) rfl (oInv eZ (oMov eZ ?_))
     rcases oite H with ⟨h15, H⟩ | ⟨h15, H⟩
     ·refine gDo eZ (congrArg Bool.not h15) (oMov (eR rfl) (gDo (eR rfl) (congrArg Bool.not h15) (oMov (eR rfl) (gDo (eR rfl) (congrArg Bool.not h15) ?_))))
      obtain ⟨v16, h17, H⟩ := obind H
      refine oAtD (eR rfl) eZ h17 (gDo (eR rfl) (congrArg Bool.not h15) (oFaddrB (m := 1) eZ rfl (gDo (eR rfl) (congrArg Bool.not h15) (oLoadB (e := (.int .i64 v16.Value)) eZ rfl (gDo (eR rfl) (congrArg Bool.not h15) ?_)))))
      obtain ⟨v18, h19, H⟩ := obind H
      refine oCall (u := (oB v18)) eC Cl.fn (c_spec_l1In h19) (Evs.cons eZ (Evs.cons eC (Evs.cons eC Evs.nil))) (VDs.cons VD.plain (VDs.cons VD.plain (VDs.cons VD.plain VDs.nil))) rfl (gDo (eR rfl) (congrArg Bool.not h15) (oInv eZ (oPickF (eR rfl) (congrArg Bool.not h15) eZ (oMov eZ ?_))))
      rcases oite H with ⟨h20, H⟩ | ⟨h20, H⟩
      ·refine gDo eZ (congrArg Bool.not h20) (oMov (eR rfl) (gDo (eR rfl) (congrArg Bool.not h20) (oGtr eZ eC (gDo (eR rfl) (congrArg Bool.not h20) (oMov eZ ?_)))))
       rcases oite H with ⟨h21, H⟩ | ⟨h21, H⟩
       ·refine gDo eZ (decide_eq_true h21) (oMov (eR rfl) (gDo (eR rfl) (decide_eq_true h21) (oMov (eR rfl) (gDo (eR rfl) (decide_eq_true h21) (oSub eZ eC (gDo (eR rfl) (decide_eq_true h21) ?_))))))
        obtain ⟨v22, h23, H⟩ := obind H
        refine oAtD (eR rfl) eZ h23 (gDo (eR rfl) (decide_eq_true h21) (oFaddrB (m := 0) eZ rfl (gDo (eR rfl) (decide_eq_true h21) (oLoadB (e := (.int .i64 v22.Key)) eZ rfl (gDo (eR rfl) (decide_eq_true h21) (oMov (eR rfl) (gDo (eR rfl) (decide_eq_true h21) (oMov (eR rfl) (gDo (eR rfl) (decide_eq_true h21) ?_)))))))))
        obtain ⟨v24, h25, H⟩ := obind H
        exact oAtD (eR rfl) eZ h25 (gDo (eR rfl) (decide_eq_true h21) (oFaddrB (m := 0) eZ rfl (gDo (eR rfl) (decide_eq_true h21) (oLoadB (e := (.int .i64 v24.Key)) eZ rfl (gDo (eR rfl) (decide_eq_true h21) (oGeq (eR rfl) eZ (gDo (eR rfl) (congrArg Bool.not h20) (oPickT (eR rfl) (decide_eq_true h21) eZ (oPickF (eR rfl) (congrArg Bool.not h20) eZ (xNil (TQ.qn ⟨(decide (v24.Key ≤ v22.Key)), H, (wk_mk [] (kR rfl rfl (kR rfl rfl (kR rfl rfl SL.nil))) BL.nil BK.nil)⟩)))))))))))
       ·exact gSkip eZ (decide_eq_false h21) rfl (gSkip (eR rfl) (decide_eq_false h21) rfl (gSkip (eR rfl) (decide_eq_false h21) rfl (gSkip (eR rfl) (decide_eq_false h21) rfl (gSkip (eR rfl) (decide_eq_false h21) rfl (gSkip (eR rfl) (decide_eq_false h21) rfl (gSkip (eR rfl) (decide_eq_false h21) rfl (gSkip (eR rfl) (decide_eq_false h21) rfl (gSkip (eR rfl) (decide_eq_false h21) rfl (gSkip (eR rfl) (decide_eq_false h21) rfl (gSkip (eR rfl) (decide_eq_false h21) rfl (gSkip (eR rfl) (decide_eq_false h21) rfl (gDo (eR rfl) (congrArg Bool.not h20) (oPickF (eR rfl) (decide_eq_false h21) eC (oPickF (eR rfl) (congrArg Bool.not h20) eZ (xNil (TQ.qn ⟨false, H, (wk_mk [] (kR rfl rfl (kR rfl rfl (kR rfl rfl SL.nil))) BL.nil BK.nil)⟩))))))))))))))))
      ·exact gSkip eZ (congrArg Bool.not (nt h20)) rfl (gSkip (eR rfl) (congrArg Bool.not (nt h20)) rfl (gSkip (eR rfl) (congrArg Bool.not (nt h20)) rfl (gSkipU eZ rfl (gSkipU (eR rfl) rfl (gSkipU (eR rfl) rfl (gSkipU (eR rfl) rfl (gSkipU (eR rfl) rfl (gSkipU (eR rfl) rfl (gSkipU (eR rfl) rfl (gSkipU (eR rfl) rfl (gSkipU (eR rfl) rfl (gSkipU (eR rfl) rfl (gSkipU (eR rfl) rfl (gSkipU (eR rfl) rfl (gSkip (eR rfl) (congrArg Bool.not (nt h20)) rfl (oPickT (eR rfl) (congrArg Bool.not (nt h20)) eC (xNil (TQ.qn ⟨true, H, (wk_mk [] (kR rfl rfl (kR rfl rfl (kR rfl rfl SL.nil))) BL.nil BK.nil)⟩))))))))))))))))))
     ·exact gSkip eZ (congrArg Bool.not (nt h15)) rfl (gSkip (eR rfl) (congrArg Bool.not (nt h15)) rfl (gSkip (eR rfl) (congrArg Bool.not (nt h15)) rfl (gSkip (eR rfl) (congrArg Bool.not (nt h15)) rfl (gSkip (eR rfl) (congrArg Bool.not (nt h15)) rfl (gSkip (eR rfl) (congrArg Bool.not (nt h15)) rfl (gSkip (eR rfl) (congrArg Bool.not (nt h15)) rfl (oPickT (eR rfl) (congrArg Bool.not (nt h15)) eC (oMov eZ (gSkip eZ rfl rfl (gSkip (eR rfl) rfl rfl (gSkip (eR rfl) rfl rfl (gSkipU eZ rfl (gSkipU (eR rfl) rfl (gSkipU (eR rfl) rfl (gSkipU (eR rfl) rfl (gSkipU (eR rfl) rfl (gSkipU (eR rfl) rfl (gSkipU (eR rfl) rfl (gSkipU (eR rfl) rfl (gSkipU (eR rfl) rfl (gSkipU (eR rfl) rfl (gSkipU (eR rfl) rfl (gSkipU (eR rfl) rfl (gSkip (eR rfl) rfl rfl (oPickT (eR rfl) rfl eC (xNil (TQ.qn ⟨true, H, (wk_mk [] (kR rfl rfl (kR rfl rfl (kR rfl rfl SL.nil))) BL.nil BK.nil)⟩)))))))))))))))))))))))))))
   ·exact AW.condF eZ (decide_eq_false h7) (AW.exit (TQ.qe (TQ.qe (BQ.qe (TQ.qn ⟨(), H, (wk_mk [] SL.nil BL.nil BK.nil)⟩)))))
theorem c_spec_RangeIn {a1 : TRange} {a2 : TRange} {r : Bool} (H : m_spec_RangeIn a1 a2 = some r) : Fn Tryz.prog k_spec_RangeIn (lent [(.agg (d_TRange a1)), (.agg (d_TRange a2))]) true [(.bool r)] := by
 refine i_spec_RangeIn_fn (fle rfl) ?_
 rw [init_mk]
 refine AW.weaken (wk_mk [] (kv 0 (.agg [(dI a1.Lo), (dI a1.Hi)]) rfl rfl (kv 1 (.agg [(dI a2.Lo), (dI a2.Hi)]) rfl rfl SL.nil)) BL.nil BK.nil) ?_
 unfold m_spec_RangeIn at H
 unfold i_spec_RangeIn
 refine aV (oBox (n := 128) (m := 2) (cs := [(dI a1.Lo), (dI a1.Hi)]) rfl eZ rfl rfl nZ (oBox (n := 192) (m := 2) (cs := [(dI a2.Lo), (dI a2.Hi)]) rfl (eR rfl) rfl rfl (nS rfl nZ) (oMov eC (xQ (aV (oLoadVA (es := [(dI a1.Lo), (dI a1.Hi)]) (eR rfl) (bS rfl bZ) rfl ?_))))))
 obtain ⟨v3, h4, H⟩ := obind H
 refine oCall (u := (oB v3)) eC Cl.fn (c_spec_RangeOk h4) (Evs.cons eZ Evs.nil) (VDs.cons (VD.agg rfl) VDs.nil) rfl (oMov eZ ?_)
 rcases oite H with ⟨h5, H⟩ | ⟨h5, H⟩
 ·refine gDo eZ h5 (oLoadVA (es := [(dI a2.Lo), (dI a2.Hi)]) (eR rfl) bZ rfl (gDo (eR rfl) h5 ?_))
  obtain ⟨v6, h7, H⟩ := obind H
  refine oCall (u := (oB v6)) eC Cl.fn (c_spec_RangeOk h7) (Evs.cons eZ Evs.nil) (VDs.cons (VD.agg rfl) VDs.nil) rfl (oPickT (eR rfl) h5 eZ (oMov eZ ?_))
  rcases oite H with ⟨h8, H⟩ | ⟨h8, H⟩
  ·refine gDo eZ h8 (oFaddrN (m := 0) (eR rfl) rfl (gDo (eR rfl) h8 (oLoadV (q := 0) (c := (dI a1.Lo)) eZ (bS rfl bZ) rfl rfl (gDo (eR rfl) h8 (oFaddrN (m := 0) (eR rfl) rfl (gDo (eR rfl) h8 (oLoadV (q := 0) (c := (dI a2.Lo)) eZ bZ rfl rfl (gDo (eR rfl) h8 (oGeq (eR rfl) eZ (oPickT (eR rfl) h8 eZ (oMov eZ ?_)))))))))))
   rcases oite H with ⟨h9, H⟩ | ⟨h9, H⟩
   ·refine gDo eZ (decide_eq_true h9) (oFaddrN (m := 1) (eR rfl) rfl (gDo (eR rfl) (decide_eq_true h9) (oLoadV (q := 1) (c := (dI a1.Hi)) eZ (bS rfl bZ) rfl rfl (gDo (eR rfl) (decide_eq_true h9) (oFaddrN (m := 1) (eR rfl) rfl (gDo (eR rfl) (decide_eq_true h9) (oLoadV (q := 1) (c := (dI a2.Hi)) eZ bZ rfl rfl (gDo (eR rfl) (decide_eq_true h9) (oLeq (eR rfl) eZ (oPickT (eR rfl) (decide_eq_true h9) eZ (oMov eZ (xQ (AW.weaken (wk_mk [192, 128] (kr 4 rfl rfl SL.nil) (BL.drop rfl (BL.drop rfl BL.nil)) BK.nil) (AW.ret ?_))))))))))))))
    cases H
    exact eE rfl rfl
   ·refine gSkip eZ (decide_eq_false h9) rfl (gSkip (eR rfl) (decide_eq_false h9) rfl (gSkip (eR rfl) (decide_eq_false h9) rfl (gSkip (eR rfl) (decide_eq_false h9) rfl (gSkip (eR rfl) (decide_eq_false h9) rfl (oPickF (eR rfl) (decide_eq_false h9) eC (oMov eZ (xQ (AW.weaken (wk_mk [192, 128] (kr 4 rfl rfl SL.nil) (BL.drop rfl (BL.drop rfl BL.nil)) BK.nil) (AW.ret ?_)))))))))
    cases H
    exact eE rfl rfl
  ·refine gSkip eZ (nt h8) rfl (gSkip (eR rfl) (nt h8) rfl (gSkip (eR rfl) (nt h8) rfl (gSkip (eR rfl) (nt h8) rfl (gSkip (eR rfl) (nt h8) rfl (oPickF (eR rfl) (nt h8) eC (oMov eZ (gSkip eZ rfl rfl (gSkip (eR rfl) rfl rfl (gSkip (eR rfl) rfl rfl (gSkip (eR rfl) rfl rfl (gSkip (eR rfl) rfl rfl (oPickF (eR rfl) rfl eC (oMov eZ (xQ (AW.weaken (wk_mk [192, 128] (kr 4 rfl rfl SL.nil) (BL.drop rfl (BL.drop rfl BL.nil)) BK.nil) (AW.ret ?_))))))))))))))))
   cases H
   exact eE rfl rfl
 ·refine gSkip eZ (nt h5) rfl (gSkip (eR rfl) (nt h5) rfl (oPickF (eR rfl) (nt h5) eC (oMov eZ (gSkip eZ rfl rfl (gSkip (eR rfl) rfl rfl (gSkip (eR rfl) rfl rfl (gSkip (eR rfl) rfl rfl (gSkip (eR rfl) rfl rfl (oPickF (eR rfl) rfl eC (oMov eZ (gSkip eZ rfl rfl (gSkip (eR rfl) rfl rfl (gSkip (eR rfl) rfl rfl (gSkip (eR rfl) rfl rfl (gSkip (eR rfl) rfl rfl (oPickF (eR rfl) rfl eC (oMov eZ (xQ (AW.weaken (wk_mk [192, 128] (kr 4 rfl rfl SL.nil) (BL.drop rfl (BL.drop rfl BL.nil)) BK.nil) (AW.ret ?_))))))))))))))))))))
  cases H
  exact eE rfl rfl
theorem c_spec_l12Holds {a1 : (List TLock)} {a2 : Int} {a3 : TRange} {a4 : Int} {r : Bool} (H : m_spec_l12Holds a1 a2 a3 a4 = some r) : Fn Tryz.prog k_spec_l12Holds (lent [(.sl 4 (List.map d_TLock a1)), (.int .i64 a2), (.agg (d_TRange a3)), (.int .i64 a4)]) true [(.bool r)] := by
 refine i_spec_l12Holds_fn (fle rfl) ?_
 rw [init_mk]
 refine AW.weaken (wk_mk [] (kv 0 (.one (.d (.sl 4 (List.map d_TLock a1)))) rfl rfl (kv 1 (oI a2) rfl rfl (kv 2 (.agg [(dI a3.Lo), (dI a3.Hi)]) rfl rfl (kv 3 (oI a4) rfl rfl SL.nil)))) BL.nil BK.nil) ?_
 unfold m_spec_l12Holds at H
 unfold i_spec_l12Holds
 refine aV (oBox (n := 384) (m := 2) (cs := [(dI a3.Lo), (dI a3.Hi)]) rfl (eR rfl) rfl rfl nZ (oMov eC (xQ (AW.seqJ (fun t5 : Unit => spec_l12Holds_j5 t5 = some r) (fun t5 => mk [] [] noG) ?_ ?_))))
 ·intro t5 H
  unfold spec_l12Holds_j5 at H
  refine aV (oMov eC (xQ (AW.ret ?_)))
  cases H
  exact eE rfl rfl
 ·refine aV (oMov eC (xQ (AW.block (AW.iter (fun s7 : Int => mk [(0, (.one (.d (.sl 4 (List.map d_TLock a1))))), (1, (oI a2)), (3, (oI a4)), (6, (.one (.ptr (.nm 384 0 0)))), (9, (oI s7))] [(384, (.vars 2 [(dI a3.Lo), (dI a3.Hi)]))] noG) H (wk_mk [] (kR rfl rfl (kR rfl rfl (kR rfl rfl (kR rfl rfl (kR rfl rfl SL.nil))))) (BL.keep rfl BL.nil) (BK.cons rfl bZ rfl rfl BK.nil)) ?_))))
  intro kb8 s7 H
  unfold spec_l12Holds_b7 at H
  refine aS (aV (oMov (eR rfl) (oMov (eR rfl) (oLenD eZ (n := a1.length) (List.length_map _) (oLss (eR rfl) eZ (xQ ?_))))))
  rcases oite H with ⟨h9, H⟩ | ⟨h9, H⟩
  ·refine AW.condT eZ (decide_eq_true h9) (AW.skip (TQ.qn (aS (AW.block (AW.seqJ (fun t10 : Bool => (spec_l12Holds_j10 kb8 s7) t10 = some r) (fun t10 => mk [(0, (.one (.d (.sl 4 (List.map d_TLock a1))))), (1, (oI a2)), (3, (oI a4)), (6, (.one (.ptr (.nm 384 0 0)))), (9, (oI s7)), (40, (oB t10))] [(384, (.vars 2 [(dI a3.Lo), (dI a3.Hi)]))] noG) ?_ ?_)))))
   ·intro t10 H
    unfold spec_l12Holds_j10 at H
    rcases oite H with ⟨h12, H⟩ | ⟨h12, H⟩
    ·refine AW.condT (eR rfl) h12 (aV (oMov eC (xQ (AW.ret (BQ.qr (TQ.qr (TQ.qr (BQ.qr (TQ.qr ?_)))))))))
     cases H
     exact eE rfl rfl
    ·exact AW.condF (eR rfl) (nt h12) (AW.skip (BQ.qn (TQ.qn (aR (oMov (eR rfl) (oAdd eZ eC (oMov eZ (xNil (TQ.qn ⟨(IntKind.wrap .i64 (s7 + 1)), H, (wk_mk [] (kR rfl rfl (kR rfl rfl (kR rfl rfl (kR rfl rfl (kR rfl rfl SL.nil))))) (BL.keep rfl BL.nil) (BK.cons rfl bZ rfl rfl BK.nil))⟩)))))))))
   ·refine AW.regd (oMov (eR rfl) (oMov (eR rfl) ?_))
    obtain ⟨v13, h14, H⟩ := obind H
    refine oAtD (eR rfl) eZ h14 (oFaddrB (m := 0) eZ rfl (oLoadB (e := (.int .i64 v13.Tx)) eZ rfl (oMov (eR rfl) (oEql (eR rfl) eZ (oMov eZ ?_)))))
    rcases oite H with ⟨h15, H⟩ | ⟨h15, H⟩
    ·refine gDo eZ (decide_eq_true h15) (oLoadVA (es := [(dI a3.Lo), (dI a3.Hi)]) (eR rfl) (hB rfl bZ) rfl (gDo (eR rfl) (decide_eq_true h15) (oMov (eR rfl) (gDo (eR rfl) (decide_eq_true h15) (oMov (eR rfl) (gDo (eR rfl) (decide_eq_true h15) ?_))))))
     obtain ⟨v16, h17, H⟩ := obind H
     refine oAtD (eR rfl) eZ h17 (gDo (eR rfl) (decide_eq_true h15) (oLoadBA (es := [(dI v16.Tx), (dI v16.Lo), (dI v16.Hi), (dI v16.Mode)]) eZ rfl (gDo (eR rfl) (decide_eq_true h15) ?_)))
     obtain ⟨v18, h19, H⟩ := obind H
     refine oCall (u := (.agg [(dI v18.Lo), (dI v18.Hi)])) eC Cl.fn (c_spec_l12Range h19) (Evs.cons eZ Evs.nil) (VDs.cons (VD.agg rfl) VDs.nil) rfl (gDo (eR rfl) (decide_eq_true h15) ?_)
     obtain ⟨v20, h21, H⟩ := obind H
     refine oCall (u := (oB v20)) eC Cl.fn (c_spec_RangeIn h21) (Evs.cons (eR rfl) (Evs.cons eZ Evs.nil)) (VDs.cons (VD.agg rfl) (VDs.cons (VD.agg rfl) VDs.nil)) rfl (oPickT (eR rfl) (decide_eq_true h15) eZ (oMov eZ ?_))
     rcases oite H with ⟨h22, H⟩ | ⟨h22, H⟩
     ·refine gDo eZ h22 (oMov (eR rfl) (gDo (eR rfl) h22 (oMov (eR rfl) (gDo (eR rfl) h22 ?_))))
      obtain ⟨v23, h24, H⟩ := obind H
      exact oAtD (eR rfl) eZ h24 (gDo (eR rfl) h22 (oFaddrB (m := 3) eZ rfl (gDo (eR rfl) h22 (oLoadB (e := (.int .i64 v23.Mode)) eZ rfl (gDo (eR rfl) h22 (oMov (eR rfl) (gDo (eR rfl) h22 (oGeq (eR rfl) eZ (oPickT (eR rfl) h22 eZ (xNil (TQ.qn ⟨(decide (a4 ≤ v23.Mode)), H, (wk_mk [] (kR rfl rfl (kR rfl rfl (kR rfl rfl (kR rfl rfl (kR rfl rfl (kR rfl rfl SL.nil)))))) (BL.keep rfl BL.nil) (BK.cons rfl bZ rfl rfl BK.nil))⟩)))))))))))
     ·exact gSkip eZ (nt h22) rfl (gSkip (eR rfl) (nt h22) rfl (gSkip (eR rfl) (nt h22) rfl (gSkip (eR rfl) (nt h22) rfl (gSkip (eR rfl) (nt h22) rfl (gSkip (eR rfl) (nt h22) rfl (gSkip (eR rfl) (nt h22) rfl (oPickF (eR rfl) (nt h22) eC (xNil (TQ.qn ⟨false, H, (wk_mk [] (kR rfl rfl (kR rfl rfl (kR rfl rfl (kR rfl rfl (kR rfl rfl (kR rfl rfl SL.nil)))))) (BL.keep rfl BL.nil) (BK.cons rfl bZ rfl rfl BK.nil))⟩)))))))))
    ·exact gSkip eZ (decide_eq_false h15) rfl (gSkip (eR rfl) (decide_eq_false h15) rfl (gSkip (eR rfl) (decide_eq_false h15) rfl (gSkip (eR rfl) (decide_eq_false h15) rfl (gSkip (eR rfl) (decide_eq_false h15) rfl (gSkip (eR rfl) (decide_eq_false h15) rfl (gSkip (eR rfl) (decide_eq_false h15) rfl (oPickF (eR rfl) (decide_eq_false h15) eC (oMov eZ (gSkip eZ rfl rfl (gSkip (eR rfl) rfl rfl (gSkip (eR rfl) rfl rfl (gSkip (eR rfl) rfl rfl (gSkip (eR rfl) rfl rfl (gSkip (eR rfl) rfl rfl (gSkip (eR rfl) rfl rfl (oPickF (eR rfl) rfl eC (xNil (TQ.qn ⟨false, H, (wk_mk [] (kR rfl rfl (kR rfl rfl (kR rfl rfl (kR rfl rfl (kR rfl rfl (kR rfl rfl SL.nil)))))) (BL.keep rfl BL.nil) (BK.cons rfl bZ rfl rfl BK.nil))⟩))))))))))))))))))
  ·exact AW.condF eZ (decide_eq_false h9) (AW.exit (TQ.qe (TQ.qe (BQ.qe (TQ.qn ⟨(), H, (wk_mk [384] SL.nil (BL.drop rfl BL.nil) BK.nil)⟩)))))
theorem c_spec_l13HeldsOk {a1 : TShard} {r : Bool} (H : m_spec_l13HeldsOk a1 = some r) : Fn Tryz.prog k_spec_l13HeldsOk (lent [(.agg (d_TShard a1))]) true [(.bool r)] := by
 refine i_spec_l13HeldsOk_fn (fle rfl) ?_
 rw [init_mk]
 refine AW.weaken (t := mk [(0, (.agg [(dI a1.Me), (.d (.sl 2 (List.map d_TRange a1.Own))), (.d (.sl 2 (List.map d_TRange a1.Frozen))), (.d (.sl 2 (List.map d_TCell a1.Cells))), (.d (.sl 4 (List.map d_TLock a1.Locks))), (.d (.sl 2 (List.map d_THeld a1.Helds))), (.d (.sl 1 (List.map d_i64 a1.Wounded))), (.d (.sl 1 (List.map d_i64 a1.Ended))), (dI a1.Rank)]))] [] (lk [])) (wk_mk [] (kv 0 (.agg [(dI a1.Me), (.d (.sl 2 (List.map d_TRange a1.Own))), (.d (.sl 2 (List.map d_TRange a1.Frozen))), (.d (.sl 2 (List.map d_TCell a1.Cells))), (.d (.sl 4 (List.map d_TLock a1.Locks))), (.d (.sl 2 (List.map d_THeld a1.Helds))), (.d (.sl 1 (List.map d_i64 a1.Wounded))), (.d (.sl 1 (List.map d_i64 a1.Ended))), (dI a1.Rank)]) rfl rfl SL.nil) BL.nil BK.nil) ?_
 unfold m_spec_l13HeldsOk at H
 unfold i_spec_l13HeldsOk
 refine aV (oBox (n := 64) (m := 9) (cs := [(dI a1.Me), (.d (.sl 2 (List.map d_TRange a1.Own))), (.d (.sl 2 (List.map d_TRange a1.Frozen))), (.d (.sl 2 (List.map d_TCell a1.Cells))), (.d (.sl 4 (List.map d_TLock a1.Locks))), (.d (.sl 2 (List.map d_THeld a1.Helds))), (.d (.sl 1 (List.map d_i64 a1.Wounded))), (.d (.sl 1 (List.map d_i64 a1.Ended))), (dI a1.Rank)]) rfl eZ rfl rfl nZ (oMov eC (xQ (AW.seqJ (fun t2 : Unit => spec_l13HeldsOk_j2 t2 = some r) (fun t2 => mk [] [] (lk [])) ?_ ?_))))
 ·intro t2 H
  unfold spec_l13HeldsOk_j2 at H
  refine aV (oMov eC (xQ (AW.ret ?_)))
  cases H
  exact eE rfl rfl
 ·refine aV (oMov eC (xQ (AW.block (AW.iter (fun s4 : Int => mk [(1, (.one (.ptr (.nm 64 0 0)))), (3, (oI s4))] [(64, (.vars 9 [(dI a1.Me), (.d (.sl 2 (List.map d_TRange a1.Own))), (.d (.sl 2 (List.map d_TRange a1.Frozen))), (.d (.sl 2 (List.map d_TCell a1.Cells))), (.d (.sl 4 (List.map d_TLock a1.Locks))), (.d (.sl 2 (List.map d_THeld a1.Helds))), (.d (.sl 1 (List.map d_i64 a1.Wounded))), (.d (.sl 1 (List.map d_i64 a1.Ended))), (dI a1.Rank)]))] (lk [])) H (wk_mkG [] (kR rfl rfl (kR rfl rfl SL.nil)) (BL.keep rfl BL.nil) (BK.cons rfl bZ rfl rfl BK.nil) GK.nil) ?_))))
  intro kb5 s4 H
  unfold spec_l13HeldsOk_b4 at H
  refine aS (aV (oMov (eR rfl) (oFaddrN (m := 5) (eR rfl) rfl (oLoadV (q := 5) (c := (.d (.sl 2 (List.map d_THeld a1.Helds)))) eZ bZ rfl rfl (oLenD eZ (n := a1.Helds.length) (List.length_map _) (oLss (eR rfl) eZ (xQ ?_)))))))
  rcases oite H with ⟨h6, H⟩ | ⟨h6, H⟩
  ·refine AW.condT eZ (decide_eq_true h6) (AW.skip (TQ.qn (AW.seqJ (fun t7 : Unit => (spec_l13HeldsOk_j7 kb5 s4) t7 = some r) (fun t7 => mk [(1, (.one (.ptr (.nm 64 0 0)))), (3, (oI s4))] [(64, (.vars 9 [(dI a1.Me), (.d (.sl 2 (List.map d_TRange a1.Own))), (.d (.sl 2 (List.map d_TRange a1.Frozen))), (.d (.sl 2 (List.map d_TCell a1.Cells))), (.d (.sl 4 (List.map d_TLock a1.Locks))), (.d (.sl 2 (List.map d_THeld a1.Helds))), (.d (.sl 1 (List.map d_i64 a1.Wounded))), (.d (.sl 1 (List.map d_i64 a1.Ended))), (dI a1.Rank)]))] (lk [])) ?_ ?_)))
   ·intro t7 H
    unfold spec_l13HeldsOk_j7 at H
    exact aR (oMov (eR rfl) (oAdd eZ eC (oMov eZ (xNil (TQ.qn ⟨(IntKind.wrap .i64 (s4 + 1)), H, (wk_mkG [] (kR rfl rfl (kR rfl rfl SL.nil)) (BL.keep rfl BL.nil) (BK.cons rfl bZ rfl rfl BK.nil) GK.nil)⟩)))))
   ·refine AW.block (aS (AW.regm (rmOne (oFaddrN (m := 5) (eR rfl) rfl (xNil (rmOne (oLoadV (q := 5) (c := (.d (.sl 2 (List.map d_THeld a1.Helds)))) eZ bZ rfl rfl (xNil (rmOne (oMov (eR rfl) (xNil (rmOne ?_))))))))))))
    obtain ⟨v9, h10, H⟩ := obind H
    refine oAtD (eR rfl) eZ h10 (xNil (rmOne (oLoadBA (es := [(dI v9.Tx), (.d (.sl 2 (List.map d_TCell v9.Writes)))]) eZ rfl (xNil (rmOne (oVar (n := 256) (m := 2) rfl rfl (nS rfl nZ) (xNil (rmOne (oStoreV (es := [(dI v9.Tx), (.d (.sl 2 (List.map d_TCell v9.Writes)))]) eZ (eR rfl) rfl rfl bZ rfl (xNil (rmRest (xQ (aS (AW.seqJ (fun t11 : Bool => (spec_l13HeldsOk_j11 v9 a1 (spec_l13HeldsOk_j7 kb5 s4)) t11 = some r) (fun t11 => mk [(1, (.one (.ptr (.nm 64 0 0)))), (3, (oI s4)), (4, (.one (.ptr (.nm 256 0 0)))), (43, (oB t11))] [(64, (.vars 9 [(dI a1.Me), (.d (.sl 2 (List.map d_TRange a1.Own))), (.d (.sl 2 (List.map d_TRange a1.Frozen))), (.d (.sl 2 (List.map d_TCell a1.Cells))), (.d (.sl 4 (List.map d_TLock a1.Locks))), (.d (.sl 2 (List.map d_THeld a1.Helds))), (.d (.sl 1 (List.map d_i64 a1.Wounded))), (.d (.sl 1 (List.map d_i64 a1.Ended))), (dI a1.Rank)])), (256, (.vars 2 [(dI v9.Tx), (.d (.sl 2 (List.map d_TCell v9.Writes)))]))] (lk [])) ?_ ?_))))))))))))))
    ·intro t11 H
     unfold spec_l13HeldsOk_j11 at H
     rcases oite H with ⟨h13, H⟩ | ⟨h13, H⟩
     ·refine AW.condT (eR rfl) h13 (aV (oMov eC (xQ (AW.ret (TQ.qr (BQ.qr (TQ.qr (TQ.qr (BQ.qr (TQ.qr ?_))))))))))
      cases H
      exact eE rfl rfl
     ·refine AW.condF (eR rfl) (nt h13) (AW.skip (TQ.qn (AW.seqJ (fun t14 : Unit => (spec_l13HeldsOk_j14 a1 v9 (spec_l13HeldsOk_j7 kb5 s4)) t14 = some r) (fun t14 => mk [(1, (.one (.ptr (.nm 64 0 0)))), (3, (oI s4)), (4, (.one (.ptr (.nm 256 0 0))))] [(64, (.vars 9 [(dI a1.Me), (.d (.sl 2 (List.map d_TRange a1.Own))), (.d (.sl 2 (List.map d_TRange a1.Frozen))), (.d (.sl 2 (List.map d_TCell a1.Cells))), (.d (.sl 4 (List.map d_TLock a1.Locks))), (.d (.sl 2 (List.map d_THeld a1.Helds))), (.d (.sl 1 (List.map d_i64 a1.Wounded))), (.d (.sl 1 (List.map d_i64 a1.Ended))), (dI a1.Rank)])), (256, (.vars 2 [(dI v9.Tx), (.d (.sl 2 (List.map d_TCell v9.Writes)))]))] (lk [])) ?_ ?_)))
      ·intro t14 H
       unfold spec_l13HeldsOk_j14 at H
       refine AW.seqJ (fun t16 : Bool => (spec_l13HeldsOk_j16 (spec_l13HeldsOk_j7 kb5 s4)) t16 = some r) (fun t16 => mk [(1, (.one (.ptr (.nm 64 0 0)))), (3, (oI s4)), (75, (oB t16))] [(64, (.vars 9 [(dI a1.Me), (.d (.sl 2 (List.map d_TRange a1.Own))), (.d (.sl 2 (List.map d_TRange a1.Frozen))), (.d (.sl 2 (List.map d_TCell a1.Cells))), (.d (.sl 4 (List.map d_TLock a1.Locks))), (.d (.sl 2 (List.map d_THeld a1.Helds))), (.d (.sl 1 (List.map d_i64 a1.Wounded))), (.d (.sl 1 (List.map d_i64 a1.Ended))), (dI a1.Rank)]))] (lk [])) ?_ ?_
       ·intro t16 H
        unfold spec_l13HeldsOk_j16 at H
        rcases oite H with ⟨h18, H⟩ | ⟨h18, H⟩
        ·refine AW.condT (eR rfl) h18 (aV (oMov eC (xQ (AW.ret (BQ.qr (TQ.qr (TQ.qr (BQ.qr (TQ.qr ?_)))))))))
         cases H
         exact eE rfl rfl
        ·exact AW.condF (eR rfl) (nt h18) (AW.skip (BQ.qn (TQ.qn ⟨(), H, (wk_mkG [] (kR rfl rfl (kR rfl rfl SL.nil)) (BL.keep rfl BL.nil) (BK.cons rfl bZ rfl rfl BK.nil) GK.nil)⟩)))
       ·refine aR (oFaddrN (m := 6) eZ rfl (oLoadV (q := 6) (c := (.d (.sl 1 (List.map d_i64 a1.Wounded)))) eZ bZ rfl rfl (oFaddrN (m := 0) (eR rfl) rfl (oLoadV (q := 0) (c := (dI v9.Tx)) eZ (bS rfl bZ) rfl rfl ?_))))
        obtain ⟨v19, h20, H⟩ := obind H
        refine oCall (u := (oB v19)) eC Cl.fn (c_spec_l12Has h20) (Evs.cons (eR rfl) (Evs.cons eZ Evs.nil)) (VDs.cons VD.plain (VDs.cons VD.plain VDs.nil)) rfl (oMov eZ ?_)
        rcases oite H with ⟨h21, H⟩ | ⟨h21, H⟩
        ·exact gSkip eZ h21 rfl (gSkip (eR rfl) h21 rfl (gSkip (eR rfl) h21 rfl (gSkip (eR rfl) h21 rfl (gSkip (eR rfl) h21 rfl (oPickT (eR rfl) h21 eC (xNil (TQ.qn ⟨true, H, (wk_mkG [256] (kR rfl rfl (kR rfl rfl (kR rfl rfl SL.nil))) (BL.keep rfl (BL.drop rfl BL.nil)) (BK.cons rfl bZ rfl rfl BK.nil) GK.nil)⟩)))))))
        ·refine gDo eZ (nt h21) (oFaddrN (m := 7) (eR rfl) rfl (gDo (eR rfl) (nt h21) (oLoadV (q := 7) (c := (.d (.sl 1 (List.map d_i64 a1.Ended)))) eZ bZ rfl rfl (gDo (eR rfl) (nt h21) (oFaddrN (m := 0) (eR rfl) rfl (gDo (eR rfl) (nt h21) (oLoadV (q := 0) (c := (dI v9.Tx)) eZ (bS rfl bZ) rfl rfl (gDo (eR rfl) (nt h21) ?_))))))))
         obtain ⟨v22, h23, H⟩ := obind H
         exact oCall (u := (oB v22)) eC Cl.fn (c_spec_l12Has h23) (Evs.cons (eR rfl) (Evs.cons eZ Evs.nil)) (VDs.cons VD.plain (VDs.cons VD.plain VDs.nil)) rfl (oPickF (eR rfl) (nt h21) eZ (xNil (TQ.qn ⟨v22, H, (wk_mkG [256] (kR rfl rfl (kR rfl rfl (kR rfl rfl SL.nil))) (BL.keep rfl (BL.drop rfl BL.nil)) (BK.cons rfl bZ rfl rfl BK.nil) GK.nil)⟩)))
      ·refine aV (oMov eC (xQ (AW.block (AW.iter (fun s24 : Int => mk [(1, (.one (.ptr (.nm 64 0 0)))), (3, (oI s4)), (4, (.one (.ptr (.nm 256 0 0)))), (5, (oI s24))] [(64, (.vars 9 [(dI a1.Me), (.d (.sl 2 (List.map d_TRange a1.Own))), (.d (.sl 2 (List.map d_TRange a1.Frozen))), (.d (.sl 2 (List.map d_TCell a1.Cells))), (.d (.sl 4 (List.map d_TLock a1.Locks))), (.d (.sl 2 (List.map d_THeld a1.Helds))), (.d (.sl 1 (List.map d_i64 a1.Wounded))), (.d (.sl 1 (List.map d_i64 a1.Ended))), (dI a1.Rank)])), (256, (.vars 2 [(dI v9.Tx), (.d (.sl 2 (List.map d_TCell v9.Writes)))]))] (lk [])) H (wk_mkG [] (kR rfl rfl (kR rfl rfl (kR rfl rfl (kR rfl rfl SL.nil)))) (BL.keep rfl (BL.keep rfl BL.nil)) (BK.cons rfl bZ rfl rfl (BK.cons rfl (bS rfl bZ) rfl rfl BK.nil)) GK.nil) ?_))))
       intro kb25 s24 H
       unfold spec_l13HeldsOk_b24 at H
       refine aS (aV (oMov (eR rfl) (oFaddrN (m := 1) (eR rfl) rfl (oLoadV (q := 1) (c := (.d (.sl 2 (List.map d_TCell v9.Writes)))) eZ (bS rfl bZ) rfl rfl (oLenD eZ (n := v9.Writes.length) (List.length_map _) (oLss (eR rfl) eZ (xQ ?_)))))))
       rcases oite H with ⟨h26, H⟩ | ⟨h26, H⟩
       ·refine AW.condT eZ (decide_eq_true h26) (AW.skip (TQ.qn (aS (AW.block (aS (AW.regd (oFaddrN (m := 4) (eR rfl) rfl (oLoadV (q := 4) (c := (.d (.sl 4 (List.map d_TLock a1.Locks)))) eZ (hB rfl bZ) rfl rfl (oFaddrN (m := 0) (eR rfl) rfl (oLoadV (q := 0) (c := (dI v9.Tx)) eZ (hB rfl (bS rfl bZ)) rfl rfl (oFaddrN (m := 1) (eR rfl) rfl (oLoadV (q := 1) (c := (.d (.sl 2 (List.map d_TCell v9.Writes)))) eZ (bS rfl bZ) rfl rfl (oMov (eR rfl) ?_)))))))))))))
        obtain ⟨v27, h28, H⟩ := obind H
        refine oAtD (eR rfl) eZ h28 (oFaddrB (m := 0) eZ rfl (oLoadB (e := (.int .i64 v27.Key)) eZ rfl ?_))
        obtain ⟨v29, h30, H⟩ := obind H
        refine oCall (u := (.agg [(dI v29.Lo), (dI v29.Hi)])) eC Cl.fn (c_spec_l10One h30) (Evs.cons eZ Evs.nil) (VDs.cons VD.plain VDs.nil) rfl ?_
        obtain ⟨v31, h32, H⟩ := obind H
        refine oCall (u := (oB v31)) eC Cl.fn (c_spec_l12Holds h32) (Evs.cons (eR rfl) (Evs.cons (eR rfl) (Evs.cons eZ (Evs.cons eC Evs.nil)))) (VDs.cons VD.plain (VDs.cons VD.plain (VDs.cons (VD.agg rfl) (VDs.cons VD.plain VDs.nil)))) rfl (oInv eZ (xQ (AW.weaken (wk_mkG [] (kr 63 rfl rfl (kr 1 rfl rfl (kr 3 rfl rfl (kr 4 rfl rfl (kr 5 rfl rfl SL.nil))))) (BL.keep rfl (BL.keep rfl BL.nil)) (BK.cons (n := 64) rfl bZ rfl rfl (BK.cons (n := 256) rfl (bS rfl bZ) rfl rfl BK.nil)) GK.nil) ?_)))
        rcases oite H with ⟨h33, H⟩ | ⟨h33, H⟩
        ·exact AW.condF eZ (congrArg Bool.not h33) (AW.skip (BQ.qn (TQ.qn (aR (oMov (eR rfl) (oAdd eZ eC (oMov eZ (xNil (TQ.qn ⟨(IntKind.wrap .i64 (s24 + 1)), H, (wk_mkG [] (kR rfl rfl (kR rfl rfl (kR rfl rfl (kR rfl rfl SL.nil)))) (BL.keep rfl (BL.keep rfl BL.nil)) (BK.cons rfl bZ rfl rfl (BK.cons rfl (bS rfl bZ) rfl rfl BK.nil)) GK.nil)⟩)))))))))
        ·refine AW.condT eZ (congrArg Bool.not (nt h33)) (aV (oMov eC (xQ (AW.ret (BQ.qr (TQ.qr (TQ.qr (BQ.qr (TQ.qr (BQ.qr (TQ.qr (TQ.qr (BQ.qr (TQ.qr ?_))))))))))))))
         cases H
         exact eE rfl rfl
       ·exact AW.condF eZ (decide_eq_false h26) (AW.exit (TQ.qe (TQ.qe (BQ.qe (TQ.qn ⟨(), H, (wk_mkG [] (kR rfl rfl (kR rfl rfl (kR rfl rfl SL.nil))) (BL.keep rfl (BL.keep rfl BL.nil)) (BK.cons rfl bZ rfl rfl (BK.cons rfl (bS rfl bZ) rfl rfl BK.nil)) GK.nil)⟩)))))
    ·refine AW.regd (oFaddrN (m := 0) eZ rfl (oLoadV (q := 0) (c := (dI v9.Tx)) eZ bZ rfl rfl ?_))
     obtain ⟨v34, h35, H⟩ := obind H
     refine oCall (u := (oB v34)) eC Cl.fn (c_spec_l12Tx h35) (Evs.cons eZ Evs.nil) (VDs.cons VD.plain VDs.nil) rfl (oInv eZ (oMov eZ ?_))
     rcases oite H with ⟨h36, H⟩ | ⟨h36, H⟩
     ·refine gDo eZ (congrArg Bool.not h36) (oMov (eR rfl) (gDo (eR rfl) (congrArg Bool.not h36) (oGtr eZ eC (gDo (eR rfl) (congrArg Bool.not h36) (oMov eZ ?_)))))
      rcases oite H with ⟨h37, H⟩ | ⟨h37, H⟩
      ·refine gDo eZ (decide_eq_true h37) (oFaddrN (m := 5) (eR rfl) rfl (gDo (eR rfl) (decide_eq_true h37) (oLoadV (q := 5) (c := (.d (.sl 2 (List.map d_THeld a1.Helds)))) eZ (bS rfl (bS rfl bZ)) rfl rfl (gDo (eR rfl) (decide_eq_true h37) (oMov (eR rfl) (gDo (eR rfl) (decide_eq_true h37) (oSub eZ eC (gDo (eR rfl) (decide_eq_true h37) ?_))))))))
       obtain ⟨v38, h39, H⟩ := obind H
       refine oAtD (eR rfl) eZ h39 (gDo (eR rfl) (decide_eq_true h37) (oFaddrB (m := 0) eZ rfl (gDo (eR rfl) (decide_eq_true h37) (oLoadB (e := (.int .i64 v38.Tx)) eZ rfl (gDo (eR rfl) (decide_eq_true h37) (oFaddrN (m := 0) (eR rfl) rfl (gDo (eR rfl) (decide_eq_true h37) (oLoadV (q := 0) (c := (dI v9.Tx)) eZ bZ rfl rfl (gDo (eR rfl) (decide_eq_true h37) (oGeq (eR rfl) eZ (gDo (eR rfl) (congrArg Bool.not h36) (oPickT (eR rfl) (decide_eq_true h37) eZ (oPickF (eR rfl) (congrArg Bool.not h36) eZ (oMov eZ ?_))))))))))))))
       rcases oite H with ⟨h40, H⟩ | ⟨h40, H⟩
       ·exact gSkip eZ (decide_eq_true h40) rfl (gSkip (eR rfl) (decide_eq_true h40) rfl (gSkip (eR rfl) (decide_eq_true h40) rfl (gSkip (eR rfl) (decide_eq_true h40) rfl (oPickT (eR rfl) (decide_eq_true h40) eC (xNil (TQ.qn ⟨true, H, (wk_mkG [] (kR rfl rfl (kR rfl rfl (kR rfl rfl (kR rfl rfl SL.nil)))) (BL.keep rfl (BL.keep rfl (BL.keep rfl BL.nil))) (BK.cons rfl (bS rfl (bS rfl bZ)) rfl rfl (BK.cons rfl bZ rfl rfl BK.nil)) GK.nil)⟩))))))
       ·refine gDo eZ (decide_eq_false h40) (oFaddrN (m := 1) (eR rfl) rfl (gDo (eR rfl) (decide_eq_false h40) (oLoadV (q := 1) (c := (.d (.sl 2 (List.map d_TCell v9.Writes)))) eZ bZ rfl rfl (gDo (eR rfl) (decide_eq_false h40) ?_))))
        obtain ⟨v41, h42, H⟩ := obind H
        exact oCall (u := (oB v41)) eC Cl.fn (c_spec_WritesOk h42) (Evs.cons eZ Evs.nil) (VDs.cons VD.plain VDs.nil) rfl (gDo (eR rfl) (decide_eq_false h40) (oInv eZ (oPickF (eR rfl) (decide_eq_false h40) eZ (xNil (TQ.qn ⟨(!v41), H, (wk_mkG [] (kR rfl rfl (kR rfl rfl (kR rfl rfl (kR rfl rfl SL.nil)))) (BL.keep rfl (BL.keep rfl (BL.keep rfl BL.nil))) (BK.cons rfl (bS rfl (bS rfl bZ)) rfl rfl (BK.cons rfl bZ rfl rfl BK.nil)) GK.nil)⟩)))))
      ·refine gSkip eZ (decide_eq_false h37) rfl (gSkip (eR rfl) (decide_eq_false h37) rfl (gSkip (eR rfl) (decide_eq_false h37) rfl (gSkip (eR rfl) (decide_eq_false h37) rfl (gSkip (eR rfl) (decide_eq_false h37) rfl (gSkip (eR rfl) (decide_eq_false h37) rfl (gSkip (eR rfl) (decide_eq_false h37) rfl (gSkip (eR rfl) (decide_eq_false h37) rfl (gSkip (eR rfl) (decide_eq_false h37) rfl (gSkip (eR rfl) (decide_eq_false h37) rfl (gDo (eR rfl) (congrArg Bool.not h36) (oPickF (eR rfl) (decide_eq_false h37) eC (oPickF (eR rfl) (congrArg Bool.not h36) eZ (oMov eZ (gDo eZ rfl (oFaddrN (m := 1) (eR rfl) rfl (gDo (eR rfl) rfl (oLoadV (q := 1) (c := (.d (.sl 2 (List.map d_TCell v9.Writes)))) eZ bZ rfl rfl (gDo (eR rfl) rfl ?_))))))))))))))))))
       obtain ⟨v43, h44, H⟩ := obind H
       exact oCall (u := (oB v43)) eC Cl.fn (c_spec_WritesOk h44) (Evs.cons eZ Evs.nil) (VDs.cons VD.plain VDs.nil) rfl (gDo (eR rfl) rfl (oInv eZ (oPickF (eR rfl) rfl eZ (xNil (TQ.qn ⟨(!v43), H, (wk_mkG [] (kR rfl rfl (kR rfl rfl (kR rfl rfl (kR rfl rfl SL.nil)))) (BL.keep rfl (BL.keep rfl (BL.keep rfl BL.nil))) (BK.cons rfl (bS rfl (bS rfl bZ)) rfl rfl (BK.cons rfl bZ rfl rfl BK.nil)) GK.nil)⟩)))))
     ·exact gSkip eZ (congrArg Bool.not (nt h36)) rfl (gSkip (eR rfl) (congrArg Bool.not (nt h36)) rfl (gSkip (eR rfl) (congrArg Bool.not (nt h36)) rfl (gSkipU eZ rfl (gSkipU (eR rfl) rfl (gSkipU (eR rfl) rfl (gSkipU (eR rfl) rfl (gSkipU (eR rfl) rfl (gSkipU (eR rfl) rfl (gSkipU (eR rfl) rfl (gSkipU (eR rfl) rfl (gSkipU (eR rfl) rfl (gSkipU (eR rfl) rfl (gSkip (eR rfl) (congrArg Bool.not (nt h36)) rfl (oPickT (eR rfl) (congrArg Bool.not (nt h36)) eC (oMov eZ (gSkip eZ rfl rfl (gSkip (eR rfl) rfl rfl (gSkip (eR rfl) rfl rfl (gSkip (eR rfl) rfl rfl (oPickT (eR rfl) rfl eC (xNil (TQ.qn ⟨true, H, (wk_mkG [] (kR rfl rfl (kR rfl rfl (kR rfl rfl (kR rfl rfl SL.nil)))) (BL.keep rfl (BL.keep rfl (BL.keep rfl BL.nil))) (BK.cons rfl (bS rfl (bS rfl bZ)) rfl rfl (BK.cons rfl bZ rfl rfl BK.nil)) GK.nil)⟩))))))))))))))))))))))
  ·exact AW.condF eZ (decide_eq_false h6) (AW.exit (TQ.qe (TQ.qe (BQ.qe (TQ.qn ⟨(), H, (wk_mkG [64] SL.nil (BL.drop rfl BL.nil) BK.nil GK.nil)⟩)))))
theorem c_spec_l11Get {a1 : (List TCell)} {a2 : Int} {r : Int} (H : m_spec_l11Get a1 a2 = some r) : Fn Tryz.prog k_spec_l11Get (lent [(.sl 2 (List.map d_TCell a1)), (.int .i64 a2)]) true [(.int .i64 r)] := by
 refine i_spec_l11Get_fn (fle rfl) ?_
 rw [init_mk]
 refine AW.weaken (wk_mk [] (kv 0 (.one (.d (.sl 2 (List.map d_TCell a1)))) rfl rfl (kv 1 (oI a2) rfl rfl SL.nil)) BL.nil BK.nil) ?_
 unfold m_spec_l11Get at H
 unfold i_spec_l11Get
 refine aV (oMov eC (xQ (AW.seqJ (fun t3 : Unit => spec_l11Get_j3 t3 = some r) (fun t3 => mk [] [] noG) ?_ ?_)))
 ·intro t3 H
  unfold spec_l11Get_j3 at H
  refine aV (oMov eC (xQ (AW.ret ?_)))
  cases H
  exact eE rfl rfl
 ·refine aV (oMov eC (xQ (AW.block (AW.iter (fun s5 : Int => mk [(0, (.one (.d (.sl 2 (List.map d_TCell a1))))), (1, (oI a2)), (5, (oI s5))] [] noG) H (wk_mk [] (kR rfl rfl (kR rfl rfl (kR rfl rfl SL.nil))) BL.nil BK.nil) ?_))))
  intro kb6 s5 H
  unfold spec_l11Get_b5 at H
  refine aS (aV (oMov (eR rfl) (oMov (eR rfl) (oLenD eZ (n := a1.length) (List.length_map _) (oLss (eR rfl) eZ (xQ ?_))))))
  rcases oite H with ⟨h7, H⟩ | ⟨h7, H⟩
  ·refine AW.condT eZ (decide_eq_true h7) (AW.skip (TQ.qn (aS (AW.block (aV (oMov (eR rfl) (oMov (eR rfl) ?_)))))))
   obtain ⟨v8, h9, H⟩ := obind H
   refine oAtD (eR rfl) eZ h9 (oFaddrB (m := 0) eZ rfl (oLoadB (e := (.int .i64 v8.Key)) eZ rfl (oMov (eR rfl) (oEql (eR rfl) eZ (xQ ?_)))))
   rcases oite H with ⟨h10, H⟩ | ⟨h10, H⟩
   ·refine AW.condT eZ (decide_eq_true h10) (aV (oMov (eR rfl) (oMov (eR rfl) ?_)))
    obtain ⟨v11, h12, H⟩ := obind H
    refine oAtD (eR rfl) eZ h12 (oFaddrB (m := 1) eZ rfl (oLoadB (e := (.int .i64 v11.Value)) eZ rfl (oMov eZ (xQ (AW.weaken (wk_mk [] (kr 4 rfl rfl SL.nil) BL.nil BK.nil) (AW.ret (BQ.qr (TQ.qr (TQ.qr (BQ.qr (TQ.qr ?_)))))))))))
    cases H
    exact eE rfl rfl
   ·exact AW.condF eZ (decide_eq_false h10) (AW.skip (BQ.qn (TQ.qn (aR (oMov (eR rfl) (oAdd eZ eC (oMov eZ (xNil (TQ.qn ⟨(IntKind.wrap .i64 (s5 + 1)), H, (wk_mk [] (kR rfl rfl (kR rfl rfl (kR rfl rfl SL.nil))) BL.nil BK.nil)⟩)))))))))
  ·exact AW.condF eZ (decide_eq_false h7) (AW.exit (TQ.qe (TQ.qe (BQ.qe (TQ.qn ⟨(), H, (wk_mk [] SL.nil BL.nil BK.nil)⟩)))))
theorem c_spec_StoreNew {a1 : (List TCell)} {a2 : (List TCell)} {r : Int} (H : m_spec_StoreNew a1 a2 = some r) : Fn Tryz.prog k_spec_StoreNew (lent [(.sl 2 (List.map d_TCell a1)), (.sl 2 (List.map d_TCell a2))]) true [(.int .i64 r)] := by
 refine i_spec_StoreNew_fn (fle rfl) ?_
 rw [init_mk]
 refine AW.weaken (wk_mk [] (kv 0 (.one (.d (.sl 2 (List.map d_TCell a1)))) rfl rfl (kv 1 (.one (.d (.sl 2 (List.map d_TCell a2)))) rfl rfl SL.nil)) BL.nil BK.nil) ?_
 unfold m_spec_StoreNew at H
 unfold i_spec_StoreNew
 refine aV (oMov eC (xQ (aS (AW.seqJ (fun t3 : Bool => (spec_StoreNew_j3 a2 a1) t3 = some r) (fun t3 => mk [(0, (.one (.d (.sl 2 (List.map d_TCell a1))))), (1, (.one (.d (.sl 2 (List.map d_TCell a2))))), (14, (oB t3))] [] noG) ?_ ?_))))
 ·intro t3 H
  unfold spec_StoreNew_j3 at H
  rcases oite H with ⟨h5, H⟩ | ⟨h5, H⟩
  ·refine AW.condT (eR rfl) h5 (aV (oMov eC (xQ (AW.ret (TQ.qr ?_)))))
   cases H
   exact eE rfl rfl
  ·refine AW.condF (eR rfl) (nt h5) (AW.skip (TQ.qn (aV (oMov eC (xQ (AW.seqJ (fun t6 : Int => spec_StoreNew_j6 t6 = some r) (fun t6 => mk [(5, (oI t6))] [] noG) ?_ ?_))))))
   ·intro t6 H
    unfold spec_StoreNew_j6 at H
    refine aV (oMov eZ (oMov eZ (xQ (AW.ret ?_))))
    cases H
    exact eE rfl rfl
   ·refine aV (oMov eC (xQ (AW.block (AW.iter (fun s8 : (Int × Int) => mk [(0, (.one (.d (.sl 2 (List.map d_TCell a1))))), (1, (.one (.d (.sl 2 (List.map d_TCell a2))))), (5, (oI s8.1)), (6, (oI s8.2))] [] noG) H (wk_mk [] (kR rfl rfl (kR rfl rfl (kR rfl rfl (kR rfl rfl SL.nil)))) BL.nil BK.nil) ?_))))
    intro kb9 s8 H
    unfold spec_StoreNew_b8 at H
    refine aS (aV (oMov (eR rfl) (oMov (eR rfl) (oLenD eZ (n := a2.length) (List.length_map _) (oLss (eR rfl) eZ (xQ ?_))))))
    rcases oite H with ⟨h10, H⟩ | ⟨h10, H⟩
    ·refine AW.condT eZ (decide_eq_true h10) (AW.skip (TQ.qn (aS (AW.block (AW.seqJ (fun t11 : Bool => (spec_StoreNew_j11 kb9 s8) t11 = some r) (fun t11 => mk [(0, (.one (.d (.sl 2 (List.map d_TCell a1))))), (1, (.one (.d (.sl 2 (List.map d_TCell a2))))), (5, (oI s8.1)), (6, (oI s8.2)), (36, (oB t11))] [] noG) ?_ ?_)))))
     ·intro t11 H
      unfold spec_StoreNew_j11 at H
      rcases oite H with ⟨h13, H⟩ | ⟨h13, H⟩
      ·exact AW.condT (eR rfl) h13 (aR (oMov (eR rfl) (oAdd eZ eC (oMov eZ (xNil (BQ.qn (TQ.qn (aR (oMov (eR rfl) (oAdd eZ eC (oMov eZ (xNil (TQ.qn ⟨((IntKind.wrap .i64 (s8.1 + 1)), (IntKind.wrap .i64 (s8.2 + 1))), H, (wk_mk [] (kR rfl rfl (kR rfl rfl (kR rfl rfl (kR rfl rfl SL.nil)))) BL.nil BK.nil)⟩)))))))))))))
      ·exact AW.condF (eR rfl) (nt h13) (AW.skip (BQ.qn (TQ.qn (aR (oMov (eR rfl) (oAdd eZ eC (oMov eZ (xNil (TQ.qn ⟨(s8.1, (IntKind.wrap .i64 (s8.2 + 1))), H, (wk_mk [] (kR rfl rfl (kR rfl rfl (kR rfl rfl (kR rfl rfl SL.nil)))) BL.nil BK.nil)⟩)))))))))
     ·refine aR (oMov (eR rfl) (oMov (eR rfl) ?_))
      obtain ⟨v14, h15, H⟩ := obind H
      refine oAtD (eR rfl) eZ h15 (oFaddrB (m := 1) eZ rfl (oLoadB (e := (.int .i64 v14.Value)) eZ rfl (oGeq eZ eC (oMov eZ ?_))))
      rcases oite H with ⟨h16, H⟩ | ⟨h16, H⟩
      ·refine gDo eZ (decide_eq_true h16) (oMov (eR rfl) (gDo (eR rfl) (decide_eq_true h16) (oMov (eR rfl) (gDo (eR rfl) (decide_eq_true h16) (oMov (eR rfl) (gDo (eR rfl) (decide_eq_true h16) ?_))))))
       obtain ⟨v17, h18, H⟩ := obind H
       refine oAtD (eR rfl) eZ h18 (gDo (eR rfl) (decide_eq_true h16) (oFaddrB (m := 0) eZ rfl (gDo (eR rfl) (decide_eq_true h16) (oLoadB (e := (.int .i64 v17.Key)) eZ rfl (gDo (eR rfl) (decide_eq_true h16) ?_)))))
       obtain ⟨v19, h20, H⟩ := obind H
       exact oCall (u := (oI v19)) eC Cl.fn (c_spec_l11Get h20) (Evs.cons (eR rfl) (Evs.cons eZ Evs.nil)) (VDs.cons VD.plain (VDs.cons VD.plain VDs.nil)) rfl (gDo (eR rfl) (decide_eq_true h16) (oLss eZ eC (oPickT (eR rfl) (decide_eq_true h16) eZ (xNil (TQ.qn ⟨(decide (v19 < 0)), H, (wk_mk [] (kR rfl rfl (kR rfl rfl (kR rfl rfl (kR rfl rfl (kR rfl rfl SL.nil))))) BL.nil BK.nil)⟩)))))
      ·exact gSkip eZ (decide_eq_false h16) rfl (gSkip (eR rfl) (decide_eq_false h16) rfl (gSkip (eR rfl) (decide_eq_false h16) rfl (gSkip (eR rfl) (decide_eq_false h16) rfl (gSkip (eR rfl) (decide_eq_false h16) rfl (gSkip (eR rfl) (decide_eq_false h16) rfl (gSkip (eR rfl) (decide_eq_false h16) rfl (gSkip (eR rfl) (decide_eq_false h16) rfl (oPickF (eR rfl) (decide_eq_false h16) eC (xNil (TQ.qn ⟨false, H, (wk_mk [] (kR rfl rfl (kR rfl rfl (kR rfl rfl (kR rfl rfl (kR rfl rfl SL.nil))))) BL.nil BK.nil)⟩))))))))))
    ·exact AW.condF eZ (decide_eq_false h10) (AW.exit (TQ.qe (TQ.qe (BQ.qe (TQ.qn ⟨s8.1, H, (wk_mk [] (kR rfl rfl SL.nil) BL.nil BK.nil)⟩)))))
 ·refine aR (oMov (eR rfl) ?_)
  obtain ⟨v21, h22, H⟩ := obind H
  refine oCall (u := (oB v21)) eC Cl.fn (c_spec_StoreOk h22) (Evs.cons eZ Evs.nil) (VDs.cons VD.plain VDs.nil) rfl (oInv eZ (oMov eZ ?_))
  rcases oite H with ⟨h23, H⟩ | ⟨h23, H⟩
  ·refine gDo eZ (congrArg Bool.not h23) (oMov (eR rfl) (gDo (eR rfl) (congrArg Bool.not h23) ?_))
   obtain ⟨v24, h25, H⟩ := obind H
   exact oCall (u := (oB v24)) eC Cl.fn (c_spec_WritesOk h25) (Evs.cons eZ Evs.nil) (VDs.cons VD.plain VDs.nil) rfl (gDo (eR rfl) (congrArg Bool.not h23) (oInv eZ (oPickF (eR rfl) (congrArg Bool.not h23) eZ (xNil (TQ.qn ⟨(!v24), H, (wk_mk [] (kR rfl rfl (kR rfl rfl (kR rfl rfl SL.nil))) BL.nil BK.nil)⟩)))))
  ·exact gSkip eZ (congrArg Bool.not (nt h23)) rfl (gSkip (eR rfl) (congrArg Bool.not (nt h23)) rfl (gSkip (eR rfl) (congrArg Bool.not (nt h23)) rfl (oPickT (eR rfl) (congrArg Bool.not (nt h23)) eC (xNil (TQ.qn ⟨true, H, (wk_mk [] (kR rfl rfl (kR rfl rfl (kR rfl rfl SL.nil))) BL.nil BK.nil)⟩)))))
theorem c_spec_l13New {a1 : TShard} {r : Int} (H : m_spec_l13New a1 = some r) : Fn Tryz.prog k_spec_l13New (lent [(.agg (d_TShard a1))]) true [(.int .i64 r)] := by
 refine i_spec_l13New_fn (fle rfl) ?_
 rw [init_mk]
 refine AW.weaken (wk_mk [] (kv 0 (.agg [(dI a1.Me), (.d (.sl 2 (List.map d_TRange a1.Own))), (.d (.sl 2 (List.map d_TRange a1.Frozen))), (.d (.sl 2 (List.map d_TCell a1.Cells))), (.d (.sl 4 (List.map d_TLock a1.Locks))), (.d (.sl 2 (List.map d_THeld a1.Helds))), (.d (.sl 1 (List.map d_i64 a1.Wounded))), (.d (.sl 1 (List.map d_i64 a1.Ended))), (dI a1.Rank)]) rfl rfl SL.nil) BL.nil BK.nil) ?_
 unfold m_spec_l13New at H
 unfold i_spec_l13New
 refine aV (oBox (n := 64) (m := 9) (cs := [(dI a1.Me), (.d (.sl 2 (List.map d_TRange a1.Own))), (.d (.sl 2 (List.map d_TRange a1.Frozen))), (.d (.sl 2 (List.map d_TCell a1.Cells))), (.d (.sl 4 (List.map d_TLock a1.Locks))), (.d (.sl 2 (List.map d_THeld a1.Helds))), (.d (.sl 1 (List.map d_i64 a1.Wounded))), (.d (.sl 1 (List.map d_i64 a1.Ended))), (dI a1.Rank)]) rfl eZ rfl rfl nZ (oMov eC (xQ (aV (oMov eC (xQ (AW.seqJ (fun t2 : Int => spec_l13New_j2 t2 = some r) (fun t2 => mk [(3, (oI t2))] [] noG) ?_ ?_)))))))
 ·intro t2 H
  unfold spec_l13New_j2 at H
  refine aV (oMov eZ (oMov eZ (xQ (AW.ret ?_))))
  cases H
  exact eE rfl rfl
 ·refine aV (oMov eC (xQ (AW.block (AW.iter (fun s4 : (Int × Int) => mk [(1, (.one (.ptr (.nm 64 0 0)))), (3, (oI s4.1)), (4, (oI s4.2))] [(64, (.vars 9 [(dI a1.Me), (.d (.sl 2 (List.map d_TRange a1.Own))), (.d (.sl 2 (List.map d_TRange a1.Frozen))), (.d (.sl 2 (List.map d_TCell a1.Cells))), (.d (.sl 4 (List.map d_TLock a1.Locks))), (.d (.sl 2 (List.map d_THeld a1.Helds))), (.d (.sl 1 (List.map d_i64 a1.Wounded))), (.d (.sl 1 (List.map d_i64 a1.Ended))), (dI a1.Rank)]))] noG) H (wk_mk [] (kR rfl rfl (kR rfl rfl (kR rfl rfl SL.nil))) (BL.keep rfl BL.nil) (BK.cons rfl bZ rfl rfl BK.nil)) ?_))))
  intro kb5 s4 H
  unfold spec_l13New_b4 at H
  refine aS (aV (oMov (eR rfl) (oFaddrN (m := 5) (eR rfl) rfl (oLoadV (q := 5) (c := (.d (.sl 2 (List.map d_THeld a1.Helds)))) eZ bZ rfl rfl (oLenD eZ (n := a1.Helds.length) (List.length_map _) (oLss (eR rfl) eZ (xQ ?_)))))))
  rcases oite H with ⟨h6, H⟩ | ⟨h6, H⟩
  ·refine AW.condT eZ (decide_eq_true h6) (AW.skip (TQ.qn (aS (AW.block (AW.regd (oMov (eR rfl) (oFaddrN (m := 3) (eR rfl) rfl (oLoadV (q := 3) (c := (.d (.sl 2 (List.map d_TCell a1.Cells)))) eZ bZ rfl rfl (oFaddrN (m := 5) (eR rfl) rfl (oLoadV (q := 5) (c := (.d (.sl 2 (List.map d_THeld a1.Helds)))) eZ bZ rfl rfl (oMov (eR rfl) ?_)))))))))))
   obtain ⟨v7, h8, H⟩ := obind H
   refine oAtD (eR rfl) eZ h8 (oFaddrB (m := 1) eZ rfl (oLoadB (e := (.sl 2 (List.map d_TCell v7.Writes))) eZ rfl ?_))
   obtain ⟨v9, h10, H⟩ := obind H
   exact oCall (u := (oI v9)) eC Cl.fn (c_spec_StoreNew h10) (Evs.cons (eR rfl) (Evs.cons eZ Evs.nil)) (VDs.cons VD.plain (VDs.cons VD.plain VDs.nil)) rfl (oAdd (eR rfl) eZ (oMov eZ (xNil (BQ.qn (TQ.qn (AW.weaken (wk_mk [] (kr 3 rfl rfl (kr 1 rfl rfl (kr 4 rfl rfl SL.nil))) (BL.keep rfl BL.nil) (BK.cons (n := 64) rfl bZ rfl rfl BK.nil)) (aR (oMov (eR rfl) (oAdd eZ eC (oMov eZ (xNil (TQ.qn ⟨((IntKind.wrap .i64 (s4.1 + v9)), (IntKind.wrap .i64 (s4.2 + 1))), H, (wk_mk [] (kR rfl rfl (kR rfl rfl (kR rfl rfl SL.nil))) (BL.keep rfl BL.nil) (BK.cons rfl bZ rfl rfl BK.nil))⟩))))))))))))
  ·exact AW.condF eZ (decide_eq_false h6) (AW.exit (TQ.qe (TQ.qe (BQ.qe (TQ.qn ⟨s4.1, H, (wk_mk [64] (kR rfl rfl SL.nil) (BL.drop rfl BL.nil) BK.nil)⟩)))))
end Go.AW
