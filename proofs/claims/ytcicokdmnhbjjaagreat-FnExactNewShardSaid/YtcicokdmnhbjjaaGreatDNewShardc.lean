/- That functions of the program compute what the plain functions say: printed by a program of the prover's own (tool/dec.py). Conditions: each theorem's own. -/
import Derived.Test.YtcicokdmnhbjjaaGreatMNewShard
import Derived.Test.YtcicokdmnhbjjaaGreatGNewShard
import Derived.Test.YtcicokdmnhbjjaaGreatSNewShard
import Derived.Test.YtcicokdmnhbjjaaGreatYt
import Derived.KernelRfl
import Derived.Test.YtcicokdmnhbjjaaGreatDNewSharda
import Derived.Test.YtcicokdmnhbjjaaGreatDNewShardb
set_option linter.unusedVariables false
set_option linter.unusedSimpArgs false
set_option maxRecDepth 100000
namespace Go.AW
open Go.Proofs
theorem c_laws_eqHeldS {a1 : (List THeld)} {a2 : (List THeld)} {r : Bool} (H : m_laws_eqHeldS a1 a2 = some r) : Fn Tryz.prog 62 (lent [(.sl 2 (List.map d_THeld a1)), (.sl 2 (List.map d_THeld a2))]) true [(.bool r)] := by
 refine f62 (fle rfl) ?_
 rw [init_mk]
 refine AW.weaken (wk_mk [] (kv 0 (.one (.d (.sl 2 (List.map d_THeld a1)))) rfl rfl (kv 1 (.one (.d (.sl 2 (List.map d_THeld a2)))) rfl rfl SL.nil)) BL.nil BK.nil) ?_
 unfold m_laws_eqHeldS at H
 unfold i62
 refine aV (oMov eC (xQ (aS (aV (oMov (eR rfl) (oLenD eZ (n := a1.length) (List.length_map _) (oMov (eR rfl) (oLenD eZ (n := a2.length) (List.length_map _) (oNeq (eR rfl) eZ (xQ ?_))))))))))
 rcases oite H with ⟨h3, H⟩ | ⟨h3, H⟩
 ·refine AW.condT eZ (dT h3) (aV (oMov eC (xQ (AW.ret (TQ.qr ?_)))))
  cases H
  exact eE rfl rfl
 ·refine AW.condF eZ (dF h3) (AW.skip (TQ.qn (AW.seqJ (fun t4 : Unit => laws_eqHeldS_j4 t4 = some r) (fun t4 => mk [] [] noG) ?_ ?_)))
  ·intro t4 H
   unfold laws_eqHeldS_j4 at H
   refine aV (oMov eC (xQ (AW.ret ?_)))
   cases H
   exact eE rfl rfl
  ·refine aV (oMov eC (xQ (AW.block (AW.iter (fun s6 : Int => mk [(0, (.one (.d (.sl 2 (List.map d_THeld a1))))), (1, (.one (.d (.sl 2 (List.map d_THeld a2))))), (5, (oI s6))] [] noG) H (wk_mk [] (kR rfl rfl (kR rfl rfl (kR rfl rfl SL.nil))) BL.nil BK.nil) ?_))))
   intro kb7 s6 H
   unfold laws_eqHeldS_b6 at H
   refine aS (aV (oMov (eR rfl) (oMov (eR rfl) (oLenD eZ (n := a1.length) (List.length_map _) (oLss (eR rfl) eZ (xQ ?_))))))
   rcases oite H with ⟨h8, H⟩ | ⟨h8, H⟩
   ·refine AW.condT eZ (dT h8) (AW.skip (TQ.qn (aS (AW.block (aS (AW.regd (oMov (eR rfl) (oMov (eR rfl) ?_))))))))
    obtain ⟨v9, h10, H⟩ := obind H
    refine oAtD (eR rfl) eZ h10 (oLoadBA (es := [(dI v9.Tx), (.d (.sl 2 (List.map d_TCell v9.Writes)))]) eZ rfl (oMov (eR rfl) (oMov (eR rfl) ?_)))
    obtain ⟨v11, h12, H⟩ := obind H
    refine oAtD (eR rfl) eZ h12 (oLoadBA (es := [(dI v11.Tx), (.d (.sl 2 (List.map d_TCell v11.Writes)))]) eZ rfl ?_)
    obtain ⟨v13, h14, H⟩ := obind H
    refine oCall (u := (oB v13)) eC Cl.fn (c_laws_eqHeld h14) (Evs.cons (eR rfl) (Evs.cons eZ Evs.nil)) (VDs.cons (VD.agg rfl) (VDs.cons (VD.agg rfl) VDs.nil)) rfl (oInv eZ (xQ (AW.weaken (wk_mk [] (kr 26 rfl rfl (kr 0 rfl rfl (kr 1 rfl rfl (kr 5 rfl rfl SL.nil)))) BL.nil BK.nil) ?_)))
    rcases oite H with ⟨h15, H⟩ | ⟨h15, H⟩
    ·exact AW.condF eZ (cN h15) (AW.skip (BQ.qn (TQ.qn (aR (oMov (eR rfl) (oAdd eZ eC (oMov eZ (xNil (TQ.qn ⟨(IntKind.wrap .i64 (s6 + 1)), H, (wk_mk [] (kR rfl rfl (kR rfl rfl (kR rfl rfl SL.nil))) BL.nil BK.nil)⟩)))))))))
    ·refine AW.condT eZ (cN (nt h15)) (aV (oMov eC (xQ (AW.ret (BQ.qr (TQ.qr (TQ.qr (BQ.qr (TQ.qr ?_)))))))))
     cases H
     exact eE rfl rfl
   ·exact AW.condF eZ (dF h8) (AW.exit (TQ.qe (TQ.qe (BQ.qe (TQ.qn ⟨(), H, (wk_mk [] SL.nil BL.nil BK.nil)⟩)))))
theorem c_laws_eqIntS {a1 : (List Int)} {a2 : (List Int)} {r : Bool} (H : m_laws_eqIntS a1 a2 = some r) : Fn Tryz.prog 63 (lent [(.sl 1 (List.map d_i64 a1)), (.sl 1 (List.map d_i64 a2))]) true [(.bool r)] := by
 refine f63 (fle rfl) ?_
 rw [init_mk]
 refine AW.weaken (wk_mk [] (kv 0 (.one (.d (.sl 1 (List.map d_i64 a1)))) rfl rfl (kv 1 (.one (.d (.sl 1 (List.map d_i64 a2)))) rfl rfl SL.nil)) BL.nil BK.nil) ?_
 unfold m_laws_eqIntS at H
 unfold i63
 refine aV (oMov eC (xQ (aS (aV (oMov (eR rfl) (oLenD eZ (n := a1.length) (List.length_map _) (oMov (eR rfl) (oLenD eZ (n := a2.length) (List.length_map _) (oNeq (eR rfl) eZ (xQ ?_))))))))))
 rcases oite H with ⟨h3, H⟩ | ⟨h3, H⟩
 ·refine AW.condT eZ (dT h3) (aV (oMov eC (xQ (AW.ret (TQ.qr ?_)))))
  cases H
  exact eE rfl rfl
 ·refine AW.condF eZ (dF h3) (AW.skip (TQ.qn (AW.seqJ (fun t4 : Unit => laws_eqIntS_j4 t4 = some r) (fun t4 => mk [] [] noG) ?_ ?_)))
  ·intro t4 H
   unfold laws_eqIntS_j4 at H
   refine aV (oMov eC (xQ (AW.ret ?_)))
   cases H
   exact eE rfl rfl
  ·refine aV (oMov eC (xQ (AW.block (AW.iter (fun s6 : Int => mk [(0, (.one (.d (.sl 1 (List.map d_i64 a1))))), (1, (.one (.d (.sl 1 (List.map d_i64 a2))))), (5, (oI s6))] [] noG) H (wk_mk [] (kR rfl rfl (kR rfl rfl (kR rfl rfl SL.nil))) BL.nil BK.nil) ?_))))
   intro kb7 s6 H
   unfold laws_eqIntS_b6 at H
   refine aS (aV (oMov (eR rfl) (oMov (eR rfl) (oLenD eZ (n := a1.length) (List.length_map _) (oLss (eR rfl) eZ (xQ ?_))))))
   rcases oite H with ⟨h8, H⟩ | ⟨h8, H⟩
   ·refine AW.condT eZ (dT h8) (AW.skip (TQ.qn (aS (AW.block (aS (AW.regd (oMov (eR rfl) (oMov (eR rfl) ?_))))))))
    obtain ⟨v9, h10, H⟩ := obind H
    refine oAtD (eR rfl) eZ h10 (oLoadB (e := (.int .i64 v9)) eZ rfl (oMov (eR rfl) (oMov (eR rfl) ?_)))
    obtain ⟨v11, h12, H⟩ := obind H
    refine oAtD (eR rfl) eZ h12 (oLoadB (e := (.int .i64 v11)) eZ rfl (oNeq (eR rfl) eZ (xQ (AW.weaken (wk_mk [] (kr 25 rfl rfl (kr 0 rfl rfl (kr 1 rfl rfl (kr 5 rfl rfl SL.nil)))) BL.nil BK.nil) ?_))))
    rcases oite H with ⟨h13, H⟩ | ⟨h13, H⟩
    ·refine AW.condT eZ (dT h13) (aV (oMov eC (xQ (AW.ret (BQ.qr (TQ.qr (TQ.qr (BQ.qr (TQ.qr ?_)))))))))
     cases H
     exact eE rfl rfl
    ·exact AW.condF eZ (dF h13) (AW.skip (BQ.qn (TQ.qn (aR (oMov (eR rfl) (oAdd eZ eC (oMov eZ (xNil (TQ.qn ⟨(IntKind.wrap .i64 (s6 + 1)), H, (wk_mk [] (kR rfl rfl (kR rfl rfl (kR rfl rfl SL.nil))) BL.nil BK.nil)⟩)))))))))
   ·exact AW.condF eZ (dF h8) (AW.exit (TQ.qe (TQ.qe (BQ.qe (TQ.qn ⟨(), H, (wk_mk [] SL.nil BL.nil BK.nil)⟩)))))
theorem c_laws_eqShard {a1 : TShard} {a2 : TShard} {r : Bool} (H : m_laws_eqShard a1 a2 = some r) : Fn Tryz.prog 9 (lent [(.agg (d_TShard a1)), (.agg (d_TShard a2))]) true [(.bool r)] := by
 refine f9 (fle rfl) ?_
 rw [init_mk]
 refine AW.weaken (wk_mk [] (kv 0 (.agg [(dI a1.Me), (.d (.sl 2 (List.map d_TRange a1.Own))), (.d (.sl 2 (List.map d_TRange a1.Frozen))), (.d (.sl 2 (List.map d_TCell a1.Cells))), (.d (.sl 4 (List.map d_TLock a1.Locks))), (.d (.sl 2 (List.map d_THeld a1.Helds))), (.d (.sl 1 (List.map d_i64 a1.Wounded))), (.d (.sl 1 (List.map d_i64 a1.Ended))), (dI a1.Rank)]) rfl rfl (kv 1 (.agg [(dI a2.Me), (.d (.sl 2 (List.map d_TRange a2.Own))), (.d (.sl 2 (List.map d_TRange a2.Frozen))), (.d (.sl 2 (List.map d_TCell a2.Cells))), (.d (.sl 4 (List.map d_TLock a2.Locks))), (.d (.sl 2 (List.map d_THeld a2.Helds))), (.d (.sl 1 (List.map d_i64 a2.Wounded))), (.d (.sl 1 (List.map d_i64 a2.Ended))), (dI a2.Rank)]) rfl rfl SL.nil)) BL.nil BK.nil) ?_
 unfold m_laws_eqShard at H
 unfold i9
 refine aV (oBox (n := 128) (m := 9) (cs := [(dI a1.Me), (.d (.sl 2 (List.map d_TRange a1.Own))), (.d (.sl 2 (List.map d_TRange a1.Frozen))), (.d (.sl 2 (List.map d_TCell a1.Cells))), (.d (.sl 4 (List.map d_TLock a1.Locks))), (.d (.sl 2 (List.map d_THeld a1.Helds))), (.d (.sl 1 (List.map d_i64 a1.Wounded))), (.d (.sl 1 (List.map d_i64 a1.Ended))), (dI a1.Rank)]) rfl eZ rfl rfl nZ (oBox (n := 192) (m := 9) (cs := [(dI a2.Me), (.d (.sl 2 (List.map d_TRange a2.Own))), (.d (.sl 2 (List.map d_TRange a2.Frozen))), (.d (.sl 2 (List.map d_TCell a2.Cells))), (.d (.sl 4 (List.map d_TLock a2.Locks))), (.d (.sl 2 (List.map d_THeld a2.Helds))), (.d (.sl 1 (List.map d_i64 a2.Wounded))), (.d (.sl 1 (List.map d_i64 a2.Ended))), (dI a2.Rank)]) rfl (eR rfl) rfl rfl (nS rfl nZ) (oMov eC (xQ (aS (aV (oFaddrN (m := 0) (eR rfl) rfl (oLoadV (q := 0) (c := (dI a1.Me)) eZ (bS rfl bZ) rfl rfl (oFaddrN (m := 0) (eR rfl) rfl (oLoadV (q := 0) (c := (dI a2.Me)) eZ bZ rfl rfl (oNeq (eR rfl) eZ (xQ ?_))))))))))))
 rcases oite H with ⟨h3, H⟩ | ⟨h3, H⟩
 ·refine AW.condT eZ (dT h3) (aV (oMov eC (xQ (AW.ret (TQ.qr ?_)))))
  cases H
  exact eE rfl rfl
 ·refine AW.condF eZ (dF h3) (AW.skip (TQ.qn (aS (aV (oFaddrN (m := 1) (eR rfl) rfl (oLoadV (q := 1) (c := (.d (.sl 2 (List.map d_TRange a1.Own)))) eZ (bS rfl bZ) rfl rfl (oFaddrN (m := 1) (eR rfl) rfl (oLoadV (q := 1) (c := (.d (.sl 2 (List.map d_TRange a2.Own)))) eZ bZ rfl rfl ?_))))))))
  obtain ⟨v4, h5, H⟩ := obind H
  refine oCall (u := (oB v4)) eC Cl.fn (c_laws_eqRangeS h5) (Evs.cons (eR rfl) (Evs.cons eZ Evs.nil)) (VDs.cons VD.plain (VDs.cons VD.plain VDs.nil)) rfl (oInv eZ (xQ (AW.weaken (wk_mk [] (kr 15 rfl rfl (kr 3 rfl rfl (kr 2 rfl rfl SL.nil))) (BL.keep rfl (BL.keep rfl BL.nil)) (BK.cons (n := 192) rfl bZ rfl rfl (BK.cons (n := 128) rfl (bS rfl bZ) rfl rfl BK.nil))) ?_)))
  rcases oite H with ⟨h6, H⟩ | ⟨h6, H⟩
  ·refine AW.condF eZ (cN h6) (AW.skip (TQ.qn (aS (aV (oFaddrN (m := 2) (eR rfl) rfl (oLoadV (q := 2) (c := (.d (.sl 2 (List.map d_TRange a1.Frozen)))) eZ (bS rfl bZ) rfl rfl (oFaddrN (m := 2) (eR rfl) rfl (oLoadV (q := 2) (c := (.d (.sl 2 (List.map d_TRange a2.Frozen)))) eZ bZ rfl rfl ?_))))))))
   obtain ⟨v7, h8, H⟩ := obind H
   refine oCall (u := (oB v7)) eC Cl.fn (c_laws_eqRangeS h8) (Evs.cons (eR rfl) (Evs.cons eZ Evs.nil)) (VDs.cons VD.plain (VDs.cons VD.plain VDs.nil)) rfl (oInv eZ (xQ ?_))
   rcases oite H with ⟨h9, H⟩ | ⟨h9, H⟩
   ·refine AW.condF eZ (cN h9) (AW.skip (TQ.qn (aS (aV (oFaddrN (m := 3) (eR rfl) rfl (oLoadV (q := 3) (c := (.d (.sl 2 (List.map d_TCell a1.Cells)))) eZ (bS rfl bZ) rfl rfl (oFaddrN (m := 3) (eR rfl) rfl (oLoadV (q := 3) (c := (.d (.sl 2 (List.map d_TCell a2.Cells)))) eZ bZ rfl rfl ?_))))))))
    obtain ⟨v10, h11, H⟩ := obind H
    refine oCall (u := (oB v10)) eC Cl.fn (c_laws_eqCellS h11) (Evs.cons (eR rfl) (Evs.cons eZ Evs.nil)) (VDs.cons VD.plain (VDs.cons VD.plain VDs.nil)) rfl (oInv eZ (xQ ?_))
    rcases oite H with ⟨h12, H⟩ | ⟨h12, H⟩
    ·refine AW.condF eZ (cN h12) (AW.skip (TQ.qn (aS (aV (oFaddrN (m := 4) (eR rfl) rfl (oLoadV (q := 4) (c := (.d (.sl 4 (List.map d_TLock a1.Locks)))) eZ (bS rfl bZ) rfl rfl (oFaddrN (m := 4) (eR rfl) rfl (oLoadV (q := 4) (c := (.d (.sl 4 (List.map d_TLock a2.Locks)))) eZ bZ rfl rfl ?_))))))))
     obtain ⟨v13, h14, H⟩ := obind H
     refine oCall (u := (oB v13)) eC Cl.fn (c_laws_eqLockS h14) (Evs.cons (eR rfl) (Evs.cons eZ Evs.nil)) (VDs.cons VD.plain (VDs.cons VD.plain VDs.nil)) rfl (oInv eZ (xQ (AW.weaken (wk_mk [] (kr 33 rfl rfl (kr 3 rfl rfl (kr 2 rfl rfl SL.nil))) (BL.keep rfl (BL.keep rfl BL.nil)) (BK.cons (n := 192) rfl bZ rfl rfl (BK.cons (n := 128) rfl (bS rfl bZ) rfl rfl BK.nil))) ?_)))
     rcases oite H with ⟨h15, H⟩ | ⟨h15, H⟩
     ·refine AW.condF eZ (cN h15) (AW.skip (TQ.qn (aS (aV (oFaddrN (m := 5) (eR rfl) rfl (oLoadV (q := 5) (c := (.d (.sl 2 (List.map d_THeld a1.Helds)))) eZ (bS rfl bZ) rfl rfl (oFaddrN (m := 5) (eR rfl) rfl (oLoadV (q := 5) (c := (.d (.sl 2 (List.map d_THeld a2.Helds)))) eZ bZ rfl rfl ?_))))))))
      obtain ⟨v16, h17, H⟩ := obind H
      refine oCall (u := (oB v16)) eC Cl.fn (c_laws_eqHeldS h17) (Evs.cons (eR rfl) (Evs.cons eZ Evs.nil)) (VDs.cons VD.plain (VDs.cons VD.plain VDs.nil)) rfl (oInv eZ (xQ ?_))
      rcases oite H with ⟨h18, H⟩ | ⟨h18, H⟩
      ·refine AW.condF eZ (cN h18) (AW.skip (TQ.qn (aS (aV (oFaddrN (m := 6) (eR rfl) rfl (oLoadV (q := 6) (c := (.d (.sl 1 (List.map d_i64 a1.Wounded)))) eZ (bS rfl bZ) rfl rfl (oFaddrN (m := 6) (eR rfl) rfl (oLoadV (q := 6) (c := (.d (.sl 1 (List.map d_i64 a2.Wounded)))) eZ bZ rfl rfl ?_))))))))
       obtain ⟨v19, h20, H⟩ := obind H
       refine oCall (u := (oB v19)) eC Cl.fn (c_laws_eqIntS h20) (Evs.cons (eR rfl) (Evs.cons eZ Evs.nil)) (VDs.cons VD.plain (VDs.cons VD.plain VDs.nil)) rfl (oInv eZ (xQ ?_))
       rcases oite H with ⟨h21, H⟩ | ⟨h21, H⟩
       ·refine AW.condF eZ (cN h21) (AW.skip (TQ.qn (aS (aV (oFaddrN (m := 7) (eR rfl) rfl (oLoadV (q := 7) (c := (.d (.sl 1 (List.map d_i64 a1.Ended)))) eZ (bS rfl bZ) rfl rfl (oFaddrN (m := 7) (eR rfl) rfl (oLoadV (q := 7) (c := (.d (.sl 1 (List.map d_i64 a2.Ended)))) eZ bZ rfl rfl ?_))))))))
        obtain ⟨v22, h23, H⟩ := obind H
        refine oCall (u := (oB v22)) eC Cl.fn (c_laws_eqIntS h23) (Evs.cons (eR rfl) (Evs.cons eZ Evs.nil)) (VDs.cons VD.plain (VDs.cons VD.plain VDs.nil)) rfl (oInv eZ (xQ (AW.weaken (wk_mk [] (kr 51 rfl rfl (kr 3 rfl rfl (kr 2 rfl rfl SL.nil))) (BL.keep rfl (BL.keep rfl BL.nil)) (BK.cons (n := 192) rfl bZ rfl rfl (BK.cons (n := 128) rfl (bS rfl bZ) rfl rfl BK.nil))) ?_)))
        rcases oite H with ⟨h24, H⟩ | ⟨h24, H⟩
        ·refine AW.condF eZ (cN h24) (AW.skip (TQ.qn (aS (aV (oFaddrN (m := 8) (eR rfl) rfl (oLoadV (q := 8) (c := (dI a1.Rank)) eZ (bS rfl bZ) rfl rfl (oFaddrN (m := 8) (eR rfl) rfl (oLoadV (q := 8) (c := (dI a2.Rank)) eZ bZ rfl rfl (oNeq (eR rfl) eZ (xQ ?_))))))))))
         rcases oite H with ⟨h25, H⟩ | ⟨h25, H⟩
         ·refine AW.condT eZ (dT h25) (aV (oMov eC (xQ (AW.ret (TQ.qr ?_)))))
          cases H
          exact eE rfl rfl
         ·refine AW.condF eZ (dF h25) (AW.skip (TQ.qn (aV (oMov eC (xQ (AW.ret ?_))))))
          cases H
          exact eE rfl rfl
        ·refine AW.condT eZ (cN (nt h24)) (aV (oMov eC (xQ (AW.ret (TQ.qr ?_)))))
         cases H
         exact eE rfl rfl
       ·refine AW.condT eZ (cN (nt h21)) (aV (oMov eC (xQ (AW.weaken (wk_mk [192, 128] (kr 4 rfl rfl SL.nil) (BL.drop rfl (BL.drop rfl BL.nil)) BK.nil) (AW.ret (TQ.qr ?_))))))
        cases H
        exact eE rfl rfl
      ·refine AW.condT eZ (cN (nt h18)) (aV (oMov eC (xQ (AW.ret (TQ.qr ?_)))))
       cases H
       exact eE rfl rfl
     ·refine AW.condT eZ (cN (nt h15)) (aV (oMov eC (xQ (AW.ret (TQ.qr ?_)))))
      cases H
      exact eE rfl rfl
    ·refine AW.condT eZ (cN (nt h12)) (aV (oMov eC (xQ (AW.weaken (wk_mk [192, 128] (kr 4 rfl rfl SL.nil) (BL.drop rfl (BL.drop rfl BL.nil)) BK.nil) (AW.ret (TQ.qr ?_))))))
     cases H
     exact eE rfl rfl
   ·refine AW.condT eZ (cN (nt h9)) (aV (oMov eC (xQ (AW.ret (TQ.qr ?_)))))
    cases H
    exact eE rfl rfl
  ·refine AW.condT eZ (cN (nt h6)) (aV (oMov eC (xQ (AW.ret (TQ.qr ?_)))))
   cases H
   exact eE rfl rfl
theorem c_laws_markRangeS {a1 : (List TRange)} {a2 : Int} {r : (Int × (List TRange))} (H : m_laws_markRangeS a1 a2 = some r) : Fn Tryz.prog 15 [⟨(.sl 2 (List.map d_TRange a1)), .m (.sl 2 (List.map d_TRange r.2))⟩, ⟨(.int .i64 a2), .b⟩] true [(.int .i64 r.1)] := by
 refine m15 (fle rfl) (fC nZ rfl fN) rfl ?_
 rw [initM_mk]
 refine AW.weaken (t := mk [(0, (.one (.sl 0 0 a1.length))), (1, (oI a2))] [(0, (.data 2 (List.map d_TRange a1) true none))] (lk [(0, (.one (.sl 0 0 ((List.map d_TRange a1).length))))])) (wk_mkG (gl := [(0, (.one (.sl 0 0 ((List.map d_TRange a1).length))))]) [] (SL.cons (v := (.one (.sl 0 0 a1.length))) eZ rfl (VWk.one (CWk.len (List.length_map _))) (kv 1 (oI a2) rfl rfl SL.nil)) (BL.keep rfl BL.nil) (BK.cons (n := 0) rfl bZ rfl rfl BK.nil) (GK.cons rfl GK.nil)) ?_
 unfold m_laws_markRangeS at H
 unfold i15
 refine aV (oMov eC (xQ (AW.seqJ (fun t3 : ((List TRange) × Int) => (laws_markRangeS_j3 a1) t3 = some r) (fun t3 => mk [(1, (oI t3.2))] [(0, (.data 2 (List.map d_TRange t3.1) true none))] (lk [(0, (.one (.sl 0 0 ((List.map d_TRange a1).length))))])) ?_ ?_)))
 ·intro t3 H
  unfold laws_markRangeS_j3 at H
  refine aV (oMov eZ (oMov eZ (xQ (AW.ret ?_))))
  obtain ⟨h5, H⟩ := oguard H
  cases H
  exact endsRM (RL.cons (RV.tmp eZ) (VO.flat rfl) RL.nil) (ML.mut eZ (VO.sl bZ (by first | (simp; done) | (simp; omega) | omega | (simp only [List.length_map]; omega)) (allFlat fun _ => rfl)) (ML.lent ML.nil)) (by decide)
 ·refine aV (oMov eC (xQ (AW.block (AW.iter (fun s6 : ((List TRange) × Int × Int) => mk [(0, (.one (.sl 0 0 s6.1.length))), (1, (oI s6.2.1)), (5, (oI s6.2.2))] [(0, (.data 2 (List.map d_TRange s6.1) true none))] (lk [(0, (.one (.sl 0 0 ((List.map d_TRange a1).length))))])) H (wk_mkG [] (kR rfl rfl (kR rfl rfl (kR rfl rfl SL.nil))) (BL.keep rfl BL.nil) (BK.cons rfl bZ rfl rfl BK.nil) (GK.cons rfl GK.nil)) ?_))))
  intro kb7 s6 H
  unfold laws_markRangeS_b6 at H
  refine aS (aV (oMov (eR rfl) (oMov (eR rfl) (oLenN eZ (oLss (eR rfl) eZ (xQ ?_))))))
  rcases oite H with ⟨h8, H⟩ | ⟨h8, H⟩
  ·refine AW.condT eZ (dT h8) (AW.skip (TQ.qn (aS (AW.block (aV (oMov (eR rfl) (oMov (eR rfl) (oMov (eR rfl) ?_))))))))
   obtain ⟨v9, h10, H⟩ := obind H
   refine oAtN (eR rfl) (eR rfl) bZ rfl h10 (oFaddrN (m := 0) eZ rfl (oStoreD (t := v9) (t' := (TRange.mk s6.2.1 v9.Hi)) (es := [(.int .i64 s6.2.1)]) eZ (eR rfl) rfl rfl bZ (idx_at h10) rfl rfl (xQ (aV (oMov (eR rfl) (oAdd eZ eC (oMov eZ (xQ (aV (oMov (eR rfl) (oMov (eR rfl) (oMov (eR rfl) ?_))))))))))))
   obtain ⟨v11, h12, H⟩ := obind H
   exact oAtN (eR rfl) (eR rfl) bZ (by first | (simp; done) | (simp; omega) | omega | (simp only [List.length_map]; omega)) h12 (oFaddrN (m := 1) eZ rfl (oStoreD (t := v11) (t' := (TRange.mk v11.Lo (IntKind.wrap .i64 (s6.2.1 + 1)))) (es := [(.int .i64 (IntKind.wrap .i64 (s6.2.1 + 1)))]) eZ (eR rfl) rfl rfl bZ (idx_at h12) rfl rfl (xQ (AW.weaken (wk_mkG [] (kr 1 rfl rfl (kr 0 rfl rfl (kr 5 rfl rfl SL.nil))) (BL.keep rfl (BL.keep rfl (BL.keep rfl BL.nil))) (BK.cons (n := 0) rfl bZ rfl rfl BK.nil) (GK.cons rfl GK.nil)) (aR (oMov eZ (oAdd eZ eC (oMov eZ (xNil (BQ.qn (TQ.qn (aR (oMov (eR rfl) (oAdd eZ eC (oMov eZ (xNil (TQ.qn ⟨((s6.1.set (Int.toNat s6.2.2) (TRange.mk s6.2.1 v9.Hi)).set (Int.toNat s6.2.2) (TRange.mk v11.Lo (IntKind.wrap .i64 (s6.2.1 + 1))), (IntKind.wrap .i64 ((IntKind.wrap .i64 (s6.2.1 + 1)) + 1)), (IntKind.wrap .i64 (s6.2.2 + 1))), H, (wk_mkG [] (SL.cons (eR rfl) rfl (VWk.one (CWk.len (by first | (simp; done) | (simp; omega) | omega | (simp only [List.length_map]; omega)))) (kR rfl rfl (kR rfl rfl SL.nil))) (BL.keep rfl BL.nil) (BK.cons rfl bZ rfl rfl BK.nil) (GK.cons rfl GK.nil))⟩)))))))))))))))))
  ·exact AW.condF eZ (dF h8) (AW.exit (TQ.qe (TQ.qe (BQ.qe (TQ.qn ⟨(s6.1, s6.2.1), H, (wk_mkG [] (kR rfl rfl SL.nil) (BL.keep rfl BL.nil) (BK.cons rfl bZ rfl rfl BK.nil) (GK.cons rfl GK.nil))⟩)))))
theorem c_laws_markCellS {a1 : (List TCell)} {a2 : Int} {r : (Int × (List TCell))} (H : m_laws_markCellS a1 a2 = some r) : Fn Tryz.prog 67 [⟨(.sl 2 (List.map d_TCell a1)), .m (.sl 2 (List.map d_TCell r.2))⟩, ⟨(.int .i64 a2), .b⟩] true [(.int .i64 r.1)] := by
 refine m67 (fle rfl) (fC nZ rfl fN) rfl ?_
 rw [initM_mk]
 refine AW.weaken (t := mk [(0, (.one (.sl 0 0 a1.length))), (1, (oI a2))] [(0, (.data 2 (List.map d_TCell a1) true none))] (lk [(0, (.one (.sl 0 0 ((List.map d_TCell a1).length))))])) (wk_mkG (gl := [(0, (.one (.sl 0 0 ((List.map d_TCell a1).length))))]) [] (SL.cons (v := (.one (.sl 0 0 a1.length))) eZ rfl (VWk.one (CWk.len (List.length_map _))) (kv 1 (oI a2) rfl rfl SL.nil)) (BL.keep rfl BL.nil) (BK.cons (n := 0) rfl bZ rfl rfl BK.nil) (GK.cons rfl GK.nil)) ?_
 unfold m_laws_markCellS at H
 unfold i67
 refine aV (oMov eC (xQ (AW.seqJ (fun t3 : ((List TCell) × Int) => (laws_markCellS_j3 a1) t3 = some r) (fun t3 => mk [(1, (oI t3.2))] [(0, (.data 2 (List.map d_TCell t3.1) true none))] (lk [(0, (.one (.sl 0 0 ((List.map d_TCell a1).length))))])) ?_ ?_)))
 ·intro t3 H
  unfold laws_markCellS_j3 at H
  refine aV (oMov eZ (oMov eZ (xQ (AW.ret ?_))))
  obtain ⟨h5, H⟩ := oguard H
  cases H
  exact endsRM (RL.cons (RV.tmp eZ) (VO.flat rfl) RL.nil) (ML.mut eZ (VO.sl bZ (by first | (simp; done) | (simp; omega) | omega | (simp only [List.length_map]; omega)) (allFlat fun _ => rfl)) (ML.lent ML.nil)) (by decide)
 ·refine aV (oMov eC (xQ (AW.block (AW.iter (fun s6 : ((List TCell) × Int × Int) => mk [(0, (.one (.sl 0 0 s6.1.length))), (1, (oI s6.2.1)), (5, (oI s6.2.2))] [(0, (.data 2 (List.map d_TCell s6.1) true none))] (lk [(0, (.one (.sl 0 0 ((List.map d_TCell a1).length))))])) H (wk_mkG [] (kR rfl rfl (kR rfl rfl (kR rfl rfl SL.nil))) (BL.keep rfl BL.nil) (BK.cons rfl bZ rfl rfl BK.nil) (GK.cons rfl GK.nil)) ?_))))
  intro kb7 s6 H
  unfold laws_markCellS_b6 at H
  refine aS (aV (oMov (eR rfl) (oMov (eR rfl) (oLenN eZ (oLss (eR rfl) eZ (xQ ?_))))))
  rcases oite H with ⟨h8, H⟩ | ⟨h8, H⟩
  ·refine AW.condT eZ (dT h8) (AW.skip (TQ.qn (aS (AW.block (aV (oMov (eR rfl) (oMov (eR rfl) (oMov (eR rfl) ?_))))))))
   obtain ⟨v9, h10, H⟩ := obind H
   refine oAtN (eR rfl) (eR rfl) bZ rfl h10 (oFaddrN (m := 0) eZ rfl (oStoreD (t := v9) (t' := (TCell.mk s6.2.1 v9.Value)) (es := [(.int .i64 s6.2.1)]) eZ (eR rfl) rfl rfl bZ (idx_at h10) rfl rfl (xQ (aV (oMov (eR rfl) (oAdd eZ eC (oMov eZ (xQ (aV (oMov (eR rfl) (oMov (eR rfl) (oMov (eR rfl) ?_))))))))))))
   obtain ⟨v11, h12, H⟩ := obind H
   exact oAtN (eR rfl) (eR rfl) bZ (by first | (simp; done) | (simp; omega) | omega | (simp only [List.length_map]; omega)) h12 (oFaddrN (m := 1) eZ rfl (oStoreD (t := v11) (t' := (TCell.mk v11.Key (IntKind.wrap .i64 (s6.2.1 + 1)))) (es := [(.int .i64 (IntKind.wrap .i64 (s6.2.1 + 1)))]) eZ (eR rfl) rfl rfl bZ (idx_at h12) rfl rfl (xQ (AW.weaken (wk_mkG [] (kr 1 rfl rfl (kr 0 rfl rfl (kr 5 rfl rfl SL.nil))) (BL.keep rfl (BL.keep rfl (BL.keep rfl BL.nil))) (BK.cons (n := 0) rfl bZ rfl rfl BK.nil) (GK.cons rfl GK.nil)) (aR (oMov eZ (oAdd eZ eC (oMov eZ (xNil (BQ.qn (TQ.qn (aR (oMov (eR rfl) (oAdd eZ eC (oMov eZ (xNil (TQ.qn ⟨((s6.1.set (Int.toNat s6.2.2) (TCell.mk s6.2.1 v9.Value)).set (Int.toNat s6.2.2) (TCell.mk v11.Key (IntKind.wrap .i64 (s6.2.1 + 1))), (IntKind.wrap .i64 ((IntKind.wrap .i64 (s6.2.1 + 1)) + 1)), (IntKind.wrap .i64 (s6.2.2 + 1))), H, (wk_mkG [] (SL.cons (eR rfl) rfl (VWk.one (CWk.len (by first | (simp; done) | (simp; omega) | omega | (simp only [List.length_map]; omega)))) (kR rfl rfl (kR rfl rfl SL.nil))) (BL.keep rfl BL.nil) (BK.cons rfl bZ rfl rfl BK.nil) (GK.cons rfl GK.nil))⟩)))))))))))))))))
  ·exact AW.condF eZ (dF h8) (AW.exit (TQ.qe (TQ.qe (BQ.qe (TQ.qn ⟨(s6.1, s6.2.1), H, (wk_mkG [] (kR rfl rfl SL.nil) (BL.keep rfl BL.nil) (BK.cons rfl bZ rfl rfl BK.nil) (GK.cons rfl GK.nil))⟩)))))
theorem c_laws_markLockS {a1 : (List TLock)} {a2 : Int} {r : (Int × (List TLock))} (H : m_laws_markLockS a1 a2 = some r) : Fn Tryz.prog 68 [⟨(.sl 4 (List.map d_TLock a1)), .m (.sl 4 (List.map d_TLock r.2))⟩, ⟨(.int .i64 a2), .b⟩] true [(.int .i64 r.1)] := by
 refine m68 (fle rfl) (fC nZ rfl fN) rfl ?_
 rw [initM_mk]
 refine AW.weaken (t := mk [(0, (.one (.sl 0 0 a1.length))), (1, (oI a2))] [(0, (.data 4 (List.map d_TLock a1) true none))] (lk [(0, (.one (.sl 0 0 ((List.map d_TLock a1).length))))])) (wk_mkG (gl := [(0, (.one (.sl 0 0 ((List.map d_TLock a1).length))))]) [] (SL.cons (v := (.one (.sl 0 0 a1.length))) eZ rfl (VWk.one (CWk.len (List.length_map _))) (kv 1 (oI a2) rfl rfl SL.nil)) (BL.keep rfl BL.nil) (BK.cons (n := 0) rfl bZ rfl rfl BK.nil) (GK.cons rfl GK.nil)) ?_
 unfold m_laws_markLockS at H
 unfold i68
 refine aV (oMov eC (xQ (AW.seqJ (fun t3 : ((List TLock) × Int) => (laws_markLockS_j3 a1) t3 = some r) (fun t3 => mk [(1, (oI t3.2))] [(0, (.data 4 (List.map d_TLock t3.1) true none))] (lk [(0, (.one (.sl 0 0 ((List.map d_TLock a1).length))))])) ?_ ?_)))
 ·intro t3 H
  unfold laws_markLockS_j3 at H
  refine aV (oMov eZ (oMov eZ (xQ (AW.ret ?_))))
  obtain ⟨h5, H⟩ := oguard H
  cases H
  exact endsRM (RL.cons (RV.tmp eZ) (VO.flat rfl) RL.nil) (ML.mut eZ (VO.sl bZ (by first | (simp; done) | (simp; omega) | omega | (simp only [List.length_map]; omega)) (allFlat fun _ => rfl)) (ML.lent ML.nil)) (by decide)
 ·refine aV (oMov eC (xQ (AW.block (AW.iter (fun s6 : ((List TLock) × Int × Int) => mk [(0, (.one (.sl 0 0 s6.1.length))), (1, (oI s6.2.1)), (5, (oI s6.2.2))] [(0, (.data 4 (List.map d_TLock s6.1) true none))] (lk [(0, (.one (.sl 0 0 ((List.map d_TLock a1).length))))])) H (wk_mkG [] (kR rfl rfl (kR rfl rfl (kR rfl rfl SL.nil))) (BL.keep rfl BL.nil) (BK.cons rfl bZ rfl rfl BK.nil) (GK.cons rfl GK.nil)) ?_))))
  intro kb7 s6 H
  unfold laws_markLockS_b6 at H
  refine aS (aV (oMov (eR rfl) (oMov (eR rfl) (oLenN eZ (oLss (eR rfl) eZ (xQ ?_))))))
  rcases oite H with ⟨h8, H⟩ | ⟨h8, H⟩
  ·refine AW.condT eZ (dT h8) (AW.skip (TQ.qn (aS (AW.block (aV (oMov (eR rfl) (oMov (eR rfl) (oMov (eR rfl) ?_))))))))
   obtain ⟨v9, h10, H⟩ := obind H
   refine oAtN (eR rfl) (eR rfl) bZ rfl h10 (oFaddrN (m := 0) eZ rfl (oStoreD (t := v9) (t' := (TLock.mk s6.2.1 v9.Lo v9.Hi v9.Mode)) (es := [(.int .i64 s6.2.1)]) eZ (eR rfl) rfl rfl bZ (idx_at h10) rfl rfl (xQ (aV (oMov (eR rfl) (oAdd eZ eC (oMov eZ (xQ (aV (oMov (eR rfl) (oMov (eR rfl) (oMov (eR rfl) ?_))))))))))))
   obtain ⟨v11, h12, H⟩ := obind H
   refine oAtN (eR rfl) (eR rfl) bZ (by first | (simp; done) | (simp; omega) | omega | (simp only [List.length_map]; omega)) h12 (oFaddrN (m := 1) eZ rfl (oStoreD (t := v11) (t' := (TLock.mk v11.Tx (IntKind.wrap .i64 (s6.2.1 + 1)) v11.Hi v11.Mode)) (es := [(.int .i64 (IntKind.wrap .i64 (s6.2.1 + 1)))]) eZ (eR rfl) rfl rfl bZ (idx_at h12) rfl rfl (xQ (AW.weaken (wk_mkG [] (kr 1 rfl rfl (kr 0 rfl rfl (kr 5 rfl rfl SL.nil))) (BL.keep rfl (BL.keep rfl (BL.keep rfl BL.nil))) (BK.cons (n := 0) rfl bZ rfl rfl BK.nil) (GK.cons rfl GK.nil)) (aV (oMov eZ (oAdd eZ eC (oMov eZ (xQ (aV (oMov (eR rfl) (oMov (eR rfl) (oMov (eR rfl) ?_)))))))))))))
   obtain ⟨v13, h14, H⟩ := obind H
   refine oAtN (eR rfl) (eR rfl) bZ (by first | (simp; done) | (simp; omega) | omega | (simp only [List.length_map]; omega)) h14 (oFaddrN (m := 2) eZ rfl (oStoreD (t := v13) (t' := (TLock.mk v13.Tx v13.Lo (IntKind.wrap .i64 ((IntKind.wrap .i64 (s6.2.1 + 1)) + 1)) v13.Mode)) (es := [(.int .i64 (IntKind.wrap .i64 ((IntKind.wrap .i64 (s6.2.1 + 1)) + 1)))]) eZ (eR rfl) rfl rfl bZ (idx_at h14) rfl rfl (xQ (aV (oMov (eR rfl) (oAdd eZ eC (oMov eZ (xQ (aV (oMov (eR rfl) (oMov (eR rfl) (oMov (eR rfl) ?_))))))))))))
   obtain ⟨v15, h16, H⟩ := obind H
   exact oAtN (eR rfl) (eR rfl) bZ (by first | (simp; done) | (simp; omega) | omega | (simp only [List.length_map]; omega)) h16 (oFaddrN (m := 3) eZ rfl (oStoreD (t := v15) (t' := (TLock.mk v15.Tx v15.Lo v15.Hi (IntKind.wrap .i64 ((IntKind.wrap .i64 ((IntKind.wrap .i64 (s6.2.1 + 1)) + 1)) + 1)))) (es := [(.int .i64 (IntKind.wrap .i64 ((IntKind.wrap .i64 ((IntKind.wrap .i64 (s6.2.1 + 1)) + 1)) + 1)))]) eZ (eR rfl) rfl rfl bZ (idx_at h16) rfl rfl (xQ (AW.weaken (wk_mkG [] (kr 1 rfl rfl (kr 0 rfl rfl (kr 5 rfl rfl SL.nil))) (BL.keep rfl (BL.keep rfl (BL.keep rfl BL.nil))) (BK.cons (n := 0) rfl bZ rfl rfl BK.nil) (GK.cons rfl GK.nil)) (aR (oMov eZ (oAdd eZ eC (oMov eZ (xNil (BQ.qn (TQ.qn (aR (oMov (eR rfl) (oAdd eZ eC (oMov eZ (xNil (TQ.qn ⟨((((s6.1.set (Int.toNat s6.2.2) (TLock.mk s6.2.1 v9.Lo v9.Hi v9.Mode)).set (Int.toNat s6.2.2) (TLock.mk v11.Tx (IntKind.wrap .i64 (s6.2.1 + 1)) v11.Hi v11.Mode)).set (Int.toNat s6.2.2) (TLock.mk v13.Tx v13.Lo (IntKind.wrap .i64 ((IntKind.wrap .i64 (s6.2.1 + 1)) + 1)) v13.Mode)).set (Int.toNat s6.2.2) (TLock.mk v15.Tx v15.Lo v15.Hi (IntKind.wrap .i64 ((IntKind.wrap .i64 ((IntKind.wrap .i64 (s6.2.1 + 1)) + 1)) + 1))), (IntKind.wrap .i64 ((IntKind.wrap .i64 ((IntKind.wrap .i64 ((IntKind.wrap .i64 (s6.2.1 + 1)) + 1)) + 1)) + 1)), (IntKind.wrap .i64 (s6.2.2 + 1))), H, (wk_mkG [] (SL.cons (eR rfl) rfl (VWk.one (CWk.len (by first | (simp; done) | (simp; omega) | omega | (simp only [List.length_map]; omega)))) (kR rfl rfl (kR rfl rfl SL.nil))) (BL.keep rfl BL.nil) (BK.cons rfl bZ rfl rfl BK.nil) (GK.cons rfl GK.nil))⟩)))))))))))))))))
  ·exact AW.condF eZ (dF h8) (AW.exit (TQ.qe (TQ.qe (BQ.qe (TQ.qn ⟨(s6.1, s6.2.1), H, (wk_mkG [] (kR rfl rfl SL.nil) (BL.keep rfl BL.nil) (BK.cons rfl bZ rfl rfl BK.nil) (GK.cons rfl GK.nil))⟩)))))
theorem c_laws_markWriteS {a1 : (List TCell)} {a2 : Int} {r : (Int × (List TCell))} (H : m_laws_markWriteS a1 a2 = some r) : Fn Tryz.prog 111 [⟨(.sl 2 (List.map d_TCell a1)), .m (.sl 2 (List.map d_TCell r.2))⟩, ⟨(.int .i64 a2), .b⟩] true [(.int .i64 r.1)] := by
 refine m111 (fle rfl) (fC nZ rfl fN) rfl ?_
 rw [initM_mk]
 refine AW.weaken (t := mk [(0, (.one (.sl 0 0 a1.length))), (1, (oI a2))] [(0, (.data 2 (List.map d_TCell a1) true none))] (lk [(0, (.one (.sl 0 0 ((List.map d_TCell a1).length))))])) (wk_mkG (gl := [(0, (.one (.sl 0 0 ((List.map d_TCell a1).length))))]) [] (SL.cons (v := (.one (.sl 0 0 a1.length))) eZ rfl (VWk.one (CWk.len (List.length_map _))) (kv 1 (oI a2) rfl rfl SL.nil)) (BL.keep rfl BL.nil) (BK.cons (n := 0) rfl bZ rfl rfl BK.nil) (GK.cons rfl GK.nil)) ?_
 unfold m_laws_markWriteS at H
 unfold i111
 refine aV (oMov eC (xQ (AW.seqJ (fun t3 : ((List TCell) × Int) => (laws_markWriteS_j3 a1) t3 = some r) (fun t3 => mk [(1, (oI t3.2))] [(0, (.data 2 (List.map d_TCell t3.1) true none))] (lk [(0, (.one (.sl 0 0 ((List.map d_TCell a1).length))))])) ?_ ?_)))
 ·intro t3 H
  unfold laws_markWriteS_j3 at H
  refine aV (oMov eZ (oMov eZ (xQ (AW.ret ?_))))
  obtain ⟨h5, H⟩ := oguard H
  cases H
  exact endsRM (RL.cons (RV.tmp eZ) (VO.flat rfl) RL.nil) (ML.mut eZ (VO.sl bZ (by first | (simp; done) | (simp; omega) | omega | (simp only [List.length_map]; omega)) (allFlat fun _ => rfl)) (ML.lent ML.nil)) (by decide)
 ·refine aV (oMov eC (xQ (AW.block (AW.iter (fun s6 : ((List TCell) × Int × Int) => mk [(0, (.one (.sl 0 0 s6.1.length))), (1, (oI s6.2.1)), (5, (oI s6.2.2))] [(0, (.data 2 (List.map d_TCell s6.1) true none))] (lk [(0, (.one (.sl 0 0 ((List.map d_TCell a1).length))))])) H (wk_mkG [] (kR rfl rfl (kR rfl rfl (kR rfl rfl SL.nil))) (BL.keep rfl BL.nil) (BK.cons rfl bZ rfl rfl BK.nil) (GK.cons rfl GK.nil)) ?_))))
  intro kb7 s6 H
  unfold laws_markWriteS_b6 at H
  refine aS (aV (oMov (eR rfl) (oMov (eR rfl) (oLenN eZ (oLss (eR rfl) eZ (xQ ?_))))))
  rcases oite H with ⟨h8, H⟩ | ⟨h8, H⟩
  ·refine AW.condT eZ (dT h8) (AW.skip (TQ.qn (aS (AW.block (aV (oMov (eR rfl) (oMov (eR rfl) (oMov (eR rfl) ?_))))))))
   obtain ⟨v9, h10, H⟩ := obind H
   refine oAtN (eR rfl) (eR rfl) bZ rfl h10 (oFaddrN (m := 0) eZ rfl (oStoreD (t := v9) (t' := (TCell.mk s6.2.1 v9.Value)) (es := [(.int .i64 s6.2.1)]) eZ (eR rfl) rfl rfl bZ (idx_at h10) rfl rfl (xQ (aV (oMov (eR rfl) (oAdd eZ eC (oMov eZ (xQ (aV (oMov (eR rfl) (oMov (eR rfl) (oMov (eR rfl) ?_))))))))))))
   obtain ⟨v11, h12, H⟩ := obind H
   exact oAtN (eR rfl) (eR rfl) bZ (by first | (simp; done) | (simp; omega) | omega | (simp only [List.length_map]; omega)) h12 (oFaddrN (m := 1) eZ rfl (oStoreD (t := v11) (t' := (TCell.mk v11.Key (IntKind.wrap .i64 (s6.2.1 + 1)))) (es := [(.int .i64 (IntKind.wrap .i64 (s6.2.1 + 1)))]) eZ (eR rfl) rfl rfl bZ (idx_at h12) rfl rfl (xQ (AW.weaken (wk_mkG [] (kr 1 rfl rfl (kr 0 rfl rfl (kr 5 rfl rfl SL.nil))) (BL.keep rfl (BL.keep rfl (BL.keep rfl BL.nil))) (BK.cons (n := 0) rfl bZ rfl rfl BK.nil) (GK.cons rfl GK.nil)) (aR (oMov eZ (oAdd eZ eC (oMov eZ (xNil (BQ.qn (TQ.qn (aR (oMov (eR rfl) (oAdd eZ eC (oMov eZ (xNil (TQ.qn ⟨((s6.1.set (Int.toNat s6.2.2) (TCell.mk s6.2.1 v9.Value)).set (Int.toNat s6.2.2) (TCell.mk v11.Key (IntKind.wrap .i64 (s6.2.1 + 1))), (IntKind.wrap .i64 ((IntKind.wrap .i64 (s6.2.1 + 1)) + 1)), (IntKind.wrap .i64 (s6.2.2 + 1))), H, (wk_mkG [] (SL.cons (eR rfl) rfl (VWk.one (CWk.len (by first | (simp; done) | (simp; omega) | omega | (simp only [List.length_map]; omega)))) (kR rfl rfl (kR rfl rfl SL.nil))) (BL.keep rfl BL.nil) (BK.cons rfl bZ rfl rfl BK.nil) (GK.cons rfl GK.nil))⟩)))))))))))))))))
  ·exact AW.condF eZ (dF h8) (AW.exit (TQ.qe (TQ.qe (BQ.qe (TQ.qn ⟨(s6.1, s6.2.1), H, (wk_mkG [] (kR rfl rfl SL.nil) (BL.keep rfl BL.nil) (BK.cons rfl bZ rfl rfl BK.nil) (GK.cons rfl GK.nil))⟩)))))
theorem c_laws_markHeldS {a1 : (List THeld)} {a2 : Int} {r : (Int × (List THeld))} (H : m_laws_markHeldS a1 a2 = some r) : Fn Tryz.prog 69 [⟨(.sl 2 (List.map d_THeld a1)), .m (.sl 2 (List.map d_THeld r.2))⟩, ⟨(.int .i64 a2), .b⟩] true [(.int .i64 r.1)] := by
 refine m69 (fle rfl) (fC nZ rfl fN) rfl ?_
 rw [initM_mk]
 refine AW.weaken (t := mk [(0, (.one (.sl 0 0 a1.length))), (1, (oI a2))] [(0, (.data 2 (List.map d_THeld a1) true none))] (lk [(0, (.one (.sl 0 0 ((List.map d_THeld a1).length))))])) (wk_mkG (gl := [(0, (.one (.sl 0 0 ((List.map d_THeld a1).length))))]) [] (SL.cons (v := (.one (.sl 0 0 a1.length))) eZ rfl (VWk.one (CWk.len (List.length_map _))) (kv 1 (oI a2) rfl rfl SL.nil)) (BL.keep rfl BL.nil) (BK.cons (n := 0) rfl bZ rfl rfl BK.nil) (GK.cons rfl GK.nil)) ?_
 unfold m_laws_markHeldS at H
 unfold i69
 refine aV (oMov eC (xQ (AW.seqJ (fun t3 : ((List THeld) × Int) => (laws_markHeldS_j3 a1) t3 = some r) (fun t3 => mk [(1, (oI t3.2))] [(0, (.data 2 (List.map d_THeld t3.1) true none))] (lk [(0, (.one (.sl 0 0 ((List.map d_THeld a1).length))))])) ?_ ?_)))
 ·intro t3 H
  unfold laws_markHeldS_j3 at H
  refine aV (oMov eZ (oMov eZ (xQ (AW.ret ?_))))
  obtain ⟨h5, H⟩ := oguard H
  cases H
  exact endsRM (RL.cons (RV.tmp eZ) (VO.flat rfl) RL.nil) (ML.mut eZ (VO.sln bZ (by first | (simp; done) | (simp; omega) | omega | (simp only [List.length_map]; omega)) rfl) (ML.lent ML.nil)) (by decide)
 ·refine aV (oMov eC (xQ (AW.block (AW.iter (fun s6 : ((List THeld) × Int × Int) => mk [(0, (.one (.sl 0 0 s6.1.length))), (1, (oI s6.2.1)), (5, (oI s6.2.2))] [(0, (.data 2 (List.map d_THeld s6.1) true none))] (lk [(0, (.one (.sl 0 0 ((List.map d_THeld a1).length))))])) H (wk_mkG [] (kR rfl rfl (kR rfl rfl (kR rfl rfl SL.nil))) (BL.keep rfl BL.nil) (BK.cons rfl bZ rfl rfl BK.nil) (GK.cons rfl GK.nil)) ?_))))
  intro kb7 s6 H
  unfold laws_markHeldS_b6 at H
  refine aS (aV (oMov (eR rfl) (oMov (eR rfl) (oLenN eZ (oLss (eR rfl) eZ (xQ ?_))))))
  rcases oite H with ⟨h8, H⟩ | ⟨h8, H⟩
  ·refine AW.condT eZ (dT h8) (AW.skip (TQ.qn (aS (AW.block (aV (oMov (eR rfl) (oMov (eR rfl) (oMov (eR rfl) ?_))))))))
   obtain ⟨v9, h10, H⟩ := obind H
   refine oAtN (eR rfl) (eR rfl) bZ rfl h10 (oFaddrN (m := 0) eZ rfl (oStoreD (t := v9) (t' := (THeld.mk s6.2.1 v9.Writes)) (es := [(.int .i64 s6.2.1)]) eZ (eR rfl) rfl rfl bZ (idx_at h10) rfl rfl (xQ (aV (oMov (eR rfl) (oAdd eZ eC (oMov eZ (xQ (AW.regm (rmOne (oMov (eR rfl) (xNil (rmOne (oMov (eR rfl) (xNil (rmOne ?_))))))))))))))))
   obtain ⟨v11, h12, H⟩ := obind H
   refine oAtN (eR rfl) eZ bZ (by first | (simp; done) | (simp; omega) | omega | (simp only [List.length_map]; omega)) h12 (xNil (rmOne (oFaddrN (m := 1) eZ rfl (xNil ?_))))
   obtain ⟨v13, h14, H⟩ := obind H
   exact rmInner (f := d_THeld) (f' := d_TCell) (t := v11) (t' := (THeld.mk v11.Tx v13.2)) (ys := v11.Writes) (ys' := v13.2) eZ bZ (idx_at h12) rfl rfl rfl (eR rfl) rfl (c_laws_markWriteS h14) rfl rfl (erL.cons (v' := (oI (IntKind.wrap .i64 (s6.2.1 + 1)))) rfl (erL.cons (v' := (.one .any)) rfl (erL.cons (v' := (.one (.ptr (.nm 0 (Int.toNat s6.2.2) 1)))) rfl (erL.cons (v' := (.one (.ptr (.nm 0 (Int.toNat s6.2.2) 0)))) rfl (erL.cons (v' := (oI s6.2.2)) rfl (erL.cons (v' := (.one (.sl 0 0 s6.1.length))) rfl (erL.cons (v' := (oI (IntKind.wrap .i64 (s6.2.1 + 1)))) rfl (erL.cons (v' := (oI (IntKind.wrap .i64 (s6.2.1 + 1)))) rfl (erL.cons (v' := (oI s6.2.1)) rfl (erL.cons (v' := (.one (.ptr (.nm 0 (Int.toNat s6.2.2) 0)))) rfl (erL.cons (v' := (.one (.ptr (.nm 0 (Int.toNat s6.2.2) 0)))) rfl (erL.cons (v' := (oI s6.2.1)) rfl (erL.cons (v' := (oI s6.2.2)) rfl (erL.cons (v' := (.one (.sl 0 0 s6.1.length))) rfl (erL.cons (v' := (oB (decide (s6.2.2 < ((s6.1.length : Nat) : Int))))) rfl (erL.cons (v' := (oI ((s6.1.length : Nat) : Int))) rfl (erL.cons (v' := (.one (.sl 0 0 s6.1.length))) rfl (erL.cons (v' := (oI s6.2.2)) rfl (erL.cons (v' := (.one (.sl 0 0 s6.1.length))) rfl (erL.cons (v' := (oI s6.2.1)) rfl (erL.cons (v' := (oI s6.2.2)) rfl erL.nil))))))))))))))))))))) (erH.cons (v' := (.data 2 (List.map d_THeld (s6.1.set (Int.toNat s6.2.2) (THeld.mk s6.2.1 v9.Writes))) true none)) rfl rfl (erH.cons (v' := (.data 2 (List.map d_THeld s6.1) true none)) rfl rfl erH.nil)) (erL.cons (v' := (.one (.sl 0 0 ((List.map d_THeld a1).length)))) rfl erL.nil) (rmRest (oMov eZ (xNil (BQ.qn (TQ.qn (AW.weaken (wk_mkG [] (kr 1 rfl rfl (kr 0 rfl rfl (kr 5 rfl rfl SL.nil))) (BL.keep rfl (BL.keep rfl (BL.keep rfl BL.nil))) (BK.cons (n := 0) rfl bZ rfl rfl BK.nil) (GK.cons rfl GK.nil)) (aR (oMov (eR rfl) (oAdd eZ eC (oMov eZ (xNil (TQ.qn ⟨((s6.1.set (Int.toNat s6.2.2) (THeld.mk s6.2.1 v9.Writes)).set (Int.toNat s6.2.2) (THeld.mk v11.Tx v13.2), v13.1, (IntKind.wrap .i64 (s6.2.2 + 1))), H, (wk_mkG [] (SL.cons (eR rfl) rfl (VWk.one (CWk.len (by first | (simp; done) | (simp; omega) | omega | (simp only [List.length_map]; omega)))) (kR rfl rfl (kR rfl rfl SL.nil))) (BL.keep rfl BL.nil) (BK.cons rfl bZ rfl rfl BK.nil) (GK.cons rfl GK.nil))⟩))))))))))))
  ·exact AW.condF eZ (dF h8) (AW.exit (TQ.qe (TQ.qe (BQ.qe (TQ.qn ⟨(s6.1, s6.2.1), H, (wk_mkG [] (kR rfl rfl SL.nil) (BL.keep rfl BL.nil) (BK.cons rfl bZ rfl rfl BK.nil) (GK.cons rfl GK.nil))⟩)))))
theorem c_laws_markIntS {a1 : (List Int)} {a2 : Int} {r : (Int × (List Int))} (H : m_laws_markIntS a1 a2 = some r) : Fn Tryz.prog 70 [⟨(.sl 1 (List.map d_i64 a1)), .m (.sl 1 (List.map d_i64 r.2))⟩, ⟨(.int .i64 a2), .b⟩] true [(.int .i64 r.1)] := by
 refine m70 (fle rfl) (fC nZ rfl fN) rfl ?_
 rw [initM_mk]
 refine AW.weaken (t := mk [(0, (.one (.sl 0 0 a1.length))), (1, (oI a2))] [(0, (.data 1 (List.map d_i64 a1) true none))] (lk [(0, (.one (.sl 0 0 ((List.map d_i64 a1).length))))])) (wk_mkG (gl := [(0, (.one (.sl 0 0 ((List.map d_i64 a1).length))))]) [] (SL.cons (v := (.one (.sl 0 0 a1.length))) eZ rfl (VWk.one (CWk.len (List.length_map _))) (kv 1 (oI a2) rfl rfl SL.nil)) (BL.keep rfl BL.nil) (BK.cons (n := 0) rfl bZ rfl rfl BK.nil) (GK.cons rfl GK.nil)) ?_
 unfold m_laws_markIntS at H
 unfold i70
 refine aV (oMov eC (xQ (AW.seqJ (fun t3 : ((List Int) × Int) => (laws_markIntS_j3 a1) t3 = some r) (fun t3 => mk [(1, (oI t3.2))] [(0, (.data 1 (List.map d_i64 t3.1) true none))] (lk [(0, (.one (.sl 0 0 ((List.map d_i64 a1).length))))])) ?_ ?_)))
 ·intro t3 H
  unfold laws_markIntS_j3 at H
  refine aV (oMov eZ (oMov eZ (xQ (AW.ret ?_))))
  obtain ⟨h5, H⟩ := oguard H
  cases H
  exact endsRM (RL.cons (RV.tmp eZ) (VO.flat rfl) RL.nil) (ML.mut eZ (VO.sl bZ (by first | (simp; done) | (simp; omega) | omega | (simp only [List.length_map]; omega)) (allFlat fun _ => rfl)) (ML.lent ML.nil)) (by decide)
 ·refine aV (oMov eC (xQ (AW.block (AW.iter (fun s6 : ((List Int) × Int × Int) => mk [(0, (.one (.sl 0 0 s6.1.length))), (1, (oI s6.2.1)), (5, (oI s6.2.2))] [(0, (.data 1 (List.map d_i64 s6.1) true none))] (lk [(0, (.one (.sl 0 0 ((List.map d_i64 a1).length))))])) H (wk_mkG [] (kR rfl rfl (kR rfl rfl (kR rfl rfl SL.nil))) (BL.keep rfl BL.nil) (BK.cons rfl bZ rfl rfl BK.nil) (GK.cons rfl GK.nil)) ?_))))
  intro kb7 s6 H
  unfold laws_markIntS_b6 at H
  refine aS (aV (oMov (eR rfl) (oMov (eR rfl) (oLenN eZ (oLss (eR rfl) eZ (xQ ?_))))))
  rcases oite H with ⟨h8, H⟩ | ⟨h8, H⟩
  ·refine AW.condT eZ (dT h8) (AW.skip (TQ.qn (aS (AW.block (aV (oMov (eR rfl) (oMov (eR rfl) (oMov (eR rfl) ?_))))))))
   obtain ⟨v9, h10, H⟩ := obind H
   exact oAtN (eR rfl) (eR rfl) bZ rfl h10 (oStoreD (t := v9) (t' := s6.2.1) (es := [(.int .i64 s6.2.1)]) eZ (eR rfl) rfl rfl bZ (idx_at h10) rfl rfl (xQ (aR (oMov (eR rfl) (oAdd eZ eC (oMov eZ (xNil (BQ.qn (TQ.qn (aR (oMov (eR rfl) (oAdd eZ eC (oMov eZ (xNil (TQ.qn ⟨(s6.1.set (Int.toNat s6.2.2) s6.2.1, (IntKind.wrap .i64 (s6.2.1 + 1)), (IntKind.wrap .i64 (s6.2.2 + 1))), H, (wk_mkG [] (SL.cons (eR rfl) rfl (VWk.one (CWk.len (by first | (simp; done) | (simp; omega) | omega | (simp only [List.length_map]; omega)))) (kR rfl rfl (kR rfl rfl SL.nil))) (BL.keep rfl (BL.keep rfl BL.nil)) (BK.cons rfl bZ rfl rfl BK.nil) (GK.cons rfl GK.nil))⟩)))))))))))))))
  ·exact AW.condF eZ (dF h8) (AW.exit (TQ.qe (TQ.qe (BQ.qe (TQ.qn ⟨(s6.1, s6.2.1), H, (wk_mkG [] (kR rfl rfl SL.nil) (BL.keep rfl BL.nil) (BK.cons rfl bZ rfl rfl BK.nil) (GK.cons rfl GK.nil))⟩)))))
theorem c_laws_markShard {a1 : TShard} {a2 : Int} {r : (Int × TShard)} (H : m_laws_markShard a1 a2 = some r) : Fn Tryz.prog 16 [⟨(.agg (d_TShard a1)), .m (.agg (d_TShard r.2))⟩, ⟨(.int .i64 a2), .b⟩] true [(.int .i64 r.1)] := by
 refine m16 (fle rfl) (fC nZ rfl (fC nZ rfl (fC nZ rfl (fC nZ rfl (fC nZ rfl (fC nZ rfl (fC nZ rfl fN))))))) rfl ?_
 rw [initM_mk]
 refine AW.weaken (t := mk [(0, (.agg [(dI a1.Me), (.sl 1 0 a1.Own.length), (.sl 2 0 a1.Frozen.length), (.sl 3 0 a1.Cells.length), (.sl 4 0 a1.Locks.length), (.sl 5 0 a1.Helds.length), (.sl 6 0 a1.Wounded.length), (.sl 7 0 a1.Ended.length), (dI a1.Rank)])), (1, (oI a2))] [(7, (.data 1 (List.map d_i64 a1.Ended) true none)), (6, (.data 1 (List.map d_i64 a1.Wounded) true none)), (5, (.data 2 (List.map d_THeld a1.Helds) true none)), (4, (.data 4 (List.map d_TLock a1.Locks) true none)), (3, (.data 2 (List.map d_TCell a1.Cells) true none)), (2, (.data 2 (List.map d_TRange a1.Frozen) true none)), (1, (.data 2 (List.map d_TRange a1.Own) true none))] (lk [(0, (.agg [(dI a1.Me), (.sl 1 0 ((List.map d_TRange a1.Own).length)), (.sl 2 0 ((List.map d_TRange a1.Frozen).length)), (.sl 3 0 ((List.map d_TCell a1.Cells).length)), (.sl 4 0 ((List.map d_TLock a1.Locks).length)), (.sl 5 0 ((List.map d_THeld a1.Helds).length)), (.sl 6 0 ((List.map d_i64 a1.Wounded).length)), (.sl 7 0 ((List.map d_i64 a1.Ended).length)), (dI a1.Rank)]))])) (wk_mkG (gl := [(0, (.agg [(dI a1.Me), (.sl 1 0 ((List.map d_TRange a1.Own).length)), (.sl 2 0 ((List.map d_TRange a1.Frozen).length)), (.sl 3 0 ((List.map d_TCell a1.Cells).length)), (.sl 4 0 ((List.map d_TLock a1.Locks).length)), (.sl 5 0 ((List.map d_THeld a1.Helds).length)), (.sl 6 0 ((List.map d_i64 a1.Wounded).length)), (.sl 7 0 ((List.map d_i64 a1.Ended).length)), (dI a1.Rank)]))]) [] (SL.cons (v := (.agg [(dI a1.Me), (.sl 1 0 a1.Own.length), (.sl 2 0 a1.Frozen.length), (.sl 3 0 a1.Cells.length), (.sl 4 0 a1.Locks.length), (.sl 5 0 a1.Helds.length), (.sl 6 0 a1.Wounded.length), (.sl 7 0 a1.Ended.length), (dI a1.Rank)])) eZ rfl (VWk.agg (CsWk.cons CWk.rfl (CsWk.cons (CWk.len (List.length_map _)) (CsWk.cons (CWk.len (List.length_map _)) (CsWk.cons (CWk.len (List.length_map _)) (CsWk.cons (CWk.len (List.length_map _)) (CsWk.cons (CWk.len (List.length_map _)) (CsWk.cons (CWk.len (List.length_map _)) (CsWk.cons (CWk.len (List.length_map _)) (CsWk.cons CWk.rfl CsWk.nil)))))))))) (kv 1 (oI a2) rfl rfl SL.nil)) (BL.keep rfl (BL.keep rfl (BL.keep rfl (BL.keep rfl (BL.keep rfl (BL.keep rfl (BL.keep rfl BL.nil))))))) (BK.cons (n := 7) rfl bZ rfl rfl (BK.cons (n := 6) rfl (bS rfl bZ) rfl rfl (BK.cons (n := 5) rfl (bS rfl (bS rfl bZ)) rfl rfl (BK.cons (n := 4) rfl (bS rfl (bS rfl (bS rfl bZ))) rfl rfl (BK.cons (n := 3) rfl (bS rfl (bS rfl (bS rfl (bS rfl bZ)))) rfl rfl (BK.cons (n := 2) rfl (bS rfl (bS rfl (bS rfl (bS rfl (bS rfl bZ))))) rfl rfl (BK.cons (n := 1) rfl (bS rfl (bS rfl (bS rfl (bS rfl (bS rfl (bS rfl bZ)))))) rfl rfl BK.nil))))))) (GK.cons rfl GK.nil)) ?_
 unfold m_laws_markShard at H
 unfold i16
 refine aV (oBox (n := 128) (m := 9) (cs := [(dI a1.Me), (.sl 1 0 a1.Own.length), (.sl 2 0 a1.Frozen.length), (.sl 3 0 a1.Cells.length), (.sl 4 0 a1.Locks.length), (.sl 5 0 a1.Helds.length), (.sl 6 0 a1.Wounded.length), (.sl 7 0 a1.Ended.length), (dI a1.Rank)]) rfl eZ rfl rfl (nS rfl (nS rfl (nS rfl (nS rfl (nS rfl (nS rfl (nS rfl nZ))))))) (oMov eC (xQ (aS (AW.regm (rmOne (oFaddrN (m := 1) (eR rfl) rfl (xNil (rmOne (oLoadV (q := 1) (c := (.sl 1 0 a1.Own.length)) eZ bZ rfl rfl (xNil (rmOne (oMov (eR rfl) (xNil ?_))))))))))))))
 obtain ⟨v3, h4, H⟩ := obind H
 obtain ⟨h5, H⟩ := oguard H
 refine rmCallI (ON := [1]) (ls := []) (G := []) (E := [subKey 1]) (MB := [(1, (.data 2 (List.map d_TRange v3.2) true none))]) (u := (oI v3.1)) eC Cl.fn (c_laws_markRangeS h4) (Evs.cons (eR rfl) (Evs.cons eZ Evs.nil)) (AO.mut (VO.sl (bS rfl (bS rfl (bS rfl (bS rfl (bS rfl (bS rfl (bS rfl bZ))))))) (List.length_map _) (allFlat fun _ => rfl)) (AO.lent VD.plain rfl AO.nil)) rfl rfl rfl (SZ.cons (bS rfl (bS rfl (bS rfl (bS rfl (bS rfl (bS rfl (bS rfl bZ))))))) SZ.nil) (erL.cons (v' := (oI a2)) rfl (erL.cons (v' := (.one (.sl 1 0 a1.Own.length))) rfl (erL.cons (v' := (.one (.ptr (.nm 128 0 1)))) rfl (erL.cons (v' := (oI 0)) rfl (erL.cons (v' := (.one (.ptr (.nm 128 0 0)))) rfl (erL.cons (v' := (.agg [(dI a1.Me), (.sl 1 0 a1.Own.length), (.sl 2 0 a1.Frozen.length), (.sl 3 0 a1.Cells.length), (.sl 4 0 a1.Locks.length), (.sl 5 0 a1.Helds.length), (.sl 6 0 a1.Wounded.length), (.sl 7 0 a1.Ended.length), (dI a1.Rank)])) rfl (erL.cons (v' := (oI a2)) rfl erL.nil))))))) (erH.cons (v' := (.vars 9 [(dI a1.Me), (.sl 1 0 a1.Own.length), (.sl 2 0 a1.Frozen.length), (.sl 3 0 a1.Cells.length), (.sl 4 0 a1.Locks.length), (.sl 5 0 a1.Helds.length), (.sl 6 0 a1.Wounded.length), (.sl 7 0 a1.Ended.length), (dI a1.Rank)])) rfl rfl (erH.cons (v' := (.data 1 (List.map d_i64 a1.Ended) true none)) rfl rfl (erH.cons (v' := (.data 1 (List.map d_i64 a1.Wounded) true none)) rfl rfl (erH.cons (v' := (.data 2 (List.map d_THeld a1.Helds) true none)) rfl rfl (erH.cons (v' := (.data 4 (List.map d_TLock a1.Locks) true none)) rfl rfl (erH.cons (v' := (.data 2 (List.map d_TCell a1.Cells) true none)) rfl rfl (erH.cons (v' := (.data 2 (List.map d_TRange a1.Frozen) true none)) rfl rfl (erH.cons (v' := (.data 2 (List.map d_TRange a1.Own) true none)) rfl rfl erH.nil)))))))) (erL.cons (v' := (.agg [(dI a1.Me), (.sl 1 0 ((List.map d_TRange a1.Own).length)), (.sl 2 0 ((List.map d_TRange a1.Frozen).length)), (.sl 3 0 ((List.map d_TCell a1.Cells).length)), (.sl 4 0 ((List.map d_TLock a1.Locks).length)), (.sl 5 0 ((List.map d_THeld a1.Helds).length)), (.sl 6 0 ((List.map d_i64 a1.Wounded).length)), (.sl 7 0 ((List.map d_i64 a1.Ended).length)), (dI a1.Rank)])) rfl erL.nil) rfl rfl (rmRest (oMov eZ (xQ (aS (AW.regm (rmOne (oFaddrN (m := 2) (eR rfl) rfl (xNil (rmOne (oLoadV (q := 2) (c := (.sl 2 0 a1.Frozen.length)) eZ (bS rfl bZ) rfl rfl (xNil (rmOne (oMov (eR rfl) (xNil ?_))))))))))))))
 obtain ⟨v6, h7, H⟩ := obind H
 obtain ⟨h8, H⟩ := oguard H
 refine rmCallI (ON := [2]) (ls := []) (G := []) (E := [subKey 2]) (MB := [(2, (.data 2 (List.map d_TRange v6.2) true none))]) (u := (oI v6.1)) eC Cl.fn (c_laws_markRangeS h7) (Evs.cons (eR rfl) (Evs.cons eZ Evs.nil)) (AO.mut (VO.sl (bS rfl (bS rfl (bS rfl (bS rfl (bS rfl (bS rfl (bS rfl bZ))))))) (List.length_map _) (allFlat fun _ => rfl)) (AO.lent VD.plain rfl AO.nil)) rfl rfl rfl (SZ.cons (bS rfl (bS rfl (bS rfl (bS rfl (bS rfl (bS rfl (bS rfl bZ))))))) SZ.nil) (erL.cons (v' := (oI v3.1)) rfl (erL.cons (v' := (.one (.sl 2 0 a1.Frozen.length))) rfl (erL.cons (v' := (.one (.ptr (.nm 128 0 2)))) rfl (erL.cons (v' := (oI v3.1)) rfl (erL.cons (v' := (oI v3.1)) rfl (erL.cons (v' := (oI a2)) rfl (erL.cons (v' := (.one (.sl 1 0 a1.Own.length))) rfl (erL.cons (v' := (.one (.ptr (.nm 128 0 1)))) rfl (erL.cons (v' := (oI 0)) rfl (erL.cons (v' := (.one (.ptr (.nm 128 0 0)))) rfl (erL.cons (v' := (.agg [(dI a1.Me), (.sl 1 0 a1.Own.length), (.sl 2 0 a1.Frozen.length), (.sl 3 0 a1.Cells.length), (.sl 4 0 a1.Locks.length), (.sl 5 0 a1.Helds.length), (.sl 6 0 a1.Wounded.length), (.sl 7 0 a1.Ended.length), (dI a1.Rank)])) rfl (erL.cons (v' := (oI a2)) rfl erL.nil)))))))))))) (erH.cons (v' := (.data 2 (List.map d_TRange v3.2) true none)) rfl rfl (erH.cons (v' := (.vars 9 [(dI a1.Me), (.sl 1 0 a1.Own.length), (.sl 2 0 a1.Frozen.length), (.sl 3 0 a1.Cells.length), (.sl 4 0 a1.Locks.length), (.sl 5 0 a1.Helds.length), (.sl 6 0 a1.Wounded.length), (.sl 7 0 a1.Ended.length), (dI a1.Rank)])) rfl rfl (erH.cons (v' := (.data 1 (List.map d_i64 a1.Ended) true none)) rfl rfl (erH.cons (v' := (.data 1 (List.map d_i64 a1.Wounded) true none)) rfl rfl (erH.cons (v' := (.data 2 (List.map d_THeld a1.Helds) true none)) rfl rfl (erH.cons (v' := (.data 4 (List.map d_TLock a1.Locks) true none)) rfl rfl (erH.cons (v' := (.data 2 (List.map d_TCell a1.Cells) true none)) rfl rfl (erH.cons (v' := (.data 2 (List.map d_TRange a1.Frozen) true none)) rfl rfl (erH.cons (v' := (.data 2 (List.map d_TRange a1.Own) true none)) rfl rfl erH.nil))))))))) (erL.cons (v' := (.agg [(dI a1.Me), (.sl 1 0 ((List.map d_TRange a1.Own).length)), (.sl 2 0 ((List.map d_TRange a1.Frozen).length)), (.sl 3 0 ((List.map d_TCell a1.Cells).length)), (.sl 4 0 ((List.map d_TLock a1.Locks).length)), (.sl 5 0 ((List.map d_THeld a1.Helds).length)), (.sl 6 0 ((List.map d_i64 a1.Wounded).length)), (.sl 7 0 ((List.map d_i64 a1.Ended).length)), (dI a1.Rank)])) rfl erL.nil) rfl rfl (rmRest (oMov eZ (xQ (aS (AW.regm (rmOne (oFaddrN (m := 3) (eR rfl) rfl (xNil (rmOne (oLoadV (q := 3) (c := (.sl 3 0 a1.Cells.length)) eZ (bS rfl (bS rfl bZ)) rfl rfl (xNil (rmOne (oMov (eR rfl) (xNil ?_))))))))))))))
 obtain ⟨v9, h10, H⟩ := obind H
 obtain ⟨h11, H⟩ := oguard H
 refine rmCallI (ON := [3]) (ls := []) (G := []) (E := [subKey 3]) (MB := [(3, (.data 2 (List.map d_TCell v9.2) true none))]) (u := (oI v9.1)) eC Cl.fn (c_laws_markCellS h10) (Evs.cons (eR rfl) (Evs.cons eZ Evs.nil)) (AO.mut (VO.sl (bS rfl (bS rfl (bS rfl (bS rfl (bS rfl (bS rfl (bS rfl bZ))))))) (List.length_map _) (allFlat fun _ => rfl)) (AO.lent VD.plain rfl AO.nil)) rfl rfl rfl (SZ.cons (bS rfl (bS rfl (bS rfl (bS rfl (bS rfl (bS rfl (bS rfl bZ))))))) SZ.nil) (erL.cons (v' := (oI v6.1)) rfl (erL.cons (v' := (.one (.sl 3 0 a1.Cells.length))) rfl (erL.cons (v' := (.one (.ptr (.nm 128 0 3)))) rfl (erL.cons (v' := (oI v6.1)) rfl (erL.cons (v' := (oI v6.1)) rfl (erL.cons (v' := (oI v3.1)) rfl (erL.cons (v' := (.one (.sl 2 0 a1.Frozen.length))) rfl (erL.cons (v' := (.one (.ptr (.nm 128 0 2)))) rfl (erL.cons (v' := (oI v3.1)) rfl (erL.cons (v' := (oI v3.1)) rfl (erL.cons (v' := (oI a2)) rfl (erL.cons (v' := (.one (.sl 1 0 a1.Own.length))) rfl (erL.cons (v' := (.one (.ptr (.nm 128 0 1)))) rfl (erL.cons (v' := (oI 0)) rfl (erL.cons (v' := (.one (.ptr (.nm 128 0 0)))) rfl (erL.cons (v' := (.agg [(dI a1.Me), (.sl 1 0 a1.Own.length), (.sl 2 0 a1.Frozen.length), (.sl 3 0 a1.Cells.length), (.sl 4 0 a1.Locks.length), (.sl 5 0 a1.Helds.length), (.sl 6 0 a1.Wounded.length), (.sl 7 0 a1.Ended.length), (dI a1.Rank)])) rfl (erL.cons (v' := (oI a2)) rfl erL.nil))))))))))))))))) (erH.cons (v' := (.data 2 (List.map d_TRange v6.2) true none)) rfl rfl (erH.cons (v' := (.data 2 (List.map d_TRange v3.2) true none)) rfl rfl (erH.cons (v' := (.vars 9 [(dI a1.Me), (.sl 1 0 a1.Own.length), (.sl 2 0 a1.Frozen.length), (.sl 3 0 a1.Cells.length), (.sl 4 0 a1.Locks.length), (.sl 5 0 a1.Helds.length), (.sl 6 0 a1.Wounded.length), (.sl 7 0 a1.Ended.length), (dI a1.Rank)])) rfl rfl (erH.cons (v' := (.data 1 (List.map d_i64 a1.Ended) true none)) rfl rfl (erH.cons (v' := (.data 1 (List.map d_i64 a1.Wounded) true none)) rfl rfl (erH.cons (v' := (.data 2 (List.map d_THeld a1.Helds) true none)) rfl rfl (erH.cons (v' := (.data 4 (List.map d_TLock a1.Locks) true none)) rfl rfl (erH.cons (v' := (.data 2 (List.map d_TCell a1.Cells) true none)) rfl rfl (erH.cons (v' := (.data 2 (List.map d_TRange a1.Frozen) true none)) rfl rfl (erH.cons (v' := (.data 2 (List.map d_TRange a1.Own) true none)) rfl rfl erH.nil)))))))))) (erL.cons (v' := (.agg [(dI a1.Me), (.sl 1 0 ((List.map d_TRange a1.Own).length)), (.sl 2 0 ((List.map d_TRange a1.Frozen).length)), (.sl 3 0 ((List.map d_TCell a1.Cells).length)), (.sl 4 0 ((List.map d_TLock a1.Locks).length)), (.sl 5 0 ((List.map d_THeld a1.Helds).length)), (.sl 6 0 ((List.map d_i64 a1.Wounded).length)), (.sl 7 0 ((List.map d_i64 a1.Ended).length)), (dI a1.Rank)])) rfl erL.nil) rfl rfl (rmRest (oMov eZ (xQ (AW.weaken (wk_mkG [] (kr 1 rfl rfl (kr 2 rfl rfl SL.nil)) (BL.keep rfl (BL.keep rfl (BL.keep rfl (BL.keep rfl (BL.keep rfl (BL.keep rfl (BL.keep rfl (BL.keep rfl (BL.keep rfl (BL.keep rfl (BL.keep rfl BL.nil))))))))))) (BK.cons (n := 3) rfl bZ rfl rfl (BK.cons (n := 2) rfl (bS rfl bZ) rfl rfl (BK.cons (n := 1) rfl (bS rfl (bS rfl bZ)) rfl rfl (BK.cons (n := 128) rfl (bS rfl (bS rfl (bS rfl bZ))) rfl rfl (BK.cons (n := 7) rfl (bS rfl (bS rfl (bS rfl (bS rfl bZ)))) rfl rfl (BK.cons (n := 6) rfl (bS rfl (bS rfl (bS rfl (bS rfl (bS rfl bZ))))) rfl rfl (BK.cons (n := 5) rfl (bS rfl (bS rfl (bS rfl (bS rfl (bS rfl (bS rfl bZ)))))) rfl rfl (BK.cons (n := 4) rfl (bS rfl (bS rfl (bS rfl (bS rfl (bS rfl (bS rfl (bS rfl bZ))))))) rfl rfl BK.nil)))))))) (GK.cons rfl GK.nil)) (aS (AW.regm (rmOne (oFaddrN (m := 4) (eR rfl) rfl (xNil (rmOne (oLoadV (q := 4) (c := (.sl 4 0 a1.Locks.length)) eZ (bS rfl (bS rfl (bS rfl bZ))) rfl rfl (xNil (rmOne (oMov (eR rfl) (xNil ?_)))))))))))))))
 obtain ⟨v12, h13, H⟩ := obind H
 obtain ⟨h14, H⟩ := oguard H
 refine rmCallI (ON := [4]) (ls := []) (G := []) (E := [subKey 4]) (MB := [(4, (.data 4 (List.map d_TLock v12.2) true none))]) (u := (oI v12.1)) eC Cl.fn (c_laws_markLockS h13) (Evs.cons (eR rfl) (Evs.cons eZ Evs.nil)) (AO.mut (VO.sl (bS rfl (bS rfl (bS rfl (bS rfl (bS rfl (bS rfl (bS rfl bZ))))))) (List.length_map _) (allFlat fun _ => rfl)) (AO.lent VD.plain rfl AO.nil)) rfl rfl rfl (SZ.cons (bS rfl (bS rfl (bS rfl (bS rfl (bS rfl (bS rfl (bS rfl bZ))))))) SZ.nil) (erL.cons (v' := (oI v9.1)) rfl (erL.cons (v' := (.one (.sl 4 0 a1.Locks.length))) rfl (erL.cons (v' := (.one (.ptr (.nm 128 0 4)))) rfl (erL.cons (v' := (oI v9.1)) rfl (erL.cons (v' := (.one (.ptr (.nm 128 0 0)))) rfl erL.nil))))) (erH.cons (v' := (.data 2 (List.map d_TCell v9.2) true none)) rfl rfl (erH.cons (v' := (.data 2 (List.map d_TRange v6.2) true none)) rfl rfl (erH.cons (v' := (.data 2 (List.map d_TRange v3.2) true none)) rfl rfl (erH.cons (v' := (.vars 9 [(dI a1.Me), (.sl 1 0 a1.Own.length), (.sl 2 0 a1.Frozen.length), (.sl 3 0 a1.Cells.length), (.sl 4 0 a1.Locks.length), (.sl 5 0 a1.Helds.length), (.sl 6 0 a1.Wounded.length), (.sl 7 0 a1.Ended.length), (dI a1.Rank)])) rfl rfl (erH.cons (v' := (.data 1 (List.map d_i64 a1.Ended) true none)) rfl rfl (erH.cons (v' := (.data 1 (List.map d_i64 a1.Wounded) true none)) rfl rfl (erH.cons (v' := (.data 2 (List.map d_THeld a1.Helds) true none)) rfl rfl (erH.cons (v' := (.data 4 (List.map d_TLock a1.Locks) true none)) rfl rfl erH.nil)))))))) (erL.cons (v' := (.agg [(dI a1.Me), (.sl 1 0 ((List.map d_TRange a1.Own).length)), (.sl 2 0 ((List.map d_TRange a1.Frozen).length)), (.sl 3 0 ((List.map d_TCell a1.Cells).length)), (.sl 4 0 ((List.map d_TLock a1.Locks).length)), (.sl 5 0 ((List.map d_THeld a1.Helds).length)), (.sl 6 0 ((List.map d_i64 a1.Wounded).length)), (.sl 7 0 ((List.map d_i64 a1.Ended).length)), (dI a1.Rank)])) rfl erL.nil) rfl rfl (rmRest (oMov eZ (xQ (aS (AW.regm (rmOne (oFaddrN (m := 5) (eR rfl) rfl (xNil (rmOne (oLoadV (q := 5) (c := (.sl 5 0 a1.Helds.length)) eZ (bS rfl (bS rfl (bS rfl (bS rfl bZ)))) rfl rfl (xNil (rmOne (oMov (eR rfl) (xNil ?_))))))))))))))
 obtain ⟨v15, h16, H⟩ := obind H
 obtain ⟨h17, H⟩ := oguard H
 refine rmCallI (ON := [5]) (ls := []) (G := []) (E := [subKey 5]) (MB := [(5, (.data 2 (List.map d_THeld v15.2) true none))]) (u := (oI v15.1)) eC Cl.fn (c_laws_markHeldS h16) (Evs.cons (eR rfl) (Evs.cons eZ Evs.nil)) (AO.mut (VO.sln (bS rfl (bS rfl (bS rfl (bS rfl (bS rfl (bS rfl (bS rfl bZ))))))) (List.length_map _) rfl) (AO.lent VD.plain rfl AO.nil)) rfl rfl rfl (SZ.cons (bS rfl (bS rfl (bS rfl (bS rfl (bS rfl (bS rfl (bS rfl bZ))))))) SZ.nil) (erL.cons (v' := (oI v12.1)) rfl (erL.cons (v' := (.one (.sl 5 0 a1.Helds.length))) rfl (erL.cons (v' := (.one (.ptr (.nm 128 0 5)))) rfl (erL.cons (v' := (oI v12.1)) rfl (erL.cons (v' := (oI v12.1)) rfl (erL.cons (v' := (oI v9.1)) rfl (erL.cons (v' := (.one (.sl 4 0 a1.Locks.length))) rfl (erL.cons (v' := (.one (.ptr (.nm 128 0 4)))) rfl (erL.cons (v' := (oI v9.1)) rfl (erL.cons (v' := (.one (.ptr (.nm 128 0 0)))) rfl erL.nil)))))))))) (erH.cons (v' := (.data 4 (List.map d_TLock v12.2) true none)) rfl rfl (erH.cons (v' := (.data 2 (List.map d_TCell v9.2) true none)) rfl rfl (erH.cons (v' := (.data 2 (List.map d_TRange v6.2) true none)) rfl rfl (erH.cons (v' := (.data 2 (List.map d_TRange v3.2) true none)) rfl rfl (erH.cons (v' := (.vars 9 [(dI a1.Me), (.sl 1 0 a1.Own.length), (.sl 2 0 a1.Frozen.length), (.sl 3 0 a1.Cells.length), (.sl 4 0 a1.Locks.length), (.sl 5 0 a1.Helds.length), (.sl 6 0 a1.Wounded.length), (.sl 7 0 a1.Ended.length), (dI a1.Rank)])) rfl rfl (erH.cons (v' := (.data 1 (List.map d_i64 a1.Ended) true none)) rfl rfl (erH.cons (v' := (.data 1 (List.map d_i64 a1.Wounded) true none)) rfl rfl (erH.cons (v' := (.data 2 (List.map d_THeld a1.Helds) true none)) rfl rfl (erH.cons (v' := (.data 4 (List.map d_TLock a1.Locks) true none)) rfl rfl erH.nil))))))))) (erL.cons (v' := (.agg [(dI a1.Me), (.sl 1 0 ((List.map d_TRange a1.Own).length)), (.sl 2 0 ((List.map d_TRange a1.Frozen).length)), (.sl 3 0 ((List.map d_TCell a1.Cells).length)), (.sl 4 0 ((List.map d_TLock a1.Locks).length)), (.sl 5 0 ((List.map d_THeld a1.Helds).length)), (.sl 6 0 ((List.map d_i64 a1.Wounded).length)), (.sl 7 0 ((List.map d_i64 a1.Ended).length)), (dI a1.Rank)])) rfl erL.nil) rfl rfl (rmRest (oMov eZ (xQ (aS (AW.regm (rmOne (oFaddrN (m := 6) (eR rfl) rfl (xNil (rmOne (oLoadV (q := 6) (c := (.sl 6 0 a1.Wounded.length)) eZ (bS rfl (bS rfl (bS rfl (bS rfl (bS rfl bZ))))) rfl rfl (xNil (rmOne (oMov (eR rfl) (xNil ?_))))))))))))))
 obtain ⟨v18, h19, H⟩ := obind H
 obtain ⟨h20, H⟩ := oguard H
 refine rmCallI (ON := [6]) (ls := []) (G := []) (E := [subKey 6]) (MB := [(6, (.data 1 (List.map d_i64 v18.2) true none))]) (u := (oI v18.1)) eC Cl.fn (c_laws_markIntS h19) (Evs.cons (eR rfl) (Evs.cons eZ Evs.nil)) (AO.mut (VO.sl (bS rfl (bS rfl (bS rfl (bS rfl (bS rfl (bS rfl (bS rfl bZ))))))) (List.length_map _) (allFlat fun _ => rfl)) (AO.lent VD.plain rfl AO.nil)) rfl rfl rfl (SZ.cons (bS rfl (bS rfl (bS rfl (bS rfl (bS rfl (bS rfl (bS rfl bZ))))))) SZ.nil) (erL.cons (v' := (oI v15.1)) rfl (erL.cons (v' := (.one (.sl 6 0 a1.Wounded.length))) rfl (erL.cons (v' := (.one (.ptr (.nm 128 0 6)))) rfl (erL.cons (v' := (oI v15.1)) rfl (erL.cons (v' := (oI v15.1)) rfl (erL.cons (v' := (oI v12.1)) rfl (erL.cons (v' := (.one (.sl 5 0 a1.Helds.length))) rfl (erL.cons (v' := (.one (.ptr (.nm 128 0 5)))) rfl (erL.cons (v' := (oI v12.1)) rfl (erL.cons (v' := (oI v12.1)) rfl (erL.cons (v' := (oI v9.1)) rfl (erL.cons (v' := (.one (.sl 4 0 a1.Locks.length))) rfl (erL.cons (v' := (.one (.ptr (.nm 128 0 4)))) rfl (erL.cons (v' := (oI v9.1)) rfl (erL.cons (v' := (.one (.ptr (.nm 128 0 0)))) rfl erL.nil))))))))))))))) (erH.cons (v' := (.data 2 (List.map d_THeld v15.2) true none)) rfl rfl (erH.cons (v' := (.data 4 (List.map d_TLock v12.2) true none)) rfl rfl (erH.cons (v' := (.data 2 (List.map d_TCell v9.2) true none)) rfl rfl (erH.cons (v' := (.data 2 (List.map d_TRange v6.2) true none)) rfl rfl (erH.cons (v' := (.data 2 (List.map d_TRange v3.2) true none)) rfl rfl (erH.cons (v' := (.vars 9 [(dI a1.Me), (.sl 1 0 a1.Own.length), (.sl 2 0 a1.Frozen.length), (.sl 3 0 a1.Cells.length), (.sl 4 0 a1.Locks.length), (.sl 5 0 a1.Helds.length), (.sl 6 0 a1.Wounded.length), (.sl 7 0 a1.Ended.length), (dI a1.Rank)])) rfl rfl (erH.cons (v' := (.data 1 (List.map d_i64 a1.Ended) true none)) rfl rfl (erH.cons (v' := (.data 1 (List.map d_i64 a1.Wounded) true none)) rfl rfl (erH.cons (v' := (.data 2 (List.map d_THeld a1.Helds) true none)) rfl rfl (erH.cons (v' := (.data 4 (List.map d_TLock a1.Locks) true none)) rfl rfl erH.nil)))))))))) (erL.cons (v' := (.agg [(dI a1.Me), (.sl 1 0 ((List.map d_TRange a1.Own).length)), (.sl 2 0 ((List.map d_TRange a1.Frozen).length)), (.sl 3 0 ((List.map d_TCell a1.Cells).length)), (.sl 4 0 ((List.map d_TLock a1.Locks).length)), (.sl 5 0 ((List.map d_THeld a1.Helds).length)), (.sl 6 0 ((List.map d_i64 a1.Wounded).length)), (.sl 7 0 ((List.map d_i64 a1.Ended).length)), (dI a1.Rank)])) rfl erL.nil) rfl rfl (rmRest (oMov eZ (xQ (AW.weaken (wk_mkG [] (kr 1 rfl rfl (kr 2 rfl rfl SL.nil)) (BL.keep rfl (BL.keep rfl (BL.keep rfl (BL.keep rfl (BL.keep rfl (BL.keep rfl (BL.keep rfl (BL.keep rfl (BL.keep rfl (BL.keep rfl (BL.keep rfl BL.nil))))))))))) (BK.cons (n := 6) rfl bZ rfl rfl (BK.cons (n := 5) rfl (bS rfl bZ) rfl rfl (BK.cons (n := 4) rfl (bS rfl (bS rfl bZ)) rfl rfl (BK.cons (n := 3) rfl (bS rfl (bS rfl (bS rfl bZ))) rfl rfl (BK.cons (n := 2) rfl (bS rfl (bS rfl (bS rfl (bS rfl bZ)))) rfl rfl (BK.cons (n := 1) rfl (bS rfl (bS rfl (bS rfl (bS rfl (bS rfl bZ))))) rfl rfl (BK.cons (n := 128) rfl (bS rfl (bS rfl (bS rfl (bS rfl (bS rfl (bS rfl bZ)))))) rfl rfl (BK.cons (n := 7) rfl (bS rfl (bS rfl (bS rfl (bS rfl (bS rfl (bS rfl (bS rfl bZ))))))) rfl rfl BK.nil)))))))) (GK.cons rfl GK.nil)) (aS (AW.regm (rmOne (oFaddrN (m := 7) (eR rfl) rfl (xNil (rmOne (oLoadV (q := 7) (c := (.sl 7 0 a1.Ended.length)) eZ (bS rfl (bS rfl (bS rfl (bS rfl (bS rfl (bS rfl bZ)))))) rfl rfl (xNil (rmOne (oMov (eR rfl) (xNil ?_)))))))))))))))
 obtain ⟨v21, h22, H⟩ := obind H
 obtain ⟨h23, H⟩ := oguard H
 refine rmCallI (ON := [7]) (ls := []) (G := []) (E := [subKey 7]) (MB := [(7, (.data 1 (List.map d_i64 v21.2) true none))]) (u := (oI v21.1)) eC Cl.fn (c_laws_markIntS h22) (Evs.cons (eR rfl) (Evs.cons eZ Evs.nil)) (AO.mut (VO.sl (bS rfl (bS rfl (bS rfl (bS rfl (bS rfl (bS rfl (bS rfl bZ))))))) (List.length_map _) (allFlat fun _ => rfl)) (AO.lent VD.plain rfl AO.nil)) rfl rfl rfl (SZ.cons (bS rfl (bS rfl (bS rfl (bS rfl (bS rfl (bS rfl (bS rfl bZ))))))) SZ.nil) (erL.cons (v' := (oI v18.1)) rfl (erL.cons (v' := (.one (.sl 7 0 a1.Ended.length))) rfl (erL.cons (v' := (.one (.ptr (.nm 128 0 7)))) rfl (erL.cons (v' := (oI v18.1)) rfl (erL.cons (v' := (.one (.ptr (.nm 128 0 0)))) rfl erL.nil))))) (erH.cons (v' := (.data 1 (List.map d_i64 v18.2) true none)) rfl rfl (erH.cons (v' := (.data 2 (List.map d_THeld v15.2) true none)) rfl rfl (erH.cons (v' := (.data 4 (List.map d_TLock v12.2) true none)) rfl rfl (erH.cons (v' := (.data 2 (List.map d_TCell v9.2) true none)) rfl rfl (erH.cons (v' := (.data 2 (List.map d_TRange v6.2) true none)) rfl rfl (erH.cons (v' := (.data 2 (List.map d_TRange v3.2) true none)) rfl rfl (erH.cons (v' := (.vars 9 [(dI a1.Me), (.sl 1 0 a1.Own.length), (.sl 2 0 a1.Frozen.length), (.sl 3 0 a1.Cells.length), (.sl 4 0 a1.Locks.length), (.sl 5 0 a1.Helds.length), (.sl 6 0 a1.Wounded.length), (.sl 7 0 a1.Ended.length), (dI a1.Rank)])) rfl rfl (erH.cons (v' := (.data 1 (List.map d_i64 a1.Ended) true none)) rfl rfl erH.nil)))))))) (erL.cons (v' := (.agg [(dI a1.Me), (.sl 1 0 ((List.map d_TRange a1.Own).length)), (.sl 2 0 ((List.map d_TRange a1.Frozen).length)), (.sl 3 0 ((List.map d_TCell a1.Cells).length)), (.sl 4 0 ((List.map d_TLock a1.Locks).length)), (.sl 5 0 ((List.map d_THeld a1.Helds).length)), (.sl 6 0 ((List.map d_i64 a1.Wounded).length)), (.sl 7 0 ((List.map d_i64 a1.Ended).length)), (dI a1.Rank)])) rfl erL.nil) rfl rfl (rmRest (oMov eZ (xQ (aV (oMov eZ (oMov eZ (xQ (AW.ret ?_))))))))
 obtain ⟨h24, H⟩ := oguard H
 obtain ⟨h25, H⟩ := oguard H
 obtain ⟨h26, H⟩ := oguard H
 obtain ⟨h27, H⟩ := oguard H
 obtain ⟨h28, H⟩ := oguard H
 obtain ⟨h29, H⟩ := oguard H
 obtain ⟨h30, H⟩ := oguard H
 cases H
 exact endsRM (RL.cons (RV.tmp eZ) (VO.flat rfl) RL.nil) (ML.mut eZ (VO.aggs (VOs.cons (VO.flat rfl) (VOs.cons (VO.sl (bS rfl (bS rfl (bS rfl (bS rfl (bS rfl (bS rfl bZ)))))) (by first | (simp; done) | (simp; omega) | omega | (simp only [List.length_map]; omega)) (allFlat fun _ => rfl)) (VOs.cons (VO.sl (bS rfl (bS rfl (bS rfl (bS rfl (bS rfl bZ))))) (by first | (simp; done) | (simp; omega) | omega | (simp only [List.length_map]; omega)) (allFlat fun _ => rfl)) (VOs.cons (VO.sl (bS rfl (bS rfl (bS rfl (bS rfl bZ)))) (by first | (simp; done) | (simp; omega) | omega | (simp only [List.length_map]; omega)) (allFlat fun _ => rfl)) (VOs.cons (VO.sl (bS rfl (bS rfl (bS rfl bZ))) (by first | (simp; done) | (simp; omega) | omega | (simp only [List.length_map]; omega)) (allFlat fun _ => rfl)) (VOs.cons (VO.sln (bS rfl (bS rfl bZ)) (by first | (simp; done) | (simp; omega) | omega | (simp only [List.length_map]; omega)) rfl) (VOs.cons (VO.sl (bS rfl bZ) (by first | (simp; done) | (simp; omega) | omega | (simp only [List.length_map]; omega)) (allFlat fun _ => rfl)) (VOs.cons (VO.sl bZ (by first | (simp; done) | (simp; omega) | omega | (simp only [List.length_map]; omega)) (allFlat fun _ => rfl)) (VOs.cons (VO.flat rfl) VOs.nil)))))))))) (ML.lent ML.nil)) (by decide)
theorem c_laws_heldRangeS {a1 : (List TRange)} {a2 : Int} {r : Int} (H : m_laws_heldRangeS a1 a2 = some r) : Fn Tryz.prog 71 (lent [(.sl 2 (List.map d_TRange a1)), (.int .i64 a2)]) true [(.int .i64 r)] := by
 refine f71 (fle rfl) ?_
 rw [init_mk]
 refine AW.weaken (wk_mk [] (kv 0 (.one (.d (.sl 2 (List.map d_TRange a1)))) rfl rfl (kv 1 (oI a2) rfl rfl SL.nil)) BL.nil BK.nil) ?_
 unfold m_laws_heldRangeS at H
 unfold i71
 refine aV (oMov eC (xQ (AW.seqJ (fun t3 : Int => laws_heldRangeS_j3 t3 = some r) (fun t3 => mk [(1, (oI t3))] [] noG) ?_ ?_)))
 ·intro t3 H
  unfold laws_heldRangeS_j3 at H
  refine aV (oMov eZ (oMov eZ (xQ (AW.ret ?_))))
  cases H
  exact eE rfl rfl
 ·refine aV (oMov eC (xQ (AW.block (AW.iter (fun s5 : (Int × Int) => mk [(0, (.one (.d (.sl 2 (List.map d_TRange a1))))), (1, (oI s5.1)), (5, (oI s5.2))] [] noG) H (wk_mk [] (kR rfl rfl (kR rfl rfl (kR rfl rfl SL.nil))) BL.nil BK.nil) ?_))))
  intro kb6 s5 H
  unfold laws_heldRangeS_b5 at H
  refine aS (aV (oMov (eR rfl) (oMov (eR rfl) (oLenD eZ (n := a1.length) (List.length_map _) (oLss (eR rfl) eZ (xQ ?_))))))
  rcases oite H with ⟨h7, H⟩ | ⟨h7, H⟩
  ·refine AW.condT eZ (dT h7) (AW.skip (TQ.qn (aS (AW.block (aS (aV (oMov (eR rfl) (oMov (eR rfl) ?_))))))))
   obtain ⟨v8, h9, H⟩ := obind H
   refine oAtD (eR rfl) eZ h9 (oFaddrB (m := 0) eZ rfl (oLoadB (e := (.int .i64 v8.Lo)) eZ rfl (oMov (eR rfl) (oNeq (eR rfl) eZ (xQ ?_)))))
   rcases oite H with ⟨h10, H⟩ | ⟨h10, H⟩
   ·refine AW.condT eZ (dT h10) (aV (oMov eC (xQ (AW.ret (TQ.qr (BQ.qr (TQ.qr (TQ.qr (BQ.qr (TQ.qr ?_))))))))))
    cases H
    exact eE rfl rfl
   ·refine AW.condF eZ (dF h10) (AW.skip (TQ.qn (aV (oMov (eR rfl) (oAdd eZ eC (oMov eZ (xQ (AW.weaken (wk_mk [] (kr 1 rfl rfl (kr 0 rfl rfl (kr 5 rfl rfl SL.nil))) BL.nil BK.nil) (aS (aV (oMov (eR rfl) (oMov (eR rfl) ?_))))))))))))
    obtain ⟨v11, h12, H⟩ := obind H
    refine oAtD (eR rfl) eZ h12 (oFaddrB (m := 1) eZ rfl (oLoadB (e := (.int .i64 v11.Hi)) eZ rfl (oMov (eR rfl) (oNeq (eR rfl) eZ (xQ ?_)))))
    rcases oite H with ⟨h13, H⟩ | ⟨h13, H⟩
    ·refine AW.condT eZ (dT h13) (aV (oMov eC (xQ (AW.ret (TQ.qr (BQ.qr (TQ.qr (TQ.qr (BQ.qr (TQ.qr ?_))))))))))
     cases H
     exact eE rfl rfl
    ·exact AW.condF eZ (dF h13) (AW.skip (TQ.qn (aR (oMov (eR rfl) (oAdd eZ eC (oMov eZ (xNil (BQ.qn (TQ.qn (aR (oMov (eR rfl) (oAdd eZ eC (oMov eZ (xNil (TQ.qn ⟨((IntKind.wrap .i64 ((IntKind.wrap .i64 (s5.1 + 1)) + 1)), (IntKind.wrap .i64 (s5.2 + 1))), H, (wk_mk [] (kR rfl rfl (kR rfl rfl (kR rfl rfl SL.nil))) BL.nil BK.nil)⟩)))))))))))))))
  ·exact AW.condF eZ (dF h7) (AW.exit (TQ.qe (TQ.qe (BQ.qe (TQ.qn ⟨s5.1, H, (wk_mk [] (kR rfl rfl SL.nil) BL.nil BK.nil)⟩)))))
theorem c_laws_heldCellS {a1 : (List TCell)} {a2 : Int} {r : Int} (H : m_laws_heldCellS a1 a2 = some r) : Fn Tryz.prog 72 (lent [(.sl 2 (List.map d_TCell a1)), (.int .i64 a2)]) true [(.int .i64 r)] := by
 refine f72 (fle rfl) ?_
 rw [init_mk]
 refine AW.weaken (wk_mk [] (kv 0 (.one (.d (.sl 2 (List.map d_TCell a1)))) rfl rfl (kv 1 (oI a2) rfl rfl SL.nil)) BL.nil BK.nil) ?_
 unfold m_laws_heldCellS at H
 unfold i72
 refine aV (oMov eC (xQ (AW.seqJ (fun t3 : Int => laws_heldCellS_j3 t3 = some r) (fun t3 => mk [(1, (oI t3))] [] noG) ?_ ?_)))
 ·intro t3 H
  unfold laws_heldCellS_j3 at H
  refine aV (oMov eZ (oMov eZ (xQ (AW.ret ?_))))
  cases H
  exact eE rfl rfl
 ·refine aV (oMov eC (xQ (AW.block (AW.iter (fun s5 : (Int × Int) => mk [(0, (.one (.d (.sl 2 (List.map d_TCell a1))))), (1, (oI s5.1)), (5, (oI s5.2))] [] noG) H (wk_mk [] (kR rfl rfl (kR rfl rfl (kR rfl rfl SL.nil))) BL.nil BK.nil) ?_))))
  intro kb6 s5 H
  unfold laws_heldCellS_b5 at H
  refine aS (aV (oMov (eR rfl) (oMov (eR rfl) (oLenD eZ (n := a1.length) (List.length_map _) (oLss (eR rfl) eZ (xQ ?_))))))
  rcases oite H with ⟨h7, H⟩ | ⟨h7, H⟩
  ·refine AW.condT eZ (dT h7) (AW.skip (TQ.qn (aS (AW.block (aS (aV (oMov (eR rfl) (oMov (eR rfl) ?_))))))))
   obtain ⟨v8, h9, H⟩ := obind H
   refine oAtD (eR rfl) eZ h9 (oFaddrB (m := 0) eZ rfl (oLoadB (e := (.int .i64 v8.Key)) eZ rfl (oMov (eR rfl) (oNeq (eR rfl) eZ (xQ ?_)))))
   rcases oite H with ⟨h10, H⟩ | ⟨h10, H⟩
   ·refine AW.condT eZ (dT h10) (aV (oMov eC (xQ (AW.ret (TQ.qr (BQ.qr (TQ.qr (TQ.qr (BQ.qr (TQ.qr ?_))))))))))
    cases H
    exact eE rfl rfl
   ·refine AW.condF eZ (dF h10) (AW.skip (TQ.qn (aV (oMov (eR rfl) (oAdd eZ eC (oMov eZ (xQ (AW.weaken (wk_mk [] (kr 1 rfl rfl (kr 0 rfl rfl (kr 5 rfl rfl SL.nil))) BL.nil BK.nil) (aS (aV (oMov (eR rfl) (oMov (eR rfl) ?_))))))))))))
    obtain ⟨v11, h12, H⟩ := obind H
    refine oAtD (eR rfl) eZ h12 (oFaddrB (m := 1) eZ rfl (oLoadB (e := (.int .i64 v11.Value)) eZ rfl (oMov (eR rfl) (oNeq (eR rfl) eZ (xQ ?_)))))
    rcases oite H with ⟨h13, H⟩ | ⟨h13, H⟩
    ·refine AW.condT eZ (dT h13) (aV (oMov eC (xQ (AW.ret (TQ.qr (BQ.qr (TQ.qr (TQ.qr (BQ.qr (TQ.qr ?_))))))))))
     cases H
     exact eE rfl rfl
    ·exact AW.condF eZ (dF h13) (AW.skip (TQ.qn (aR (oMov (eR rfl) (oAdd eZ eC (oMov eZ (xNil (BQ.qn (TQ.qn (aR (oMov (eR rfl) (oAdd eZ eC (oMov eZ (xNil (TQ.qn ⟨((IntKind.wrap .i64 ((IntKind.wrap .i64 (s5.1 + 1)) + 1)), (IntKind.wrap .i64 (s5.2 + 1))), H, (wk_mk [] (kR rfl rfl (kR rfl rfl (kR rfl rfl SL.nil))) BL.nil BK.nil)⟩)))))))))))))))
  ·exact AW.condF eZ (dF h7) (AW.exit (TQ.qe (TQ.qe (BQ.qe (TQ.qn ⟨s5.1, H, (wk_mk [] (kR rfl rfl SL.nil) BL.nil BK.nil)⟩)))))
theorem c_laws_heldLockS {a1 : (List TLock)} {a2 : Int} {r : Int} (H : m_laws_heldLockS a1 a2 = some r) : Fn Tryz.prog 73 (lent [(.sl 4 (List.map d_TLock a1)), (.int .i64 a2)]) true [(.int .i64 r)] := by
 refine f73 (fle rfl) ?_
 rw [init_mk]
 refine AW.weaken (wk_mk [] (kv 0 (.one (.d (.sl 4 (List.map d_TLock a1)))) rfl rfl (kv 1 (oI a2) rfl rfl SL.nil)) BL.nil BK.nil) ?_
 unfold m_laws_heldLockS at H
 unfold i73
 refine aV (oMov eC (xQ (AW.seqJ (fun t3 : Int => laws_heldLockS_j3 t3 = some r) (fun t3 => mk [(1, (oI t3))] [] noG) ?_ ?_)))
 ·intro t3 H
  unfold laws_heldLockS_j3 at H
  refine aV (oMov eZ (oMov eZ (xQ (AW.ret ?_))))
  cases H
  exact eE rfl rfl
 ·refine aV (oMov eC (xQ (AW.block (AW.iter (fun s5 : (Int × Int) => mk [(0, (.one (.d (.sl 4 (List.map d_TLock a1))))), (1, (oI s5.1)), (5, (oI s5.2))] [] noG) H (wk_mk [] (kR rfl rfl (kR rfl rfl (kR rfl rfl SL.nil))) BL.nil BK.nil) ?_))))
  intro kb6 s5 H
  unfold laws_heldLockS_b5 at H
  refine aS (aV (oMov (eR rfl) (oMov (eR rfl) (oLenD eZ (n := a1.length) (List.length_map _) (oLss (eR rfl) eZ (xQ ?_))))))
  rcases oite H with ⟨h7, H⟩ | ⟨h7, H⟩
  ·refine AW.condT eZ (dT h7) (AW.skip (TQ.qn (aS (AW.block (aS (aV (oMov (eR rfl) (oMov (eR rfl) ?_))))))))
   obtain ⟨v8, h9, H⟩ := obind H
   refine oAtD (eR rfl) eZ h9 (oFaddrB (m := 0) eZ rfl (oLoadB (e := (.int .i64 v8.Tx)) eZ rfl (oMov (eR rfl) (oNeq (eR rfl) eZ (xQ ?_)))))
   rcases oite H with ⟨h10, H⟩ | ⟨h10, H⟩
   ·refine AW.condT eZ (dT h10) (aV (oMov eC (xQ (AW.ret (TQ.qr (BQ.qr (TQ.qr (TQ.qr (BQ.qr (TQ.qr ?_))))))))))
    cases H
    exact eE rfl rfl
   ·refine AW.condF eZ (dF h10) (AW.skip (TQ.qn (aV (oMov (eR rfl) (oAdd eZ eC (oMov eZ (xQ (AW.weaken (wk_mk [] (kr 1 rfl rfl (kr 0 rfl rfl (kr 5 rfl rfl SL.nil))) BL.nil BK.nil) (aS (aV (oMov (eR rfl) (oMov (eR rfl) ?_))))))))))))
    obtain ⟨v11, h12, H⟩ := obind H
    refine oAtD (eR rfl) eZ h12 (oFaddrB (m := 1) eZ rfl (oLoadB (e := (.int .i64 v11.Lo)) eZ rfl (oMov (eR rfl) (oNeq (eR rfl) eZ (xQ ?_)))))
    rcases oite H with ⟨h13, H⟩ | ⟨h13, H⟩
    ·refine AW.condT eZ (dT h13) (aV (oMov eC (xQ (AW.ret (TQ.qr (BQ.qr (TQ.qr (TQ.qr (BQ.qr (TQ.qr ?_))))))))))
     cases H
     exact eE rfl rfl
    ·refine AW.condF eZ (dF h13) (AW.skip (TQ.qn (aV (oMov (eR rfl) (oAdd eZ eC (oMov eZ (xQ (aS (aV (oMov (eR rfl) (oMov (eR rfl) ?_)))))))))))
     obtain ⟨v14, h15, H⟩ := obind H
     refine oAtD (eR rfl) eZ h15 (oFaddrB (m := 2) eZ rfl (oLoadB (e := (.int .i64 v14.Hi)) eZ rfl (oMov (eR rfl) (oNeq (eR rfl) eZ (xQ (AW.weaken (wk_mk [] (kr 36 rfl rfl (kr 1 rfl rfl (kr 0 rfl rfl (kr 5 rfl rfl SL.nil)))) BL.nil BK.nil) ?_))))))
     rcases oite H with ⟨h16, H⟩ | ⟨h16, H⟩
     ·refine AW.condT eZ (dT h16) (aV (oMov eC (xQ (AW.ret (TQ.qr (BQ.qr (TQ.qr (TQ.qr (BQ.qr (TQ.qr ?_))))))))))
      cases H
      exact eE rfl rfl
     ·refine AW.condF eZ (dF h16) (AW.skip (TQ.qn (aV (oMov (eR rfl) (oAdd eZ eC (oMov eZ (xQ (aS (aV (oMov (eR rfl) (oMov (eR rfl) ?_)))))))))))
      obtain ⟨v17, h18, H⟩ := obind H
      refine oAtD (eR rfl) eZ h18 (oFaddrB (m := 3) eZ rfl (oLoadB (e := (.int .i64 v17.Mode)) eZ rfl (oMov (eR rfl) (oNeq (eR rfl) eZ (xQ ?_)))))
      rcases oite H with ⟨h19, H⟩ | ⟨h19, H⟩
      ·refine AW.condT eZ (dT h19) (aV (oMov eC (xQ (AW.ret (TQ.qr (BQ.qr (TQ.qr (TQ.qr (BQ.qr (TQ.qr ?_))))))))))
       cases H
       exact eE rfl rfl
      ·exact AW.condF eZ (dF h19) (AW.skip (TQ.qn (aR (oMov (eR rfl) (oAdd eZ eC (oMov eZ (xNil (BQ.qn (TQ.qn (AW.weaken (wk_mk [] (kr 1 rfl rfl (kr 0 rfl rfl (kr 5 rfl rfl SL.nil))) BL.nil BK.nil) (aR (oMov (eR rfl) (oAdd eZ eC (oMov eZ (xNil (TQ.qn ⟨((IntKind.wrap .i64 ((IntKind.wrap .i64 ((IntKind.wrap .i64 ((IntKind.wrap .i64 (s5.1 + 1)) + 1)) + 1)) + 1)), (IntKind.wrap .i64 (s5.2 + 1))), H, (wk_mk [] (kR rfl rfl (kR rfl rfl (kR rfl rfl SL.nil))) BL.nil BK.nil)⟩))))))))))))))))
  ·exact AW.condF eZ (dF h7) (AW.exit (TQ.qe (TQ.qe (BQ.qe (TQ.qn ⟨s5.1, H, (wk_mk [] (kR rfl rfl SL.nil) BL.nil BK.nil)⟩)))))
theorem c_laws_heldWriteS {a1 : (List TCell)} {a2 : Int} {r : Int} (H : m_laws_heldWriteS a1 a2 = some r) : Fn Tryz.prog 112 (lent [(.sl 2 (List.map d_TCell a1)), (.int .i64 a2)]) true [(.int .i64 r)] := by
 refine f112 (fle rfl) ?_
 rw [init_mk]
 refine AW.weaken (wk_mk [] (kv 0 (.one (.d (.sl 2 (List.map d_TCell a1)))) rfl rfl (kv 1 (oI a2) rfl rfl SL.nil)) BL.nil BK.nil) ?_
 unfold m_laws_heldWriteS at H
 unfold i112
 refine aV (oMov eC (xQ (AW.seqJ (fun t3 : Int => laws_heldWriteS_j3 t3 = some r) (fun t3 => mk [(1, (oI t3))] [] noG) ?_ ?_)))
 ·intro t3 H
  unfold laws_heldWriteS_j3 at H
  refine aV (oMov eZ (oMov eZ (xQ (AW.ret ?_))))
  cases H
  exact eE rfl rfl
 ·refine aV (oMov eC (xQ (AW.block (AW.iter (fun s5 : (Int × Int) => mk [(0, (.one (.d (.sl 2 (List.map d_TCell a1))))), (1, (oI s5.1)), (5, (oI s5.2))] [] noG) H (wk_mk [] (kR rfl rfl (kR rfl rfl (kR rfl rfl SL.nil))) BL.nil BK.nil) ?_))))
  intro kb6 s5 H
  unfold laws_heldWriteS_b5 at H
  refine aS (aV (oMov (eR rfl) (oMov (eR rfl) (oLenD eZ (n := a1.length) (List.length_map _) (oLss (eR rfl) eZ (xQ ?_))))))
  rcases oite H with ⟨h7, H⟩ | ⟨h7, H⟩
  ·refine AW.condT eZ (dT h7) (AW.skip (TQ.qn (aS (AW.block (aS (aV (oMov (eR rfl) (oMov (eR rfl) ?_))))))))
   obtain ⟨v8, h9, H⟩ := obind H
   refine oAtD (eR rfl) eZ h9 (oFaddrB (m := 0) eZ rfl (oLoadB (e := (.int .i64 v8.Key)) eZ rfl (oMov (eR rfl) (oNeq (eR rfl) eZ (xQ ?_)))))
   rcases oite H with ⟨h10, H⟩ | ⟨h10, H⟩
   ·refine AW.condT eZ (dT h10) (aV (oMov eC (xQ (AW.ret (TQ.qr (BQ.qr (TQ.qr (TQ.qr (BQ.qr (TQ.qr ?_))))))))))
    cases H
    exact eE rfl rfl
   ·refine AW.condF eZ (dF h10) (AW.skip (TQ.qn (aV (oMov (eR rfl) (oAdd eZ eC (oMov eZ (xQ (AW.weaken (wk_mk [] (kr 1 rfl rfl (kr 0 rfl rfl (kr 5 rfl rfl SL.nil))) BL.nil BK.nil) (aS (aV (oMov (eR rfl) (oMov (eR rfl) ?_))))))))))))
    obtain ⟨v11, h12, H⟩ := obind H
    refine oAtD (eR rfl) eZ h12 (oFaddrB (m := 1) eZ rfl (oLoadB (e := (.int .i64 v11.Value)) eZ rfl (oMov (eR rfl) (oNeq (eR rfl) eZ (xQ ?_)))))
    rcases oite H with ⟨h13, H⟩ | ⟨h13, H⟩
    ·refine AW.condT eZ (dT h13) (aV (oMov eC (xQ (AW.ret (TQ.qr (BQ.qr (TQ.qr (TQ.qr (BQ.qr (TQ.qr ?_))))))))))
     cases H
     exact eE rfl rfl
    ·exact AW.condF eZ (dF h13) (AW.skip (TQ.qn (aR (oMov (eR rfl) (oAdd eZ eC (oMov eZ (xNil (BQ.qn (TQ.qn (aR (oMov (eR rfl) (oAdd eZ eC (oMov eZ (xNil (TQ.qn ⟨((IntKind.wrap .i64 ((IntKind.wrap .i64 (s5.1 + 1)) + 1)), (IntKind.wrap .i64 (s5.2 + 1))), H, (wk_mk [] (kR rfl rfl (kR rfl rfl (kR rfl rfl SL.nil))) BL.nil BK.nil)⟩)))))))))))))))
  ·exact AW.condF eZ (dF h7) (AW.exit (TQ.qe (TQ.qe (BQ.qe (TQ.qn ⟨s5.1, H, (wk_mk [] (kR rfl rfl SL.nil) BL.nil BK.nil)⟩)))))
theorem c_laws_heldHeldS {a1 : (List THeld)} {a2 : Int} {r : Int} (H : m_laws_heldHeldS a1 a2 = some r) : Fn Tryz.prog 74 (lent [(.sl 2 (List.map d_THeld a1)), (.int .i64 a2)]) true [(.int .i64 r)] := by
 refine f74 (fle rfl) ?_
 rw [init_mk]
 refine AW.weaken (wk_mk [] (kv 0 (.one (.d (.sl 2 (List.map d_THeld a1)))) rfl rfl (kv 1 (oI a2) rfl rfl SL.nil)) BL.nil BK.nil) ?_
 unfold m_laws_heldHeldS at H
 unfold i74
 refine aV (oMov eC (xQ (AW.seqJ (fun t3 : Int => laws_heldHeldS_j3 t3 = some r) (fun t3 => mk [(1, (oI t3))] [] noG) ?_ ?_)))
 ·intro t3 H
  unfold laws_heldHeldS_j3 at H
  refine aV (oMov eZ (oMov eZ (xQ (AW.ret ?_))))
  cases H
  exact eE rfl rfl
 ·refine aV (oMov eC (xQ (AW.block (AW.iter (fun s5 : (Int × Int) => mk [(0, (.one (.d (.sl 2 (List.map d_THeld a1))))), (1, (oI s5.1)), (5, (oI s5.2))] [] noG) H (wk_mk [] (kR rfl rfl (kR rfl rfl (kR rfl rfl SL.nil))) BL.nil BK.nil) ?_))))
  intro kb6 s5 H
  unfold laws_heldHeldS_b5 at H
  refine aS (aV (oMov (eR rfl) (oMov (eR rfl) (oLenD eZ (n := a1.length) (List.length_map _) (oLss (eR rfl) eZ (xQ ?_))))))
  rcases oite H with ⟨h7, H⟩ | ⟨h7, H⟩
  ·refine AW.condT eZ (dT h7) (AW.skip (TQ.qn (aS (AW.block (aS (aV (oMov (eR rfl) (oMov (eR rfl) ?_))))))))
   obtain ⟨v8, h9, H⟩ := obind H
   refine oAtD (eR rfl) eZ h9 (oFaddrB (m := 0) eZ rfl (oLoadB (e := (.int .i64 v8.Tx)) eZ rfl (oMov (eR rfl) (oNeq (eR rfl) eZ (xQ ?_)))))
   rcases oite H with ⟨h10, H⟩ | ⟨h10, H⟩
   ·refine AW.condT eZ (dT h10) (aV (oMov eC (xQ (AW.ret (TQ.qr (BQ.qr (TQ.qr (TQ.qr (BQ.qr (TQ.qr ?_))))))))))
    cases H
    exact eE rfl rfl
   ·refine AW.condF eZ (dF h10) (AW.skip (TQ.qn (aV (oMov (eR rfl) (oAdd eZ eC (oMov eZ (xQ (AW.weaken (wk_mk [] (kr 1 rfl rfl (kr 0 rfl rfl (kr 5 rfl rfl SL.nil))) BL.nil BK.nil) (aV (oMov (eR rfl) (oMov (eR rfl) ?_)))))))))))
    obtain ⟨v11, h12, H⟩ := obind H
    refine oAtD (eR rfl) eZ h12 (oFaddrB (m := 1) eZ rfl (oLoadB (e := (.sl 2 (List.map d_TCell v11.Writes))) eZ rfl (oMov (eR rfl) ?_)))
    obtain ⟨v13, h14, H⟩ := obind H
    refine oCall (u := (oI v13)) eC Cl.fn (c_laws_heldWriteS h14) (Evs.cons (eR rfl) (Evs.cons eZ Evs.nil)) (VDs.cons VD.plain (VDs.cons VD.plain VDs.nil)) rfl (oMov eZ (xQ (aV (oMov eZ (oLss eZ eC (xQ ?_))))))
    rcases oite H with ⟨h15, H⟩ | ⟨h15, H⟩
    ·refine AW.condT eZ (dT h15) (aV (oMov eC (xQ (AW.ret (BQ.qr (TQ.qr (TQ.qr (BQ.qr (TQ.qr ?_)))))))))
     cases H
     exact eE rfl rfl
    ·exact AW.condF eZ (dF h15) (AW.skip (BQ.qn (TQ.qn (aR (oMov (eR rfl) (oAdd eZ eC (oMov eZ (xNil (TQ.qn ⟨(v13, (IntKind.wrap .i64 (s5.2 + 1))), H, (wk_mk [] (kR rfl rfl (kR rfl rfl (kR rfl rfl SL.nil))) BL.nil BK.nil)⟩)))))))))
  ·exact AW.condF eZ (dF h7) (AW.exit (TQ.qe (TQ.qe (BQ.qe (TQ.qn ⟨s5.1, H, (wk_mk [] (kR rfl rfl SL.nil) BL.nil BK.nil)⟩)))))
theorem c_laws_heldIntS {a1 : (List Int)} {a2 : Int} {r : Int} (H : m_laws_heldIntS a1 a2 = some r) : Fn Tryz.prog 75 (lent [(.sl 1 (List.map d_i64 a1)), (.int .i64 a2)]) true [(.int .i64 r)] := by
 refine f75 (fle rfl) ?_
 rw [init_mk]
 refine AW.weaken (wk_mk [] (kv 0 (.one (.d (.sl 1 (List.map d_i64 a1)))) rfl rfl (kv 1 (oI a2) rfl rfl SL.nil)) BL.nil BK.nil) ?_
 unfold m_laws_heldIntS at H
 unfold i75
 refine aV (oMov eC (xQ (AW.seqJ (fun t3 : Int => laws_heldIntS_j3 t3 = some r) (fun t3 => mk [(1, (oI t3))] [] noG) ?_ ?_)))
 ·intro t3 H
  unfold laws_heldIntS_j3 at H
  refine aV (oMov eZ (oMov eZ (xQ (AW.ret ?_))))
  cases H
  exact eE rfl rfl
 ·refine aV (oMov eC (xQ (AW.block (AW.iter (fun s5 : (Int × Int) => mk [(0, (.one (.d (.sl 1 (List.map d_i64 a1))))), (1, (oI s5.1)), (5, (oI s5.2))] [] noG) H (wk_mk [] (kR rfl rfl (kR rfl rfl (kR rfl rfl SL.nil))) BL.nil BK.nil) ?_))))
  intro kb6 s5 H
  unfold laws_heldIntS_b5 at H
  refine aS (aV (oMov (eR rfl) (oMov (eR rfl) (oLenD eZ (n := a1.length) (List.length_map _) (oLss (eR rfl) eZ (xQ ?_))))))
  rcases oite H with ⟨h7, H⟩ | ⟨h7, H⟩
  ·refine AW.condT eZ (dT h7) (AW.skip (TQ.qn (aS (AW.block (aS (aV (oMov (eR rfl) (oMov (eR rfl) ?_))))))))
   obtain ⟨v8, h9, H⟩ := obind H
   refine oAtD (eR rfl) eZ h9 (oLoadB (e := (.int .i64 v8)) eZ rfl (oMov (eR rfl) (oNeq (eR rfl) eZ (xQ ?_))))
   rcases oite H with ⟨h10, H⟩ | ⟨h10, H⟩
   ·refine AW.condT eZ (dT h10) (aV (oMov eC (xQ (AW.ret (TQ.qr (BQ.qr (TQ.qr (TQ.qr (BQ.qr (TQ.qr ?_))))))))))
    cases H
    exact eE rfl rfl
   ·exact AW.condF eZ (dF h10) (AW.skip (TQ.qn (aR (oMov (eR rfl) (oAdd eZ eC (oMov eZ (xNil (BQ.qn (TQ.qn (AW.weaken (wk_mk [] (kr 1 rfl rfl (kr 0 rfl rfl (kr 5 rfl rfl SL.nil))) BL.nil BK.nil) (aR (oMov (eR rfl) (oAdd eZ eC (oMov eZ (xNil (TQ.qn ⟨((IntKind.wrap .i64 (s5.1 + 1)), (IntKind.wrap .i64 (s5.2 + 1))), H, (wk_mk [] (kR rfl rfl (kR rfl rfl (kR rfl rfl SL.nil))) BL.nil BK.nil)⟩))))))))))))))))
  ·exact AW.condF eZ (dF h7) (AW.exit (TQ.qe (TQ.qe (BQ.qe (TQ.qn ⟨s5.1, H, (wk_mk [] (kR rfl rfl SL.nil) BL.nil BK.nil)⟩)))))
theorem c_laws_heldShard {a1 : TShard} {a2 : Int} {r : Int} (H : m_laws_heldShard a1 a2 = some r) : Fn Tryz.prog 17 (lent [(.agg (d_TShard a1)), (.int .i64 a2)]) true [(.int .i64 r)] := by
 refine f17 (fle rfl) ?_
 rw [init_mk]
 refine AW.weaken (wk_mk [] (kv 0 (.agg [(dI a1.Me), (.d (.sl 2 (List.map d_TRange a1.Own))), (.d (.sl 2 (List.map d_TRange a1.Frozen))), (.d (.sl 2 (List.map d_TCell a1.Cells))), (.d (.sl 4 (List.map d_TLock a1.Locks))), (.d (.sl 2 (List.map d_THeld a1.Helds))), (.d (.sl 1 (List.map d_i64 a1.Wounded))), (.d (.sl 1 (List.map d_i64 a1.Ended))), (dI a1.Rank)]) rfl rfl (kv 1 (oI a2) rfl rfl SL.nil)) BL.nil BK.nil) ?_
 unfold m_laws_heldShard at H
 unfold i17
 refine aV (oBox (n := 128) (m := 9) (cs := [(dI a1.Me), (.d (.sl 2 (List.map d_TRange a1.Own))), (.d (.sl 2 (List.map d_TRange a1.Frozen))), (.d (.sl 2 (List.map d_TCell a1.Cells))), (.d (.sl 4 (List.map d_TLock a1.Locks))), (.d (.sl 2 (List.map d_THeld a1.Helds))), (.d (.sl 1 (List.map d_i64 a1.Wounded))), (.d (.sl 1 (List.map d_i64 a1.Ended))), (dI a1.Rank)]) rfl eZ rfl rfl nZ (oMov eC (xQ (aV (oFaddrN (m := 1) (eR rfl) rfl (oLoadV (q := 1) (c := (.d (.sl 2 (List.map d_TRange a1.Own)))) eZ bZ rfl rfl (oMov (eR rfl) ?_)))))))
 obtain ⟨v3, h4, H⟩ := obind H
 refine oCall (u := (oI v3)) eC Cl.fn (c_laws_heldRangeS h4) (Evs.cons (eR rfl) (Evs.cons eZ Evs.nil)) (VDs.cons VD.plain (VDs.cons VD.plain VDs.nil)) rfl (oMov eZ (xQ (aS (aV (oMov eZ (oLss eZ eC (xQ ?_)))))))
 rcases oite H with ⟨h5, H⟩ | ⟨h5, H⟩
 ·refine AW.condT eZ (dT h5) (aV (oMov eC (xQ (AW.ret (TQ.qr ?_)))))
  cases H
  exact eE rfl rfl
 ·refine AW.condF eZ (dF h5) (AW.skip (TQ.qn (aV (oFaddrN (m := 2) (eR rfl) rfl (oLoadV (q := 2) (c := (.d (.sl 2 (List.map d_TRange a1.Frozen)))) eZ bZ rfl rfl (oMov (eR rfl) ?_))))))
  obtain ⟨v6, h7, H⟩ := obind H
  refine oCall (u := (oI v6)) eC Cl.fn (c_laws_heldRangeS h7) (Evs.cons (eR rfl) (Evs.cons eZ Evs.nil)) (VDs.cons VD.plain (VDs.cons VD.plain VDs.nil)) rfl (oMov eZ (xQ (AW.weaken (wk_mk [] (kr 1 rfl rfl (kr 2 rfl rfl SL.nil)) (BL.keep rfl BL.nil) (BK.cons (n := 128) rfl bZ rfl rfl BK.nil)) (aS (aV (oMov eZ (oLss eZ eC (xQ ?_))))))))
  rcases oite H with ⟨h8, H⟩ | ⟨h8, H⟩
  ·refine AW.condT eZ (dT h8) (aV (oMov eC (xQ (AW.ret (TQ.qr ?_)))))
   cases H
   exact eE rfl rfl
  ·refine AW.condF eZ (dF h8) (AW.skip (TQ.qn (aV (oFaddrN (m := 3) (eR rfl) rfl (oLoadV (q := 3) (c := (.d (.sl 2 (List.map d_TCell a1.Cells)))) eZ bZ rfl rfl (oMov (eR rfl) ?_))))))
   obtain ⟨v9, h10, H⟩ := obind H
   refine oCall (u := (oI v9)) eC Cl.fn (c_laws_heldCellS h10) (Evs.cons (eR rfl) (Evs.cons eZ Evs.nil)) (VDs.cons VD.plain (VDs.cons VD.plain VDs.nil)) rfl (oMov eZ (xQ (aS (aV (oMov eZ (oLss eZ eC (xQ ?_)))))))
   rcases oite H with ⟨h11, H⟩ | ⟨h11, H⟩
   ·refine AW.condT eZ (dT h11) (aV (oMov eC (xQ (AW.ret (TQ.qr ?_)))))
    cases H
    exact eE rfl rfl
   ·refine AW.condF eZ (dF h11) (AW.skip (TQ.qn (aV (oFaddrN (m := 4) (eR rfl) rfl (oLoadV (q := 4) (c := (.d (.sl 4 (List.map d_TLock a1.Locks)))) eZ bZ rfl rfl (oMov (eR rfl) ?_))))))
    obtain ⟨v12, h13, H⟩ := obind H
    refine oCall (u := (oI v12)) eC Cl.fn (c_laws_heldLockS h13) (Evs.cons (eR rfl) (Evs.cons eZ Evs.nil)) (VDs.cons VD.plain (VDs.cons VD.plain VDs.nil)) rfl (oMov eZ (xQ (AW.weaken (wk_mk [] (kr 1 rfl rfl (kr 2 rfl rfl SL.nil)) (BL.keep rfl BL.nil) (BK.cons (n := 128) rfl bZ rfl rfl BK.nil)) (aS (aV (oMov eZ (oLss eZ eC (xQ ?_))))))))
    rcases oite H with ⟨h14, H⟩ | ⟨h14, H⟩
    ·refine AW.condT eZ (dT h14) (aV (oMov eC (xQ (AW.ret (TQ.qr ?_)))))
     cases H
     exact eE rfl rfl
    ·refine AW.condF eZ (dF h14) (AW.skip (TQ.qn (aV (oFaddrN (m := 5) (eR rfl) rfl (oLoadV (q := 5) (c := (.d (.sl 2 (List.map d_THeld a1.Helds)))) eZ bZ rfl rfl (oMov (eR rfl) ?_))))))
     obtain ⟨v15, h16, H⟩ := obind H
     refine oCall (u := (oI v15)) eC Cl.fn (c_laws_heldHeldS h16) (Evs.cons (eR rfl) (Evs.cons eZ Evs.nil)) (VDs.cons VD.plain (VDs.cons VD.plain VDs.nil)) rfl (oMov eZ (xQ (aS (aV (oMov eZ (oLss eZ eC (xQ ?_)))))))
     rcases oite H with ⟨h17, H⟩ | ⟨h17, H⟩
     ·refine AW.condT eZ (dT h17) (aV (oMov eC (xQ (AW.ret (TQ.qr ?_)))))
      cases H
      exact eE rfl rfl
     ·refine AW.condF eZ (dF h17) (AW.skip (TQ.qn (aV (oFaddrN (m := 6) (eR rfl) rfl (oLoadV (q := 6) (c := (.d (.sl 1 (List.map d_i64 a1.Wounded)))) eZ bZ rfl rfl (oMov (eR rfl) ?_))))))
      obtain ⟨v18, h19, H⟩ := obind H
      refine oCall (u := (oI v18)) eC Cl.fn (c_laws_heldIntS h19) (Evs.cons (eR rfl) (Evs.cons eZ Evs.nil)) (VDs.cons VD.plain (VDs.cons VD.plain VDs.nil)) rfl (oMov eZ (xQ (AW.weaken (wk_mk [] (kr 1 rfl rfl (kr 2 rfl rfl SL.nil)) (BL.keep rfl BL.nil) (BK.cons (n := 128) rfl bZ rfl rfl BK.nil)) (aS (aV (oMov eZ (oLss eZ eC (xQ ?_))))))))
      rcases oite H with ⟨h20, H⟩ | ⟨h20, H⟩
      ·refine AW.condT eZ (dT h20) (aV (oMov eC (xQ (AW.ret (TQ.qr ?_)))))
       cases H
       exact eE rfl rfl
      ·refine AW.condF eZ (dF h20) (AW.skip (TQ.qn (aV (oFaddrN (m := 7) (eR rfl) rfl (oLoadV (q := 7) (c := (.d (.sl 1 (List.map d_i64 a1.Ended)))) eZ bZ rfl rfl (oMov (eR rfl) ?_))))))
       obtain ⟨v21, h22, H⟩ := obind H
       refine oCall (u := (oI v21)) eC Cl.fn (c_laws_heldIntS h22) (Evs.cons (eR rfl) (Evs.cons eZ Evs.nil)) (VDs.cons VD.plain (VDs.cons VD.plain VDs.nil)) rfl (oMov eZ (xQ (aS (aV (oMov eZ (oLss eZ eC (xQ ?_)))))))
       rcases oite H with ⟨h23, H⟩ | ⟨h23, H⟩
       ·refine AW.condT eZ (dT h23) (aV (oMov eC (xQ (AW.ret (TQ.qr ?_)))))
        cases H
        exact eE rfl rfl
       ·refine AW.condF eZ (dF h23) (AW.skip (TQ.qn (aV (oMov (eR rfl) (oMov eZ (xQ (AW.ret ?_)))))))
        cases H
        exact eE rfl rfl
theorem c_laws_FnExactNewShard {a1 : Int} {a2 : (List TRange)} {r : Bool} (H : m_laws_FnExactNewShard a1 a2 = some r) : Fn Tryz.prog 4 (lent [(.int .i64 a1), (.sl 2 (List.map d_TRange a2))]) true [(.bool r)] := by
 refine f4 (fle rfl) ?_
 rw [init_mk]
 refine AW.weaken (t := mk [(0, (oI a1)), (1, (.one (.d (.sl 2 (List.map d_TRange a2)))))] [] (lk [])) (wk_mk [] (kv 0 (oI a1) rfl rfl (kv 1 (.one (.d (.sl 2 (List.map d_TRange a2)))) rfl rfl SL.nil)) BL.nil BK.nil) ?_
 unfold m_laws_FnExactNewShard at H
 unfold i4
 refine aV (oMov eC (xQ (aV (oMov eC (xQ (aV (oMov (eR rfl) (oMov (eR rfl) ?_))))))))
 obtain ⟨v3, h4, H⟩ := obind H
 refine oCall (u := (oI v3)) eC Cl.fn (c_laws_szRangeS h4) (Evs.cons (eR rfl) (Evs.cons eZ Evs.nil)) (VDs.cons VD.plain (VDs.cons VD.plain VDs.nil)) rfl (oMov eZ (xQ (aS (aV (oMov eZ (oLss eZ eC (xQ ?_)))))))
 rcases oite H with ⟨h5, H⟩ | ⟨h5, H⟩
 ·refine AW.condT eZ (dT h5) (aV (oMov eC (xQ (AW.ret (TQ.qr ?_)))))
  cases H
  exact eE rfl rfl
 ·refine AW.condF eZ (dF h5) (AW.skip (TQ.qn (aS (AW.regm (rmOne (oMov (eR rfl) (xNil (rmOne (oMov (eR rfl) (xNil (rmOne ?_)))))))))))
  obtain ⟨v6, h7, H⟩ := obind H
  refine oCall (u := (.one (.d (.sl 2 (List.map d_TRange v6))))) eC Cl.fn (c_laws_toRangeS h7) (Evs.cons eZ Evs.nil) (VDs.cons VD.plain VDs.nil) rfl (xNil (rmOne ?_))
  obtain ⟨v8, h9, H⟩ := obind H
  refine oCall (u := (.agg [(dI v8.Me), (.d (.sl 2 (List.map d_TRange v8.Own))), (.d (.sl 2 (List.map d_TRange v8.Frozen))), (.d (.sl 2 (List.map d_TCell v8.Cells))), (.d (.sl 4 (List.map d_TLock v8.Locks))), (.d (.sl 2 (List.map d_THeld v8.Helds))), (.d (.sl 1 (List.map d_i64 v8.Wounded))), (.d (.sl 1 (List.map d_i64 v8.Ended))), (dI v8.Rank)])) eC Cl.fn (c_spec_NewShard h9) (Evs.cons (eR rfl) (Evs.cons eZ Evs.nil)) (VDs.cons VD.plain (VDs.cons VD.plain VDs.nil)) rfl (xNil (rmOne (oVar (n := 384) (m := 9) rfl rfl nZ (xNil (rmOne (oStoreV (es := [(dI v8.Me), (.d (.sl 2 (List.map d_TRange v8.Own))), (.d (.sl 2 (List.map d_TRange v8.Frozen))), (.d (.sl 2 (List.map d_TCell v8.Cells))), (.d (.sl 4 (List.map d_TLock v8.Locks))), (.d (.sl 2 (List.map d_THeld v8.Helds))), (.d (.sl 1 (List.map d_i64 v8.Wounded))), (.d (.sl 1 (List.map d_i64 v8.Ended))), (dI v8.Rank)]) eZ (eR rfl) rfl rfl bZ rfl (xNil (rmRest (xQ (aV (oMov (eR rfl) ?_)))))))))))
  obtain ⟨v10, h11, H⟩ := obind H
  refine oCallN (u := (.one (.sl 1472 0 v10.length))) (bs := [(1472, (.data 2 (List.map d_TRange v10) true none))]) eC Cl.fn (c_laws_toRangeS h11) (Evs.cons eZ Evs.nil) (VDs.cons VD.plain VDs.nil) (by simp [bindR, bindV, bindVs, bindC, bindCs]) rfl (fC (nS rfl (nS rfl nZ)) rfl (fC (nS rfl (nS rfl nZ)) rfl fN)) (oMov eZ (xQ (AW.weaken (wk_mkG [] (kr 7 rfl rfl (kr 6 rfl rfl (kr 0 rfl rfl (kr 1 rfl rfl SL.nil)))) (BL.keep rfl (BL.keep rfl (BL.keep rfl BL.nil))) (BK.cons (n := 1472) rfl bZ rfl rfl (BK.cons (n := 384) rfl (bS rfl bZ) rfl rfl BK.nil)) GK.nil) (aS (AW.regm (rmOne (oMov (eR rfl) (xNil (rmOne (oMov (eR rfl) (xNil (rmOne ?_))))))))))))
  obtain ⟨v12, h13, H⟩ := obind H
  refine oCallN (u := (.agg [(dI v12.Me), (.sl 1665 0 v12.Own.length), (.sl 1666 0 v12.Frozen.length), (.sl 1667 0 v12.Cells.length), (.sl 1668 0 v12.Locks.length), (.sl 1669 0 v12.Helds.length), (.sl 1670 0 v12.Wounded.length), (.sl 1671 0 v12.Ended.length), (dI v12.Rank)])) (bs := [(1665, (.data 2 (List.map d_TRange v12.Own) true none)), (1666, (.data 2 (List.map d_TRange v12.Frozen) true none)), (1667, (.data 2 (List.map d_TCell v12.Cells) true none)), (1668, (.data 4 (List.map d_TLock v12.Locks) true none)), (1669, (.data 2 (List.map d_THeld v12.Helds) true none)), (1670, (.data 1 (List.map d_i64 v12.Wounded) true none)), (1671, (.data 1 (List.map d_i64 v12.Ended) true none))]) eC Cl.fn (c_impl_NewShard h13) (Evs.cons (eR rfl) (Evs.cons eZ Evs.nil)) (VDs.cons VD.plain (VDs.cons (VD.sl bZ (List.length_map _)) VDs.nil)) (by simp [bindR, bindV, bindVs, bindC, bindCs]) rfl (fC (nS rfl (nS rfl nZ)) rfl (fC (nS rfl (nS rfl nZ)) rfl (fC (nS rfl (nS rfl nZ)) rfl (fC (nS rfl (nS rfl nZ)) rfl (fC (nS rfl (nS rfl nZ)) rfl (fC (nS rfl (nS rfl nZ)) rfl (fC (nS rfl (nS rfl nZ)) rfl (fC (nS rfl (nS rfl nZ)) rfl fN)))))))) (xNil (rmOne (oVar (n := 512) (m := 9) rfl rfl (nS rfl (nS rfl (nS rfl (nS rfl (nS rfl (nS rfl (nS rfl (nS rfl (nS rfl nZ))))))))) (xNil (rmOne (oStoreV (es := [(dI v12.Me), (.sl 1665 0 v12.Own.length), (.sl 1666 0 v12.Frozen.length), (.sl 1667 0 v12.Cells.length), (.sl 1668 0 v12.Locks.length), (.sl 1669 0 v12.Helds.length), (.sl 1670 0 v12.Wounded.length), (.sl 1671 0 v12.Ended.length), (dI v12.Rank)]) eZ (eR rfl) rfl rfl bZ rfl (xNil (rmRest (xQ (aS (aV (oLoadVA (es := [(dI v12.Me), (.sl 1665 0 v12.Own.length), (.sl 1666 0 v12.Frozen.length), (.sl 1667 0 v12.Cells.length), (.sl 1668 0 v12.Locks.length), (.sl 1669 0 v12.Helds.length), (.sl 1670 0 v12.Wounded.length), (.sl 1671 0 v12.Ended.length), (dI v12.Rank)]) eZ bZ rfl (oLoadVA (es := [(dI v8.Me), (.d (.sl 2 (List.map d_TRange v8.Own))), (.d (.sl 2 (List.map d_TRange v8.Frozen))), (.d (.sl 2 (List.map d_TCell v8.Cells))), (.d (.sl 4 (List.map d_TLock v8.Locks))), (.d (.sl 2 (List.map d_THeld v8.Helds))), (.d (.sl 1 (List.map d_i64 v8.Wounded))), (.d (.sl 1 (List.map d_i64 v8.Ended))), (dI v8.Rank)]) (eR rfl) (bS rfl (bS rfl (bS rfl (bS rfl (bS rfl (bS rfl (bS rfl (bS rfl (bS rfl (bS rfl bZ)))))))))) rfl ?_)))))))))))))
  obtain ⟨v14, h15, H⟩ := obind H
  refine oCall (u := (oB v14)) eC Cl.fn (c_laws_eqShard h15) (Evs.cons (eR rfl) (Evs.cons eZ Evs.nil)) (VDs.cons (VD.aggs (CDs.plain (CDs.sl (bS rfl (bS rfl (bS rfl (bS rfl (bS rfl (bS rfl (bS rfl (bS rfl bZ)))))))) (List.length_map _) (CDs.sl (bS rfl (bS rfl (bS rfl (bS rfl (bS rfl (bS rfl (bS rfl bZ))))))) (List.length_map _) (CDs.sl (bS rfl (bS rfl (bS rfl (bS rfl (bS rfl (bS rfl bZ)))))) (List.length_map _) (CDs.sl (bS rfl (bS rfl (bS rfl (bS rfl (bS rfl bZ))))) (List.length_map _) (CDs.sl (bS rfl (bS rfl (bS rfl (bS rfl bZ)))) (List.length_map _) (CDs.sl (bS rfl (bS rfl (bS rfl bZ))) (List.length_map _) (CDs.sl (bS rfl (bS rfl bZ)) (List.length_map _) (CDs.plain CDs.nil)))))))))) (VDs.cons (VD.agg rfl) VDs.nil)) rfl (oInv eZ (xQ ?_))
  rcases oite H with ⟨h16, H⟩ | ⟨h16, H⟩
  ·refine AW.condF eZ (cN h16) (AW.skip (TQ.qn (aS (aV (oMov (eR rfl) (oMov (eR rfl) ?_))))))
   obtain ⟨v17, h18, H⟩ := obind H
   refine oCall (u := (.one (.d (.sl 2 (List.map d_TRange v17))))) eC Cl.fn (c_laws_toRangeS h18) (Evs.cons eZ Evs.nil) (VDs.cons VD.plain VDs.nil) rfl ?_
   obtain ⟨v19, h20, H⟩ := obind H
   refine oCall (u := (oB v19)) eC Cl.fn (c_laws_eqRangeS h20) (Evs.cons (eR rfl) (Evs.cons eZ Evs.nil)) (VDs.cons (VD.sl (bS rfl (bS rfl (bS rfl (bS rfl (bS rfl (bS rfl (bS rfl (bS rfl (bS rfl bZ))))))))) (List.length_map _)) (VDs.cons VD.plain VDs.nil)) rfl (oInv eZ (xQ (AW.weaken (wk_mkG [] (kr 35 rfl rfl (kr 8 rfl rfl (kr 7 rfl rfl (kr 6 rfl rfl (kr 0 rfl rfl (kr 1 rfl rfl SL.nil)))))) (BL.keep rfl (BL.keep rfl (BL.keep rfl (BL.keep rfl (BL.keep rfl (BL.keep rfl (BL.keep rfl (BL.keep rfl (BL.keep rfl (BL.keep rfl (BL.keep rfl BL.nil))))))))))) (BK.cons (n := 512) rfl bZ rfl rfl (BK.cons (n := 1671) rfl (bS rfl (bS rfl bZ)) rfl rfl (BK.cons (n := 1670) rfl (bS rfl (bS rfl (bS rfl bZ))) rfl rfl (BK.cons (n := 1669) rfl (bS rfl (bS rfl (bS rfl (bS rfl bZ)))) rfl rfl (BK.cons (n := 1668) rfl (bS rfl (bS rfl (bS rfl (bS rfl (bS rfl bZ))))) rfl rfl (BK.cons (n := 1667) rfl (bS rfl (bS rfl (bS rfl (bS rfl (bS rfl (bS rfl bZ)))))) rfl rfl (BK.cons (n := 1666) rfl (bS rfl (bS rfl (bS rfl (bS rfl (bS rfl (bS rfl (bS rfl bZ))))))) rfl rfl (BK.cons (n := 1665) rfl (bS rfl (bS rfl (bS rfl (bS rfl (bS rfl (bS rfl (bS rfl (bS rfl bZ)))))))) rfl rfl (BK.cons (n := 1472) rfl (bS rfl (bS rfl (bS rfl (bS rfl (bS rfl (bS rfl (bS rfl (bS rfl (bS rfl bZ))))))))) rfl rfl (BK.cons (n := 384) rfl (bS rfl (bS rfl (bS rfl (bS rfl (bS rfl (bS rfl (bS rfl (bS rfl (bS rfl (bS rfl bZ)))))))))) rfl rfl BK.nil)))))))))) GK.nil) ?_)))
   rcases oite H with ⟨h21, H⟩ | ⟨h21, H⟩
   ·refine AW.condF eZ (cN h21) (AW.skip (TQ.qn (aV (oMov eC (xQ (aS (AW.regm (rmOne (oMov (eR rfl) (xNil (rmOne (oMov (eR rfl) (xNil ?_)))))))))))))
    obtain ⟨v22, h23, H⟩ := obind H
    obtain ⟨h24, H⟩ := oguard H
    refine rmCallI (ON := [1472]) (ls := []) (G := []) (E := [subKey 1472]) (MB := [(1472, (.data 2 (List.map d_TRange v22.2) true none))]) (u := (oI v22.1)) eC Cl.fn (c_laws_markRangeS h23) (Evs.cons (eR rfl) (Evs.cons eZ Evs.nil)) (AO.mut (VO.sl (bS rfl (bS rfl (bS rfl (bS rfl (bS rfl (bS rfl (bS rfl (bS rfl bZ)))))))) (List.length_map _) (allFlat fun _ => rfl)) (AO.lent VD.plain rfl AO.nil)) rfl rfl rfl (SZ.cons (bS rfl (bS rfl (bS rfl (bS rfl (bS rfl (bS rfl (bS rfl (bS rfl bZ)))))))) SZ.nil) (erL.cons (v' := (oI 1)) rfl (erL.cons (v' := (.one (.sl 1472 0 v10.length))) rfl (erL.cons (v' := (oI 1)) rfl (erL.cons (v' := (oB (!v19))) rfl (erL.cons (v' := (.one (.ptr (.nm 512 0 0)))) rfl (erL.cons (v' := (.one (.sl 1472 0 v10.length))) rfl (erL.cons (v' := (.one (.ptr (.nm 384 0 0)))) rfl (erL.cons (v' := (oI a1)) rfl (erL.cons (v' := (.one (.d (.sl 2 (List.map d_TRange a2))))) rfl erL.nil))))))))) (erH.cons (v' := (.vars 9 [(dI v12.Me), (.sl 1665 0 v12.Own.length), (.sl 1666 0 v12.Frozen.length), (.sl 1667 0 v12.Cells.length), (.sl 1668 0 v12.Locks.length), (.sl 1669 0 v12.Helds.length), (.sl 1670 0 v12.Wounded.length), (.sl 1671 0 v12.Ended.length), (dI v12.Rank)])) rfl rfl (erH.cons (v' := (.data 1 (List.map d_i64 v12.Ended) true none)) rfl rfl (erH.cons (v' := (.data 1 (List.map d_i64 v12.Wounded) true none)) rfl rfl (erH.cons (v' := (.data 2 (List.map d_THeld v12.Helds) true none)) rfl rfl (erH.cons (v' := (.data 4 (List.map d_TLock v12.Locks) true none)) rfl rfl (erH.cons (v' := (.data 2 (List.map d_TCell v12.Cells) true none)) rfl rfl (erH.cons (v' := (.data 2 (List.map d_TRange v12.Frozen) true none)) rfl rfl (erH.cons (v' := (.data 2 (List.map d_TRange v12.Own) true none)) rfl rfl (erH.cons (v' := (.data 2 (List.map d_TRange v10) true none)) rfl rfl (erH.cons (v' := (.vars 9 [(dI v8.Me), (.d (.sl 2 (List.map d_TRange v8.Own))), (.d (.sl 2 (List.map d_TRange v8.Frozen))), (.d (.sl 2 (List.map d_TCell v8.Cells))), (.d (.sl 4 (List.map d_TLock v8.Locks))), (.d (.sl 2 (List.map d_THeld v8.Helds))), (.d (.sl 1 (List.map d_i64 v8.Wounded))), (.d (.sl 1 (List.map d_i64 v8.Ended))), (dI v8.Rank)])) rfl rfl erH.nil)))))))))) erL.nil rfl rfl (rmRest (oMov eZ (xQ (aS (AW.seqJ (fun t25 : Bool => (laws_FnExactNewShard_j25 v12 a2 a1 v8) t25 = some r) (fun t25 => mk [(0, (oI a1)), (1, (.one (.d (.sl 2 (List.map d_TRange a2))))), (6, (.one (.ptr (.nm 384 0 0)))), (8, (.one (.ptr (.nm 512 0 0)))), (46, (oB t25))] [(384, (.vars 9 [(dI v8.Me), (.d (.sl 2 (List.map d_TRange v8.Own))), (.d (.sl 2 (List.map d_TRange v8.Frozen))), (.d (.sl 2 (List.map d_TCell v8.Cells))), (.d (.sl 4 (List.map d_TLock v8.Locks))), (.d (.sl 2 (List.map d_THeld v8.Helds))), (.d (.sl 1 (List.map d_i64 v8.Wounded))), (.d (.sl 1 (List.map d_i64 v8.Ended))), (dI v8.Rank)])), (512, (.vars 9 [(dI v12.Me), (.sl 1665 0 v12.Own.length), (.sl 1666 0 v12.Frozen.length), (.sl 1667 0 v12.Cells.length), (.sl 1668 0 v12.Locks.length), (.sl 1669 0 v12.Helds.length), (.sl 1670 0 v12.Wounded.length), (.sl 1671 0 v12.Ended.length), (dI v12.Rank)])), (1665, (.data 2 (List.map d_TRange v12.Own) true none)), (1666, (.data 2 (List.map d_TRange v12.Frozen) true none)), (1667, (.data 2 (List.map d_TCell v12.Cells) true none)), (1668, (.data 4 (List.map d_TLock v12.Locks) true none)), (1669, (.data 2 (List.map d_THeld v12.Helds) true none)), (1670, (.data 1 (List.map d_i64 v12.Wounded) true none)), (1671, (.data 1 (List.map d_i64 v12.Ended) true none))] (lk [])) ?_ ?_)))))
    ·intro t25 H
     unfold laws_FnExactNewShard_j25 at H
     rcases oite H with ⟨h27, H⟩ | ⟨h27, H⟩
     ·refine AW.condT (eR rfl) h27 (aV (oMov eC (xQ (AW.ret (TQ.qr ?_)))))
      cases H
      exact eE rfl rfl
     ·refine AW.condF (eR rfl) (nt h27) (AW.skip (TQ.qn (aV (oMov eC (xQ (aS (AW.regm (rmOne (oLoadVA (es := [(dI v12.Me), (.sl 1665 0 v12.Own.length), (.sl 1666 0 v12.Frozen.length), (.sl 1667 0 v12.Cells.length), (.sl 1668 0 v12.Locks.length), (.sl 1669 0 v12.Helds.length), (.sl 1670 0 v12.Wounded.length), (.sl 1671 0 v12.Ended.length), (dI v12.Rank)]) (eR rfl) (bS rfl bZ) rfl (xNil (rmOne (oMov (eR rfl) (xNil ?_)))))))))))))
      obtain ⟨v28, h29, H⟩ := obind H
      obtain ⟨h30, H⟩ := oguard H
      obtain ⟨h31, H⟩ := oguard H
      obtain ⟨h32, H⟩ := oguard H
      obtain ⟨h33, H⟩ := oguard H
      obtain ⟨h34, H⟩ := oguard H
      obtain ⟨h35, H⟩ := oguard H
      obtain ⟨h36, H⟩ := oguard H
      refine rmCallI (ON := [1665, 1666, 1667, 1668, 1669, 1670, 1671]) (ls := []) (G := []) (E := [subKey 1665, subKey 1666, subKey 1667, subKey 1668, subKey 1669, subKey 1670, subKey 1671]) (MB := [(1665, (.data 2 (List.map d_TRange v28.2.Own) true none)), (1666, (.data 2 (List.map d_TRange v28.2.Frozen) true none)), (1667, (.data 2 (List.map d_TCell v28.2.Cells) true none)), (1668, (.data 4 (List.map d_TLock v28.2.Locks) true none)), (1669, (.data 2 (List.map d_THeld v28.2.Helds) true none)), (1670, (.data 1 (List.map d_i64 v28.2.Wounded) true none)), (1671, (.data 1 (List.map d_i64 v28.2.Ended) true none))]) (u := (oI v28.1)) eC Cl.fn (c_laws_markShard h29) (Evs.cons (eR rfl) (Evs.cons eZ Evs.nil)) (AO.mut (VO.aggs (VOs.cons (VO.flat rfl) (VOs.cons (VO.sl (bS rfl (bS rfl bZ)) (List.length_map _) (allFlat fun _ => rfl)) (VOs.cons (VO.sl (bS rfl (bS rfl (bS rfl bZ))) (List.length_map _) (allFlat fun _ => rfl)) (VOs.cons (VO.sl (bS rfl (bS rfl (bS rfl (bS rfl bZ)))) (List.length_map _) (allFlat fun _ => rfl)) (VOs.cons (VO.sl (bS rfl (bS rfl (bS rfl (bS rfl (bS rfl bZ))))) (List.length_map _) (allFlat fun _ => rfl)) (VOs.cons (VO.sln (bS rfl (bS rfl (bS rfl (bS rfl (bS rfl (bS rfl bZ)))))) (List.length_map _) rfl) (VOs.cons (VO.sl (bS rfl (bS rfl (bS rfl (bS rfl (bS rfl (bS rfl (bS rfl bZ))))))) (List.length_map _) (allFlat fun _ => rfl)) (VOs.cons (VO.sl (bS rfl (bS rfl (bS rfl (bS rfl (bS rfl (bS rfl (bS rfl (bS rfl bZ)))))))) (List.length_map _) (allFlat fun _ => rfl)) (VOs.cons (VO.flat rfl) VOs.nil)))))))))) (AO.lent VD.plain rfl AO.nil)) rfl rfl rfl (SZ.cons (bS rfl (bS rfl bZ)) (SZ.cons (bS rfl (bS rfl (bS rfl bZ))) (SZ.cons (bS rfl (bS rfl (bS rfl (bS rfl bZ)))) (SZ.cons (bS rfl (bS rfl (bS rfl (bS rfl (bS rfl bZ))))) (SZ.cons (bS rfl (bS rfl (bS rfl (bS rfl (bS rfl (bS rfl bZ)))))) (SZ.cons (bS rfl (bS rfl (bS rfl (bS rfl (bS rfl (bS rfl (bS rfl bZ))))))) (SZ.cons (bS rfl (bS rfl (bS rfl (bS rfl (bS rfl (bS rfl (bS rfl (bS rfl bZ)))))))) SZ.nil))))))) (erL.cons (v' := (oI 1)) rfl (erL.cons (v' := (.agg [(dI v12.Me), (.sl 1665 0 v12.Own.length), (.sl 1666 0 v12.Frozen.length), (.sl 1667 0 v12.Cells.length), (.sl 1668 0 v12.Locks.length), (.sl 1669 0 v12.Helds.length), (.sl 1670 0 v12.Wounded.length), (.sl 1671 0 v12.Ended.length), (dI v12.Rank)])) rfl (erL.cons (v' := (oI 1)) rfl (erL.cons (v' := (oI a1)) rfl (erL.cons (v' := (.one (.d (.sl 2 (List.map d_TRange a2))))) rfl (erL.cons (v' := (.one (.ptr (.nm 384 0 0)))) rfl (erL.cons (v' := (.one (.ptr (.nm 512 0 0)))) rfl (erL.cons (v' := (oB t25)) rfl erL.nil)))))))) (erH.cons (v' := (.vars 9 [(dI v8.Me), (.d (.sl 2 (List.map d_TRange v8.Own))), (.d (.sl 2 (List.map d_TRange v8.Frozen))), (.d (.sl 2 (List.map d_TCell v8.Cells))), (.d (.sl 4 (List.map d_TLock v8.Locks))), (.d (.sl 2 (List.map d_THeld v8.Helds))), (.d (.sl 1 (List.map d_i64 v8.Wounded))), (.d (.sl 1 (List.map d_i64 v8.Ended))), (dI v8.Rank)])) rfl rfl (erH.cons (v' := (.vars 9 [(dI v12.Me), (.sl 1665 0 v12.Own.length), (.sl 1666 0 v12.Frozen.length), (.sl 1667 0 v12.Cells.length), (.sl 1668 0 v12.Locks.length), (.sl 1669 0 v12.Helds.length), (.sl 1670 0 v12.Wounded.length), (.sl 1671 0 v12.Ended.length), (dI v12.Rank)])) rfl rfl (erH.cons (v' := (.data 2 (List.map d_TRange v12.Own) true none)) rfl rfl (erH.cons (v' := (.data 2 (List.map d_TRange v12.Frozen) true none)) rfl rfl (erH.cons (v' := (.data 2 (List.map d_TCell v12.Cells) true none)) rfl rfl (erH.cons (v' := (.data 4 (List.map d_TLock v12.Locks) true none)) rfl rfl (erH.cons (v' := (.data 2 (List.map d_THeld v12.Helds) true none)) rfl rfl (erH.cons (v' := (.data 1 (List.map d_i64 v12.Wounded) true none)) rfl rfl (erH.cons (v' := (.data 1 (List.map d_i64 v12.Ended) true none)) rfl rfl erH.nil))))))))) erL.nil rfl rfl (rmRest (oMov eZ (xQ (aV (oMov eC (xQ (aV (oLoadVA (es := [(dI v12.Me), (.sl 1665 0 v12.Own.length), (.sl 1666 0 v12.Frozen.length), (.sl 1667 0 v12.Cells.length), (.sl 1668 0 v12.Locks.length), (.sl 1669 0 v12.Helds.length), (.sl 1670 0 v12.Wounded.length), (.sl 1671 0 v12.Ended.length), (dI v12.Rank)]) (eR rfl) (bS rfl (bS rfl (bS rfl (bS rfl (bS rfl (bS rfl (bS rfl (bS rfl bZ)))))))) rfl (oMov (eR rfl) ?_)))))))))
      obtain ⟨v37, h38, H⟩ := obind H
      refine oCall (u := (oI v37)) eC Cl.fn (c_laws_heldShard h38) (Evs.cons (eR rfl) (Evs.cons eZ Evs.nil)) (VDs.cons (VD.aggs (CDs.plain (CDs.sl (bS rfl (bS rfl (bS rfl (bS rfl (bS rfl (bS rfl bZ)))))) (by first | (simp; done) | (simp; omega) | omega | (simp only [List.length_map]; omega)) (CDs.sl (bS rfl (bS rfl (bS rfl (bS rfl (bS rfl bZ))))) (by first | (simp; done) | (simp; omega) | omega | (simp only [List.length_map]; omega)) (CDs.sl (bS rfl (bS rfl (bS rfl (bS rfl bZ)))) (by first | (simp; done) | (simp; omega) | omega | (simp only [List.length_map]; omega)) (CDs.sl (bS rfl (bS rfl (bS rfl bZ))) (by first | (simp; done) | (simp; omega) | omega | (simp only [List.length_map]; omega)) (CDs.sl (bS rfl (bS rfl bZ)) (by first | (simp; done) | (simp; omega) | omega | (simp only [List.length_map]; omega)) (CDs.sl (bS rfl bZ) (by first | (simp; done) | (simp; omega) | omega | (simp only [List.length_map]; omega)) (CDs.sl bZ (by first | (simp; done) | (simp; omega) | omega | (simp only [List.length_map]; omega)) (CDs.plain CDs.nil)))))))))) (VDs.cons VD.plain VDs.nil)) rfl (oMov eZ (xQ (aS (aV (oMov eZ (oLss eZ eC (xQ (AW.weaken (wk_mkG [] (kr 54 rfl rfl (kr 11 rfl rfl (kr 10 rfl rfl (kr 0 rfl rfl (kr 1 rfl rfl (kr 6 rfl rfl (kr 8 rfl rfl SL.nil))))))) (BL.keep rfl (BL.keep rfl (BL.keep rfl (BL.keep rfl (BL.keep rfl (BL.keep rfl (BL.keep rfl (BL.keep rfl (BL.keep rfl (BL.keep rfl (BL.keep rfl (BL.keep rfl (BL.keep rfl (BL.keep rfl (BL.keep rfl (BL.keep rfl BL.nil)))))))))))))))) (BK.cons (n := 1671) rfl bZ rfl rfl (BK.cons (n := 1670) rfl (bS rfl bZ) rfl rfl (BK.cons (n := 1669) rfl (bS rfl (bS rfl bZ)) rfl rfl (BK.cons (n := 1668) rfl (bS rfl (bS rfl (bS rfl bZ))) rfl rfl (BK.cons (n := 1667) rfl (bS rfl (bS rfl (bS rfl (bS rfl bZ)))) rfl rfl (BK.cons (n := 1666) rfl (bS rfl (bS rfl (bS rfl (bS rfl (bS rfl bZ))))) rfl rfl (BK.cons (n := 1665) rfl (bS rfl (bS rfl (bS rfl (bS rfl (bS rfl (bS rfl bZ)))))) rfl rfl (BK.cons (n := 384) rfl (bS rfl (bS rfl (bS rfl (bS rfl (bS rfl (bS rfl (bS rfl bZ))))))) rfl rfl (BK.cons (n := 512) rfl (bS rfl (bS rfl (bS rfl (bS rfl (bS rfl (bS rfl (bS rfl (bS rfl bZ)))))))) rfl rfl BK.nil))))))))) GK.nil) ?_))))))))
      rcases oite H with ⟨h39, H⟩ | ⟨h39, H⟩
      ·refine AW.condT eZ (dT h39) (aV (oMov eC (xQ (AW.ret (TQ.qr ?_)))))
       cases H
       exact eE rfl rfl
      ·refine AW.condF eZ (dF h39) (AW.skip (TQ.qn (aS (aV (oMov (eR rfl) (oMov (eR rfl) (oNeq (eR rfl) eZ (xQ ?_))))))))
       rcases oite H with ⟨h40, H⟩ | ⟨h40, H⟩
       ·refine AW.condT eZ (dT h40) (aV (oMov eC (xQ (AW.ret (TQ.qr ?_)))))
        cases H
        exact eE rfl rfl
       ·refine AW.condF eZ (dF h40) (AW.skip (TQ.qn (aS (AW.regm (rmOne (oMov (eR rfl) (xNil (rmOne (oMov (eR rfl) (xNil (rmOne ?_)))))))))))
        obtain ⟨v41, h42, H⟩ := obind H
        refine oCall (u := (.one (.d (.sl 2 (List.map d_TRange v41))))) eC Cl.fn (c_laws_toRangeS h42) (Evs.cons eZ Evs.nil) (VDs.cons VD.plain VDs.nil) rfl (xNil (rmOne ?_))
        obtain ⟨v43, h44, H⟩ := obind H
        refine oCall (u := (.agg [(dI v43.Me), (.d (.sl 2 (List.map d_TRange v43.Own))), (.d (.sl 2 (List.map d_TRange v43.Frozen))), (.d (.sl 2 (List.map d_TCell v43.Cells))), (.d (.sl 4 (List.map d_TLock v43.Locks))), (.d (.sl 2 (List.map d_THeld v43.Helds))), (.d (.sl 1 (List.map d_i64 v43.Wounded))), (.d (.sl 1 (List.map d_i64 v43.Ended))), (dI v43.Rank)])) eC Cl.fn (c_impl_NewShard h44) (Evs.cons (eR rfl) (Evs.cons eZ Evs.nil)) (VDs.cons VD.plain (VDs.cons VD.plain VDs.nil)) rfl (xNil (rmOne (oVar (n := 768) (m := 9) rfl rfl (nS rfl (nS rfl (nS rfl (nS rfl (nS rfl (nS rfl (nS rfl (nS rfl (nS rfl nZ))))))))) (xNil (rmOne (oStoreV (es := [(dI v43.Me), (.d (.sl 2 (List.map d_TRange v43.Own))), (.d (.sl 2 (List.map d_TRange v43.Frozen))), (.d (.sl 2 (List.map d_TCell v43.Cells))), (.d (.sl 4 (List.map d_TLock v43.Locks))), (.d (.sl 2 (List.map d_THeld v43.Helds))), (.d (.sl 1 (List.map d_i64 v43.Wounded))), (.d (.sl 1 (List.map d_i64 v43.Ended))), (dI v43.Rank)]) eZ (eR rfl) rfl rfl bZ rfl (xNil (rmRest (xQ (aS (aV (oLoadVA (es := [(dI v43.Me), (.d (.sl 2 (List.map d_TRange v43.Own))), (.d (.sl 2 (List.map d_TRange v43.Frozen))), (.d (.sl 2 (List.map d_TCell v43.Cells))), (.d (.sl 4 (List.map d_TLock v43.Locks))), (.d (.sl 2 (List.map d_THeld v43.Helds))), (.d (.sl 1 (List.map d_i64 v43.Wounded))), (.d (.sl 1 (List.map d_i64 v43.Ended))), (dI v43.Rank)]) eZ bZ rfl (oLoadVA (es := [(dI v8.Me), (.d (.sl 2 (List.map d_TRange v8.Own))), (.d (.sl 2 (List.map d_TRange v8.Frozen))), (.d (.sl 2 (List.map d_TCell v8.Cells))), (.d (.sl 4 (List.map d_TLock v8.Locks))), (.d (.sl 2 (List.map d_THeld v8.Helds))), (.d (.sl 1 (List.map d_i64 v8.Wounded))), (.d (.sl 1 (List.map d_i64 v8.Ended))), (dI v8.Rank)]) (eR rfl) (bS rfl (bS rfl (bS rfl (bS rfl (bS rfl (bS rfl (bS rfl (bS rfl (bS rfl bZ))))))))) rfl ?_)))))))))))))
        obtain ⟨v45, h46, H⟩ := obind H
        refine oCall (u := (oB v45)) eC Cl.fn (c_laws_eqShard h46) (Evs.cons (eR rfl) (Evs.cons eZ Evs.nil)) (VDs.cons (VD.agg rfl) (VDs.cons (VD.agg rfl) VDs.nil)) rfl (oInv eZ (xQ (AW.weaken (wk_mkG [768, 384] (kr 65 rfl rfl (kr 10 rfl rfl (kr 8 rfl rfl SL.nil))) (BL.drop rfl (BL.drop rfl (BL.keep rfl (BL.keep rfl (BL.keep rfl (BL.keep rfl (BL.keep rfl (BL.keep rfl (BL.keep rfl (BL.drop rfl (BL.keep rfl BL.nil))))))))))) (BK.cons (n := 1671) rfl (bS rfl (bS rfl bZ)) rfl rfl (BK.cons (n := 1670) rfl (bS rfl (bS rfl (bS rfl bZ))) rfl rfl (BK.cons (n := 1669) rfl (bS rfl (bS rfl (bS rfl (bS rfl bZ)))) rfl rfl (BK.cons (n := 1668) rfl (bS rfl (bS rfl (bS rfl (bS rfl (bS rfl bZ))))) rfl rfl (BK.cons (n := 1667) rfl (bS rfl (bS rfl (bS rfl (bS rfl (bS rfl (bS rfl bZ)))))) rfl rfl (BK.cons (n := 1666) rfl (bS rfl (bS rfl (bS rfl (bS rfl (bS rfl (bS rfl (bS rfl bZ))))))) rfl rfl (BK.cons (n := 1665) rfl (bS rfl (bS rfl (bS rfl (bS rfl (bS rfl (bS rfl (bS rfl (bS rfl bZ)))))))) rfl rfl (BK.cons (n := 512) rfl (bS rfl (bS rfl (bS rfl (bS rfl (bS rfl (bS rfl (bS rfl (bS rfl (bS rfl (bS rfl bZ)))))))))) rfl rfl BK.nil)))))))) GK.nil) ?_)))
        rcases oite H with ⟨h47, H⟩ | ⟨h47, H⟩
        ·refine AW.condF eZ (cN h47) (AW.skip (TQ.qn (aV (oMov eC (xQ (aV (oLoadVA (es := [(dI v12.Me), (.sl 1665 0 v12.Own.length), (.sl 1666 0 v12.Frozen.length), (.sl 1667 0 v12.Cells.length), (.sl 1668 0 v12.Locks.length), (.sl 1669 0 v12.Helds.length), (.sl 1670 0 v12.Wounded.length), (.sl 1671 0 v12.Ended.length), (dI v12.Rank)]) (eR rfl) (bS rfl (bS rfl (bS rfl (bS rfl (bS rfl (bS rfl (bS rfl bZ))))))) rfl (oMov (eR rfl) ?_))))))))
         obtain ⟨v48, h49, H⟩ := obind H
         refine oCall (u := (oI v48)) eC Cl.fn (c_laws_heldShard h49) (Evs.cons (eR rfl) (Evs.cons eZ Evs.nil)) (VDs.cons (VD.aggs (CDs.plain (CDs.sl (bS rfl (bS rfl (bS rfl (bS rfl (bS rfl (bS rfl bZ)))))) (by first | (simp; done) | (simp; omega) | omega | (simp only [List.length_map]; omega)) (CDs.sl (bS rfl (bS rfl (bS rfl (bS rfl (bS rfl bZ))))) (by first | (simp; done) | (simp; omega) | omega | (simp only [List.length_map]; omega)) (CDs.sl (bS rfl (bS rfl (bS rfl (bS rfl bZ)))) (by first | (simp; done) | (simp; omega) | omega | (simp only [List.length_map]; omega)) (CDs.sl (bS rfl (bS rfl (bS rfl bZ))) (by first | (simp; done) | (simp; omega) | omega | (simp only [List.length_map]; omega)) (CDs.sl (bS rfl (bS rfl bZ)) (by first | (simp; done) | (simp; omega) | omega | (simp only [List.length_map]; omega)) (CDs.sl (bS rfl bZ) (by first | (simp; done) | (simp; omega) | omega | (simp only [List.length_map]; omega)) (CDs.sl bZ (by first | (simp; done) | (simp; omega) | omega | (simp only [List.length_map]; omega)) (CDs.plain CDs.nil)))))))))) (VDs.cons VD.plain VDs.nil)) rfl (oMov eZ (xQ (aS (aV (oMov eZ (oLss eZ eC (xQ ?_)))))))
         rcases oite H with ⟨h50, H⟩ | ⟨h50, H⟩
         ·refine AW.condT eZ (dT h50) (aV (oMov eC (xQ (AW.ret (TQ.qr ?_)))))
          cases H
          exact eE rfl rfl
         ·refine AW.condF eZ (dF h50) (AW.skip (TQ.qn (aS (aV (oMov (eR rfl) (oMov (eR rfl) (oNeq (eR rfl) eZ (xQ ?_))))))))
          rcases oite H with ⟨h51, H⟩ | ⟨h51, H⟩
          ·refine AW.condT eZ (dT h51) (aV (oMov eC (xQ (AW.ret (TQ.qr ?_)))))
           cases H
           exact eE rfl rfl
          ·refine AW.condF eZ (dF h51) (AW.skip (TQ.qn (aV (oMov eC (xQ (AW.ret ?_))))))
           cases H
           exact eE rfl rfl
        ·refine AW.condT eZ (cN (nt h47)) (aV (oMov eC (xQ (AW.ret (TQ.qr ?_)))))
         cases H
         exact eE rfl rfl
    ·refine aR (oMov eZ (oLss eZ eC (oMov eZ ?_)))
     rcases oite H with ⟨h52, H⟩ | ⟨h52, H⟩
     ·exact gSkip eZ (dT h52) rfl (gSkip (eR rfl) (dT h52) rfl (gSkip (eR rfl) (dT h52) rfl (gSkip (eR rfl) (dT h52) rfl (oPickT (eR rfl) (dT h52) eC (xNil (TQ.qn ⟨true, H, (wk_mkG [1472] (kR rfl rfl (kR rfl rfl (kR rfl rfl (kR rfl rfl (kR rfl rfl SL.nil))))) (BL.drop rfl (BL.keep rfl (BL.keep rfl (BL.keep rfl (BL.keep rfl (BL.keep rfl (BL.keep rfl (BL.keep rfl (BL.keep rfl (BL.drop rfl (BL.keep rfl BL.nil))))))))))) (BK.cons rfl (bS rfl (bS rfl (bS rfl (bS rfl (bS rfl (bS rfl (bS rfl (bS rfl (bS rfl (bS rfl bZ)))))))))) rfl rfl (BK.cons rfl (bS rfl bZ) rfl (by first | rfl | simp) (BK.cons rfl (bS rfl (bS rfl (bS rfl (bS rfl (bS rfl (bS rfl (bS rfl (bS rfl bZ)))))))) rfl rfl (BK.cons rfl (bS rfl (bS rfl (bS rfl (bS rfl (bS rfl (bS rfl (bS rfl bZ))))))) rfl rfl (BK.cons rfl (bS rfl (bS rfl (bS rfl (bS rfl (bS rfl (bS rfl bZ)))))) rfl rfl (BK.cons rfl (bS rfl (bS rfl (bS rfl (bS rfl (bS rfl bZ))))) rfl rfl (BK.cons rfl (bS rfl (bS rfl (bS rfl (bS rfl bZ)))) rfl rfl (BK.cons rfl (bS rfl (bS rfl (bS rfl bZ))) rfl rfl (BK.cons rfl (bS rfl (bS rfl bZ)) rfl rfl BK.nil))))))))) GK.nil)⟩))))))
     ·refine gDo eZ (dF h52) (oLoadVA (es := [(dI v12.Me), (.sl 1665 0 v12.Own.length), (.sl 1666 0 v12.Frozen.length), (.sl 1667 0 v12.Cells.length), (.sl 1668 0 v12.Locks.length), (.sl 1669 0 v12.Helds.length), (.sl 1670 0 v12.Wounded.length), (.sl 1671 0 v12.Ended.length), (dI v12.Rank)]) (eR rfl) (bS rfl bZ) rfl (gDo (eR rfl) (dF h52) (oLoadVA (es := [(dI v8.Me), (.d (.sl 2 (List.map d_TRange v8.Own))), (.d (.sl 2 (List.map d_TRange v8.Frozen))), (.d (.sl 2 (List.map d_TCell v8.Cells))), (.d (.sl 4 (List.map d_TLock v8.Locks))), (.d (.sl 2 (List.map d_THeld v8.Helds))), (.d (.sl 1 (List.map d_i64 v8.Wounded))), (.d (.sl 1 (List.map d_i64 v8.Ended))), (dI v8.Rank)]) (eR rfl) (bS rfl (bS rfl (bS rfl (bS rfl (bS rfl (bS rfl (bS rfl (bS rfl (bS rfl (bS rfl bZ)))))))))) rfl (gDo (eR rfl) (dF h52) ?_))))
      obtain ⟨v53, h54, H⟩ := obind H
      exact oCall (u := (oB v53)) eC Cl.fn (c_laws_eqShard h54) (Evs.cons (eR rfl) (Evs.cons eZ Evs.nil)) (VDs.cons (VD.aggs (CDs.plain (CDs.sl (bS rfl (bS rfl (bS rfl (bS rfl (bS rfl (bS rfl (bS rfl (bS rfl bZ)))))))) (List.length_map _) (CDs.sl (bS rfl (bS rfl (bS rfl (bS rfl (bS rfl (bS rfl (bS rfl bZ))))))) (List.length_map _) (CDs.sl (bS rfl (bS rfl (bS rfl (bS rfl (bS rfl (bS rfl bZ)))))) (List.length_map _) (CDs.sl (bS rfl (bS rfl (bS rfl (bS rfl (bS rfl bZ))))) (List.length_map _) (CDs.sl (bS rfl (bS rfl (bS rfl (bS rfl bZ)))) (List.length_map _) (CDs.sl (bS rfl (bS rfl (bS rfl bZ))) (List.length_map _) (CDs.sl (bS rfl (bS rfl bZ)) (List.length_map _) (CDs.plain CDs.nil)))))))))) (VDs.cons (VD.agg rfl) VDs.nil)) rfl (gDo (eR rfl) (dF h52) (oInv eZ (oPickF (eR rfl) (dF h52) eZ (xNil (TQ.qn ⟨(!v53), H, (wk_mkG [1472] (kR rfl rfl (kR rfl rfl (kR rfl rfl (kR rfl rfl (kR rfl rfl SL.nil))))) (BL.drop rfl (BL.keep rfl (BL.keep rfl (BL.keep rfl (BL.keep rfl (BL.keep rfl (BL.keep rfl (BL.keep rfl (BL.keep rfl (BL.drop rfl (BL.keep rfl BL.nil))))))))))) (BK.cons rfl (bS rfl (bS rfl (bS rfl (bS rfl (bS rfl (bS rfl (bS rfl (bS rfl (bS rfl (bS rfl bZ)))))))))) rfl rfl (BK.cons rfl (bS rfl bZ) rfl (by first | rfl | simp) (BK.cons rfl (bS rfl (bS rfl (bS rfl (bS rfl (bS rfl (bS rfl (bS rfl (bS rfl bZ)))))))) rfl rfl (BK.cons rfl (bS rfl (bS rfl (bS rfl (bS rfl (bS rfl (bS rfl (bS rfl bZ))))))) rfl rfl (BK.cons rfl (bS rfl (bS rfl (bS rfl (bS rfl (bS rfl (bS rfl bZ)))))) rfl rfl (BK.cons rfl (bS rfl (bS rfl (bS rfl (bS rfl (bS rfl bZ))))) rfl rfl (BK.cons rfl (bS rfl (bS rfl (bS rfl (bS rfl bZ)))) rfl rfl (BK.cons rfl (bS rfl (bS rfl (bS rfl bZ))) rfl rfl (BK.cons rfl (bS rfl (bS rfl bZ)) rfl rfl BK.nil))))))))) GK.nil)⟩)))))
   ·refine AW.condT eZ (cN (nt h21)) (aV (oMov eC (xQ (AW.ret (TQ.qr ?_)))))
    cases H
    exact eE rfl rfl
  ·refine AW.condT eZ (cN (nt h16)) (aV (oMov eC (xQ (AW.ret (TQ.qr ?_)))))
   cases H
   exact eE rfl rfl
end Go.AW
