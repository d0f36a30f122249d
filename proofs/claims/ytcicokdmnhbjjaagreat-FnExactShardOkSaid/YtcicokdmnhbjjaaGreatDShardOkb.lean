/- That functions of the program compute what the plain functions say: printed by a program of the prover's own (tool/dec.py). Conditions: each theorem's own. -/
import Derived.Test.YtcicokdmnhbjjaaGreatMShardOk
import Derived.Test.YtcicokdmnhbjjaaGreatGShardOk
import Derived.Test.YtcicokdmnhbjjaaGreatSShardOk
import Derived.Test.YtcicokdmnhbjjaaGreatYt
import Derived.KernelRfl
import Derived.Test.YtcicokdmnhbjjaaGreatDShardOka
set_option linter.unusedVariables false
set_option linter.unusedSimpArgs false
set_option maxRecDepth 100000
namespace Go.AW
open Go.Proofs
theorem c_spec_ShardOk {a1 : TShard} {r : Bool} (H : m_spec_ShardOk a1 = some r) : Fn Tryz.prog k_spec_ShardOk (lent [(.agg (d_TShard a1))]) true [(.bool r)] := by
 refine i_spec_ShardOk_fn (fle rfl) ?_
 rw [init_mk]
 refine AW.weaken (wk_mk [] (kv 0 (.agg [(dI a1.Me), (.d (.sl 2 (List.map d_TRange a1.Own))), (.d (.sl 2 (List.map d_TRange a1.Frozen))), (.d (.sl 2 (List.map d_TCell a1.Cells))), (.d (.sl 4 (List.map d_TLock a1.Locks))), (.d (.sl 2 (List.map d_THeld a1.Helds))), (.d (.sl 1 (List.map d_i64 a1.Wounded))), (.d (.sl 1 (List.map d_i64 a1.Ended))), (dI a1.Rank)]) rfl rfl SL.nil) BL.nil BK.nil) ?_
 unfold m_spec_ShardOk at H
 unfold i_spec_ShardOk
 refine aV (oBox (n := 64) (m := 9) (cs := [(dI a1.Me), (.d (.sl 2 (List.map d_TRange a1.Own))), (.d (.sl 2 (List.map d_TRange a1.Frozen))), (.d (.sl 2 (List.map d_TCell a1.Cells))), (.d (.sl 4 (List.map d_TLock a1.Locks))), (.d (.sl 2 (List.map d_THeld a1.Helds))), (.d (.sl 1 (List.map d_i64 a1.Wounded))), (.d (.sl 1 (List.map d_i64 a1.Ended))), (dI a1.Rank)]) rfl eZ rfl rfl nZ (oMov eC (xQ (aS (AW.seqJ (fun t2 : Bool => (spec_ShardOk_j2 a1) t2 = some r) (fun t2 => mk [(1, (.one (.ptr (.nm 64 0 0)))), (41, (oB t2))] [(64, (.vars 9 [(dI a1.Me), (.d (.sl 2 (List.map d_TRange a1.Own))), (.d (.sl 2 (List.map d_TRange a1.Frozen))), (.d (.sl 2 (List.map d_TCell a1.Cells))), (.d (.sl 4 (List.map d_TLock a1.Locks))), (.d (.sl 2 (List.map d_THeld a1.Helds))), (.d (.sl 1 (List.map d_i64 a1.Wounded))), (.d (.sl 1 (List.map d_i64 a1.Ended))), (dI a1.Rank)]))] noG) ?_ ?_)))))
 ·intro t2 H
  unfold spec_ShardOk_j2 at H
  rcases oite H with ⟨h4, H⟩ | ⟨h4, H⟩
  ·refine AW.condT (eR rfl) h4 (aV (oMov eC (xQ (AW.ret (TQ.qr ?_)))))
   cases H
   exact eE rfl rfl
  ·refine AW.condF (eR rfl) (nt h4) (AW.skip (TQ.qn (aS (AW.seqJ (fun t5 : Bool => (spec_ShardOk_j5 a1) t5 = some r) (fun t5 => mk [(1, (.one (.ptr (.nm 64 0 0)))), (69, (oB t5))] [(64, (.vars 9 [(dI a1.Me), (.d (.sl 2 (List.map d_TRange a1.Own))), (.d (.sl 2 (List.map d_TRange a1.Frozen))), (.d (.sl 2 (List.map d_TCell a1.Cells))), (.d (.sl 4 (List.map d_TLock a1.Locks))), (.d (.sl 2 (List.map d_THeld a1.Helds))), (.d (.sl 1 (List.map d_i64 a1.Wounded))), (.d (.sl 1 (List.map d_i64 a1.Ended))), (dI a1.Rank)]))] noG) ?_ ?_))))
   ·intro t5 H
    unfold spec_ShardOk_j5 at H
    rcases oite H with ⟨h7, H⟩ | ⟨h7, H⟩
    ·refine AW.condT (eR rfl) h7 (aV (oMov eC (xQ (AW.ret (TQ.qr ?_)))))
     cases H
     exact eE rfl rfl
    ·refine AW.condF (eR rfl) (nt h7) (AW.skip (TQ.qn (AW.seqJ (fun t8 : Unit => (spec_ShardOk_j8 a1) t8 = some r) (fun t8 => mk [(1, (.one (.ptr (.nm 64 0 0))))] [(64, (.vars 9 [(dI a1.Me), (.d (.sl 2 (List.map d_TRange a1.Own))), (.d (.sl 2 (List.map d_TRange a1.Frozen))), (.d (.sl 2 (List.map d_TCell a1.Cells))), (.d (.sl 4 (List.map d_TLock a1.Locks))), (.d (.sl 2 (List.map d_THeld a1.Helds))), (.d (.sl 1 (List.map d_i64 a1.Wounded))), (.d (.sl 1 (List.map d_i64 a1.Ended))), (dI a1.Rank)]))] noG) ?_ ?_)))
     ·intro t8 H
      unfold spec_ShardOk_j8 at H
      refine AW.seqJ (fun t10 : Unit => (spec_ShardOk_j10 a1) t10 = some r) (fun t10 => mk [(1, (.one (.ptr (.nm 64 0 0))))] [(64, (.vars 9 [(dI a1.Me), (.d (.sl 2 (List.map d_TRange a1.Own))), (.d (.sl 2 (List.map d_TRange a1.Frozen))), (.d (.sl 2 (List.map d_TCell a1.Cells))), (.d (.sl 4 (List.map d_TLock a1.Locks))), (.d (.sl 2 (List.map d_THeld a1.Helds))), (.d (.sl 1 (List.map d_i64 a1.Wounded))), (.d (.sl 1 (List.map d_i64 a1.Ended))), (dI a1.Rank)]))] noG) ?_ ?_
      ·intro t10 H
       unfold spec_ShardOk_j10 at H
       refine AW.seqJ (fun t12 : Unit => (spec_ShardOk_j12 a1) t12 = some r) (fun t12 => mk [(1, (.one (.ptr (.nm 64 0 0))))] [(64, (.vars 9 [(dI a1.Me), (.d (.sl 2 (List.map d_TRange a1.Own))), (.d (.sl 2 (List.map d_TRange a1.Frozen))), (.d (.sl 2 (List.map d_TCell a1.Cells))), (.d (.sl 4 (List.map d_TLock a1.Locks))), (.d (.sl 2 (List.map d_THeld a1.Helds))), (.d (.sl 1 (List.map d_i64 a1.Wounded))), (.d (.sl 1 (List.map d_i64 a1.Ended))), (dI a1.Rank)]))] noG) ?_ ?_
       ·intro t12 H
        unfold spec_ShardOk_j12 at H
        refine AW.seqJ (fun t14 : Unit => (spec_ShardOk_j14 a1) t14 = some r) (fun t14 => mk [(1, (.one (.ptr (.nm 64 0 0))))] [(64, (.vars 9 [(dI a1.Me), (.d (.sl 2 (List.map d_TRange a1.Own))), (.d (.sl 2 (List.map d_TRange a1.Frozen))), (.d (.sl 2 (List.map d_TCell a1.Cells))), (.d (.sl 4 (List.map d_TLock a1.Locks))), (.d (.sl 2 (List.map d_THeld a1.Helds))), (.d (.sl 1 (List.map d_i64 a1.Wounded))), (.d (.sl 1 (List.map d_i64 a1.Ended))), (dI a1.Rank)]))] noG) ?_ ?_
        ·intro t14 H
         unfold spec_ShardOk_j14 at H
         refine aS (AW.regd (oLoadVA (es := [(dI a1.Me), (.d (.sl 2 (List.map d_TRange a1.Own))), (.d (.sl 2 (List.map d_TRange a1.Frozen))), (.d (.sl 2 (List.map d_TCell a1.Cells))), (.d (.sl 4 (List.map d_TLock a1.Locks))), (.d (.sl 2 (List.map d_THeld a1.Helds))), (.d (.sl 1 (List.map d_i64 a1.Wounded))), (.d (.sl 1 (List.map d_i64 a1.Ended))), (dI a1.Rank)]) eZ bZ rfl ?_))
         obtain ⟨v16, h17, H⟩ := obind H
         refine oCall (u := (oB v16)) eC Cl.fn (c_spec_l13HeldsOk h17) (Evs.cons eZ Evs.nil) (VDs.cons (VD.agg rfl) VDs.nil) rfl (oMov eZ ?_)
         rcases oite H with ⟨h18, H⟩ | ⟨h18, H⟩
         ·refine gDo eZ h18 (oFaddrN (m := 3) (eR rfl) rfl (gDo (eR rfl) h18 (oLoadV (q := 3) (c := (.d (.sl 2 (List.map d_TCell a1.Cells)))) eZ (hB rfl bZ) rfl rfl (gDo (eR rfl) h18 (oLenD eZ (n := a1.Cells.length) (List.length_map _) (gDo (eR rfl) h18 (oLoadVA (es := [(dI a1.Me), (.d (.sl 2 (List.map d_TRange a1.Own))), (.d (.sl 2 (List.map d_TRange a1.Frozen))), (.d (.sl 2 (List.map d_TCell a1.Cells))), (.d (.sl 4 (List.map d_TLock a1.Locks))), (.d (.sl 2 (List.map d_THeld a1.Helds))), (.d (.sl 1 (List.map d_i64 a1.Wounded))), (.d (.sl 1 (List.map d_i64 a1.Ended))), (dI a1.Rank)]) (eR rfl) bZ rfl (gDo (eR rfl) h18 ?_))))))))
          obtain ⟨v19, h20, H⟩ := obind H
          refine oCall (u := (oI v19)) eC Cl.fn (c_spec_l13New h20) (Evs.cons eZ Evs.nil) (VDs.cons (VD.agg rfl) VDs.nil) rfl (gDo (eR rfl) h18 (oAdd (eR rfl) eZ (gDo (eR rfl) h18 (oLeq eZ eC (oPickT (eR rfl) h18 eZ (oMov eZ (xQ (AW.ret ?_))))))))
          cases H
          exact eE rfl rfl
         ·refine gSkip eZ (nt h18) rfl (gSkip (eR rfl) (nt h18) rfl (gSkip (eR rfl) (nt h18) rfl (gSkip (eR rfl) (nt h18) rfl (gSkip (eR rfl) (nt h18) rfl (gSkip (eR rfl) (nt h18) rfl (gSkip (eR rfl) (nt h18) rfl (oPickF (eR rfl) (nt h18) eC (oMov eZ (xQ (AW.ret ?_))))))))))
          cases H
          exact eE rfl rfl
        ·refine aV (oMov eC (xQ (AW.block (AW.iter (fun s21 : Int => mk [(1, (.one (.ptr (.nm 64 0 0)))), (7, (oI s21))] [(64, (.vars 9 [(dI a1.Me), (.d (.sl 2 (List.map d_TRange a1.Own))), (.d (.sl 2 (List.map d_TRange a1.Frozen))), (.d (.sl 2 (List.map d_TCell a1.Cells))), (.d (.sl 4 (List.map d_TLock a1.Locks))), (.d (.sl 2 (List.map d_THeld a1.Helds))), (.d (.sl 1 (List.map d_i64 a1.Wounded))), (.d (.sl 1 (List.map d_i64 a1.Ended))), (dI a1.Rank)]))] noG) H (wk_mk [] (kR rfl rfl (kR rfl rfl SL.nil)) (BL.keep rfl BL.nil) (BK.cons rfl bZ rfl rfl BK.nil)) ?_))))
         intro kb22 s21 H
         unfold spec_ShardOk_b21 at H
         refine aS (aV (oMov (eR rfl) (oFaddrN (m := 6) (eR rfl) rfl (oLoadV (q := 6) (c := (.d (.sl 1 (List.map d_i64 a1.Wounded)))) eZ bZ rfl rfl (oLenD eZ (n := a1.Wounded.length) (List.length_map _) (oLss (eR rfl) eZ (xQ ?_)))))))
         rcases oite H with ⟨h23, H⟩ | ⟨h23, H⟩
         ·refine AW.condT eZ (decide_eq_true h23) (AW.skip (TQ.qn (aS (AW.block (aS (AW.regd (oFaddrN (m := 7) (eR rfl) rfl (oLoadV (q := 7) (c := (.d (.sl 1 (List.map d_i64 a1.Ended)))) eZ bZ rfl rfl (oFaddrN (m := 6) (eR rfl) rfl (oLoadV (q := 6) (c := (.d (.sl 1 (List.map d_i64 a1.Wounded)))) eZ bZ rfl rfl (oMov (eR rfl) ?_)))))))))))
          obtain ⟨v24, h25, H⟩ := obind H
          refine oAtD (eR rfl) eZ h25 (oLoadB (e := (.int .i64 v24)) eZ rfl ?_)
          obtain ⟨v26, h27, H⟩ := obind H
          refine oCall (u := (oB v26)) eC Cl.fn (c_spec_l12Has h27) (Evs.cons (eR rfl) (Evs.cons eZ Evs.nil)) (VDs.cons VD.plain (VDs.cons VD.plain VDs.nil)) rfl (xQ ?_)
          rcases oite H with ⟨h28, H⟩ | ⟨h28, H⟩
          ·refine AW.condT eZ h28 (aV (oMov eC (xQ (AW.weaken (wk_mk [64] (kr 2 rfl rfl SL.nil) (BL.drop rfl BL.nil) BK.nil) (AW.ret (BQ.qr (TQ.qr (TQ.qr (BQ.qr (TQ.qr ?_))))))))))
           cases H
           exact eE rfl rfl
          ·exact AW.condF eZ (nt h28) (AW.skip (BQ.qn (TQ.qn (aR (oMov (eR rfl) (oAdd eZ eC (oMov eZ (xNil (TQ.qn ⟨(IntKind.wrap .i64 (s21 + 1)), H, (wk_mk [] (kR rfl rfl (kR rfl rfl SL.nil)) (BL.keep rfl BL.nil) (BK.cons rfl bZ rfl rfl BK.nil))⟩)))))))))
         ·exact AW.condF eZ (decide_eq_false h23) (AW.exit (TQ.qe (TQ.qe (BQ.qe (TQ.qn ⟨(), H, (wk_mk [] (kR rfl rfl SL.nil) (BL.keep rfl BL.nil) (BK.cons rfl bZ rfl rfl BK.nil))⟩)))))
       ·refine aV (oMov eC (xQ (AW.block (AW.iter (fun s29 : Int => mk [(1, (.one (.ptr (.nm 64 0 0)))), (5, (oI s29))] [(64, (.vars 9 [(dI a1.Me), (.d (.sl 2 (List.map d_TRange a1.Own))), (.d (.sl 2 (List.map d_TRange a1.Frozen))), (.d (.sl 2 (List.map d_TCell a1.Cells))), (.d (.sl 4 (List.map d_TLock a1.Locks))), (.d (.sl 2 (List.map d_THeld a1.Helds))), (.d (.sl 1 (List.map d_i64 a1.Wounded))), (.d (.sl 1 (List.map d_i64 a1.Ended))), (dI a1.Rank)]))] noG) H (wk_mk [] (kR rfl rfl (kR rfl rfl SL.nil)) (BL.keep rfl BL.nil) (BK.cons rfl bZ rfl rfl BK.nil)) ?_))))
        intro kb30 s29 H
        unfold spec_ShardOk_b29 at H
        refine aS (aV (oMov (eR rfl) (oFaddrN (m := 4) (eR rfl) rfl (oLoadV (q := 4) (c := (.d (.sl 4 (List.map d_TLock a1.Locks)))) eZ bZ rfl rfl (oLenD eZ (n := a1.Locks.length) (List.length_map _) (oLss (eR rfl) eZ (xQ ?_)))))))
        rcases oite H with ⟨h31, H⟩ | ⟨h31, H⟩
        ·refine AW.condT eZ (decide_eq_true h31) (AW.skip (TQ.qn (aS (AW.block (aV (oFaddrN (m := 4) (eR rfl) rfl (oLoadV (q := 4) (c := (.d (.sl 4 (List.map d_TLock a1.Locks)))) eZ bZ rfl rfl (oMov (eR rfl) ?_))))))))
         obtain ⟨v32, h33, H⟩ := obind H
         refine oAtD (eR rfl) eZ h33 (oLoadBA (es := [(dI v32.Tx), (dI v32.Lo), (dI v32.Hi), (dI v32.Mode)]) eZ rfl (oVar (n := 384) (m := 4) rfl rfl (nS rfl nZ) (oStoreV (es := [(dI v32.Tx), (dI v32.Lo), (dI v32.Hi), (dI v32.Mode)]) eZ (eR rfl) rfl rfl bZ rfl (xQ (AW.seqJ (fun t34 : Bool => (spec_ShardOk_j34 kb30 s29) t34 = some r) (fun t34 => mk [(1, (.one (.ptr (.nm 64 0 0)))), (5, (oI s29)), (135, (oB t34))] [(64, (.vars 9 [(dI a1.Me), (.d (.sl 2 (List.map d_TRange a1.Own))), (.d (.sl 2 (List.map d_TRange a1.Frozen))), (.d (.sl 2 (List.map d_TCell a1.Cells))), (.d (.sl 4 (List.map d_TLock a1.Locks))), (.d (.sl 2 (List.map d_THeld a1.Helds))), (.d (.sl 1 (List.map d_i64 a1.Wounded))), (.d (.sl 1 (List.map d_i64 a1.Ended))), (dI a1.Rank)]))] noG) ?_ ?_)))))
         ·intro t34 H
          unfold spec_ShardOk_j34 at H
          rcases oite H with ⟨h36, H⟩ | ⟨h36, H⟩
          ·refine AW.condT (eR rfl) h36 (aV (oMov eC (xQ (AW.ret (BQ.qr (TQ.qr (TQ.qr (BQ.qr (TQ.qr ?_)))))))))
           cases H
           exact eE rfl rfl
          ·exact AW.condF (eR rfl) (nt h36) (AW.skip (BQ.qn (TQ.qn (aR (oMov (eR rfl) (oAdd eZ eC (oMov eZ (xNil (TQ.qn ⟨(IntKind.wrap .i64 (s29 + 1)), H, (wk_mk [] (kR rfl rfl (kR rfl rfl SL.nil)) (BL.keep rfl BL.nil) (BK.cons rfl bZ rfl rfl BK.nil))⟩)))))))))
         ·refine AW.regd (oFaddrN (m := 1) (eR rfl) rfl (oLoadV (q := 1) (c := (.d (.sl 2 (List.map d_TRange a1.Own)))) eZ (hB rfl (bS rfl (bS rfl bZ))) rfl rfl (oLoadVA (es := [(dI v32.Tx), (dI v32.Lo), (dI v32.Hi), (dI v32.Mode)]) (eR rfl) bZ rfl ?_)))
          obtain ⟨v37, h38, H⟩ := obind H
          refine oCall (u := (.agg [(dI v37.Lo), (dI v37.Hi)])) eC Cl.fn (c_spec_l12Range h38) (Evs.cons eZ Evs.nil) (VDs.cons (VD.agg rfl) VDs.nil) rfl ?_
          obtain ⟨v39, h40, H⟩ := obind H
          refine oCall (u := (oB v39)) eC Cl.fn (c_spec_RangesHave h40) (Evs.cons (eR rfl) (Evs.cons eZ Evs.nil)) (VDs.cons VD.plain (VDs.cons (VD.agg rfl) VDs.nil)) rfl (oInv eZ (oMov eZ ?_))
          rcases oite H with ⟨h41, H⟩ | ⟨h41, H⟩
          ·refine gDo eZ (congrArg Bool.not h41) (oFaddrN (m := 6) (eR rfl) rfl (gDo (eR rfl) (congrArg Bool.not h41) (oLoadV (q := 6) (c := (.d (.sl 1 (List.map d_i64 a1.Wounded)))) eZ (bS rfl (bS rfl bZ)) rfl rfl (gDo (eR rfl) (congrArg Bool.not h41) (oFaddrN (m := 0) (eR rfl) rfl (gDo (eR rfl) (congrArg Bool.not h41) (oLoadV (q := 0) (c := (dI v32.Tx)) eZ bZ rfl rfl (gDo (eR rfl) (congrArg Bool.not h41) ?_))))))))
           obtain ⟨v42, h43, H⟩ := obind H
           refine oCall (u := (oB v42)) eC Cl.fn (c_spec_l12Has h43) (Evs.cons (eR rfl) (Evs.cons eZ Evs.nil)) (VDs.cons VD.plain (VDs.cons VD.plain VDs.nil)) rfl (oPickF (eR rfl) (congrArg Bool.not h41) eZ (oMov eZ ?_))
           rcases oite H with ⟨h44, H⟩ | ⟨h44, H⟩
           ·exact gSkip eZ h44 rfl (gSkip (eR rfl) h44 rfl (gSkip (eR rfl) h44 rfl (gSkip (eR rfl) h44 rfl (gSkip (eR rfl) h44 rfl (oPickT (eR rfl) h44 eC (xNil (TQ.qn ⟨true, H, (wk_mk [384] (kR rfl rfl (kR rfl rfl (kR rfl rfl SL.nil))) (BL.drop rfl (BL.drop rfl (BL.keep rfl BL.nil))) (BK.cons rfl (bS rfl (bS rfl bZ)) rfl rfl BK.nil))⟩)))))))
           ·refine gDo eZ (nt h44) (oFaddrN (m := 7) (eR rfl) rfl (gDo (eR rfl) (nt h44) (oLoadV (q := 7) (c := (.d (.sl 1 (List.map d_i64 a1.Ended)))) eZ (bS rfl (bS rfl bZ)) rfl rfl (gDo (eR rfl) (nt h44) (oFaddrN (m := 0) (eR rfl) rfl (gDo (eR rfl) (nt h44) (oLoadV (q := 0) (c := (dI v32.Tx)) eZ bZ rfl rfl (gDo (eR rfl) (nt h44) ?_))))))))
            obtain ⟨v45, h46, H⟩ := obind H
            exact oCall (u := (oB v45)) eC Cl.fn (c_spec_l12Has h46) (Evs.cons (eR rfl) (Evs.cons eZ Evs.nil)) (VDs.cons VD.plain (VDs.cons VD.plain VDs.nil)) rfl (oPickF (eR rfl) (nt h44) eZ (xNil (TQ.qn ⟨v45, H, (wk_mk [384] (kR rfl rfl (kR rfl rfl (kR rfl rfl SL.nil))) (BL.drop rfl (BL.drop rfl (BL.keep rfl BL.nil))) (BK.cons rfl (bS rfl (bS rfl bZ)) rfl rfl BK.nil))⟩)))
          ·exact gSkip eZ (congrArg Bool.not (nt h41)) rfl (gSkip (eR rfl) (congrArg Bool.not (nt h41)) rfl (gSkip (eR rfl) (congrArg Bool.not (nt h41)) rfl (gSkip (eR rfl) (congrArg Bool.not (nt h41)) rfl (gSkip (eR rfl) (congrArg Bool.not (nt h41)) rfl (oPickT (eR rfl) (congrArg Bool.not (nt h41)) eC (oMov eZ (gSkip eZ rfl rfl (gSkip (eR rfl) rfl rfl (gSkip (eR rfl) rfl rfl (gSkip (eR rfl) rfl rfl (gSkip (eR rfl) rfl rfl (oPickT (eR rfl) rfl eC (xNil (TQ.qn ⟨true, H, (wk_mk [384] (kR rfl rfl (kR rfl rfl (kR rfl rfl SL.nil))) (BL.drop rfl (BL.drop rfl (BL.keep rfl BL.nil))) (BK.cons rfl (bS rfl (bS rfl bZ)) rfl rfl BK.nil))⟩))))))))))))))
        ·exact AW.condF eZ (decide_eq_false h31) (AW.exit (TQ.qe (TQ.qe (BQ.qe (TQ.qn ⟨(), H, (wk_mk [] (kR rfl rfl SL.nil) (BL.keep rfl BL.nil) (BK.cons rfl bZ rfl rfl BK.nil))⟩)))))
      ·refine aV (oMov eC (xQ (AW.block (AW.iter (fun s47 : Int => mk [(1, (.one (.ptr (.nm 64 0 0)))), (4, (oI s47))] [(64, (.vars 9 [(dI a1.Me), (.d (.sl 2 (List.map d_TRange a1.Own))), (.d (.sl 2 (List.map d_TRange a1.Frozen))), (.d (.sl 2 (List.map d_TCell a1.Cells))), (.d (.sl 4 (List.map d_TLock a1.Locks))), (.d (.sl 2 (List.map d_THeld a1.Helds))), (.d (.sl 1 (List.map d_i64 a1.Wounded))), (.d (.sl 1 (List.map d_i64 a1.Ended))), (dI a1.Rank)]))] noG) H (wk_mk [] (kR rfl rfl (kR rfl rfl SL.nil)) (BL.keep rfl BL.nil) (BK.cons rfl bZ rfl rfl BK.nil)) ?_))))
       intro kb48 s47 H
       unfold spec_ShardOk_b47 at H
       refine aS (aV (oMov (eR rfl) (oFaddrN (m := 3) (eR rfl) rfl (oLoadV (q := 3) (c := (.d (.sl 2 (List.map d_TCell a1.Cells)))) eZ bZ rfl rfl (oLenD eZ (n := a1.Cells.length) (List.length_map _) (oLss (eR rfl) eZ (xQ ?_)))))))
       rcases oite H with ⟨h49, H⟩ | ⟨h49, H⟩
       ·refine AW.condT eZ (decide_eq_true h49) (AW.skip (TQ.qn (aS (AW.block (aS (AW.regd (oFaddrN (m := 1) (eR rfl) rfl (oLoadV (q := 1) (c := (.d (.sl 2 (List.map d_TRange a1.Own)))) eZ (hB rfl bZ) rfl rfl (oFaddrN (m := 3) (eR rfl) rfl (oLoadV (q := 3) (c := (.d (.sl 2 (List.map d_TCell a1.Cells)))) eZ bZ rfl rfl (oMov (eR rfl) ?_)))))))))))
        obtain ⟨v50, h51, H⟩ := obind H
        refine oAtD (eR rfl) eZ h51 (oFaddrB (m := 0) eZ rfl (oLoadB (e := (.int .i64 v50.Key)) eZ rfl ?_))
        obtain ⟨v52, h53, H⟩ := obind H
        refine oCall (u := (.agg [(dI v52.Lo), (dI v52.Hi)])) eC Cl.fn (c_spec_l10One h53) (Evs.cons eZ Evs.nil) (VDs.cons VD.plain VDs.nil) rfl ?_
        obtain ⟨v54, h55, H⟩ := obind H
        refine oCall (u := (oB v54)) eC Cl.fn (c_spec_RangesHave h55) (Evs.cons (eR rfl) (Evs.cons eZ Evs.nil)) (VDs.cons VD.plain (VDs.cons (VD.agg rfl) VDs.nil)) rfl (oInv eZ (xQ (AW.weaken (wk_mk [] (kr 103 rfl rfl (kr 1 rfl rfl (kr 4 rfl rfl SL.nil))) (BL.keep rfl BL.nil) (BK.cons (n := 64) rfl bZ rfl rfl BK.nil)) ?_)))
        rcases oite H with ⟨h56, H⟩ | ⟨h56, H⟩
        ·exact AW.condF eZ (congrArg Bool.not h56) (AW.skip (BQ.qn (TQ.qn (aR (oMov (eR rfl) (oAdd eZ eC (oMov eZ (xNil (TQ.qn ⟨(IntKind.wrap .i64 (s47 + 1)), H, (wk_mk [] (kR rfl rfl (kR rfl rfl SL.nil)) (BL.keep rfl BL.nil) (BK.cons rfl bZ rfl rfl BK.nil))⟩)))))))))
        ·refine AW.condT eZ (congrArg Bool.not (nt h56)) (aV (oMov eC (xQ (AW.ret (BQ.qr (TQ.qr (TQ.qr (BQ.qr (TQ.qr ?_)))))))))
         cases H
         exact eE rfl rfl
       ·exact AW.condF eZ (decide_eq_false h49) (AW.exit (TQ.qe (TQ.qe (BQ.qe (TQ.qn ⟨(), H, (wk_mk [] (kR rfl rfl SL.nil) (BL.keep rfl BL.nil) (BK.cons rfl bZ rfl rfl BK.nil))⟩)))))
     ·refine aV (oMov eC (xQ (AW.block (AW.iter (fun s57 : Int => mk [(1, (.one (.ptr (.nm 64 0 0)))), (3, (oI s57))] [(64, (.vars 9 [(dI a1.Me), (.d (.sl 2 (List.map d_TRange a1.Own))), (.d (.sl 2 (List.map d_TRange a1.Frozen))), (.d (.sl 2 (List.map d_TCell a1.Cells))), (.d (.sl 4 (List.map d_TLock a1.Locks))), (.d (.sl 2 (List.map d_THeld a1.Helds))), (.d (.sl 1 (List.map d_i64 a1.Wounded))), (.d (.sl 1 (List.map d_i64 a1.Ended))), (dI a1.Rank)]))] noG) H (wk_mk [] (kR rfl rfl (kR rfl rfl SL.nil)) (BL.keep rfl BL.nil) (BK.cons rfl bZ rfl rfl BK.nil)) ?_))))
      intro kb58 s57 H
      unfold spec_ShardOk_b57 at H
      refine aS (aV (oMov (eR rfl) (oFaddrN (m := 2) (eR rfl) rfl (oLoadV (q := 2) (c := (.d (.sl 2 (List.map d_TRange a1.Frozen)))) eZ bZ rfl rfl (oLenD eZ (n := a1.Frozen.length) (List.length_map _) (oLss (eR rfl) eZ (xQ ?_)))))))
      rcases oite H with ⟨h59, H⟩ | ⟨h59, H⟩
      ·refine AW.condT eZ (decide_eq_true h59) (AW.skip (TQ.qn (aS (AW.block (aS (AW.regd (oFaddrN (m := 1) (eR rfl) rfl (oLoadV (q := 1) (c := (.d (.sl 2 (List.map d_TRange a1.Own)))) eZ bZ rfl rfl (oFaddrN (m := 2) (eR rfl) rfl (oLoadV (q := 2) (c := (.d (.sl 2 (List.map d_TRange a1.Frozen)))) eZ bZ rfl rfl (oMov (eR rfl) ?_)))))))))))
       obtain ⟨v60, h61, H⟩ := obind H
       refine oAtD (eR rfl) eZ h61 (oLoadBA (es := [(dI v60.Lo), (dI v60.Hi)]) eZ rfl ?_)
       obtain ⟨v62, h63, H⟩ := obind H
       refine oCall (u := (oB v62)) eC Cl.fn (c_spec_RangesHave h63) (Evs.cons (eR rfl) (Evs.cons eZ Evs.nil)) (VDs.cons VD.plain (VDs.cons (VD.agg rfl) VDs.nil)) rfl (oInv eZ (xQ (AW.weaken (wk_mk [] (kr 85 rfl rfl (kr 1 rfl rfl (kr 3 rfl rfl SL.nil))) (BL.keep rfl BL.nil) (BK.cons (n := 64) rfl bZ rfl rfl BK.nil)) ?_)))
       rcases oite H with ⟨h64, H⟩ | ⟨h64, H⟩
       ·exact AW.condF eZ (congrArg Bool.not h64) (AW.skip (BQ.qn (TQ.qn (aR (oMov (eR rfl) (oAdd eZ eC (oMov eZ (xNil (TQ.qn ⟨(IntKind.wrap .i64 (s57 + 1)), H, (wk_mk [] (kR rfl rfl (kR rfl rfl SL.nil)) (BL.keep rfl BL.nil) (BK.cons rfl bZ rfl rfl BK.nil))⟩)))))))))
       ·refine AW.condT eZ (congrArg Bool.not (nt h64)) (aV (oMov eC (xQ (AW.ret (BQ.qr (TQ.qr (TQ.qr (BQ.qr (TQ.qr ?_)))))))))
        cases H
        exact eE rfl rfl
      ·exact AW.condF eZ (decide_eq_false h59) (AW.exit (TQ.qe (TQ.qe (BQ.qe (TQ.qn ⟨(), H, (wk_mk [] (kR rfl rfl SL.nil) (BL.keep rfl BL.nil) (BK.cons rfl bZ rfl rfl BK.nil))⟩)))))
   ·refine aR (oFaddrN (m := 5) eZ rfl (oLoadV (q := 5) (c := (.d (.sl 2 (List.map d_THeld a1.Helds)))) eZ bZ rfl rfl (oLenD eZ (n := a1.Helds.length) (List.length_map _) (oGtr eZ eC (oMov eZ ?_)))))
    rcases oite H with ⟨h65, H⟩ | ⟨h65, H⟩
    ·exact gSkip eZ (decide_eq_true h65) rfl (gSkip (eR rfl) (decide_eq_true h65) rfl (gSkip (eR rfl) (decide_eq_true h65) rfl (gSkip (eR rfl) (decide_eq_true h65) rfl (oPickT (eR rfl) (decide_eq_true h65) eC (oMov eZ (gSkip eZ rfl rfl (gSkip (eR rfl) rfl rfl (gSkip (eR rfl) rfl rfl (gSkip (eR rfl) rfl rfl (oPickT (eR rfl) rfl eC (oMov eZ (gSkip eZ rfl rfl (gSkip (eR rfl) rfl rfl (gSkip (eR rfl) rfl rfl (gSkip (eR rfl) rfl rfl (oPickT (eR rfl) rfl eC (oMov eZ (gSkip eZ rfl rfl (gSkip (eR rfl) rfl rfl (gSkip (eR rfl) rfl rfl (gSkip (eR rfl) rfl rfl (oPickT (eR rfl) rfl eC (xNil (TQ.qn ⟨true, H, (wk_mk [] (kR rfl rfl (kR rfl rfl SL.nil)) (BL.keep rfl BL.nil) (BK.cons rfl bZ rfl rfl BK.nil))⟩))))))))))))))))))))))))
    ·refine gDo eZ (decide_eq_false h65) (oFaddrN (m := 6) (eR rfl) rfl (gDo (eR rfl) (decide_eq_false h65) (oLoadV (q := 6) (c := (.d (.sl 1 (List.map d_i64 a1.Wounded)))) eZ bZ rfl rfl (gDo (eR rfl) (decide_eq_false h65) (oLenD eZ (n := a1.Wounded.length) (List.length_map _) (gDo (eR rfl) (decide_eq_false h65) (oGtr eZ eC (oPickF (eR rfl) (decide_eq_false h65) eZ (oMov eZ ?_)))))))))
     rcases oite H with ⟨h66, H⟩ | ⟨h66, H⟩
     ·exact gSkip eZ (decide_eq_true h66) rfl (gSkip (eR rfl) (decide_eq_true h66) rfl (gSkip (eR rfl) (decide_eq_true h66) rfl (gSkip (eR rfl) (decide_eq_true h66) rfl (oPickT (eR rfl) (decide_eq_true h66) eC (oMov eZ (gSkip eZ rfl rfl (gSkip (eR rfl) rfl rfl (gSkip (eR rfl) rfl rfl (gSkip (eR rfl) rfl rfl (oPickT (eR rfl) rfl eC (oMov eZ (gSkip eZ rfl rfl (gSkip (eR rfl) rfl rfl (gSkip (eR rfl) rfl rfl (gSkip (eR rfl) rfl rfl (oPickT (eR rfl) rfl eC (xNil (TQ.qn ⟨true, H, (wk_mk [] (kR rfl rfl (kR rfl rfl SL.nil)) (BL.keep rfl BL.nil) (BK.cons rfl bZ rfl rfl BK.nil))⟩))))))))))))))))))
     ·refine gDo eZ (decide_eq_false h66) (oFaddrN (m := 7) (eR rfl) rfl (gDo (eR rfl) (decide_eq_false h66) (oLoadV (q := 7) (c := (.d (.sl 1 (List.map d_i64 a1.Ended)))) eZ bZ rfl rfl (gDo (eR rfl) (decide_eq_false h66) (oLenD eZ (n := a1.Ended.length) (List.length_map _) (gDo (eR rfl) (decide_eq_false h66) (oGtr eZ eC (oPickF (eR rfl) (decide_eq_false h66) eZ (oMov eZ ?_)))))))))
      rcases oite H with ⟨h67, H⟩ | ⟨h67, H⟩
      ·exact gSkip eZ (decide_eq_true h67) rfl (gSkip (eR rfl) (decide_eq_true h67) rfl (gSkip (eR rfl) (decide_eq_true h67) rfl (gSkip (eR rfl) (decide_eq_true h67) rfl (oPickT (eR rfl) (decide_eq_true h67) eC (oMov eZ (gSkip eZ rfl rfl (gSkip (eR rfl) rfl rfl (gSkip (eR rfl) rfl rfl (gSkip (eR rfl) rfl rfl (oPickT (eR rfl) rfl eC (xNil (TQ.qn ⟨true, H, (wk_mk [] (kR rfl rfl (kR rfl rfl SL.nil)) (BL.keep rfl BL.nil) (BK.cons rfl bZ rfl rfl BK.nil))⟩))))))))))))
      ·refine gDo eZ (decide_eq_false h67) (oFaddrN (m := 6) (eR rfl) rfl (gDo (eR rfl) (decide_eq_false h67) (oLoadV (q := 6) (c := (.d (.sl 1 (List.map d_i64 a1.Wounded)))) eZ bZ rfl rfl (gDo (eR rfl) (decide_eq_false h67) ?_))))
       obtain ⟨v68, h69, H⟩ := obind H
       refine oCall (u := (oB v68)) eC Cl.fn (c_spec_l13Txs h69) (Evs.cons eZ Evs.nil) (VDs.cons VD.plain VDs.nil) rfl (gDo (eR rfl) (decide_eq_false h67) (oInv eZ (oPickF (eR rfl) (decide_eq_false h67) eZ (oMov eZ ?_))))
       rcases oite H with ⟨h70, H⟩ | ⟨h70, H⟩
       ·refine gDo eZ (congrArg Bool.not h70) (oFaddrN (m := 7) (eR rfl) rfl (gDo (eR rfl) (congrArg Bool.not h70) (oLoadV (q := 7) (c := (.d (.sl 1 (List.map d_i64 a1.Ended)))) eZ bZ rfl rfl (gDo (eR rfl) (congrArg Bool.not h70) ?_))))
        obtain ⟨v71, h72, H⟩ := obind H
        exact oCall (u := (oB v71)) eC Cl.fn (c_spec_l13Txs h72) (Evs.cons eZ Evs.nil) (VDs.cons VD.plain VDs.nil) rfl (gDo (eR rfl) (congrArg Bool.not h70) (oInv eZ (oPickF (eR rfl) (congrArg Bool.not h70) eZ (xNil (TQ.qn ⟨(!v71), H, (wk_mk [] (kR rfl rfl (kR rfl rfl SL.nil)) (BL.keep rfl BL.nil) (BK.cons rfl bZ rfl rfl BK.nil))⟩)))))
       ·exact gSkip eZ (congrArg Bool.not (nt h70)) rfl (gSkip (eR rfl) (congrArg Bool.not (nt h70)) rfl (gSkip (eR rfl) (congrArg Bool.not (nt h70)) rfl (gSkip (eR rfl) (congrArg Bool.not (nt h70)) rfl (oPickT (eR rfl) (congrArg Bool.not (nt h70)) eC (xNil (TQ.qn ⟨true, H, (wk_mk [] (kR rfl rfl (kR rfl rfl SL.nil)) (BL.keep rfl BL.nil) (BK.cons rfl bZ rfl rfl BK.nil))⟩))))))
 ·refine aR (oFaddrN (m := 0) (eR rfl) rfl (oLoadV (q := 0) (c := (dI a1.Me)) eZ bZ rfl rfl ?_))
  obtain ⟨v73, h74, H⟩ := obind H
  refine oCall (u := (oB v73)) eC Cl.fn (c_spec_l1In h74) (Evs.cons eZ (Evs.cons eC (Evs.cons eC Evs.nil))) (VDs.cons VD.plain (VDs.cons VD.plain (VDs.cons VD.plain VDs.nil))) rfl (oInv eZ (oMov eZ ?_))
  rcases oite H with ⟨h75, H⟩ | ⟨h75, H⟩
  ·refine gDo eZ (congrArg Bool.not h75) (oFaddrN (m := 1) (eR rfl) rfl (gDo (eR rfl) (congrArg Bool.not h75) (oLoadV (q := 1) (c := (.d (.sl 2 (List.map d_TRange a1.Own)))) eZ bZ rfl rfl (gDo (eR rfl) (congrArg Bool.not h75) ?_))))
   obtain ⟨v76, h77, H⟩ := obind H
   refine oCall (u := (oB v76)) eC Cl.fn (c_spec_RangesOk h77) (Evs.cons eZ Evs.nil) (VDs.cons VD.plain VDs.nil) rfl (gDo (eR rfl) (congrArg Bool.not h75) (oInv eZ (oPickF (eR rfl) (congrArg Bool.not h75) eZ (oMov eZ ?_))))
   rcases oite H with ⟨h78, H⟩ | ⟨h78, H⟩
   ·refine gDo eZ (congrArg Bool.not h78) (oFaddrN (m := 2) (eR rfl) rfl (gDo (eR rfl) (congrArg Bool.not h78) (oLoadV (q := 2) (c := (.d (.sl 2 (List.map d_TRange a1.Frozen)))) eZ bZ rfl rfl (gDo (eR rfl) (congrArg Bool.not h78) ?_))))
    obtain ⟨v79, h80, H⟩ := obind H
    refine oCall (u := (oB v79)) eC Cl.fn (c_spec_RangesOk h80) (Evs.cons eZ Evs.nil) (VDs.cons VD.plain VDs.nil) rfl (gDo (eR rfl) (congrArg Bool.not h78) (oInv eZ (oPickF (eR rfl) (congrArg Bool.not h78) eZ (oMov eZ ?_))))
    rcases oite H with ⟨h81, H⟩ | ⟨h81, H⟩
    ·refine gDo eZ (congrArg Bool.not h81) (oFaddrN (m := 3) (eR rfl) rfl (gDo (eR rfl) (congrArg Bool.not h81) (oLoadV (q := 3) (c := (.d (.sl 2 (List.map d_TCell a1.Cells)))) eZ bZ rfl rfl (gDo (eR rfl) (congrArg Bool.not h81) ?_))))
     obtain ⟨v82, h83, H⟩ := obind H
     refine oCall (u := (oB v82)) eC Cl.fn (c_spec_StoreOk h83) (Evs.cons eZ Evs.nil) (VDs.cons VD.plain VDs.nil) rfl (gDo (eR rfl) (congrArg Bool.not h81) (oInv eZ (oPickF (eR rfl) (congrArg Bool.not h81) eZ (oMov eZ ?_))))
     rcases oite H with ⟨h84, H⟩ | ⟨h84, H⟩
     ·refine gDo eZ (congrArg Bool.not h84) (oFaddrN (m := 4) (eR rfl) rfl (gDo (eR rfl) (congrArg Bool.not h84) (oLoadV (q := 4) (c := (.d (.sl 4 (List.map d_TLock a1.Locks)))) eZ bZ rfl rfl (gDo (eR rfl) (congrArg Bool.not h84) ?_))))
      obtain ⟨v85, h86, H⟩ := obind H
      refine oCall (u := (oB v85)) eC Cl.fn (c_spec_LocksOk h86) (Evs.cons eZ Evs.nil) (VDs.cons VD.plain VDs.nil) rfl (gDo (eR rfl) (congrArg Bool.not h84) (oInv eZ (oPickF (eR rfl) (congrArg Bool.not h84) eZ (oMov eZ ?_))))
      rcases oite H with ⟨h87, H⟩ | ⟨h87, H⟩
      ·refine gDo eZ (congrArg Bool.not h87) (oFaddrN (m := 8) (eR rfl) rfl (gDo (eR rfl) (congrArg Bool.not h87) (oLoadV (q := 8) (c := (dI a1.Rank)) eZ bZ rfl rfl (gDo (eR rfl) (congrArg Bool.not h87) ?_))))
       obtain ⟨v88, h89, H⟩ := obind H
       exact oCall (u := (oB v88)) eC Cl.fn (c_spec_l1In h89) (Evs.cons eZ (Evs.cons eC (Evs.cons eC Evs.nil))) (VDs.cons VD.plain (VDs.cons VD.plain (VDs.cons VD.plain VDs.nil))) rfl (gDo (eR rfl) (congrArg Bool.not h87) (oInv eZ (oPickF (eR rfl) (congrArg Bool.not h87) eZ (xNil (TQ.qn ⟨(!v88), H, (wk_mk [] (kR rfl rfl (kR rfl rfl SL.nil)) (BL.keep rfl BL.nil) (BK.cons rfl bZ rfl rfl BK.nil))⟩)))))
      ·exact gSkip eZ (congrArg Bool.not (nt h87)) rfl (gSkip (eR rfl) (congrArg Bool.not (nt h87)) rfl (gSkip (eR rfl) (congrArg Bool.not (nt h87)) rfl (gSkip (eR rfl) (congrArg Bool.not (nt h87)) rfl (oPickT (eR rfl) (congrArg Bool.not (nt h87)) eC (xNil (TQ.qn ⟨true, H, (wk_mk [] (kR rfl rfl (kR rfl rfl SL.nil)) (BL.keep rfl BL.nil) (BK.cons rfl bZ rfl rfl BK.nil))⟩))))))
     ·exact gSkip eZ (congrArg Bool.not (nt h84)) rfl (gSkip (eR rfl) (congrArg Bool.not (nt h84)) rfl (gSkip (eR rfl) (congrArg Bool.not (nt h84)) rfl (gSkip (eR rfl) (congrArg Bool.not (nt h84)) rfl (oPickT (eR rfl) (congrArg Bool.not (nt h84)) eC (oMov eZ (gSkip eZ rfl rfl (gSkip (eR rfl) rfl rfl (gSkip (eR rfl) rfl rfl (gSkip (eR rfl) rfl rfl (oPickT (eR rfl) rfl eC (xNil (TQ.qn ⟨true, H, (wk_mk [] (kR rfl rfl (kR rfl rfl SL.nil)) (BL.keep rfl BL.nil) (BK.cons rfl bZ rfl rfl BK.nil))⟩))))))))))))
    ·exact gSkip eZ (congrArg Bool.not (nt h81)) rfl (gSkip (eR rfl) (congrArg Bool.not (nt h81)) rfl (gSkip (eR rfl) (congrArg Bool.not (nt h81)) rfl (gSkip (eR rfl) (congrArg Bool.not (nt h81)) rfl (oPickT (eR rfl) (congrArg Bool.not (nt h81)) eC (oMov eZ (gSkip eZ rfl rfl (gSkip (eR rfl) rfl rfl (gSkip (eR rfl) rfl rfl (gSkip (eR rfl) rfl rfl (oPickT (eR rfl) rfl eC (oMov eZ (gSkip eZ rfl rfl (gSkip (eR rfl) rfl rfl (gSkip (eR rfl) rfl rfl (gSkip (eR rfl) rfl rfl (oPickT (eR rfl) rfl eC (xNil (TQ.qn ⟨true, H, (wk_mk [] (kR rfl rfl (kR rfl rfl SL.nil)) (BL.keep rfl BL.nil) (BK.cons rfl bZ rfl rfl BK.nil))⟩))))))))))))))))))
   ·exact gSkip eZ (congrArg Bool.not (nt h78)) rfl (gSkip (eR rfl) (congrArg Bool.not (nt h78)) rfl (gSkip (eR rfl) (congrArg Bool.not (nt h78)) rfl (gSkip (eR rfl) (congrArg Bool.not (nt h78)) rfl (oPickT (eR rfl) (congrArg Bool.not (nt h78)) eC (oMov eZ (gSkip eZ rfl rfl (gSkip (eR rfl) rfl rfl (gSkip (eR rfl) rfl rfl (gSkip (eR rfl) rfl rfl (oPickT (eR rfl) rfl eC (oMov eZ (gSkip eZ rfl rfl (gSkip (eR rfl) rfl rfl (gSkip (eR rfl) rfl rfl (gSkip (eR rfl) rfl rfl (oPickT (eR rfl) rfl eC (oMov eZ (gSkip eZ rfl rfl (gSkip (eR rfl) rfl rfl (gSkip (eR rfl) rfl rfl (gSkip (eR rfl) rfl rfl (oPickT (eR rfl) rfl eC (xNil (TQ.qn ⟨true, H, (wk_mk [] (kR rfl rfl (kR rfl rfl SL.nil)) (BL.keep rfl BL.nil) (BK.cons rfl bZ rfl rfl BK.nil))⟩))))))))))))))))))))))))
  ·exact gSkip eZ (congrArg Bool.not (nt h75)) rfl (gSkip (eR rfl) (congrArg Bool.not (nt h75)) rfl (gSkip (eR rfl) (congrArg Bool.not (nt h75)) rfl (gSkip (eR rfl) (congrArg Bool.not (nt h75)) rfl (oPickT (eR rfl) (congrArg Bool.not (nt h75)) eC (oMov eZ (gSkip eZ rfl rfl (gSkip (eR rfl) rfl rfl (gSkip (eR rfl) rfl rfl (gSkip (eR rfl) rfl rfl (oPickT (eR rfl) rfl eC (oMov eZ (gSkip eZ rfl rfl (gSkip (eR rfl) rfl rfl (gSkip (eR rfl) rfl rfl (gSkip (eR rfl) rfl rfl (oPickT (eR rfl) rfl eC (oMov eZ (gSkip eZ rfl rfl (gSkip (eR rfl) rfl rfl (gSkip (eR rfl) rfl rfl (gSkip (eR rfl) rfl rfl (oPickT (eR rfl) rfl eC (oMov eZ (gSkip eZ rfl rfl (gSkip (eR rfl) rfl rfl (gSkip (eR rfl) rfl rfl (gSkip (eR rfl) rfl rfl (oPickT (eR rfl) rfl eC (xNil (TQ.qn ⟨true, H, (wk_mk [] (kR rfl rfl (kR rfl rfl SL.nil)) (BL.keep rfl BL.nil) (BK.cons rfl bZ rfl rfl BK.nil))⟩))))))))))))))))))))))))))))))
theorem c_impl_from {a1 : Int} {a2 : Int} {a3 : Int} {r : Bool} (H : m_impl_from a1 a2 a3 = some r) : Fn Tryz.prog k_impl_from (lent [(.int .i64 a1), (.int .i64 a2), (.int .i64 a3)]) true [(.bool r)] := by
 refine i_impl_from_fn (fle rfl) ?_
 rw [init_mk]
 refine AW.weaken (wk_mk [] (kv 0 (oI a1) rfl rfl (kv 1 (oI a2) rfl rfl (kv 2 (oI a3) rfl rfl SL.nil))) BL.nil BK.nil) ?_
 unfold m_impl_from at H
 unfold i_impl_from
 refine aV (oMov eC (xQ (aV (oMov (eR rfl) (oMov (eR rfl) (oGeq (eR rfl) eZ (oMov eZ ?_)))))))
 rcases oite H with ⟨h4, H⟩ | ⟨h4, H⟩
 ·refine gDo eZ (decide_eq_true h4) (oMov (eR rfl) (gDo (eR rfl) (decide_eq_true h4) (oMov (eR rfl) (gDo (eR rfl) (decide_eq_true h4) (oLeq (eR rfl) eZ (oPickT (eR rfl) (decide_eq_true h4) eZ (oMov eZ (xQ (AW.ret ?_)))))))))
  cases H
  exact eE rfl rfl
 ·refine gSkip eZ (decide_eq_false h4) rfl (gSkip (eR rfl) (decide_eq_false h4) rfl (gSkip (eR rfl) (decide_eq_false h4) rfl (oPickF (eR rfl) (decide_eq_false h4) eC (oMov eZ (xQ (AW.ret ?_))))))
  cases H
  exact eE rfl rfl
theorem c_impl_isGroup {a1 : Int} {r : Bool} (H : m_impl_isGroup a1 = some r) : Fn Tryz.prog k_impl_isGroup (lent [(.int .i64 a1)]) true [(.bool r)] := by
 refine i_impl_isGroup_fn (fle rfl) ?_
 rw [init_mk]
 refine AW.weaken (wk_mk [] (kv 0 (oI a1) rfl rfl SL.nil) BL.nil BK.nil) ?_
 unfold m_impl_isGroup at H
 unfold i_impl_isGroup
 refine aV (oMov eC (xQ (aV (oMov (eR rfl) ?_))))
 obtain ⟨v2, h3, H⟩ := obind H
 refine oCall (u := (oB v2)) eC Cl.fn (c_impl_from h3) (Evs.cons eZ (Evs.cons eC (Evs.cons eC Evs.nil))) (VDs.cons VD.plain (VDs.cons VD.plain (VDs.cons VD.plain VDs.nil))) rfl (oMov eZ (xQ (AW.ret ?_)))
 cases H
 exact eE rfl rfl
theorem c_impl_RangeOk {a1 : TRange} {r : Bool} (H : m_impl_RangeOk a1 = some r) : Fn Tryz.prog k_impl_RangeOk (lent [(.agg (d_TRange a1))]) true [(.bool r)] := by
 refine i_impl_RangeOk_fn (fle rfl) ?_
 rw [init_mk]
 refine AW.weaken (wk_mk [] (kv 0 (.agg [(dI a1.Lo), (dI a1.Hi)]) rfl rfl SL.nil) BL.nil BK.nil) ?_
 unfold m_impl_RangeOk at H
 unfold i_impl_RangeOk
 refine aV (oBox (n := 64) (m := 2) (cs := [(dI a1.Lo), (dI a1.Hi)]) rfl eZ rfl rfl nZ (oMov eC (xQ (aV (oFaddrN (m := 0) (eR rfl) rfl (oLoadV (q := 0) (c := (dI a1.Lo)) eZ bZ rfl rfl (oGeq eZ eC (oMov eZ ?_))))))))
 rcases oite H with ⟨h2, H⟩ | ⟨h2, H⟩
 ·refine gDo eZ (decide_eq_true h2) (oFaddrN (m := 0) (eR rfl) rfl (gDo (eR rfl) (decide_eq_true h2) (oLoadV (q := 0) (c := (dI a1.Lo)) eZ bZ rfl rfl (gDo (eR rfl) (decide_eq_true h2) (oFaddrN (m := 1) (eR rfl) rfl (gDo (eR rfl) (decide_eq_true h2) (oLoadV (q := 1) (c := (dI a1.Hi)) eZ bZ rfl rfl (gDo (eR rfl) (decide_eq_true h2) (oLss (eR rfl) eZ (oPickT (eR rfl) (decide_eq_true h2) eZ (oMov eZ ?_)))))))))))
  rcases oite H with ⟨h3, H⟩ | ⟨h3, H⟩
  ·refine gDo eZ (decide_eq_true h3) (oFaddrN (m := 1) (eR rfl) rfl (gDo (eR rfl) (decide_eq_true h3) (oLoadV (q := 1) (c := (dI a1.Hi)) eZ bZ rfl rfl (gDo (eR rfl) (decide_eq_true h3) (oLeq eZ eC (oPickT (eR rfl) (decide_eq_true h3) eZ (oMov eZ (xQ (AW.weaken (wk_mk [64] (kr 2 rfl rfl SL.nil) (BL.drop rfl BL.nil) BK.nil) (AW.ret ?_))))))))))
   cases H
   exact eE rfl rfl
  ·refine gSkip eZ (decide_eq_false h3) rfl (gSkip (eR rfl) (decide_eq_false h3) rfl (gSkip (eR rfl) (decide_eq_false h3) rfl (oPickF (eR rfl) (decide_eq_false h3) eC (oMov eZ (xQ (AW.weaken (wk_mk [64] (kr 2 rfl rfl SL.nil) (BL.drop rfl BL.nil) BK.nil) (AW.ret ?_)))))))
   cases H
   exact eE rfl rfl
 ·refine gSkip eZ (decide_eq_false h2) rfl (gSkip (eR rfl) (decide_eq_false h2) rfl (gSkip (eR rfl) (decide_eq_false h2) rfl (gSkip (eR rfl) (decide_eq_false h2) rfl (gSkip (eR rfl) (decide_eq_false h2) rfl (oPickF (eR rfl) (decide_eq_false h2) eC (oMov eZ (gSkip eZ rfl rfl (gSkip (eR rfl) rfl rfl (gSkip (eR rfl) rfl rfl (oPickF (eR rfl) rfl eC (oMov eZ (xQ (AW.weaken (wk_mk [64] (kr 2 rfl rfl SL.nil) (BL.drop rfl BL.nil) BK.nil) (AW.ret ?_))))))))))))))
  cases H
  exact eE rfl rfl
theorem c_impl_RangesOk {a1 : (List TRange)} {r : Bool} (H : m_impl_RangesOk a1 = some r) : Fn Tryz.prog k_impl_RangesOk (lent [(.sl 2 (List.map d_TRange a1))]) true [(.bool r)] := by
 refine i_impl_RangesOk_fn (fle rfl) ?_
 rw [init_mk]
 refine AW.weaken (wk_mk [] (kv 0 (.one (.d (.sl 2 (List.map d_TRange a1)))) rfl rfl SL.nil) BL.nil BK.nil) ?_
 unfold m_impl_RangesOk at H
 unfold i_impl_RangesOk
 refine aV (oMov eC (xQ (AW.seqJ (fun t2 : Unit => (impl_RangesOk_j2 a1) t2 = some r) (fun t2 => mk [(0, (.one (.d (.sl 2 (List.map d_TRange a1)))))] [] noG) ?_ ?_)))
 ·intro t2 H
  unfold impl_RangesOk_j2 at H
  refine aV (oMov eZ (oLenD eZ (n := a1.length) (List.length_map _) (oLeq eZ eC (oMov eZ (xQ (AW.ret ?_))))))
  cases H
  exact eE rfl rfl
 ·refine aV (oMov (eR rfl) (oLenD eZ (n := a1.length) (List.length_map _) (oMov eC (xQ (AW.block (AW.iter (fun s4 : Int => mk [(0, (.one (.d (.sl 2 (List.map d_TRange a1))))), (5, (.one (.d (.sl 2 (List.map d_TRange a1))))), (6, (oI (a1.length : Int))), (7, (oI s4))] [] noG) H (wk_mk [] (kR rfl rfl (kR rfl rfl (kR rfl rfl (kR rfl rfl SL.nil)))) BL.nil BK.nil) ?_))))))
  intro kb5 s4 H
  unfold impl_RangesOk_b4 at H
  refine aV (oLss (eR rfl) (eR rfl) (xQ (aS ?_)))
  rcases oite H with ⟨h6, H⟩ | ⟨h6, H⟩
  ·refine AW.condT eZ (decide_eq_true h6) (AW.skip (TQ.qn (aS (AW.block (aV (oMov (eR rfl) ?_))))))
   obtain ⟨v7, h8, H⟩ := obind H
   refine oAtD (eR rfl) (eR rfl) h8 (oLoadBA (es := [(dI v7.Lo), (dI v7.Hi)]) eZ rfl (oVar (n := 256) (m := 2) rfl rfl nZ (oMov (eR rfl) (oStoreV (es := [(dI v7.Lo), (dI v7.Hi)]) (eR rfl) (eR rfl) rfl rfl bZ rfl (xQ (AW.seqJ (fun t9 : Bool => (impl_RangesOk_j9 kb5 s4) t9 = some r) (fun t9 => mk [(0, (.one (.d (.sl 2 (List.map d_TRange a1))))), (5, (.one (.d (.sl 2 (List.map d_TRange a1))))), (6, (oI (a1.length : Int))), (7, (oI s4)), (29, (oB t9))] [] noG) ?_ ?_))))))
   ·intro t9 H
    unfold impl_RangesOk_j9 at H
    rcases oite H with ⟨h11, H⟩ | ⟨h11, H⟩
    ·refine AW.condT (eR rfl) h11 (aV (oMov eC (xQ (AW.ret (BQ.qr (TQ.qr (TQ.qr (BQ.qr (TQ.qr ?_)))))))))
     cases H
     exact eE rfl rfl
    ·exact AW.condF (eR rfl) (nt h11) (AW.skip (BQ.qn (TQ.qn (aR (oAdd (eR rfl) eC (oMov eZ (xNil (TQ.qn ⟨(IntKind.wrap .i64 (s4 + 1)), H, (wk_mk [] (kR rfl rfl (kR rfl rfl (kR rfl rfl (kR rfl rfl SL.nil)))) BL.nil BK.nil)⟩))))))))
   ·refine AW.regd (oLoadVA (es := [(dI v7.Lo), (dI v7.Hi)]) (eR rfl) bZ rfl ?_)
    obtain ⟨v12, h13, H⟩ := obind H
    refine oCall (u := (oB v12)) eC Cl.fn (c_impl_RangeOk h13) (Evs.cons eZ Evs.nil) (VDs.cons (VD.agg rfl) VDs.nil) rfl (oInv eZ (oMov eZ ?_))
    rcases oite H with ⟨h14, H⟩ | ⟨h14, H⟩
    ·refine gDo eZ (congrArg Bool.not h14) (oMov (eR rfl) (gDo (eR rfl) (congrArg Bool.not h14) (oGtr eZ eC (gDo (eR rfl) (congrArg Bool.not h14) (oMov eZ ?_)))))
     rcases oite H with ⟨h15, H⟩ | ⟨h15, H⟩
     ·refine gDo eZ (decide_eq_true h15) (oFaddrN (m := 0) (eR rfl) rfl (gDo (eR rfl) (decide_eq_true h15) (oLoadV (q := 0) (c := (dI v7.Lo)) eZ bZ rfl rfl (gDo (eR rfl) (decide_eq_true h15) (oMov (eR rfl) (gDo (eR rfl) (decide_eq_true h15) (oMov (eR rfl) (gDo (eR rfl) (decide_eq_true h15) (oSub eZ eC (gDo (eR rfl) (decide_eq_true h15) ?_))))))))))
      obtain ⟨v16, h17, H⟩ := obind H
      exact oAtD (eR rfl) eZ h17 (gDo (eR rfl) (decide_eq_true h15) (oFaddrB (m := 1) eZ rfl (gDo (eR rfl) (decide_eq_true h15) (oLoadB (e := (.int .i64 v16.Hi)) eZ rfl (gDo (eR rfl) (decide_eq_true h15) (oLss (eR rfl) eZ (gDo (eR rfl) (congrArg Bool.not h14) (oPickT (eR rfl) (decide_eq_true h15) eZ (oPickF (eR rfl) (congrArg Bool.not h14) eZ (xNil (TQ.qn ⟨(decide (v7.Lo < v16.Hi)), H, (wk_mk [256] (kR rfl rfl (kR rfl rfl (kR rfl rfl (kR rfl rfl (kR rfl rfl SL.nil))))) (BL.drop rfl (BL.drop rfl BL.nil)) BK.nil)⟩)))))))))))
     ·exact gSkip eZ (decide_eq_false h15) rfl (gSkip (eR rfl) (decide_eq_false h15) rfl (gSkip (eR rfl) (decide_eq_false h15) rfl (gSkip (eR rfl) (decide_eq_false h15) rfl (gSkip (eR rfl) (decide_eq_false h15) rfl (gSkip (eR rfl) (decide_eq_false h15) rfl (gSkip (eR rfl) (decide_eq_false h15) rfl (gSkip (eR rfl) (decide_eq_false h15) rfl (gSkip (eR rfl) (decide_eq_false h15) rfl (gDo (eR rfl) (congrArg Bool.not h14) (oPickF (eR rfl) (decide_eq_false h15) eC (oPickF (eR rfl) (congrArg Bool.not h14) eZ (xNil (TQ.qn ⟨false, H, (wk_mk [256] (kR rfl rfl (kR rfl rfl (kR rfl rfl (kR rfl rfl (kR rfl rfl SL.nil))))) (BL.drop rfl (BL.drop rfl BL.nil)) BK.nil)⟩)))))))))))))
    ·exact gSkip eZ (congrArg Bool.not (nt h14)) rfl (gSkip (eR rfl) (congrArg Bool.not (nt h14)) rfl (gSkip (eR rfl) (congrArg Bool.not (nt h14)) rfl (gSkipU eZ rfl (gSkipU (eR rfl) rfl (gSkipU (eR rfl) rfl (gSkipU (eR rfl) rfl (gSkipU (eR rfl) rfl (gSkipU (eR rfl) rfl (gSkipU (eR rfl) rfl (gSkipU (eR rfl) rfl (gSkipU (eR rfl) rfl (gSkip (eR rfl) (congrArg Bool.not (nt h14)) rfl (oPickT (eR rfl) (congrArg Bool.not (nt h14)) eC (xNil (TQ.qn ⟨true, H, (wk_mk [256] (kR rfl rfl (kR rfl rfl (kR rfl rfl (kR rfl rfl (kR rfl rfl SL.nil))))) (BL.drop rfl (BL.drop rfl BL.nil)) BK.nil)⟩)))))))))))))))
  ·exact AW.condF eZ (decide_eq_false h6) (AW.exit (TQ.qe (TQ.qe (BQ.qe (TQ.qn ⟨(), H, (wk_mk [] (kR rfl rfl SL.nil) BL.nil BK.nil)⟩)))))
theorem c_impl_isKey {a1 : Int} {r : Bool} (H : m_impl_isKey a1 = some r) : Fn Tryz.prog k_impl_isKey (lent [(.int .i64 a1)]) true [(.bool r)] := by
 refine i_impl_isKey_fn (fle rfl) ?_
 rw [init_mk]
 refine AW.weaken (wk_mk [] (kv 0 (oI a1) rfl rfl SL.nil) BL.nil BK.nil) ?_
 unfold m_impl_isKey at H
 unfold i_impl_isKey
 refine aV (oMov eC (xQ (aV (oMov (eR rfl) ?_))))
 obtain ⟨v2, h3, H⟩ := obind H
 refine oCall (u := (oB v2)) eC Cl.fn (c_impl_from h3) (Evs.cons eZ (Evs.cons eC (Evs.cons eC Evs.nil))) (VDs.cons VD.plain (VDs.cons VD.plain (VDs.cons VD.plain VDs.nil))) rfl (oMov eZ (xQ (AW.ret ?_)))
 cases H
 exact eE rfl rfl
theorem c_impl_isWhole {a1 : Int} {r : Bool} (H : m_impl_isWhole a1 = some r) : Fn Tryz.prog k_impl_isWhole (lent [(.int .i64 a1)]) true [(.bool r)] := by
 refine i_impl_isWhole_fn (fle rfl) ?_
 rw [init_mk]
 refine AW.weaken (wk_mk [] (kv 0 (oI a1) rfl rfl SL.nil) BL.nil BK.nil) ?_
 unfold m_impl_isWhole at H
 unfold i_impl_isWhole
 refine aV (oMov eC (xQ (aV (oMov (eR rfl) ?_))))
 obtain ⟨v2, h3, H⟩ := obind H
 refine oCall (u := (oB v2)) eC Cl.fn (c_impl_from h3) (Evs.cons eZ (Evs.cons eC (Evs.cons eC Evs.nil))) (VDs.cons VD.plain (VDs.cons VD.plain (VDs.cons VD.plain VDs.nil))) rfl (oMov eZ (xQ (AW.ret ?_)))
 cases H
 exact eE rfl rfl
theorem c_impl_StoreOk {a1 : (List TCell)} {r : Bool} (H : m_impl_StoreOk a1 = some r) : Fn Tryz.prog k_impl_StoreOk (lent [(.sl 2 (List.map d_TCell a1))]) true [(.bool r)] := by
 refine i_impl_StoreOk_fn (fle rfl) ?_
 rw [init_mk]
 refine AW.weaken (wk_mk [] (kv 0 (.one (.d (.sl 2 (List.map d_TCell a1)))) rfl rfl SL.nil) BL.nil BK.nil) ?_
 unfold m_impl_StoreOk at H
 unfold i_impl_StoreOk
 refine aV (oMov eC (xQ (AW.seqJ (fun t2 : Unit => (impl_StoreOk_j2 a1) t2 = some r) (fun t2 => mk [(0, (.one (.d (.sl 2 (List.map d_TCell a1)))))] [] noG) ?_ ?_)))
 ·intro t2 H
  unfold impl_StoreOk_j2 at H
  refine aV (oMov eZ (oLenD eZ (n := a1.length) (List.length_map _) (oLeq eZ eC (oMov eZ (xQ (AW.ret ?_))))))
  cases H
  exact eE rfl rfl
 ·refine aV (oMov (eR rfl) (oLenD eZ (n := a1.length) (List.length_map _) (oMov eC (xQ (AW.block (AW.iter (fun s4 : Int => mk [(0, (.one (.d (.sl 2 (List.map d_TCell a1))))), (5, (.one (.d (.sl 2 (List.map d_TCell a1))))), (6, (oI (a1.length : Int))), (7, (oI s4))] [] noG) H (wk_mk [] (kR rfl rfl (kR rfl rfl (kR rfl rfl (kR rfl rfl SL.nil)))) BL.nil BK.nil) ?_))))))
  intro kb5 s4 H
  unfold impl_StoreOk_b4 at H
  refine aV (oLss (eR rfl) (eR rfl) (xQ (aS ?_)))
  rcases oite H with ⟨h6, H⟩ | ⟨h6, H⟩
  ·refine AW.condT eZ (decide_eq_true h6) (AW.skip (TQ.qn (aS (AW.block (aV (oMov (eR rfl) ?_))))))
   obtain ⟨v7, h8, H⟩ := obind H
   refine oAtD (eR rfl) (eR rfl) h8 (oLoadBA (es := [(dI v7.Key), (dI v7.Value)]) eZ rfl (oVar (n := 256) (m := 2) rfl rfl nZ (oMov (eR rfl) (oStoreV (es := [(dI v7.Key), (dI v7.Value)]) (eR rfl) (eR rfl) rfl rfl bZ rfl (xQ (AW.seqJ (fun t9 : Bool => (impl_StoreOk_j9 kb5 s4) t9 = some r) (fun t9 => mk [(0, (.one (.d (.sl 2 (List.map d_TCell a1))))), (5, (.one (.d (.sl 2 (List.map d_TCell a1))))), (6, (oI (a1.length : Int))), (7, (oI s4)), (36, (oB t9))] [] noG) ?_ ?_))))))
   ·intro t9 H
    unfold impl_StoreOk_j9 at H
    rcases oite H with ⟨h11, H⟩ | ⟨h11, H⟩
    ·refine AW.condT (eR rfl) h11 (aV (oMov eC (xQ (AW.ret (BQ.qr (TQ.qr (TQ.qr (BQ.qr (TQ.qr ?_)))))))))
     cases H
     exact eE rfl rfl
    ·exact AW.condF (eR rfl) (nt h11) (AW.skip (BQ.qn (TQ.qn (aR (oAdd (eR rfl) eC (oMov eZ (xNil (TQ.qn ⟨(IntKind.wrap .i64 (s4 + 1)), H, (wk_mk [] (kR rfl rfl (kR rfl rfl (kR rfl rfl (kR rfl rfl SL.nil)))) BL.nil BK.nil)⟩))))))))
   ·refine AW.regd (oFaddrN (m := 0) (eR rfl) rfl (oLoadV (q := 0) (c := (dI v7.Key)) eZ bZ rfl rfl ?_))
    obtain ⟨v12, h13, H⟩ := obind H
    refine oCall (u := (oB v12)) eC Cl.fn (c_impl_isKey h13) (Evs.cons eZ Evs.nil) (VDs.cons VD.plain VDs.nil) rfl (oInv eZ (oMov eZ ?_))
    rcases oite H with ⟨h14, H⟩ | ⟨h14, H⟩
    ·refine gDo eZ (congrArg Bool.not h14) (oFaddrN (m := 1) (eR rfl) rfl (gDo (eR rfl) (congrArg Bool.not h14) (oLoadV (q := 1) (c := (dI v7.Value)) eZ bZ rfl rfl (gDo (eR rfl) (congrArg Bool.not h14) ?_))))
     obtain ⟨v15, h16, H⟩ := obind H
     refine oCall (u := (oB v15)) eC Cl.fn (c_impl_isWhole h16) (Evs.cons eZ Evs.nil) (VDs.cons VD.plain VDs.nil) rfl (gDo (eR rfl) (congrArg Bool.not h14) (oInv eZ (oPickF (eR rfl) (congrArg Bool.not h14) eZ (oMov eZ ?_))))
     rcases oite H with ⟨h17, H⟩ | ⟨h17, H⟩
     ·refine gDo eZ (congrArg Bool.not h17) (oMov (eR rfl) (gDo (eR rfl) (congrArg Bool.not h17) (oGtr eZ eC (gDo (eR rfl) (congrArg Bool.not h17) (oMov eZ ?_)))))
      rcases oite H with ⟨h18, H⟩ | ⟨h18, H⟩
      ·refine gDo eZ (decide_eq_true h18) (oMov (eR rfl) (gDo (eR rfl) (decide_eq_true h18) (oMov (eR rfl) (gDo (eR rfl) (decide_eq_true h18) (oSub eZ eC (gDo (eR rfl) (decide_eq_true h18) ?_))))))
       obtain ⟨v19, h20, H⟩ := obind H
       exact oAtD (eR rfl) eZ h20 (gDo (eR rfl) (decide_eq_true h18) (oFaddrB (m := 0) eZ rfl (gDo (eR rfl) (decide_eq_true h18) (oLoadB (e := (.int .i64 v19.Key)) eZ rfl (gDo (eR rfl) (decide_eq_true h18) (oFaddrN (m := 0) (eR rfl) rfl (gDo (eR rfl) (decide_eq_true h18) (oLoadV (q := 0) (c := (dI v7.Key)) eZ bZ rfl rfl (gDo (eR rfl) (decide_eq_true h18) (oGeq (eR rfl) eZ (gDo (eR rfl) (congrArg Bool.not h17) (oPickT (eR rfl) (decide_eq_true h18) eZ (oPickF (eR rfl) (congrArg Bool.not h17) eZ (xNil (TQ.qn ⟨(decide (v7.Key ≤ v19.Key)), H, (wk_mk [256] (kR rfl rfl (kR rfl rfl (kR rfl rfl (kR rfl rfl (kR rfl rfl SL.nil))))) (BL.drop rfl (BL.drop rfl BL.nil)) BK.nil)⟩)))))))))))))))
      ·exact gSkip eZ (decide_eq_false h18) rfl (gSkip (eR rfl) (decide_eq_false h18) rfl (gSkip (eR rfl) (decide_eq_false h18) rfl (gSkip (eR rfl) (decide_eq_false h18) rfl (gSkip (eR rfl) (decide_eq_false h18) rfl (gSkip (eR rfl) (decide_eq_false h18) rfl (gSkip (eR rfl) (decide_eq_false h18) rfl (gSkip (eR rfl) (decide_eq_false h18) rfl (gSkip (eR rfl) (decide_eq_false h18) rfl (gDo (eR rfl) (congrArg Bool.not h17) (oPickF (eR rfl) (decide_eq_false h18) eC (oPickF (eR rfl) (congrArg Bool.not h17) eZ (xNil (TQ.qn ⟨false, H, (wk_mk [256] (kR rfl rfl (kR rfl rfl (kR rfl rfl (kR rfl rfl (kR rfl rfl SL.nil))))) (BL.drop rfl (BL.drop rfl BL.nil)) BK.nil)⟩)))))))))))))
     ·exact gSkip eZ (congrArg Bool.not (nt h17)) rfl (gSkip (eR rfl) (congrArg Bool.not (nt h17)) rfl (gSkip (eR rfl) (congrArg Bool.not (nt h17)) rfl (gSkipU eZ rfl (gSkipU (eR rfl) rfl (gSkipU (eR rfl) rfl (gSkipU (eR rfl) rfl (gSkipU (eR rfl) rfl (gSkipU (eR rfl) rfl (gSkipU (eR rfl) rfl (gSkipU (eR rfl) rfl (gSkipU (eR rfl) rfl (gSkip (eR rfl) (congrArg Bool.not (nt h17)) rfl (oPickT (eR rfl) (congrArg Bool.not (nt h17)) eC (xNil (TQ.qn ⟨true, H, (wk_mk [256] (kR rfl rfl (kR rfl rfl (kR rfl rfl (kR rfl rfl (kR rfl rfl SL.nil))))) (BL.drop rfl (BL.drop rfl BL.nil)) BK.nil)⟩)))))))))))))))
    ·exact gSkip eZ (congrArg Bool.not (nt h14)) rfl (gSkip (eR rfl) (congrArg Bool.not (nt h14)) rfl (gSkip (eR rfl) (congrArg Bool.not (nt h14)) rfl (gSkip (eR rfl) (congrArg Bool.not (nt h14)) rfl (oPickT (eR rfl) (congrArg Bool.not (nt h14)) eC (oMov eZ (gSkip eZ rfl rfl (gSkip (eR rfl) rfl rfl (gSkip (eR rfl) rfl rfl (gSkipU eZ rfl (gSkipU (eR rfl) rfl (gSkipU (eR rfl) rfl (gSkipU (eR rfl) rfl (gSkipU (eR rfl) rfl (gSkipU (eR rfl) rfl (gSkipU (eR rfl) rfl (gSkipU (eR rfl) rfl (gSkipU (eR rfl) rfl (gSkip (eR rfl) rfl rfl (oPickT (eR rfl) rfl eC (xNil (TQ.qn ⟨true, H, (wk_mk [256] (kR rfl rfl (kR rfl rfl (kR rfl rfl (kR rfl rfl (kR rfl rfl SL.nil))))) (BL.drop rfl (BL.drop rfl BL.nil)) BK.nil)⟩)))))))))))))))))))))
  ·exact AW.condF eZ (decide_eq_false h6) (AW.exit (TQ.qe (TQ.qe (BQ.qe (TQ.qn ⟨(), H, (wk_mk [] (kR rfl rfl SL.nil) BL.nil BK.nil)⟩)))))
theorem c_impl_isTx {a1 : Int} {r : Bool} (H : m_impl_isTx a1 = some r) : Fn Tryz.prog k_impl_isTx (lent [(.int .i64 a1)]) true [(.bool r)] := by
 refine i_impl_isTx_fn (fle rfl) ?_
 rw [init_mk]
 refine AW.weaken (wk_mk [] (kv 0 (oI a1) rfl rfl SL.nil) BL.nil BK.nil) ?_
 unfold m_impl_isTx at H
 unfold i_impl_isTx
 refine aV (oMov eC (xQ (aV (oMov (eR rfl) ?_))))
 obtain ⟨v2, h3, H⟩ := obind H
 refine oCall (u := (oB v2)) eC Cl.fn (c_impl_from h3) (Evs.cons eZ (Evs.cons eC (Evs.cons eC Evs.nil))) (VDs.cons VD.plain (VDs.cons VD.plain (VDs.cons VD.plain VDs.nil))) rfl (oMov eZ (xQ (AW.ret ?_)))
 cases H
 exact eE rfl rfl
theorem c_impl_Lock_keys {a1 : TLock} {r : TRange} (H : m_impl_Lock_keys a1 = some r) : Fn Tryz.prog k__impl_Lock_keys (lent [(.agg (d_TLock a1))]) true [(.agg (d_TRange r))] := by
 refine i__impl_Lock_keys_fn (fle rfl) ?_
 rw [init_mk]
 refine AW.weaken (wk_mk [] (kv 0 (.agg [(dI a1.Tx), (dI a1.Lo), (dI a1.Hi), (dI a1.Mode)]) rfl rfl SL.nil) BL.nil BK.nil) ?_
 unfold m_impl_Lock_keys at H
 unfold i__impl_Lock_keys
 refine aV (oBox (n := 64) (m := 4) (cs := [(dI a1.Tx), (dI a1.Lo), (dI a1.Hi), (dI a1.Mode)]) rfl eZ rfl rfl nZ (oVar (n := 128) (m := 2) rfl rfl (nS rfl nZ) (xQ (aV (oFaddrN (m := 1) (eR rfl) rfl (oLoadV (q := 1) (c := (dI a1.Lo)) eZ (bS rfl bZ) rfl rfl (oFaddrN (m := 2) (eR rfl) rfl (oLoadV (q := 2) (c := (dI a1.Hi)) eZ (bS rfl bZ) rfl rfl (oBuild (cs := [(dI a1.Lo), (dI a1.Hi)]) (PsCons (eR rfl) (PsCons eZ PsNil)) rfl (oStoreV (es := [(dI a1.Lo), (dI a1.Hi)]) (eR rfl) eZ rfl rfl bZ rfl (xQ (AW.ret ?_))))))))))))
 cases H
 exact endsR (RL.cons (RV.cellA (es := [(dI a1.Lo), (dI a1.Hi)]) (eR rfl) bZ rfl) (VO.agg (ds := [(.int .i64 a1.Lo), (.int .i64 a1.Hi)]) rfl rfl) RL.nil) List.nodup_nil
theorem c_impl_isMode {a1 : Int} {r : Bool} (H : m_impl_isMode a1 = some r) : Fn Tryz.prog k_impl_isMode (lent [(.int .i64 a1)]) true [(.bool r)] := by
 refine i_impl_isMode_fn (fle rfl) ?_
 rw [init_mk]
 refine AW.weaken (wk_mk [] (kv 0 (oI a1) rfl rfl SL.nil) BL.nil BK.nil) ?_
 unfold m_impl_isMode at H
 unfold i_impl_isMode
 refine aV (oMov eC (xQ (aV (oMov (eR rfl) (oEql eZ eC (oMov eZ ?_))))))
 rcases oite H with ⟨h2, H⟩ | ⟨h2, H⟩
 ·refine gSkip eZ (decide_eq_true h2) rfl (gSkip (eR rfl) (decide_eq_true h2) rfl (oPickT (eR rfl) (decide_eq_true h2) eC (oMov eZ (xQ (AW.ret ?_)))))
  cases H
  exact eE rfl rfl
 ·refine gDo eZ (decide_eq_false h2) (oMov (eR rfl) (gDo (eR rfl) (decide_eq_false h2) (oEql eZ eC (oPickF (eR rfl) (decide_eq_false h2) eZ (oMov eZ (xQ (AW.ret ?_)))))))
  cases H
  exact eE rfl rfl
theorem c_impl_meets {a1 : TRange} {a2 : TRange} {r : Bool} (H : m_impl_meets a1 a2 = some r) : Fn Tryz.prog k_impl_meets (lent [(.agg (d_TRange a1)), (.agg (d_TRange a2))]) true [(.bool r)] := by
 refine i_impl_meets_fn (fle rfl) ?_
 rw [init_mk]
 refine AW.weaken (wk_mk [] (kv 0 (.agg [(dI a1.Lo), (dI a1.Hi)]) rfl rfl (kv 1 (.agg [(dI a2.Lo), (dI a2.Hi)]) rfl rfl SL.nil)) BL.nil BK.nil) ?_
 unfold m_impl_meets at H
 unfold i_impl_meets
 refine aV (oBox (n := 128) (m := 2) (cs := [(dI a1.Lo), (dI a1.Hi)]) rfl eZ rfl rfl nZ (oBox (n := 192) (m := 2) (cs := [(dI a2.Lo), (dI a2.Hi)]) rfl (eR rfl) rfl rfl (nS rfl nZ) (oMov eC (xQ (aV (oFaddrN (m := 0) (eR rfl) rfl (oLoadV (q := 0) (c := (dI a1.Lo)) eZ (bS rfl bZ) rfl rfl (oFaddrN (m := 1) (eR rfl) rfl (oLoadV (q := 1) (c := (dI a2.Hi)) eZ bZ rfl rfl (oLss (eR rfl) eZ (oMov eZ ?_)))))))))))
 rcases oite H with ⟨h3, H⟩ | ⟨h3, H⟩
 ·refine gDo eZ (decide_eq_true h3) (oFaddrN (m := 0) (eR rfl) rfl (gDo (eR rfl) (decide_eq_true h3) (oLoadV (q := 0) (c := (dI a2.Lo)) eZ bZ rfl rfl (gDo (eR rfl) (decide_eq_true h3) (oFaddrN (m := 1) (eR rfl) rfl (gDo (eR rfl) (decide_eq_true h3) (oLoadV (q := 1) (c := (dI a1.Hi)) eZ (bS rfl bZ) rfl rfl (gDo (eR rfl) (decide_eq_true h3) (oLss (eR rfl) eZ (oPickT (eR rfl) (decide_eq_true h3) eZ (oMov eZ (xQ (AW.weaken (wk_mk [192, 128] (kr 4 rfl rfl SL.nil) (BL.drop rfl (BL.drop rfl BL.nil)) BK.nil) (AW.ret ?_))))))))))))))
  cases H
  exact eE rfl rfl
 ·refine gSkip eZ (decide_eq_false h3) rfl (gSkip (eR rfl) (decide_eq_false h3) rfl (gSkip (eR rfl) (decide_eq_false h3) rfl (gSkip (eR rfl) (decide_eq_false h3) rfl (gSkip (eR rfl) (decide_eq_false h3) rfl (oPickF (eR rfl) (decide_eq_false h3) eC (oMov eZ (xQ (AW.weaken (wk_mk [192, 128] (kr 4 rfl rfl SL.nil) (BL.drop rfl (BL.drop rfl BL.nil)) BK.nil) (AW.ret ?_)))))))))
  cases H
  exact eE rfl rfl
theorem c_impl_clash {a1 : TLock} {a2 : TLock} {r : Bool} (H : m_impl_clash a1 a2 = some r) : Fn Tryz.prog k_impl_clash (lent [(.agg (d_TLock a1)), (.agg (d_TLock a2))]) true [(.bool r)] := by
 refine i_impl_clash_fn (fle rfl) ?_
 rw [init_mk]
 refine AW.weaken (wk_mk [] (kv 0 (.agg [(dI a1.Tx), (dI a1.Lo), (dI a1.Hi), (dI a1.Mode)]) rfl rfl (kv 1 (.agg [(dI a2.Tx), (dI a2.Lo), (dI a2.Hi), (dI a2.Mode)]) rfl rfl SL.nil)) BL.nil BK.nil) ?_
 unfold m_impl_clash at H
 unfold i_impl_clash
 refine aV (oBox (n := 128) (m := 4) (cs := [(dI a1.Tx), (dI a1.Lo), (dI a1.Hi), (dI a1.Mode)]) rfl eZ rfl rfl nZ (oBox (n := 192) (m := 4) (cs := [(dI a2.Tx), (dI a2.Lo), (dI a2.Hi), (dI a2.Mode)]) rfl (eR rfl) rfl rfl (nS rfl nZ) (oMov eC (xQ (aS (AW.regd (oFaddrN (m := 0) (eR rfl) rfl (oLoadV (q := 0) (c := (dI a1.Tx)) eZ (bS rfl bZ) rfl rfl (oFaddrN (m := 0) (eR rfl) rfl (oLoadV (q := 0) (c := (dI a2.Tx)) eZ bZ rfl rfl (oNeq (eR rfl) eZ (oMov eZ ?_))))))))))))
 rcases oite H with ⟨h3, H⟩ | ⟨h3, H⟩
 ·refine gDo eZ (decide_eq_true h3) (oFaddrN (m := 3) (eR rfl) rfl (gDo (eR rfl) (decide_eq_true h3) (oLoadV (q := 3) (c := (dI a1.Mode)) eZ (bS rfl bZ) rfl rfl (gDo (eR rfl) (decide_eq_true h3) (oEql eZ eC (gDo (eR rfl) (decide_eq_true h3) (oMov eZ ?_)))))))
  rcases oite H with ⟨h4, H⟩ | ⟨h4, H⟩
  ·refine gSkip eZ (decide_eq_true h4) rfl (gSkip (eR rfl) (decide_eq_true h4) rfl (gSkip (eR rfl) (decide_eq_true h4) rfl (gDo (eR rfl) (decide_eq_true h3) (oPickT (eR rfl) (decide_eq_true h4) eC (oPickT (eR rfl) (decide_eq_true h3) eZ (oMov eZ (gDo eZ rfl (oLoadVA (es := [(dI a1.Tx), (dI a1.Lo), (dI a1.Hi), (dI a1.Mode)]) (eR rfl) (bS rfl bZ) rfl (gDo (eR rfl) rfl ?_)))))))))
   obtain ⟨v5, h6, H⟩ := obind H
   refine oCall (u := (.agg [(dI v5.Lo), (dI v5.Hi)])) eC Cl.fn (c_impl_Lock_keys h6) (Evs.cons eZ Evs.nil) (VDs.cons (VD.agg rfl) VDs.nil) rfl (gDo (eR rfl) rfl (oLoadVA (es := [(dI a2.Tx), (dI a2.Lo), (dI a2.Hi), (dI a2.Mode)]) (eR rfl) (hB rfl bZ) rfl (gDo (eR rfl) rfl ?_)))
   obtain ⟨v7, h8, H⟩ := obind H
   refine oCall (u := (.agg [(dI v7.Lo), (dI v7.Hi)])) eC Cl.fn (c_impl_Lock_keys h8) (Evs.cons eZ Evs.nil) (VDs.cons (VD.agg rfl) VDs.nil) rfl (gDo (eR rfl) rfl ?_)
   obtain ⟨v9, h10, H⟩ := obind H
   refine oCall (u := (oB v9)) eC Cl.fn (c_impl_meets h10) (Evs.cons (eR rfl) (Evs.cons eZ Evs.nil)) (VDs.cons (VD.agg rfl) (VDs.cons (VD.agg rfl) VDs.nil)) rfl (oPickT (eR rfl) rfl eZ (oMov eZ (xQ (AW.weaken (wk_mk [192, 128] (kr 4 rfl rfl SL.nil) (BL.drop rfl (BL.drop rfl BL.nil)) BK.nil) (AW.ret ?_)))))
   cases H
   exact eE rfl rfl
  ·refine gDo eZ (decide_eq_false h4) (oFaddrN (m := 3) (eR rfl) rfl (gDo (eR rfl) (decide_eq_false h4) (oLoadV (q := 3) (c := (dI a2.Mode)) eZ bZ rfl rfl (gDo (eR rfl) (decide_eq_false h4) (oEql eZ eC (gDo (eR rfl) (decide_eq_true h3) (oPickF (eR rfl) (decide_eq_false h4) eZ (oPickT (eR rfl) (decide_eq_true h3) eZ (oMov eZ ?_)))))))))
   rcases oite H with ⟨h11, H⟩ | ⟨h11, H⟩
   ·refine gDo eZ (decide_eq_true h11) (oLoadVA (es := [(dI a1.Tx), (dI a1.Lo), (dI a1.Hi), (dI a1.Mode)]) (eR rfl) (bS rfl bZ) rfl (gDo (eR rfl) (decide_eq_true h11) ?_))
    obtain ⟨v12, h13, H⟩ := obind H
    refine oCall (u := (.agg [(dI v12.Lo), (dI v12.Hi)])) eC Cl.fn (c_impl_Lock_keys h13) (Evs.cons eZ Evs.nil) (VDs.cons (VD.agg rfl) VDs.nil) rfl (gDo (eR rfl) (decide_eq_true h11) (oLoadVA (es := [(dI a2.Tx), (dI a2.Lo), (dI a2.Hi), (dI a2.Mode)]) (eR rfl) (hB rfl bZ) rfl (gDo (eR rfl) (decide_eq_true h11) ?_)))
    obtain ⟨v14, h15, H⟩ := obind H
    refine oCall (u := (.agg [(dI v14.Lo), (dI v14.Hi)])) eC Cl.fn (c_impl_Lock_keys h15) (Evs.cons eZ Evs.nil) (VDs.cons (VD.agg rfl) VDs.nil) rfl (gDo (eR rfl) (decide_eq_true h11) ?_)
    obtain ⟨v16, h17, H⟩ := obind H
    refine oCall (u := (oB v16)) eC Cl.fn (c_impl_meets h17) (Evs.cons (eR rfl) (Evs.cons eZ Evs.nil)) (VDs.cons (VD.agg rfl) (VDs.cons (VD.agg rfl) VDs.nil)) rfl (oPickT (eR rfl) (decide_eq_true h11) eZ (oMov eZ (xQ (AW.weaken (wk_mk [192, 128] (kr 4 rfl rfl SL.nil) (BL.drop rfl (BL.drop rfl BL.nil)) BK.nil) (AW.ret ?_)))))
    cases H
    exact eE rfl rfl
   ·refine gSkip eZ (decide_eq_false h11) rfl (gSkip (eR rfl) (decide_eq_false h11) rfl (gSkip (eR rfl) (decide_eq_false h11) rfl (gSkip (eR rfl) (decide_eq_false h11) rfl (gSkip (eR rfl) (decide_eq_false h11) rfl (oPickF (eR rfl) (decide_eq_false h11) eC (oMov eZ (xQ (AW.weaken (wk_mk [192, 128] (kr 4 rfl rfl SL.nil) (BL.drop rfl (BL.drop rfl BL.nil)) BK.nil) (AW.ret ?_)))))))))
    cases H
    exact eE rfl rfl
 ·refine gSkip eZ (decide_eq_false h3) rfl (gSkip (eR rfl) (decide_eq_false h3) rfl (gSkip (eR rfl) (decide_eq_false h3) rfl (gSkip (eR rfl) (decide_eq_false h3) rfl (gSkipU eZ rfl (gSkipU (eR rfl) rfl (gSkipU (eR rfl) rfl (gSkip (eR rfl) (decide_eq_false h3) rfl (oPickF (eR rfl) (decide_eq_false h3) eC (oMov eZ (gSkip eZ rfl rfl (gSkip (eR rfl) rfl rfl (gSkip (eR rfl) rfl rfl (gSkip (eR rfl) rfl rfl (gSkip (eR rfl) rfl rfl (oPickF (eR rfl) rfl eC (oMov eZ (xQ (AW.weaken (wk_mk [192, 128] (kr 4 rfl rfl SL.nil) (BL.drop rfl (BL.drop rfl BL.nil)) BK.nil) (AW.ret ?_)))))))))))))))))))
  cases H
  exact eE rfl rfl
theorem c_impl_LocksOk_1 {a1 : TLock} {a2 : TLock} {r : Bool} (H : m_impl_LocksOk_1 a1 a2 = some r) : Fn Tryz.prog k_impl_LocksOk_1 (lent [(.agg (d_TLock a1)), (.ptr (d_TLock a2))]) true [(.bool r)] := by
 refine i_impl_LocksOk_1_fn (fle rfl) ?_
 rw [init_mk]
 refine AW.weaken (wk_mk [] (kv 0 (.agg [(dI a1.Tx), (dI a1.Lo), (dI a1.Hi), (dI a1.Mode)]) rfl rfl (SL.cons (v := (.one (.ptr (.bd (d_TLock a2) 0)))) (eS rfl eZ) rfl (VWk.one CWk.ptr) SL.nil)) BL.nil BK.nil) ?_
 unfold m_impl_LocksOk_1 at H
 unfold i_impl_LocksOk_1
 refine aV (oBox (n := 128) (m := 4) (cs := [(dI a1.Tx), (dI a1.Lo), (dI a1.Hi), (dI a1.Mode)]) rfl eZ rfl rfl nZ (oMov eC (xQ (aV (oLoadBA (es := [(dI a2.Tx), (dI a2.Lo), (dI a2.Hi), (dI a2.Mode)]) (eR rfl) rfl (oLoadVA (es := [(dI a1.Tx), (dI a1.Lo), (dI a1.Hi), (dI a1.Mode)]) (eR rfl) bZ rfl ?_))))))
 obtain ⟨v3, h4, H⟩ := obind H
 refine oCall (u := (oB v3)) eC Cl.fn (c_impl_clash h4) (Evs.cons (eR rfl) (Evs.cons eZ Evs.nil)) (VDs.cons (VD.agg rfl) (VDs.cons (VD.agg rfl) VDs.nil)) rfl (oMov eZ (xQ (AW.ret ?_)))
 cases H
 exact eE rfl rfl
theorem c_slices_IndexFunc_Lock__LocksOk_1 {a1 : (List TLock)} {a2 : TLock} {r : Int} (H : m_slices_IndexFunc_Lock__LocksOk_1 a1 a2 = some r) : Fn Tryz.prog k_slices_IndexFunc___impl_Lock_impl_Lock_ (lent [(.sl 4 (List.map d_TLock a1)), (.fn k_impl_LocksOk_1 [.ptr (d_TLock a2)])]) true [(.int .i64 r)] := by
 refine i_slices_IndexFunc___impl_Lock_impl_Lock__fn (fle rfl) ?_
 rw [init_mk]
 refine AW.weaken (wk_mk [] (kv 0 (.one (.d (.sl 4 (List.map d_TLock a1)))) rfl rfl (SL.cons (v := (.one (.fn k_impl_LocksOk_1 [(.bd (d_TLock a2) 0)]))) (eS rfl eZ) rfl (VWk.one (CWk.fn (css := [d_TLock a2]))) SL.nil)) BL.nil BK.nil) ?_
 unfold m_slices_IndexFunc_Lock__LocksOk_1 at H
 unfold i_slices_IndexFunc___impl_Lock_impl_Lock_
 refine aV (oMov eC (xQ (AW.seqJ (fun t3 : Unit => slices_IndexFunc_Lock__LocksOk_1_j3 t3 = some r) (fun t3 => mk [] [] noG) ?_ ?_)))
 ·intro t3 H
  unfold slices_IndexFunc_Lock__LocksOk_1_j3 at H
  refine aV (oMov eC (xQ (AW.ret ?_)))
  cases H
  exact eE rfl rfl
 ·refine aV (oMov (eR rfl) (oLenD eZ (n := a1.length) (List.length_map _) (oMov eC (xQ (AW.block (AW.iter (fun s5 : Int => mk [(0, (.one (.d (.sl 4 (List.map d_TLock a1))))), (1, (.one (.fn k_impl_LocksOk_1 [(.bd (d_TLock a2) 0)]))), (7, (oI (a1.length : Int))), (8, (oI s5))] [] noG) H (wk_mk [] (kR rfl rfl (kR rfl rfl (kR rfl rfl (kR rfl rfl SL.nil)))) BL.nil BK.nil) ?_))))))
  intro kb6 s5 H
  unfold slices_IndexFunc_Lock__LocksOk_1_b5 at H
  refine aV (oLss (eR rfl) (eR rfl) (xQ (aS ?_)))
  rcases oite H with ⟨h7, H⟩ | ⟨h7, H⟩
  ·refine AW.condT eZ (decide_eq_true h7) (AW.skip (TQ.qn (aS (AW.block (aV (oMov (eR rfl) (oMov eZ (xQ (aV (oMov (eR rfl) (oMov (eR rfl) (oMov (eR rfl) ?_))))))))))))
   obtain ⟨v8, h9, H⟩ := obind H
   refine oAtD (eR rfl) eZ h9 (oLoadBA (es := [(dI v8.Tx), (dI v8.Lo), (dI v8.Hi), (dI v8.Mode)]) eZ rfl ?_)
   obtain ⟨v10, h11, H⟩ := obind H
   refine oCall (u := (oB v10)) (eR rfl) Cl.fn (c_impl_LocksOk_1 h11) (Evs.cons eZ Evs.nil) (VDs.cons (VD.agg rfl) (VDs.cons VD.ptrB VDs.nil)) rfl (xQ ?_)
   rcases oite H with ⟨h12, H⟩ | ⟨h12, H⟩
   ·refine AW.condT eZ h12 (aV (oMov (eR rfl) (oMov eZ (xQ (AW.ret (BQ.qr (TQ.qr (TQ.qr (BQ.qr (TQ.qr ?_))))))))))
    cases H
    exact eE rfl rfl
   ·exact AW.condF eZ (nt h12) (AW.skip (BQ.qn (TQ.qn (aR (oAdd (eR rfl) eC (oMov eZ (xNil (TQ.qn ⟨(IntKind.wrap .i64 (s5 + 1)), H, (wk_mk [] (kR rfl rfl (kR rfl rfl (kR rfl rfl (kR rfl rfl SL.nil)))) BL.nil BK.nil)⟩))))))))
  ·exact AW.condF eZ (decide_eq_false h7) (AW.exit (TQ.qe (TQ.qe (BQ.qe (TQ.qn ⟨(), H, (wk_mk [] SL.nil BL.nil BK.nil)⟩)))))
theorem c_slices_ContainsFunc_Lock__LocksOk_1 {a1 : (List TLock)} {a2 : TLock} {r : Bool} (H : m_slices_ContainsFunc_Lock__LocksOk_1 a1 a2 = some r) : Fn Tryz.prog k_slices_ContainsFunc___impl_Lock_impl_Lock_ (lent [(.sl 4 (List.map d_TLock a1)), (.fn k_impl_LocksOk_1 [.ptr (d_TLock a2)])]) true [(.bool r)] := by
 refine i_slices_ContainsFunc___impl_Lock_impl_Lock__fn (fle rfl) ?_
 rw [init_mk]
 refine AW.weaken (wk_mk [] (kv 0 (.one (.d (.sl 4 (List.map d_TLock a1)))) rfl rfl (SL.cons (v := (.one (.fn k_impl_LocksOk_1 [(.bd (d_TLock a2) 0)]))) (eS rfl eZ) rfl (VWk.one (CWk.fn (css := [d_TLock a2]))) SL.nil)) BL.nil BK.nil) ?_
 unfold m_slices_ContainsFunc_Lock__LocksOk_1 at H
 unfold i_slices_ContainsFunc___impl_Lock_impl_Lock_
 refine aV (oMov eC (xQ (aV (oMov (eR rfl) (oMov (eR rfl) ?_)))))
 obtain ⟨v3, h4, H⟩ := obind H
 refine oCall (u := (oI v3)) eC Cl.fn (c_slices_IndexFunc_Lock__LocksOk_1 h4) (Evs.cons (eR rfl) (Evs.cons eZ Evs.nil)) (VDs.cons VD.plain (VDs.cons (VD.fn (PDs.cons VD.ptrB PDs.nil)) VDs.nil)) rfl (oGeq eZ eC (oMov eZ (xQ (AW.ret ?_))))
 cases H
 exact eE rfl rfl
theorem c_impl_LocksOk {a1 : (List TLock)} {r : Bool} (H : m_impl_LocksOk a1 = some r) : Fn Tryz.prog k_impl_LocksOk (lent [(.sl 4 (List.map d_TLock a1))]) true [(.bool r)] := by
 refine i_impl_LocksOk_fn (fle rfl) ?_
 rw [init_mk]
 refine AW.weaken (wk_mk [] (kv 0 (.one (.d (.sl 4 (List.map d_TLock a1)))) rfl rfl SL.nil) BL.nil BK.nil) ?_
 unfold m_impl_LocksOk at H
 unfold i_impl_LocksOk
 refine aV (oMov eC (xQ (AW.seqJ (fun t2 : Unit => (impl_LocksOk_j2 a1) t2 = some r) (fun t2 => mk [(0, (.one (.d (.sl 4 (List.map d_TLock a1)))))] [] noG) ?_ ?_)))
 ·intro t2 H
  unfold impl_LocksOk_j2 at H
  refine aV (oMov eZ (oLenD eZ (n := a1.length) (List.length_map _) (oLeq eZ eC (oMov eZ (xQ (AW.ret ?_))))))
  cases H
  exact eE rfl rfl
 ·refine aV (oMov (eR rfl) (oLenD eZ (n := a1.length) (List.length_map _) (oMov eC (xQ (AW.block (AW.iter (fun s4 : Int => mk [(0, (.one (.d (.sl 4 (List.map d_TLock a1))))), (5, (.one (.d (.sl 4 (List.map d_TLock a1))))), (6, (oI (a1.length : Int))), (7, (oI s4))] [] noG) H (wk_mk [] (kR rfl rfl (kR rfl rfl (kR rfl rfl (kR rfl rfl SL.nil)))) BL.nil BK.nil) ?_))))))
  intro kb5 s4 H
  unfold impl_LocksOk_b4 at H
  refine aV (oLss (eR rfl) (eR rfl) (xQ (aS ?_)))
  rcases oite H with ⟨h6, H⟩ | ⟨h6, H⟩
  ·refine AW.condT eZ (decide_eq_true h6) (AW.skip (TQ.qn (aS (AW.block (aV (oMov (eR rfl) ?_))))))
   obtain ⟨v7, h8, H⟩ := obind H
   refine oAtD (eR rfl) (eR rfl) h8 (oLoadBA (es := [(dI v7.Tx), (dI v7.Lo), (dI v7.Hi), (dI v7.Mode)]) eZ rfl (oVar (n := 256) (m := 4) rfl rfl nZ (oMov (eR rfl) (oStoreV (es := [(dI v7.Tx), (dI v7.Lo), (dI v7.Hi), (dI v7.Mode)]) (eR rfl) (eR rfl) rfl rfl bZ rfl (xQ (AW.seqJ (fun t9 : Bool => (impl_LocksOk_j9 kb5 s4) t9 = some r) (fun t9 => mk [(0, (.one (.d (.sl 4 (List.map d_TLock a1))))), (5, (.one (.d (.sl 4 (List.map d_TLock a1))))), (6, (oI (a1.length : Int))), (7, (oI s4)), (34, (oB t9))] [] noG) ?_ ?_))))))
   ·intro t9 H
    unfold impl_LocksOk_j9 at H
    rcases oite H with ⟨h11, H⟩ | ⟨h11, H⟩
    ·refine AW.condT (eR rfl) h11 (aV (oMov eC (xQ (AW.ret (BQ.qr (TQ.qr (TQ.qr (BQ.qr (TQ.qr ?_)))))))))
     cases H
     exact eE rfl rfl
    ·exact AW.condF (eR rfl) (nt h11) (AW.skip (BQ.qn (TQ.qn (aR (oAdd (eR rfl) eC (oMov eZ (xNil (TQ.qn ⟨(IntKind.wrap .i64 (s4 + 1)), H, (wk_mk [] (kR rfl rfl (kR rfl rfl (kR rfl rfl (kR rfl rfl SL.nil)))) BL.nil BK.nil)⟩))))))))
   ·refine aR (oFaddrN (m := 0) (eR rfl) rfl (oLoadV (q := 0) (c := (dI v7.Tx)) eZ bZ rfl rfl ?_))
    obtain ⟨v12, h13, H⟩ := obind H
    refine oCall (u := (oB v12)) eC Cl.fn (c_impl_isTx h13) (Evs.cons eZ Evs.nil) (VDs.cons VD.plain VDs.nil) rfl (oInv eZ (oMov eZ ?_))
    rcases oite H with ⟨h14, H⟩ | ⟨h14, H⟩
    ·refine gDo eZ (congrArg Bool.not h14) (oLoadVA (es := [(dI v7.Tx), (dI v7.Lo), (dI v7.Hi), (dI v7.Mode)]) (eR rfl) bZ rfl (gDo (eR rfl) (congrArg Bool.not h14) ?_))
     obtain ⟨v15, h16, H⟩ := obind H
     refine oCall (u := (.agg [(dI v15.Lo), (dI v15.Hi)])) eC Cl.fn (c_impl_Lock_keys h16) (Evs.cons eZ Evs.nil) (VDs.cons (VD.agg rfl) VDs.nil) rfl (gDo (eR rfl) (congrArg Bool.not h14) ?_)
     obtain ⟨v17, h18, H⟩ := obind H
     refine oCall (u := (oB v17)) eC Cl.fn (c_impl_RangeOk h18) (Evs.cons eZ Evs.nil) (VDs.cons (VD.agg rfl) VDs.nil) rfl (gDo (eR rfl) (congrArg Bool.not h14) (oInv eZ (oPickF (eR rfl) (congrArg Bool.not h14) eZ (oMov eZ ?_))))
     rcases oite H with ⟨h19, H⟩ | ⟨h19, H⟩
     ·refine gDo eZ (congrArg Bool.not h19) (oFaddrN (m := 3) (eR rfl) rfl (gDo (eR rfl) (congrArg Bool.not h19) (oLoadV (q := 3) (c := (dI v7.Mode)) eZ bZ rfl rfl (gDo (eR rfl) (congrArg Bool.not h19) ?_))))
      obtain ⟨v20, h21, H⟩ := obind H
      refine oCall (u := (oB v20)) eC Cl.fn (c_impl_isMode h21) (Evs.cons eZ Evs.nil) (VDs.cons VD.plain VDs.nil) rfl (gDo (eR rfl) (congrArg Bool.not h19) (oInv eZ (oPickF (eR rfl) (congrArg Bool.not h19) eZ (oMov eZ ?_))))
      rcases oite H with ⟨h22, H⟩ | ⟨h22, H⟩
      ·refine gDo eZ (congrArg Bool.not h22) (oMov (eR rfl) (gDo (eR rfl) (congrArg Bool.not h22) (oMov (eR rfl) (gDo (eR rfl) (congrArg Bool.not h22) ?_))))
       obtain ⟨v23, h24, H⟩ := obind H
       refine oCutD (eR rfl) Bd.no (n := (a1.length : Int)) rfl (Bd.at eZ) h24 (gDo (eR rfl) (congrArg Bool.not h22) (oMkfn (ps := [(.nm 256 0 0)]) (Evs.cons (eR rfl) Evs.nil) (gDo (eR rfl) (congrArg Bool.not h22) ?_)))
       obtain ⟨v25, h26, H⟩ := obind H
       exact oCall (u := (oB v25)) eC Cl.fn (c_slices_ContainsFunc_Lock__LocksOk_1 h26) (Evs.cons (eR rfl) (Evs.cons eZ Evs.nil)) (VDs.cons VD.plain (VDs.cons (VD.fn (PDs.cons (VD.ptrN bZ (CDs.plain (CDs.plain (CDs.plain (CDs.plain CDs.nil))))) PDs.nil)) VDs.nil)) rfl (oPickF (eR rfl) (congrArg Bool.not h22) eZ (xNil (TQ.qn ⟨v25, H, (wk_mk [256] (kR rfl rfl (kR rfl rfl (kR rfl rfl (kR rfl rfl (kR rfl rfl SL.nil))))) (BL.drop rfl (BL.drop rfl BL.nil)) BK.nil)⟩)))
      ·exact gSkip eZ (congrArg Bool.not (nt h22)) rfl (gSkip (eR rfl) (congrArg Bool.not (nt h22)) rfl (gSkip (eR rfl) (congrArg Bool.not (nt h22)) rfl (gSkip (eR rfl) (congrArg Bool.not (nt h22)) rfl (gSkip (eR rfl) (congrArg Bool.not (nt h22)) rfl (oPickT (eR rfl) (congrArg Bool.not (nt h22)) eC (xNil (TQ.qn ⟨true, H, (wk_mk [256] (kR rfl rfl (kR rfl rfl (kR rfl rfl (kR rfl rfl (kR rfl rfl SL.nil))))) (BL.drop rfl (BL.drop rfl BL.nil)) BK.nil)⟩)))))))
     ·exact gSkip eZ (congrArg Bool.not (nt h19)) rfl (gSkip (eR rfl) (congrArg Bool.not (nt h19)) rfl (gSkip (eR rfl) (congrArg Bool.not (nt h19)) rfl (gSkip (eR rfl) (congrArg Bool.not (nt h19)) rfl (oPickT (eR rfl) (congrArg Bool.not (nt h19)) eC (oMov eZ (gSkip eZ rfl rfl (gSkip (eR rfl) rfl rfl (gSkip (eR rfl) rfl rfl (gSkip (eR rfl) rfl rfl (gSkip (eR rfl) rfl rfl (oPickT (eR rfl) rfl eC (xNil (TQ.qn ⟨true, H, (wk_mk [256] (kR rfl rfl (kR rfl rfl (kR rfl rfl (kR rfl rfl (kR rfl rfl SL.nil))))) (BL.drop rfl (BL.drop rfl BL.nil)) BK.nil)⟩)))))))))))))
    ·exact gSkip eZ (congrArg Bool.not (nt h14)) rfl (gSkip (eR rfl) (congrArg Bool.not (nt h14)) rfl (gSkip (eR rfl) (congrArg Bool.not (nt h14)) rfl (gSkip (eR rfl) (congrArg Bool.not (nt h14)) rfl (oPickT (eR rfl) (congrArg Bool.not (nt h14)) eC (oMov eZ (gSkip eZ rfl rfl (gSkip (eR rfl) rfl rfl (gSkip (eR rfl) rfl rfl (gSkip (eR rfl) rfl rfl (oPickT (eR rfl) rfl eC (oMov eZ (gSkip eZ rfl rfl (gSkip (eR rfl) rfl rfl (gSkip (eR rfl) rfl rfl (gSkip (eR rfl) rfl rfl (gSkip (eR rfl) rfl rfl (oPickT (eR rfl) rfl eC (xNil (TQ.qn ⟨true, H, (wk_mk [256] (kR rfl rfl (kR rfl rfl (kR rfl rfl (kR rfl rfl (kR rfl rfl SL.nil))))) (BL.drop rfl (BL.drop rfl BL.nil)) BK.nil)⟩)))))))))))))))))))
  ·exact AW.condF eZ (decide_eq_false h6) (AW.exit (TQ.qe (TQ.qe (BQ.qe (TQ.qn ⟨(), H, (wk_mk [] (kR rfl rfl SL.nil) BL.nil BK.nil)⟩)))))
theorem c_impl_isAnswer {a1 : Int} {r : Bool} (H : m_impl_isAnswer a1 = some r) : Fn Tryz.prog k_impl_isAnswer (lent [(.int .i64 a1)]) true [(.bool r)] := by
 refine i_impl_isAnswer_fn (fle rfl) ?_
 rw [init_mk]
 refine AW.weaken (wk_mk [] (kv 0 (oI a1) rfl rfl SL.nil) BL.nil BK.nil) ?_
 unfold m_impl_isAnswer at H
 unfold i_impl_isAnswer
 refine aV (oMov eC (xQ (aV (oMov (eR rfl) ?_))))
 obtain ⟨v2, h3, H⟩ := obind H
 refine oCall (u := (oB v2)) eC Cl.fn (c_impl_from h3) (Evs.cons eZ (Evs.cons eC (Evs.cons eC Evs.nil))) (VDs.cons VD.plain (VDs.cons VD.plain (VDs.cons VD.plain VDs.nil))) rfl (oMov eZ (xQ (AW.ret ?_)))
 cases H
 exact eE rfl rfl
theorem c_impl_WritesOk {a1 : (List TCell)} {r : Bool} (H : m_impl_WritesOk a1 = some r) : Fn Tryz.prog k_impl_WritesOk (lent [(.sl 2 (List.map d_TCell a1))]) true [(.bool r)] := by
 refine i_impl_WritesOk_fn (fle rfl) ?_
 rw [init_mk]
 refine AW.weaken (wk_mk [] (kv 0 (.one (.d (.sl 2 (List.map d_TCell a1)))) rfl rfl SL.nil) BL.nil BK.nil) ?_
 unfold m_impl_WritesOk at H
 unfold i_impl_WritesOk
 refine aV (oMov eC (xQ (AW.seqJ (fun t2 : Unit => (impl_WritesOk_j2 a1) t2 = some r) (fun t2 => mk [(0, (.one (.d (.sl 2 (List.map d_TCell a1)))))] [] noG) ?_ ?_)))
 ·intro t2 H
  unfold impl_WritesOk_j2 at H
  refine aV (oMov eZ (oLenD eZ (n := a1.length) (List.length_map _) (oLeq eZ eC (oMov eZ (xQ (AW.ret ?_))))))
  cases H
  exact eE rfl rfl
 ·refine aV (oMov (eR rfl) (oLenD eZ (n := a1.length) (List.length_map _) (oMov eC (xQ (AW.block (AW.iter (fun s4 : Int => mk [(0, (.one (.d (.sl 2 (List.map d_TCell a1))))), (5, (.one (.d (.sl 2 (List.map d_TCell a1))))), (6, (oI (a1.length : Int))), (7, (oI s4))] [] noG) H (wk_mk [] (kR rfl rfl (kR rfl rfl (kR rfl rfl (kR rfl rfl SL.nil)))) BL.nil BK.nil) ?_))))))
  intro kb5 s4 H
  unfold impl_WritesOk_b4 at H
  refine aV (oLss (eR rfl) (eR rfl) (xQ (aS ?_)))
  rcases oite H with ⟨h6, H⟩ | ⟨h6, H⟩
  ·refine AW.condT eZ (decide_eq_true h6) (AW.skip (TQ.qn (aS (AW.block (aV (oMov (eR rfl) ?_))))))
   obtain ⟨v7, h8, H⟩ := obind H
   refine oAtD (eR rfl) (eR rfl) h8 (oLoadBA (es := [(dI v7.Key), (dI v7.Value)]) eZ rfl (oVar (n := 256) (m := 2) rfl rfl nZ (oMov (eR rfl) (oStoreV (es := [(dI v7.Key), (dI v7.Value)]) (eR rfl) (eR rfl) rfl rfl bZ rfl (xQ (AW.seqJ (fun t9 : Bool => (impl_WritesOk_j9 kb5 s4) t9 = some r) (fun t9 => mk [(0, (.one (.d (.sl 2 (List.map d_TCell a1))))), (5, (.one (.d (.sl 2 (List.map d_TCell a1))))), (6, (oI (a1.length : Int))), (7, (oI s4)), (36, (oB t9))] [] noG) ?_ ?_))))))
   ·intro t9 H
    unfold impl_WritesOk_j9 at H
    rcases oite H with ⟨h11, H⟩ | ⟨h11, H⟩
    ·refine AW.condT (eR rfl) h11 (aV (oMov eC (xQ (AW.ret (BQ.qr (TQ.qr (TQ.qr (BQ.qr (TQ.qr ?_)))))))))
     cases H
     exact eE rfl rfl
    ·exact AW.condF (eR rfl) (nt h11) (AW.skip (BQ.qn (TQ.qn (aR (oAdd (eR rfl) eC (oMov eZ (xNil (TQ.qn ⟨(IntKind.wrap .i64 (s4 + 1)), H, (wk_mk [] (kR rfl rfl (kR rfl rfl (kR rfl rfl (kR rfl rfl SL.nil)))) BL.nil BK.nil)⟩))))))))
   ·refine AW.regd (oFaddrN (m := 0) (eR rfl) rfl (oLoadV (q := 0) (c := (dI v7.Key)) eZ bZ rfl rfl ?_))
    obtain ⟨v12, h13, H⟩ := obind H
    refine oCall (u := (oB v12)) eC Cl.fn (c_impl_isKey h13) (Evs.cons eZ Evs.nil) (VDs.cons VD.plain VDs.nil) rfl (oInv eZ (oMov eZ ?_))
    rcases oite H with ⟨h14, H⟩ | ⟨h14, H⟩
    ·refine gDo eZ (congrArg Bool.not h14) (oFaddrN (m := 1) (eR rfl) rfl (gDo (eR rfl) (congrArg Bool.not h14) (oLoadV (q := 1) (c := (dI v7.Value)) eZ bZ rfl rfl (gDo (eR rfl) (congrArg Bool.not h14) ?_))))
     obtain ⟨v15, h16, H⟩ := obind H
     refine oCall (u := (oB v15)) eC Cl.fn (c_impl_isAnswer h16) (Evs.cons eZ Evs.nil) (VDs.cons VD.plain VDs.nil) rfl (gDo (eR rfl) (congrArg Bool.not h14) (oInv eZ (oPickF (eR rfl) (congrArg Bool.not h14) eZ (oMov eZ ?_))))
     rcases oite H with ⟨h17, H⟩ | ⟨h17, H⟩
     ·refine gDo eZ (congrArg Bool.not h17) (oMov (eR rfl) (gDo (eR rfl) (congrArg Bool.not h17) (oGtr eZ eC (gDo (eR rfl) (congrArg Bool.not h17) (oMov eZ ?_)))))
      rcases oite H with ⟨h18, H⟩ | ⟨h18, H⟩
      ·refine gDo eZ (decide_eq_true h18) (oMov (eR rfl) (gDo (eR rfl) (decide_eq_true h18) (oMov (eR rfl) (gDo (eR rfl) (decide_eq_true h18) (oSub eZ eC (gDo (eR rfl) (decide_eq_true h18) ?_))))))
       obtain ⟨v19, h20, H⟩ := obind H
       exact oAtD (eR rfl) eZ h20 (gDo (eR rfl) (decide_eq_true h18) (oFaddrB (m := 0) eZ rfl (gDo (eR rfl) (decide_eq_true h18) (oLoadB (e := (.int .i64 v19.Key)) eZ rfl (gDo (eR rfl) (decide_eq_true h18) (oFaddrN (m := 0) (eR rfl) rfl (gDo (eR rfl) (decide_eq_true h18) (oLoadV (q := 0) (c := (dI v7.Key)) eZ bZ rfl rfl (gDo (eR rfl) (decide_eq_true h18) (oGeq (eR rfl) eZ (gDo (eR rfl) (congrArg Bool.not h17) (oPickT (eR rfl) (decide_eq_true h18) eZ (oPickF (eR rfl) (congrArg Bool.not h17) eZ (xNil (TQ.qn ⟨(decide (v7.Key ≤ v19.Key)), H, (wk_mk [256] (kR rfl rfl (kR rfl rfl (kR rfl rfl (kR rfl rfl (kR rfl rfl SL.nil))))) (BL.drop rfl (BL.drop rfl BL.nil)) BK.nil)⟩)))))))))))))))
      ·exact gSkip eZ (decide_eq_false h18) rfl (gSkip (eR rfl) (decide_eq_false h18) rfl (gSkip (eR rfl) (decide_eq_false h18) rfl (gSkip (eR rfl) (decide_eq_false h18) rfl (gSkip (eR rfl) (decide_eq_false h18) rfl (gSkip (eR rfl) (decide_eq_false h18) rfl (gSkip (eR rfl) (decide_eq_false h18) rfl (gSkip (eR rfl) (decide_eq_false h18) rfl (gSkip (eR rfl) (decide_eq_false h18) rfl (gDo (eR rfl) (congrArg Bool.not h17) (oPickF (eR rfl) (decide_eq_false h18) eC (oPickF (eR rfl) (congrArg Bool.not h17) eZ (xNil (TQ.qn ⟨false, H, (wk_mk [256] (kR rfl rfl (kR rfl rfl (kR rfl rfl (kR rfl rfl (kR rfl rfl SL.nil))))) (BL.drop rfl (BL.drop rfl BL.nil)) BK.nil)⟩)))))))))))))
     ·exact gSkip eZ (congrArg Bool.not (nt h17)) rfl (gSkip (eR rfl) (congrArg Bool.not (nt h17)) rfl (gSkip (eR rfl) (congrArg Bool.not (nt h17)) rfl (gSkipU eZ rfl (gSkipU (eR rfl) rfl (gSkipU (eR rfl) rfl (gSkipU (eR rfl) rfl (gSkipU (eR rfl) rfl (gSkipU (eR rfl) rfl (gSkipU (eR rfl) rfl (gSkipU (eR rfl) rfl (gSkipU (eR rfl) rfl (gSkip (eR rfl) (congrArg Bool.not (nt h17)) rfl (oPickT (eR rfl) (congrArg Bool.not (nt h17)) eC (xNil (TQ.qn ⟨true, H, (wk_mk [256] (kR rfl rfl (kR rfl rfl (kR rfl rfl (kR rfl rfl (kR rfl rfl SL.nil))))) (BL.drop rfl (BL.drop rfl BL.nil)) BK.nil)⟩)))))))))))))))
    ·exact gSkip eZ (congrArg Bool.not (nt h14)) rfl (gSkip (eR rfl) (congrArg Bool.not (nt h14)) rfl (gSkip (eR rfl) (congrArg Bool.not (nt h14)) rfl (gSkip (eR rfl) (congrArg Bool.not (nt h14)) rfl (oPickT (eR rfl) (congrArg Bool.not (nt h14)) eC (oMov eZ (gSkip eZ rfl rfl (gSkip (eR rfl) rfl rfl (gSkip (eR rfl) rfl rfl (gSkipU eZ rfl (gSkipU (eR rfl) rfl (gSkipU (eR rfl) rfl (gSkipU (eR rfl) rfl (gSkipU (eR rfl) rfl (gSkipU (eR rfl) rfl (gSkipU (eR rfl) rfl (gSkipU (eR rfl) rfl (gSkipU (eR rfl) rfl (gSkip (eR rfl) rfl rfl (oPickT (eR rfl) rfl eC (xNil (TQ.qn ⟨true, H, (wk_mk [256] (kR rfl rfl (kR rfl rfl (kR rfl rfl (kR rfl rfl (kR rfl rfl SL.nil))))) (BL.drop rfl (BL.drop rfl BL.nil)) BK.nil)⟩)))))))))))))))))))))
  ·exact AW.condF eZ (decide_eq_false h6) (AW.exit (TQ.qe (TQ.qe (BQ.qe (TQ.qn ⟨(), H, (wk_mk [] (kR rfl rfl SL.nil) BL.nil BK.nil)⟩)))))
theorem c_impl_one {a1 : Int} {r : TRange} (H : m_impl_one a1 = some r) : Fn Tryz.prog k_impl_one (lent [(.int .i64 a1)]) true [(.agg (d_TRange r))] := by
 refine i_impl_one_fn (fle rfl) ?_
 rw [init_mk]
 refine AW.weaken (wk_mk [] (kv 0 (oI a1) rfl rfl SL.nil) BL.nil BK.nil) ?_
 unfold m_impl_one at H
 unfold i_impl_one
 refine aV (oVar (n := 128) (m := 2) rfl rfl nZ (xQ (aV (oMov (eR rfl) (oMov (eR rfl) (oAdd eZ eC (oBuild (cs := [(dI a1), (dI (IntKind.wrap .i64 (a1 + 1)))]) (PsCons (eR rfl) (PsCons eZ PsNil)) rfl (oStoreV (es := [(dI a1), (dI (IntKind.wrap .i64 (a1 + 1)))]) (eR rfl) eZ rfl rfl bZ rfl (xQ (AW.ret ?_))))))))))
 cases H
 exact endsR (RL.cons (RV.cellA (es := [(dI a1), (dI (IntKind.wrap .i64 (a1 + 1)))]) (eR rfl) bZ rfl) (VO.agg (ds := [(.int .i64 a1), (.int .i64 (IntKind.wrap .i64 (a1 + 1)))]) rfl rfl) RL.nil) List.nodup_nil
theorem c_impl_LocksHold_1 {a1 : TLock} {a2 : Int} {a3 : Int} {a4 : TRange} {r : Bool} (H : m_impl_LocksHold_1 a1 a2 a3 a4 = some r) : Fn Tryz.prog k_impl_LocksHold_1 (lent [(.agg (d_TLock a1)), (.ptr (d_i64 a2)), (.ptr (d_i64 a3)), (.ptr (d_TRange a4))]) true [(.bool r)] := by
 refine i_impl_LocksHold_1_fn (fle rfl) ?_
 rw [init_mk]
 refine AW.weaken (wk_mk [] (kv 0 (.agg [(dI a1.Tx), (dI a1.Lo), (dI a1.Hi), (dI a1.Mode)]) rfl rfl (SL.cons (v := (.one (.ptr (.bd (d_i64 a2) 0)))) (eS rfl eZ) rfl (VWk.one CWk.ptr) (SL.cons (v := (.one (.ptr (.bd (d_i64 a3) 0)))) (eS rfl (eS rfl eZ)) rfl (VWk.one CWk.ptr) (SL.cons (v := (.one (.ptr (.bd (d_TRange a4) 0)))) (eS rfl (eS rfl (eS rfl eZ))) rfl (VWk.one CWk.ptr) SL.nil)))) BL.nil BK.nil) ?_
 unfold m_impl_LocksHold_1 at H
 unfold i_impl_LocksHold_1
 refine aV (oBox (n := 256) (m := 4) (cs := [(dI a1.Tx), (dI a1.Lo), (dI a1.Hi), (dI a1.Mode)]) rfl eZ rfl rfl nZ (oMov eC (xQ (aV (oFaddrN (m := 0) (eR rfl) rfl (oLoadV (q := 0) (c := (dI a1.Tx)) eZ bZ rfl rfl (oLoadB (e := (.int .i64 a2)) (eR rfl) rfl (oEql (eR rfl) eZ (oMov eZ ?_)))))))))
 rcases oite H with ⟨h5, H⟩ | ⟨h5, H⟩
 ·refine gDo eZ (decide_eq_true h5) (oFaddrN (m := 3) (eR rfl) rfl (gDo (eR rfl) (decide_eq_true h5) (oLoadV (q := 3) (c := (dI a1.Mode)) eZ bZ rfl rfl (gDo (eR rfl) (decide_eq_true h5) (oLoadB (e := (.int .i64 a3)) (eR rfl) rfl (gDo (eR rfl) (decide_eq_true h5) (oEql (eR rfl) eZ (gDo (eR rfl) (decide_eq_true h5) (oMov eZ ?_)))))))))
  rcases oite H with ⟨h6, H⟩ | ⟨h6, H⟩
  ·refine gSkip eZ (decide_eq_true h6) rfl (gSkip (eR rfl) (decide_eq_true h6) rfl (gSkip (eR rfl) (decide_eq_true h6) rfl (gDo (eR rfl) (decide_eq_true h5) (oPickT (eR rfl) (decide_eq_true h6) eC (oPickT (eR rfl) (decide_eq_true h5) eZ (oMov eZ (gDo eZ rfl (oFaddrN (m := 1) (eR rfl) rfl (gDo (eR rfl) rfl (oLoadV (q := 1) (c := (dI a1.Lo)) eZ bZ rfl rfl (gDo (eR rfl) rfl (oFaddrB (m := 0) (eR rfl) rfl (gDo (eR rfl) rfl (oLoadB (e := (.int .i64 a4.Lo)) eZ rfl (gDo (eR rfl) rfl (oLeq (eR rfl) eZ (oPickT (eR rfl) rfl eZ (oMov eZ ?_))))))))))))))))))
   rcases oite H with ⟨h7, H⟩ | ⟨h7, H⟩
   ·refine gDo eZ (decide_eq_true h7) (oFaddrB (m := 1) (eR rfl) rfl (gDo (eR rfl) (decide_eq_true h7) (oLoadB (e := (.int .i64 a4.Hi)) eZ rfl (gDo (eR rfl) (decide_eq_true h7) (oFaddrN (m := 2) (eR rfl) rfl (gDo (eR rfl) (decide_eq_true h7) (oLoadV (q := 2) (c := (dI a1.Hi)) eZ bZ rfl rfl (gDo (eR rfl) (decide_eq_true h7) (oLeq (eR rfl) eZ (oPickT (eR rfl) (decide_eq_true h7) eZ (oMov eZ (xQ (AW.weaken (wk_mk [256] (kr 5 rfl rfl SL.nil) (BL.drop rfl BL.nil) BK.nil) (AW.ret ?_))))))))))))))
    cases H
    exact eE rfl rfl
   ·refine gSkip eZ (decide_eq_false h7) rfl (gSkip (eR rfl) (decide_eq_false h7) rfl (gSkip (eR rfl) (decide_eq_false h7) rfl (gSkip (eR rfl) (decide_eq_false h7) rfl (gSkip (eR rfl) (decide_eq_false h7) rfl (oPickF (eR rfl) (decide_eq_false h7) eC (oMov eZ (xQ (AW.weaken (wk_mk [256] (kr 5 rfl rfl SL.nil) (BL.drop rfl BL.nil) BK.nil) (AW.ret ?_)))))))))
    cases H
    exact eE rfl rfl
  ·refine gDo eZ (decide_eq_false h6) (oFaddrN (m := 3) (eR rfl) rfl (gDo (eR rfl) (decide_eq_false h6) (oLoadV (q := 3) (c := (dI a1.Mode)) eZ bZ rfl rfl (gDo (eR rfl) (decide_eq_false h6) (oEql eZ eC (gDo (eR rfl) (decide_eq_true h5) (oPickF (eR rfl) (decide_eq_false h6) eZ (oPickT (eR rfl) (decide_eq_true h5) eZ (oMov eZ ?_)))))))))
   rcases oite H with ⟨h8, H⟩ | ⟨h8, H⟩
   ·refine gDo eZ (decide_eq_true h8) (oFaddrN (m := 1) (eR rfl) rfl (gDo (eR rfl) (decide_eq_true h8) (oLoadV (q := 1) (c := (dI a1.Lo)) eZ bZ rfl rfl (gDo (eR rfl) (decide_eq_true h8) (oFaddrB (m := 0) (eR rfl) rfl (gDo (eR rfl) (decide_eq_true h8) (oLoadB (e := (.int .i64 a4.Lo)) eZ rfl (gDo (eR rfl) (decide_eq_true h8) (oLeq (eR rfl) eZ (oPickT (eR rfl) (decide_eq_true h8) eZ (oMov eZ ?_)))))))))))
    rcases oite H with ⟨h9, H⟩ | ⟨h9, H⟩
    ·refine gDo eZ (decide_eq_true h9) (oFaddrB (m := 1) (eR rfl) rfl (gDo (eR rfl) (decide_eq_true h9) (oLoadB (e := (.int .i64 a4.Hi)) eZ rfl (gDo (eR rfl) (decide_eq_true h9) (oFaddrN (m := 2) (eR rfl) rfl (gDo (eR rfl) (decide_eq_true h9) (oLoadV (q := 2) (c := (dI a1.Hi)) eZ bZ rfl rfl (gDo (eR rfl) (decide_eq_true h9) (oLeq (eR rfl) eZ (oPickT (eR rfl) (decide_eq_true h9) eZ (oMov eZ (xQ (AW.weaken (wk_mk [256] (kr 5 rfl rfl SL.nil) (BL.drop rfl BL.nil) BK.nil) (AW.ret ?_))))))))))))))
     cases H
     exact eE rfl rfl
    ·refine gSkip eZ (decide_eq_false h9) rfl (gSkip (eR rfl) (decide_eq_false h9) rfl (gSkip (eR rfl) (decide_eq_false h9) rfl (gSkip (eR rfl) (decide_eq_false h9) rfl (gSkip (eR rfl) (decide_eq_false h9) rfl (oPickF (eR rfl) (decide_eq_false h9) eC (oMov eZ (xQ (AW.weaken (wk_mk [256] (kr 5 rfl rfl SL.nil) (BL.drop rfl BL.nil) BK.nil) (AW.ret ?_)))))))))
     cases H
     exact eE rfl rfl
   ·refine gSkip eZ (decide_eq_false h8) rfl (gSkip (eR rfl) (decide_eq_false h8) rfl (gSkip (eR rfl) (decide_eq_false h8) rfl (gSkip (eR rfl) (decide_eq_false h8) rfl (gSkip (eR rfl) (decide_eq_false h8) rfl (oPickF (eR rfl) (decide_eq_false h8) eC (oMov eZ (gSkip eZ rfl rfl (gSkip (eR rfl) rfl rfl (gSkip (eR rfl) rfl rfl (gSkip (eR rfl) rfl rfl (gSkip (eR rfl) rfl rfl (oPickF (eR rfl) rfl eC (oMov eZ (xQ (AW.weaken (wk_mk [256] (kr 5 rfl rfl SL.nil) (BL.drop rfl BL.nil) BK.nil) (AW.ret ?_))))))))))))))))
    cases H
    exact eE rfl rfl
 ·refine gSkip eZ (decide_eq_false h5) rfl (gSkip (eR rfl) (decide_eq_false h5) rfl (gSkip (eR rfl) (decide_eq_false h5) rfl (gSkip (eR rfl) (decide_eq_false h5) rfl (gSkip (eR rfl) (decide_eq_false h5) rfl (gSkipU eZ rfl (gSkipU (eR rfl) rfl (gSkipU (eR rfl) rfl (gSkip (eR rfl) (decide_eq_false h5) rfl (oPickF (eR rfl) (decide_eq_false h5) eC (oMov eZ (gSkip eZ rfl rfl (gSkip (eR rfl) rfl rfl (gSkip (eR rfl) rfl rfl (gSkip (eR rfl) rfl rfl (gSkip (eR rfl) rfl rfl (oPickF (eR rfl) rfl eC (oMov eZ (gSkip eZ rfl rfl (gSkip (eR rfl) rfl rfl (gSkip (eR rfl) rfl rfl (gSkip (eR rfl) rfl rfl (gSkip (eR rfl) rfl rfl (oPickF (eR rfl) rfl eC (oMov eZ (xQ (AW.weaken (wk_mk [256] (kr 5 rfl rfl SL.nil) (BL.drop rfl BL.nil) BK.nil) (AW.ret ?_)))))))))))))))))))))))))))
  cases H
  exact eE rfl rfl
theorem c_slices_IndexFunc_Lock__LocksHold_1 {a1 : (List TLock)} {a2 : Int} {a3 : Int} {a4 : TRange} {r : Int} (H : m_slices_IndexFunc_Lock__LocksHold_1 a1 a2 a3 a4 = some r) : Fn Tryz.prog k_slices_IndexFunc___impl_Lock_impl_Lock_ (lent [(.sl 4 (List.map d_TLock a1)), (.fn k_impl_LocksHold_1 [.ptr (d_i64 a2), .ptr (d_i64 a3), .ptr (d_TRange a4)])]) true [(.int .i64 r)] := by
 refine i_slices_IndexFunc___impl_Lock_impl_Lock__fn (fle rfl) ?_
 rw [init_mk]
 refine AW.weaken (wk_mk [] (kv 0 (.one (.d (.sl 4 (List.map d_TLock a1)))) rfl rfl (SL.cons (v := (.one (.fn k_impl_LocksHold_1 [(.bd (d_i64 a2) 0), (.bd (d_i64 a3) 0), (.bd (d_TRange a4) 0)]))) (eS rfl eZ) rfl (VWk.one (CWk.fn (css := [d_i64 a2, d_i64 a3, d_TRange a4]))) SL.nil)) BL.nil BK.nil) ?_
 unfold m_slices_IndexFunc_Lock__LocksHold_1 at H
 unfold i_slices_IndexFunc___impl_Lock_impl_Lock_
 refine aV (oMov eC (xQ (AW.seqJ (fun t5 : Unit => slices_IndexFunc_Lock__LocksHold_1_j5 t5 = some r) (fun t5 => mk [] [] noG) ?_ ?_)))
 ·intro t5 H
  unfold slices_IndexFunc_Lock__LocksHold_1_j5 at H
  refine aV (oMov eC (xQ (AW.ret ?_)))
  cases H
  exact eE rfl rfl
 ·refine aV (oMov (eR rfl) (oLenD eZ (n := a1.length) (List.length_map _) (oMov eC (xQ (AW.block (AW.iter (fun s7 : Int => mk [(0, (.one (.d (.sl 4 (List.map d_TLock a1))))), (1, (.one (.fn k_impl_LocksHold_1 [(.bd (d_i64 a2) 0), (.bd (d_i64 a3) 0), (.bd (d_TRange a4) 0)]))), (7, (oI (a1.length : Int))), (8, (oI s7))] [] noG) H (wk_mk [] (kR rfl rfl (kR rfl rfl (kR rfl rfl (kR rfl rfl SL.nil)))) BL.nil BK.nil) ?_))))))
  intro kb8 s7 H
  unfold slices_IndexFunc_Lock__LocksHold_1_b7 at H
  refine aV (oLss (eR rfl) (eR rfl) (xQ (aS ?_)))
  rcases oite H with ⟨h9, H⟩ | ⟨h9, H⟩
  ·refine AW.condT eZ (decide_eq_true h9) (AW.skip (TQ.qn (aS (AW.block (aV (oMov (eR rfl) (oMov eZ (xQ (aV (oMov (eR rfl) (oMov (eR rfl) (oMov (eR rfl) ?_))))))))))))
   obtain ⟨v10, h11, H⟩ := obind H
   refine oAtD (eR rfl) eZ h11 (oLoadBA (es := [(dI v10.Tx), (dI v10.Lo), (dI v10.Hi), (dI v10.Mode)]) eZ rfl ?_)
   obtain ⟨v12, h13, H⟩ := obind H
   refine oCall (u := (oB v12)) (eR rfl) Cl.fn (c_impl_LocksHold_1 h13) (Evs.cons eZ Evs.nil) (VDs.cons (VD.agg rfl) (VDs.cons VD.ptrB (VDs.cons VD.ptrB (VDs.cons VD.ptrB VDs.nil)))) rfl (xQ ?_)
   rcases oite H with ⟨h14, H⟩ | ⟨h14, H⟩
   ·refine AW.condT eZ h14 (aV (oMov (eR rfl) (oMov eZ (xQ (AW.ret (BQ.qr (TQ.qr (TQ.qr (BQ.qr (TQ.qr ?_))))))))))
    cases H
    exact eE rfl rfl
   ·exact AW.condF eZ (nt h14) (AW.skip (BQ.qn (TQ.qn (aR (oAdd (eR rfl) eC (oMov eZ (xNil (TQ.qn ⟨(IntKind.wrap .i64 (s7 + 1)), H, (wk_mk [] (kR rfl rfl (kR rfl rfl (kR rfl rfl (kR rfl rfl SL.nil)))) BL.nil BK.nil)⟩))))))))
  ·exact AW.condF eZ (decide_eq_false h9) (AW.exit (TQ.qe (TQ.qe (BQ.qe (TQ.qn ⟨(), H, (wk_mk [] SL.nil BL.nil BK.nil)⟩)))))
theorem c_slices_ContainsFunc_Lock__LocksHold_1 {a1 : (List TLock)} {a2 : Int} {a3 : Int} {a4 : TRange} {r : Bool} (H : m_slices_ContainsFunc_Lock__LocksHold_1 a1 a2 a3 a4 = some r) : Fn Tryz.prog k_slices_ContainsFunc___impl_Lock_impl_Lock_ (lent [(.sl 4 (List.map d_TLock a1)), (.fn k_impl_LocksHold_1 [.ptr (d_i64 a2), .ptr (d_i64 a3), .ptr (d_TRange a4)])]) true [(.bool r)] := by
 refine i_slices_ContainsFunc___impl_Lock_impl_Lock__fn (fle rfl) ?_
 rw [init_mk]
 refine AW.weaken (wk_mk [] (kv 0 (.one (.d (.sl 4 (List.map d_TLock a1)))) rfl rfl (SL.cons (v := (.one (.fn k_impl_LocksHold_1 [(.bd (d_i64 a2) 0), (.bd (d_i64 a3) 0), (.bd (d_TRange a4) 0)]))) (eS rfl eZ) rfl (VWk.one (CWk.fn (css := [d_i64 a2, d_i64 a3, d_TRange a4]))) SL.nil)) BL.nil BK.nil) ?_
 unfold m_slices_ContainsFunc_Lock__LocksHold_1 at H
 unfold i_slices_ContainsFunc___impl_Lock_impl_Lock_
 refine aV (oMov eC (xQ (aV (oMov (eR rfl) (oMov (eR rfl) ?_)))))
 obtain ⟨v5, h6, H⟩ := obind H
 refine oCall (u := (oI v5)) eC Cl.fn (c_slices_IndexFunc_Lock__LocksHold_1 h6) (Evs.cons (eR rfl) (Evs.cons eZ Evs.nil)) (VDs.cons VD.plain (VDs.cons (VD.fn (PDs.cons VD.ptrB (PDs.cons VD.ptrB (PDs.cons VD.ptrB PDs.nil)))) VDs.nil)) rfl (oGeq eZ eC (oMov eZ (xQ (AW.ret ?_))))
 cases H
 exact eE rfl rfl
theorem c_impl_LocksHold {a1 : (List TLock)} {a2 : Int} {a3 : TRange} {a4 : Int} {r : Bool} (H : m_impl_LocksHold a1 a2 a3 a4 = some r) : Fn Tryz.prog k_impl_LocksHold (lent [(.sl 4 (List.map d_TLock a1)), (.int .i64 a2), (.agg (d_TRange a3)), (.int .i64 a4)]) true [(.bool r)] := by
 refine i_impl_LocksHold_fn (fle rfl) ?_
 rw [init_mk]
 refine AW.weaken (wk_mk [] (kv 0 (.one (.d (.sl 4 (List.map d_TLock a1)))) rfl rfl (kv 1 (oI a2) rfl rfl (kv 2 (.agg [(dI a3.Lo), (dI a3.Hi)]) rfl rfl (kv 3 (oI a4) rfl rfl SL.nil)))) BL.nil BK.nil) ?_
 unfold m_impl_LocksHold at H
 unfold i_impl_LocksHold
 refine aV (oBox (n := 320) (m := 1) (cs := [(dI a2)]) rfl (eR rfl) rfl rfl nZ (oBox (n := 384) (m := 2) (cs := [(dI a3.Lo), (dI a3.Hi)]) rfl (eR rfl) rfl rfl (nS rfl nZ) (oBox (n := 448) (m := 1) (cs := [(dI a4)]) rfl (eR rfl) rfl rfl (nS rfl (nS rfl nZ)) (oMov eC (xQ (aV (oMov (eR rfl) ?_)))))))
 obtain ⟨v5, h6, H⟩ := obind H
 refine oCall (u := (oB v5)) eC Cl.fn (c_impl_LocksOk h6) (Evs.cons eZ Evs.nil) (VDs.cons VD.plain VDs.nil) rfl (oMov eZ ?_)
 rcases oite H with ⟨h7, H⟩ | ⟨h7, H⟩
 ·refine gDo eZ h7 (oLoadVA (es := [(dI a3.Lo), (dI a3.Hi)]) (eR rfl) (bS rfl bZ) rfl (gDo (eR rfl) h7 ?_))
  obtain ⟨v8, h9, H⟩ := obind H
  refine oCall (u := (oB v8)) eC Cl.fn (c_impl_RangeOk h9) (Evs.cons eZ Evs.nil) (VDs.cons (VD.agg rfl) VDs.nil) rfl (oPickT (eR rfl) h7 eZ (oMov eZ ?_))
  rcases oite H with ⟨h10, H⟩ | ⟨h10, H⟩
  ·refine gDo eZ h10 (oLoadV (q := 0) (c := (dI a4)) (eR rfl) bZ rfl rfl (gDo (eR rfl) h10 ?_))
   obtain ⟨v11, h12, H⟩ := obind H
   refine oCall (u := (oB v11)) eC Cl.fn (c_impl_isMode h12) (Evs.cons eZ Evs.nil) (VDs.cons VD.plain VDs.nil) rfl (oPickT (eR rfl) h10 eZ (oMov eZ ?_))
   rcases oite H with ⟨h13, H⟩ | ⟨h13, H⟩
   ·refine gDo eZ h13 (oMov (eR rfl) (gDo (eR rfl) h13 (oMkfn (ps := [(.nm 320 0 0), (.nm 448 0 0), (.nm 384 0 0)]) (Evs.cons (eR rfl) (Evs.cons (eR rfl) (Evs.cons (eR rfl) Evs.nil))) (gDo (eR rfl) h13 ?_))))
    obtain ⟨v14, h15, H⟩ := obind H
    refine oCall (u := (oB v14)) eC Cl.fn (c_slices_ContainsFunc_Lock__LocksHold_1 h15) (Evs.cons (eR rfl) (Evs.cons eZ Evs.nil)) (VDs.cons VD.plain (VDs.cons (VD.fn (PDs.cons (VD.ptrN (bS rfl (bS rfl bZ)) (CDs.plain CDs.nil)) (PDs.cons (VD.ptrN bZ (CDs.plain CDs.nil)) (PDs.cons (VD.ptrN (bS rfl bZ) (CDs.plain (CDs.plain CDs.nil))) PDs.nil)))) VDs.nil)) rfl (oPickT (eR rfl) h13 eZ (oMov eZ (xQ (AW.weaken (wk_mk [448, 384, 320] (kr 8 rfl rfl SL.nil) (BL.drop rfl (BL.drop rfl (BL.drop rfl BL.nil))) BK.nil) (AW.ret ?_)))))
    cases H
    exact eE rfl rfl
   ·refine gSkip eZ (nt h13) rfl (gSkip (eR rfl) (nt h13) rfl (gSkip (eR rfl) (nt h13) rfl (oPickF (eR rfl) (nt h13) eC (oMov eZ (xQ (AW.weaken (wk_mk [448, 384, 320] (kr 8 rfl rfl SL.nil) (BL.drop rfl (BL.drop rfl (BL.drop rfl BL.nil))) BK.nil) (AW.ret ?_)))))))
    cases H
    exact eE rfl rfl
  ·refine gSkip eZ (nt h10) rfl (gSkip (eR rfl) (nt h10) rfl (oPickF (eR rfl) (nt h10) eC (oMov eZ (gSkip eZ rfl rfl (gSkip (eR rfl) rfl rfl (gSkip (eR rfl) rfl rfl (oPickF (eR rfl) rfl eC (oMov eZ (xQ (AW.weaken (wk_mk [448, 384, 320] (kr 8 rfl rfl SL.nil) (BL.drop rfl (BL.drop rfl (BL.drop rfl BL.nil))) BK.nil) (AW.ret ?_)))))))))))
   cases H
   exact eE rfl rfl
 ·refine gSkip eZ (nt h7) rfl (gSkip (eR rfl) (nt h7) rfl (oPickF (eR rfl) (nt h7) eC (oMov eZ (gSkip eZ rfl rfl (gSkip (eR rfl) rfl rfl (oPickF (eR rfl) rfl eC (oMov eZ (gSkip eZ rfl rfl (gSkip (eR rfl) rfl rfl (gSkip (eR rfl) rfl rfl (oPickF (eR rfl) rfl eC (oMov eZ (xQ (AW.weaken (wk_mk [448, 384, 320] (kr 8 rfl rfl SL.nil) (BL.drop rfl (BL.drop rfl (BL.drop rfl BL.nil))) BK.nil) (AW.ret ?_)))))))))))))))
  cases H
  exact eE rfl rfl
theorem c_impl_heldsOk_1 {a1 : TCell} {a2 : TShard} {a3 : THeld} {r : Bool} (H : m_impl_heldsOk_1 a1 a2 a3 = some r) : Fn Tryz.prog k_impl_heldsOk_1 (lent [(.agg (d_TCell a1)), (.ptr (d_TShard a2)), (.ptr (d_THeld a3))]) true [(.bool r)] := by
 refine i_impl_heldsOk_1_fn (fle rfl) ?_
 rw [init_mk]
 refine AW.weaken (wk_mk [] (kv 0 (.agg [(dI a1.Key), (dI a1.Value)]) rfl rfl (SL.cons (v := (.one (.ptr (.bd (d_TShard a2) 0)))) (eS rfl eZ) rfl (VWk.one CWk.ptr) (SL.cons (v := (.one (.ptr (.bd (d_THeld a3) 0)))) (eS rfl (eS rfl eZ)) rfl (VWk.one CWk.ptr) SL.nil))) BL.nil BK.nil) ?_
 unfold m_impl_heldsOk_1 at H
 unfold i_impl_heldsOk_1
 refine aV (oBox (n := 192) (m := 2) (cs := [(dI a1.Key), (dI a1.Value)]) rfl eZ rfl rfl nZ (oMov eC (xQ (aS (AW.regd (oFaddrB (m := 4) (eR rfl) rfl (oLoadB (e := (.sl 4 (List.map d_TLock a2.Locks))) eZ rfl (oFaddrB (m := 0) (eR rfl) rfl (oLoadB (e := (.int .i64 a3.Tx)) eZ rfl (oFaddrN (m := 0) (eR rfl) rfl (oLoadV (q := 0) (c := (dI a1.Key)) eZ bZ rfl rfl ?_)))))))))))
 obtain ⟨v4, h5, H⟩ := obind H
 refine oCall (u := (.agg [(dI v4.Lo), (dI v4.Hi)])) eC Cl.fn (c_impl_one h5) (Evs.cons eZ Evs.nil) (VDs.cons VD.plain VDs.nil) rfl ?_
 obtain ⟨v6, h7, H⟩ := obind H
 refine oCall (u := (oB v6)) eC Cl.fn (c_impl_LocksHold h7) (Evs.cons (eR rfl) (Evs.cons (eR rfl) (Evs.cons eZ (Evs.cons eC Evs.nil)))) (VDs.cons VD.plain (VDs.cons VD.plain (VDs.cons (VD.agg rfl) (VDs.cons VD.plain VDs.nil)))) rfl (oInv eZ (oMov eZ (xQ (AW.ret ?_))))
 cases H
 exact eE rfl rfl
theorem c_slices_IndexFunc_Write__heldsOk_1 {a1 : (List TCell)} {a2 : TShard} {a3 : THeld} {r : Int} (H : m_slices_IndexFunc_Write__heldsOk_1 a1 a2 a3 = some r) : Fn Tryz.prog k_slices_IndexFunc___impl_Write_impl_Write_ (lent [(.sl 2 (List.map d_TCell a1)), (.fn k_impl_heldsOk_1 [.ptr (d_TShard a2), .ptr (d_THeld a3)])]) true [(.int .i64 r)] := by
 refine i_slices_IndexFunc___impl_Write_impl_Write__fn (fle rfl) ?_
 rw [init_mk]
 refine AW.weaken (wk_mk [] (kv 0 (.one (.d (.sl 2 (List.map d_TCell a1)))) rfl rfl (SL.cons (v := (.one (.fn k_impl_heldsOk_1 [(.bd (d_TShard a2) 0), (.bd (d_THeld a3) 0)]))) (eS rfl eZ) rfl (VWk.one (CWk.fn (css := [d_TShard a2, d_THeld a3]))) SL.nil)) BL.nil BK.nil) ?_
 unfold m_slices_IndexFunc_Write__heldsOk_1 at H
 unfold i_slices_IndexFunc___impl_Write_impl_Write_
 refine aV (oMov eC (xQ (AW.seqJ (fun t4 : Unit => slices_IndexFunc_Write__heldsOk_1_j4 t4 = some r) (fun t4 => mk [] [] noG) ?_ ?_)))
 ·intro t4 H
  unfold slices_IndexFunc_Write__heldsOk_1_j4 at H
  refine aV (oMov eC (xQ (AW.ret ?_)))
  cases H
  exact eE rfl rfl
 ·refine aV (oMov (eR rfl) (oLenD eZ (n := a1.length) (List.length_map _) (oMov eC (xQ (AW.block (AW.iter (fun s6 : Int => mk [(0, (.one (.d (.sl 2 (List.map d_TCell a1))))), (1, (.one (.fn k_impl_heldsOk_1 [(.bd (d_TShard a2) 0), (.bd (d_THeld a3) 0)]))), (7, (oI (a1.length : Int))), (8, (oI s6))] [] noG) H (wk_mk [] (kR rfl rfl (kR rfl rfl (kR rfl rfl (kR rfl rfl SL.nil)))) BL.nil BK.nil) ?_))))))
  intro kb7 s6 H
  unfold slices_IndexFunc_Write__heldsOk_1_b6 at H
  refine aV (oLss (eR rfl) (eR rfl) (xQ (aS ?_)))
  rcases oite H with ⟨h8, H⟩ | ⟨h8, H⟩
  ·refine AW.condT eZ (decide_eq_true h8) (AW.skip (TQ.qn (aS (AW.block (aV (oMov (eR rfl) (oMov eZ (xQ (aV (oMov (eR rfl) (oMov (eR rfl) (oMov (eR rfl) ?_))))))))))))
   obtain ⟨v9, h10, H⟩ := obind H
   refine oAtD (eR rfl) eZ h10 (oLoadBA (es := [(dI v9.Key), (dI v9.Value)]) eZ rfl ?_)
   obtain ⟨v11, h12, H⟩ := obind H
   refine oCall (u := (oB v11)) (eR rfl) Cl.fn (c_impl_heldsOk_1 h12) (Evs.cons eZ Evs.nil) (VDs.cons (VD.agg rfl) (VDs.cons VD.ptrB (VDs.cons VD.ptrB VDs.nil))) rfl (xQ ?_)
   rcases oite H with ⟨h13, H⟩ | ⟨h13, H⟩
   ·refine AW.condT eZ h13 (aV (oMov (eR rfl) (oMov eZ (xQ (AW.ret (BQ.qr (TQ.qr (TQ.qr (BQ.qr (TQ.qr ?_))))))))))
    cases H
    exact eE rfl rfl
   ·exact AW.condF eZ (nt h13) (AW.skip (BQ.qn (TQ.qn (aR (oAdd (eR rfl) eC (oMov eZ (xNil (TQ.qn ⟨(IntKind.wrap .i64 (s6 + 1)), H, (wk_mk [] (kR rfl rfl (kR rfl rfl (kR rfl rfl (kR rfl rfl SL.nil)))) BL.nil BK.nil)⟩))))))))
  ·exact AW.condF eZ (decide_eq_false h8) (AW.exit (TQ.qe (TQ.qe (BQ.qe (TQ.qn ⟨(), H, (wk_mk [] SL.nil BL.nil BK.nil)⟩)))))
theorem c_slices_ContainsFunc_Write__heldsOk_1 {a1 : (List TCell)} {a2 : TShard} {a3 : THeld} {r : Bool} (H : m_slices_ContainsFunc_Write__heldsOk_1 a1 a2 a3 = some r) : Fn Tryz.prog k_slices_ContainsFunc___impl_Write_impl_Write_ (lent [(.sl 2 (List.map d_TCell a1)), (.fn k_impl_heldsOk_1 [.ptr (d_TShard a2), .ptr (d_THeld a3)])]) true [(.bool r)] := by
 refine i_slices_ContainsFunc___impl_Write_impl_Write__fn (fle rfl) ?_
 rw [init_mk]
 refine AW.weaken (wk_mk [] (kv 0 (.one (.d (.sl 2 (List.map d_TCell a1)))) rfl rfl (SL.cons (v := (.one (.fn k_impl_heldsOk_1 [(.bd (d_TShard a2) 0), (.bd (d_THeld a3) 0)]))) (eS rfl eZ) rfl (VWk.one (CWk.fn (css := [d_TShard a2, d_THeld a3]))) SL.nil)) BL.nil BK.nil) ?_
 unfold m_slices_ContainsFunc_Write__heldsOk_1 at H
 unfold i_slices_ContainsFunc___impl_Write_impl_Write_
 refine aV (oMov eC (xQ (aV (oMov (eR rfl) (oMov (eR rfl) ?_)))))
 obtain ⟨v4, h5, H⟩ := obind H
 refine oCall (u := (oI v4)) eC Cl.fn (c_slices_IndexFunc_Write__heldsOk_1 h5) (Evs.cons (eR rfl) (Evs.cons eZ Evs.nil)) (VDs.cons VD.plain (VDs.cons (VD.fn (PDs.cons VD.ptrB (PDs.cons VD.ptrB PDs.nil))) VDs.nil)) rfl (oGeq eZ eC (oMov eZ (xQ (AW.ret ?_))))
 cases H
 exact eE rfl rfl
theorem c_impl_txsOf {a1 : (List THeld)} {r : (List Int)} (H : m_impl_txsOf a1 = some r) : Fn Tryz.prog k_impl_txsOf (lent [(.sl 2 (List.map d_THeld a1))]) true [(.sl 1 (List.map d_i64 r))] := by
 refine i_impl_txsOf_fn (fle rfl) ?_
 rw [init_mk]
 refine AW.weaken (t := mk [(0, (.one (.d (.sl 2 (List.map d_THeld a1)))))] [] (lk [])) (wk_mk [] (kv 0 (.one (.d (.sl 2 (List.map d_THeld a1)))) rfl rfl SL.nil) BL.nil BK.nil) ?_
 unfold m_impl_txsOf at H
 unfold i_impl_txsOf
 refine aV (oMov eC (xQ (aV (oBsliceZ (m := 384) rfl nZ (oMov eZ (xQ (AW.seqJ (fun t2 : (List Int) => impl_txsOf_j2 t2 = some r) (fun t2 => mk [(3, (.one (.sl 320128 0 t2.length)))] [(320128, (.data 1 (List.map d_i64 t2) true none))] (lk [])) ?_ ?_)))))))
 ·intro t2 H
  unfold impl_txsOf_j2 at H
  refine aV (oMov eZ (oMov eZ (xQ (AW.ret ?_))))
  cases H
  exact endsR (RL.cons (RV.tmp eZ) (VO.sl bZ (List.length_map _) (allFlat fun _ => rfl)) RL.nil) (by decide)
 ·refine aV (oMov (eR rfl) (oLenD eZ (n := a1.length) (List.length_map _) (oMov eC (xQ (AW.block (AW.iter (fun s4 : ((List Int) × Int) => mk [(3, (.one (.sl 320192 0 s4.1.length))), (7, (.one (.d (.sl 2 (List.map d_THeld a1))))), (8, (oI (a1.length : Int))), (9, (oI s4.2))] [(320192, (.data 1 (List.map d_i64 s4.1) true none))] (lk [])) H ((wk_mkG [] (SL.cons eZ rfl (VWk.one (CWk.len (by first | (simp; done) | (simp; omega) | omega | (simp only [List.length_map]; omega)))) (kR rfl rfl (kR rfl rfl (kR rfl rfl SL.nil)))) (BL.keep rfl BL.nil) (BK.cons rfl bZ rfl rfl BK.nil) GK.nil).trans (wk_zs0 320192 1 3 true (eR rfl) nZ)) ?_))))))
  intro kb5 s4 H
  unfold impl_txsOf_b4 at H
  refine aV (oLss (eR rfl) (eR rfl) (xQ (aS ?_)))
  rcases oite H with ⟨h6, H⟩ | ⟨h6, H⟩
  ·refine AW.condT eZ (decide_eq_true h6) (AW.skip (TQ.qn (aS (AW.block (aS (AW.regm (rmOne ?_)))))))
   obtain ⟨v7, h8, H⟩ := obind H
   refine oAtD (eR rfl) (eR rfl) h8 (xNil (rmOne (oLoadBA (es := [(dI v7.Tx), (.d (.sl 2 (List.map d_TCell v7.Writes)))]) eZ rfl (xNil (rmOne (oVar (n := 320) (m := 2) rfl rfl (nS rfl nZ) (xNil (rmOne (oStoreV (es := [(dI v7.Tx), (.d (.sl 2 (List.map d_TCell v7.Writes)))]) eZ (eR rfl) rfl rfl bZ rfl (xNil (rmRest (xQ (aR (oMov (eR rfl) (oFaddrN (m := 0) (eR rfl) rfl (oLoadV (q := 0) (c := (dI v7.Tx)) eZ bZ rfl rfl (oBslice (m := 1024) (q := 1) (cs := [(dI v7.Tx)]) rfl (PsCons eZ PsNil) rfl (List.cons_ne_nil _ _) (by simp) (nS rfl (nS rfl (nS rfl nZ))) ?_)))))))))))))))))
   obtain ⟨h9, H⟩ := oguard H
   exact oAppNG (f := d_i64) (xs := s4.1) (ys := [v7.Tx]) (q := (s4.1 ++ ([v7.Tx])).length) (eR rfl) eZ (bS rfl (bS rfl (bS rfl bZ))) rfl (El.one (f := d_i64) (t := v7.Tx) (es := [(.int .i64 v7.Tx)]) bZ rfl rfl rfl) rfl h9 (by decide) (by decide) (erL.cons (v' := (.one (.sl 1024 0 1))) rfl (erL.cons (v' := (oI v7.Tx)) rfl (erL.cons (v' := (.one (.ptr (.nm 320 0 0)))) rfl (erL.cons (v' := (.one .any)) rfl (erL.cons (v' := (.one (.ptr (.nm 320 0 0)))) rfl (erL.cons (v' := (.agg [(dI v7.Tx), (.d (.sl 2 (List.map d_TCell v7.Writes)))])) rfl (erL.cons (v' := (.one (.ptr (.bd (d_THeld v7) 0)))) rfl (erL.cons (v' := (oB (decide (s4.2 < (a1.length : Int))))) rfl (erL.cons (v' := (.one .any)) rfl (erL.cons (v' := (.one (.d (.sl 2 (List.map d_THeld a1))))) rfl (erL.cons (v' := (oI (a1.length : Int))) rfl (erL.cons (v' := (oI s4.2)) rfl erL.nil)))))))))))) (erH.cons (v' := (.vars 1 [(dI v7.Tx)])) rfl rfl (erH.cons (v' := (.vars 2 [(dI v7.Tx), (.d (.sl 2 (List.map d_TCell v7.Writes)))])) rfl rfl (erH.cons (v' := (.vars 2 [(dI 0), .zs])) rfl rfl (erH.drop rfl erH.nil)))) GK.nil (oMov eZ (xNil (BQ.qn (TQ.qn (aR (oAdd (eR rfl) eC (oMov eZ (xNil (TQ.qn ⟨((s4.1 ++ ([v7.Tx])), (IntKind.wrap .i64 (s4.2 + 1))), H, (wk_mkG [1024, 320] (kR rfl rfl (kR rfl rfl (kR rfl rfl (kR rfl rfl SL.nil)))) (BL.keep rfl (BL.drop rfl (BL.drop rfl (BL.drop rfl BL.nil)))) (BK.cons rfl bZ rfl rfl BK.nil) GK.nil)⟩)))))))))
  ·exact AW.condF eZ (decide_eq_false h6) (AW.exit (TQ.qe (TQ.qe (BQ.qe (TQ.qn ⟨s4.1, H, ((wk_mkG [] (kR rfl rfl SL.nil) (BL.keep rfl BL.nil) (BK.cons rfl bZ rfl rfl BK.nil) GK.nil).trans (wk_renG 320192 320128 rfl rfl (nS rfl nZ) GR.nil))⟩)))))
theorem c_impl_ascending {a1 : (List Int)} {r : Bool} (H : m_impl_ascending a1 = some r) : Fn Tryz.prog k_impl_ascending (lent [(.sl 1 (List.map d_i64 a1))]) true [(.bool r)] := by
 refine i_impl_ascending_fn (fle rfl) ?_
 rw [init_mk]
 refine AW.weaken (wk_mk [] (kv 0 (.one (.d (.sl 1 (List.map d_i64 a1)))) rfl rfl SL.nil) BL.nil BK.nil) ?_
 unfold m_impl_ascending at H
 unfold i_impl_ascending
 refine aV (oMov eC (xQ (AW.seqJ (fun t2 : Unit => impl_ascending_j2 t2 = some r) (fun t2 => mk [] [] noG) ?_ ?_)))
 ·intro t2 H
  unfold impl_ascending_j2 at H
  refine aV (oMov eC (xQ (AW.ret ?_)))
  cases H
  exact eE rfl rfl
 ·refine aV (oMov (eR rfl) (oLenD eZ (n := a1.length) (List.length_map _) (oMov eC (xQ (AW.block (AW.iter (fun s4 : Int => mk [(0, (.one (.d (.sl 1 (List.map d_i64 a1))))), (5, (.one (.d (.sl 1 (List.map d_i64 a1))))), (6, (oI (a1.length : Int))), (7, (oI s4))] [] noG) H (wk_mk [] (kR rfl rfl (kR rfl rfl (kR rfl rfl (kR rfl rfl SL.nil)))) BL.nil BK.nil) ?_))))))
  intro kb5 s4 H
  unfold impl_ascending_b4 at H
  refine aV (oLss (eR rfl) (eR rfl) (xQ (aS ?_)))
  rcases oite H with ⟨h6, H⟩ | ⟨h6, H⟩
  ·refine AW.condT eZ (decide_eq_true h6) (AW.skip (TQ.qn (aS (AW.block (aV (oMov (eR rfl) ?_))))))
   obtain ⟨v7, h8, H⟩ := obind H
   refine oAtD (eR rfl) (eR rfl) h8 (oLoadB (e := (.int .i64 v7)) eZ rfl (oMov (eR rfl) (oMov (eR rfl) (xQ (AW.seqJ (fun t9 : Bool => (impl_ascending_j9 kb5 s4) t9 = some r) (fun t9 => mk [(0, (.one (.d (.sl 1 (List.map d_i64 a1))))), (5, (.one (.d (.sl 1 (List.map d_i64 a1))))), (6, (oI (a1.length : Int))), (7, (oI s4)), (27, (oB t9))] [] noG) ?_ ?_)))))
   ·intro t9 H
    unfold impl_ascending_j9 at H
    rcases oite H with ⟨h11, H⟩ | ⟨h11, H⟩
    ·refine AW.condT (eR rfl) h11 (aV (oMov eC (xQ (AW.ret (BQ.qr (TQ.qr (TQ.qr (BQ.qr (TQ.qr ?_)))))))))
     cases H
     exact eE rfl rfl
    ·exact AW.condF (eR rfl) (nt h11) (AW.skip (BQ.qn (TQ.qn (aR (oAdd (eR rfl) eC (oMov eZ (xNil (TQ.qn ⟨(IntKind.wrap .i64 (s4 + 1)), H, (wk_mk [] (kR rfl rfl (kR rfl rfl (kR rfl rfl (kR rfl rfl SL.nil)))) BL.nil BK.nil)⟩))))))))
   ·refine aR (oMov eZ ?_)
    obtain ⟨v12, h13, H⟩ := obind H
    refine oCall (u := (oB v12)) eC Cl.fn (c_impl_isTx h13) (Evs.cons eZ Evs.nil) (VDs.cons VD.plain VDs.nil) rfl (oInv eZ (oMov eZ ?_))
    rcases oite H with ⟨h14, H⟩ | ⟨h14, H⟩
    ·refine gDo eZ (congrArg Bool.not h14) (oMov (eR rfl) (gDo (eR rfl) (congrArg Bool.not h14) (oGtr eZ eC (gDo (eR rfl) (congrArg Bool.not h14) (oMov eZ ?_)))))
     rcases oite H with ⟨h15, H⟩ | ⟨h15, H⟩
     ·refine gDo eZ (decide_eq_true h15) (oMov (eR rfl) (gDo (eR rfl) (decide_eq_true h15) (oMov (eR rfl) (gDo (eR rfl) (decide_eq_true h15) (oSub eZ eC (gDo (eR rfl) (decide_eq_true h15) ?_))))))
      obtain ⟨v16, h17, H⟩ := obind H
      exact oAtD (eR rfl) eZ h17 (gDo (eR rfl) (decide_eq_true h15) (oLoadB (e := (.int .i64 v16)) eZ rfl (gDo (eR rfl) (decide_eq_true h15) (oMov (eR rfl) (gDo (eR rfl) (decide_eq_true h15) (oGeq (eR rfl) eZ (gDo (eR rfl) (congrArg Bool.not h14) (oPickT (eR rfl) (decide_eq_true h15) eZ (oPickF (eR rfl) (congrArg Bool.not h14) eZ (xNil (TQ.qn ⟨(decide (v7 ≤ v16)), H, (wk_mk [] (kR rfl rfl (kR rfl rfl (kR rfl rfl (kR rfl rfl (kR rfl rfl SL.nil))))) BL.nil BK.nil)⟩)))))))))))
     ·exact gSkip eZ (decide_eq_false h15) rfl (gSkip (eR rfl) (decide_eq_false h15) rfl (gSkip (eR rfl) (decide_eq_false h15) rfl (gSkip (eR rfl) (decide_eq_false h15) rfl (gSkip (eR rfl) (decide_eq_false h15) rfl (gSkip (eR rfl) (decide_eq_false h15) rfl (gSkip (eR rfl) (decide_eq_false h15) rfl (gDo (eR rfl) (congrArg Bool.not h14) (oPickF (eR rfl) (decide_eq_false h15) eC (oPickF (eR rfl) (congrArg Bool.not h14) eZ (xNil (TQ.qn ⟨false, H, (wk_mk [] (kR rfl rfl (kR rfl rfl (kR rfl rfl (kR rfl rfl (kR rfl rfl SL.nil))))) BL.nil BK.nil)⟩)))))))))))
    ·exact gSkip eZ (congrArg Bool.not (nt h14)) rfl (gSkip (eR rfl) (congrArg Bool.not (nt h14)) rfl (gSkip (eR rfl) (congrArg Bool.not (nt h14)) rfl (gSkipU eZ rfl (gSkipU (eR rfl) rfl (gSkipU (eR rfl) rfl (gSkipU (eR rfl) rfl (gSkipU (eR rfl) rfl (gSkipU (eR rfl) rfl (gSkipU (eR rfl) rfl (gSkip (eR rfl) (congrArg Bool.not (nt h14)) rfl (oPickT (eR rfl) (congrArg Bool.not (nt h14)) eC (xNil (TQ.qn ⟨true, H, (wk_mk [] (kR rfl rfl (kR rfl rfl (kR rfl rfl (kR rfl rfl (kR rfl rfl SL.nil))))) BL.nil BK.nil)⟩)))))))))))))
  ·exact AW.condF eZ (decide_eq_false h6) (AW.exit (TQ.qe (TQ.qe (BQ.qe (TQ.qn ⟨(), H, (wk_mk [] SL.nil BL.nil BK.nil)⟩)))))
theorem c_impl_heldsOk {a1 : TShard} {r : Bool} (H : m_impl_heldsOk a1 = some r) : Fn Tryz.prog k_impl_heldsOk (lent [(.agg (d_TShard a1))]) true [(.bool r)] := by
 refine i_impl_heldsOk_fn (fle rfl) ?_
 rw [init_mk]
 refine AW.weaken (t := mk [(0, (.agg [(dI a1.Me), (.d (.sl 2 (List.map d_TRange a1.Own))), (.d (.sl 2 (List.map d_TRange a1.Frozen))), (.d (.sl 2 (List.map d_TCell a1.Cells))), (.d (.sl 4 (List.map d_TLock a1.Locks))), (.d (.sl 2 (List.map d_THeld a1.Helds))), (.d (.sl 1 (List.map d_i64 a1.Wounded))), (.d (.sl 1 (List.map d_i64 a1.Ended))), (dI a1.Rank)]))] [] (lk [])) (wk_mk [] (kv 0 (.agg [(dI a1.Me), (.d (.sl 2 (List.map d_TRange a1.Own))), (.d (.sl 2 (List.map d_TRange a1.Frozen))), (.d (.sl 2 (List.map d_TCell a1.Cells))), (.d (.sl 4 (List.map d_TLock a1.Locks))), (.d (.sl 2 (List.map d_THeld a1.Helds))), (.d (.sl 1 (List.map d_i64 a1.Wounded))), (.d (.sl 1 (List.map d_i64 a1.Ended))), (dI a1.Rank)]) rfl rfl SL.nil) BL.nil BK.nil) ?_
 unfold m_impl_heldsOk at H
 unfold i_impl_heldsOk
 refine aV (oBox (n := 64) (m := 9) (cs := [(dI a1.Me), (.d (.sl 2 (List.map d_TRange a1.Own))), (.d (.sl 2 (List.map d_TRange a1.Frozen))), (.d (.sl 2 (List.map d_TCell a1.Cells))), (.d (.sl 4 (List.map d_TLock a1.Locks))), (.d (.sl 2 (List.map d_THeld a1.Helds))), (.d (.sl 1 (List.map d_i64 a1.Wounded))), (.d (.sl 1 (List.map d_i64 a1.Ended))), (dI a1.Rank)]) rfl eZ rfl rfl nZ (oMov eC (xQ (AW.seqJ (fun t2 : Unit => (impl_heldsOk_j2 a1) t2 = some r) (fun t2 => mk [(1, (.one (.ptr (.nm 64 0 0))))] [(64, (.vars 9 [(dI a1.Me), (.d (.sl 2 (List.map d_TRange a1.Own))), (.d (.sl 2 (List.map d_TRange a1.Frozen))), (.d (.sl 2 (List.map d_TCell a1.Cells))), (.d (.sl 4 (List.map d_TLock a1.Locks))), (.d (.sl 2 (List.map d_THeld a1.Helds))), (.d (.sl 1 (List.map d_i64 a1.Wounded))), (.d (.sl 1 (List.map d_i64 a1.Ended))), (dI a1.Rank)]))] (lk [])) ?_ ?_))))
 ·intro t2 H
  unfold impl_heldsOk_j2 at H
  refine aV (oFaddrN (m := 5) eZ rfl (oLoadV (q := 5) (c := (.d (.sl 2 (List.map d_THeld a1.Helds)))) eZ bZ rfl rfl ?_))
  obtain ⟨v4, h5, H⟩ := obind H
  refine oCall (u := (.one (.d (.sl 1 (List.map d_i64 v4))))) eC Cl.fn (c_impl_txsOf h5) (Evs.cons eZ Evs.nil) (VDs.cons VD.plain VDs.nil) rfl ?_
  obtain ⟨v6, h7, H⟩ := obind H
  refine oCall (u := (oB v6)) eC Cl.fn (c_impl_ascending h7) (Evs.cons eZ Evs.nil) (VDs.cons VD.plain VDs.nil) rfl (oMov eZ (xQ (AW.ret ?_)))
  cases H
  exact eE rfl rfl
 ·refine aV (oFaddrN (m := 5) (eR rfl) rfl (oLoadV (q := 5) (c := (.d (.sl 2 (List.map d_THeld a1.Helds)))) eZ bZ rfl rfl (oLenD eZ (n := a1.Helds.length) (List.length_map _) (oMov eC (xQ (AW.block (AW.iter (fun s8 : Int => mk [(1, (.one (.ptr (.nm 64 0 0)))), (6, (.one (.d (.sl 2 (List.map d_THeld a1.Helds))))), (7, (oI (a1.Helds.length : Int))), (8, (oI s8))] [(64, (.vars 9 [(dI a1.Me), (.d (.sl 2 (List.map d_TRange a1.Own))), (.d (.sl 2 (List.map d_TRange a1.Frozen))), (.d (.sl 2 (List.map d_TCell a1.Cells))), (.d (.sl 4 (List.map d_TLock a1.Locks))), (.d (.sl 2 (List.map d_THeld a1.Helds))), (.d (.sl 1 (List.map d_i64 a1.Wounded))), (.d (.sl 1 (List.map d_i64 a1.Ended))), (dI a1.Rank)]))] (lk [])) H (wk_mkG [] (kR rfl rfl (kR rfl rfl (kR rfl rfl (kR rfl rfl SL.nil)))) (BL.keep rfl BL.nil) (BK.cons rfl bZ rfl rfl BK.nil) GK.nil) ?_)))))))
  intro kb9 s8 H
  unfold impl_heldsOk_b8 at H
  refine aV (oLss (eR rfl) (eR rfl) (xQ (aS ?_)))
  rcases oite H with ⟨h10, H⟩ | ⟨h10, H⟩
  ·refine AW.condT eZ (decide_eq_true h10) (AW.skip (TQ.qn (aS (AW.block (aS (AW.regm (rmOne ?_)))))))
   obtain ⟨v11, h12, H⟩ := obind H
   refine oAtD (eR rfl) (eR rfl) h12 (xNil (rmOne (oLoadBA (es := [(dI v11.Tx), (.d (.sl 2 (List.map d_TCell v11.Writes)))]) eZ rfl (xNil (rmOne (oVar (n := 256) (m := 2) rfl rfl (nS rfl nZ) (xNil (rmOne (oStoreV (es := [(dI v11.Tx), (.d (.sl 2 (List.map d_TCell v11.Writes)))]) eZ (eR rfl) rfl rfl bZ rfl (xNil (rmRest (xQ (AW.seqJ (fun t13 : Bool => (impl_heldsOk_j13 kb9 s8) t13 = some r) (fun t13 => mk [(1, (.one (.ptr (.nm 64 0 0)))), (6, (.one (.d (.sl 2 (List.map d_THeld a1.Helds))))), (7, (oI (a1.Helds.length : Int))), (8, (oI s8)), (21, (oB t13))] [(64, (.vars 9 [(dI a1.Me), (.d (.sl 2 (List.map d_TRange a1.Own))), (.d (.sl 2 (List.map d_TRange a1.Frozen))), (.d (.sl 2 (List.map d_TCell a1.Cells))), (.d (.sl 4 (List.map d_TLock a1.Locks))), (.d (.sl 2 (List.map d_THeld a1.Helds))), (.d (.sl 1 (List.map d_i64 a1.Wounded))), (.d (.sl 1 (List.map d_i64 a1.Ended))), (dI a1.Rank)]))] (lk [])) ?_ ?_)))))))))))))
   ·intro t13 H
    unfold impl_heldsOk_j13 at H
    rcases oite H with ⟨h15, H⟩ | ⟨h15, H⟩
    ·refine AW.condT (eR rfl) h15 (aV (oMov eC (xQ (AW.ret (BQ.qr (TQ.qr (TQ.qr (BQ.qr (TQ.qr ?_)))))))))
     cases H
     exact eE rfl rfl
    ·exact AW.condF (eR rfl) (nt h15) (AW.skip (BQ.qn (TQ.qn (aR (oAdd (eR rfl) eC (oMov eZ (xNil (TQ.qn ⟨(IntKind.wrap .i64 (s8 + 1)), H, (wk_mkG [] (kR rfl rfl (kR rfl rfl (kR rfl rfl (kR rfl rfl SL.nil)))) (BL.keep rfl BL.nil) (BK.cons rfl bZ rfl rfl BK.nil) GK.nil)⟩))))))))
   ·refine aR (oFaddrN (m := 1) eZ rfl (oLoadV (q := 1) (c := (.d (.sl 2 (List.map d_TCell v11.Writes)))) eZ bZ rfl rfl ?_))
    obtain ⟨v16, h17, H⟩ := obind H
    refine oCall (u := (oB v16)) eC Cl.fn (c_impl_WritesOk h17) (Evs.cons eZ Evs.nil) (VDs.cons VD.plain VDs.nil) rfl (oInv eZ (oMov eZ ?_))
    rcases oite H with ⟨h18, H⟩ | ⟨h18, H⟩
    ·refine gDo eZ (congrArg Bool.not h18) (oFaddrN (m := 1) (eR rfl) rfl (gDo (eR rfl) (congrArg Bool.not h18) (oLoadV (q := 1) (c := (.d (.sl 2 (List.map d_TCell v11.Writes)))) eZ bZ rfl rfl (gDo (eR rfl) (congrArg Bool.not h18) (oMkfn (ps := [(.nm 64 0 0), (.nm 256 0 0)]) (Evs.cons (eR rfl) (Evs.cons (eR rfl) Evs.nil)) (gDo (eR rfl) (congrArg Bool.not h18) ?_))))))
     obtain ⟨v19, h20, H⟩ := obind H
     exact oCall (u := (oB v19)) eC Cl.fn (c_slices_ContainsFunc_Write__heldsOk_1 h20) (Evs.cons (eR rfl) (Evs.cons eZ Evs.nil)) (VDs.cons VD.plain (VDs.cons (VD.fn (PDs.cons (VD.ptrN (bS rfl (bS rfl bZ)) (CDs.plain (CDs.plain (CDs.plain (CDs.plain (CDs.plain (CDs.plain (CDs.plain (CDs.plain (CDs.plain CDs.nil)))))))))) (PDs.cons (VD.ptrN bZ (CDs.plain (CDs.plain CDs.nil))) PDs.nil))) VDs.nil)) rfl (oPickF (eR rfl) (congrArg Bool.not h18) eZ (xNil (TQ.qn ⟨v19, H, (wk_mkG [256] (kR rfl rfl (kR rfl rfl (kR rfl rfl (kR rfl rfl (kR rfl rfl SL.nil))))) (BL.drop rfl (BL.drop rfl (BL.keep rfl BL.nil))) (BK.cons rfl (bS rfl (bS rfl bZ)) rfl rfl BK.nil) GK.nil)⟩)))
    ·exact gSkip eZ (congrArg Bool.not (nt h18)) rfl (gSkip (eR rfl) (congrArg Bool.not (nt h18)) rfl (gSkip (eR rfl) (congrArg Bool.not (nt h18)) rfl (gSkip (eR rfl) (congrArg Bool.not (nt h18)) rfl (oPickT (eR rfl) (congrArg Bool.not (nt h18)) eC (xNil (TQ.qn ⟨true, H, (wk_mkG [256] (kR rfl rfl (kR rfl rfl (kR rfl rfl (kR rfl rfl (kR rfl rfl SL.nil))))) (BL.drop rfl (BL.drop rfl (BL.keep rfl BL.nil))) (BK.cons rfl (bS rfl (bS rfl bZ)) rfl rfl BK.nil) GK.nil)⟩))))))
  ·exact AW.condF eZ (decide_eq_false h10) (AW.exit (TQ.qe (TQ.qe (BQ.qe (TQ.qn ⟨(), H, (wk_mkG [] (kR rfl rfl SL.nil) (BL.keep rfl BL.nil) (BK.cons rfl bZ rfl rfl BK.nil) GK.nil)⟩)))))
theorem c_impl_haveAll {a1 : (List TRange)} {a2 : TRange} {r : Bool} (H : m_impl_haveAll a1 a2 = some r) : Fn Tryz.prog k_impl_haveAll (lent [(.sl 2 (List.map d_TRange a1)), (.agg (d_TRange a2))]) true [(.bool r)] := by
 refine i_impl_haveAll_fn (fle rfl) ?_
 rw [init_mk]
 refine AW.weaken (wk_mk [] (kv 0 (.one (.d (.sl 2 (List.map d_TRange a1)))) rfl rfl (kv 1 (.agg [(dI a2.Lo), (dI a2.Hi)]) rfl rfl SL.nil)) BL.nil BK.nil) ?_
 unfold m_impl_haveAll at H
 unfold i_impl_haveAll
 refine aV (oBox (n := 192) (m := 2) (cs := [(dI a2.Lo), (dI a2.Hi)]) rfl (eR rfl) rfl rfl nZ (oMov eC (xQ (aV (oFaddrN (m := 0) (eR rfl) rfl (oLoadV (q := 0) (c := (dI a2.Lo)) eZ bZ rfl rfl (oMov eZ (xQ (AW.seqJ (fun t3 : Int => (impl_haveAll_j3 a2) t3 = some r) (fun t3 => mk [(3, (.one (.ptr (.nm 192 0 0)))), (5, (oI t3))] [(192, (.vars 2 [(dI a2.Lo), (dI a2.Hi)]))] noG) ?_ ?_)))))))))
 ·intro t3 H
  unfold impl_haveAll_j3 at H
  refine aV (oMov (eR rfl) (oFaddrN (m := 1) (eR rfl) rfl (oLoadV (q := 1) (c := (dI a2.Hi)) eZ bZ rfl rfl (oGeq (eR rfl) eZ (oMov eZ (xQ (AW.ret ?_)))))))
  cases H
  exact eE rfl rfl
 ·refine aV (oMov (eR rfl) (oLenD eZ (n := a1.length) (List.length_map _) (oMov eC (xQ (AW.block (AW.iter (fun s5 : (Int × Int) => mk [(3, (.one (.ptr (.nm 192 0 0)))), (5, (oI s5.1)), (10, (.one (.d (.sl 2 (List.map d_TRange a1))))), (11, (oI (a1.length : Int))), (12, (oI s5.2))] [(192, (.vars 2 [(dI a2.Lo), (dI a2.Hi)]))] noG) H (wk_mk [] (kR rfl rfl (kR rfl rfl (kR rfl rfl (kR rfl rfl (kR rfl rfl SL.nil))))) (BL.keep rfl BL.nil) (BK.cons rfl bZ rfl rfl BK.nil)) ?_))))))
  intro kb6 s5 H
  unfold impl_haveAll_b5 at H
  refine aV (oLss (eR rfl) (eR rfl) (xQ (aS ?_)))
  rcases oite H with ⟨h7, H⟩ | ⟨h7, H⟩
  ·refine AW.condT eZ (decide_eq_true h7) (AW.skip (TQ.qn (aS (AW.block (aV ?_)))))
   obtain ⟨v8, h9, H⟩ := obind H
   refine oAtD (eR rfl) (eR rfl) h9 (oLoadBA (es := [(dI v8.Lo), (dI v8.Hi)]) eZ rfl (oVar (n := 448) (m := 2) rfl rfl (nS rfl nZ) (oStoreV (es := [(dI v8.Lo), (dI v8.Hi)]) eZ (eR rfl) rfl rfl bZ rfl (xQ (AW.seqJ (fun t10 : Bool => (impl_haveAll_j10 kb6 v8 s5) t10 = some r) (fun t10 => mk [(3, (.one (.ptr (.nm 192 0 0)))), (5, (oI s5.1)), (7, (.one (.ptr (.nm 448 0 0)))), (10, (.one (.d (.sl 2 (List.map d_TRange a1))))), (11, (oI (a1.length : Int))), (12, (oI s5.2)), (25, (oB t10))] [(192, (.vars 2 [(dI a2.Lo), (dI a2.Hi)])), (448, (.vars 2 [(dI v8.Lo), (dI v8.Hi)]))] noG) ?_ ?_)))))
   ·intro t10 H
    unfold impl_haveAll_j10 at H
    rcases oite H with ⟨h12, H⟩ | ⟨h12, H⟩
    ·exact AW.condT (eR rfl) h12 (aR (oFaddrN (m := 1) (eR rfl) rfl (oLoadV (q := 1) (c := (dI v8.Hi)) eZ (bS rfl bZ) rfl rfl (oMov eZ (xNil (BQ.qn (TQ.qn (aR (oAdd (eR rfl) eC (oMov eZ (xNil (TQ.qn ⟨(v8.Hi, (IntKind.wrap .i64 (s5.2 + 1))), H, (wk_mk [448] (kR rfl rfl (kR rfl rfl (kR rfl rfl (kR rfl rfl (kR rfl rfl SL.nil))))) (BL.keep rfl (BL.drop rfl BL.nil)) (BK.cons rfl bZ rfl rfl BK.nil))⟩))))))))))))
    ·exact AW.condF (eR rfl) (nt h12) (AW.skip (BQ.qn (TQ.qn (aR (oAdd (eR rfl) eC (oMov eZ (xNil (TQ.qn ⟨(s5.1, (IntKind.wrap .i64 (s5.2 + 1))), H, (wk_mk [448] (kR rfl rfl (kR rfl rfl (kR rfl rfl (kR rfl rfl (kR rfl rfl SL.nil))))) (BL.keep rfl (BL.drop rfl BL.nil)) (BK.cons rfl bZ rfl rfl BK.nil))⟩))))))))
   ·refine aR (oFaddrN (m := 0) eZ rfl (oLoadV (q := 0) (c := (dI v8.Lo)) eZ bZ rfl rfl (oMov (eR rfl) (oLeq (eR rfl) eZ (oMov eZ ?_)))))
    rcases oite H with ⟨h13, H⟩ | ⟨h13, H⟩
    ·exact gDo eZ (decide_eq_true h13) (oMov (eR rfl) (gDo (eR rfl) (decide_eq_true h13) (oFaddrN (m := 1) (eR rfl) rfl (gDo (eR rfl) (decide_eq_true h13) (oLoadV (q := 1) (c := (dI v8.Hi)) eZ bZ rfl rfl (gDo (eR rfl) (decide_eq_true h13) (oLss (eR rfl) eZ (oPickT (eR rfl) (decide_eq_true h13) eZ (xNil (TQ.qn ⟨(decide (s5.1 < v8.Hi)), H, (wk_mk [] (kR rfl rfl (kR rfl rfl (kR rfl rfl (kR rfl rfl (kR rfl rfl (kR rfl rfl (kR rfl rfl SL.nil))))))) (BL.keep rfl (BL.keep rfl (BL.keep rfl BL.nil))) (BK.cons rfl (bS rfl (bS rfl bZ)) rfl rfl (BK.cons rfl bZ rfl rfl BK.nil)))⟩))))))))))
    ·exact gSkip eZ (decide_eq_false h13) rfl (gSkip (eR rfl) (decide_eq_false h13) rfl (gSkip (eR rfl) (decide_eq_false h13) rfl (gSkip (eR rfl) (decide_eq_false h13) rfl (oPickF (eR rfl) (decide_eq_false h13) eC (xNil (TQ.qn ⟨false, H, (wk_mk [] (kR rfl rfl (kR rfl rfl (kR rfl rfl (kR rfl rfl (kR rfl rfl (kR rfl rfl (kR rfl rfl SL.nil))))))) (BL.keep rfl (BL.keep rfl (BL.keep rfl BL.nil))) (BK.cons rfl (bS rfl (bS rfl bZ)) rfl rfl (BK.cons rfl bZ rfl rfl BK.nil)))⟩))))))
  ·exact AW.condF eZ (decide_eq_false h7) (AW.exit (TQ.qe (TQ.qe (BQ.qe (TQ.qn ⟨s5.1, H, (wk_mk [] (kR rfl rfl (kR rfl rfl SL.nil)) (BL.keep rfl BL.nil) (BK.cons rfl bZ rfl rfl BK.nil))⟩)))))
theorem c_impl_ShardOk_1 {a1 : TRange} {a2 : TShard} {r : Bool} (H : m_impl_ShardOk_1 a1 a2 = some r) : Fn Tryz.prog k_impl_ShardOk_1 (lent [(.agg (d_TRange a1)), (.ptr (d_TShard a2))]) true [(.bool r)] := by
 refine i_impl_ShardOk_1_fn (fle rfl) ?_
 rw [init_mk]
 refine AW.weaken (wk_mk [] (kv 0 (.agg [(dI a1.Lo), (dI a1.Hi)]) rfl rfl (SL.cons (v := (.one (.ptr (.bd (d_TShard a2) 0)))) (eS rfl eZ) rfl (VWk.one CWk.ptr) SL.nil)) BL.nil BK.nil) ?_
 unfold m_impl_ShardOk_1 at H
 unfold i_impl_ShardOk_1
 refine aV (oBox (n := 128) (m := 2) (cs := [(dI a1.Lo), (dI a1.Hi)]) rfl eZ rfl rfl nZ (oMov eC (xQ (aV (oFaddrB (m := 1) (eR rfl) rfl (oLoadB (e := (.sl 2 (List.map d_TRange a2.Own))) eZ rfl (oLoadVA (es := [(dI a1.Lo), (dI a1.Hi)]) (eR rfl) bZ rfl ?_)))))))
 obtain ⟨v3, h4, H⟩ := obind H
 refine oCall (u := (oB v3)) eC Cl.fn (c_impl_haveAll h4) (Evs.cons (eR rfl) (Evs.cons eZ Evs.nil)) (VDs.cons VD.plain (VDs.cons (VD.agg rfl) VDs.nil)) rfl (oInv eZ (oMov eZ (xQ (AW.ret ?_))))
 cases H
 exact eE rfl rfl
theorem c_slices_IndexFunc_Range__ShardOk_1 {a1 : (List TRange)} {a2 : TShard} {r : Int} (H : m_slices_IndexFunc_Range__ShardOk_1 a1 a2 = some r) : Fn Tryz.prog k_slices_IndexFunc___impl_Range_impl_Range_ (lent [(.sl 2 (List.map d_TRange a1)), (.fn k_impl_ShardOk_1 [.ptr (d_TShard a2)])]) true [(.int .i64 r)] := by
 refine i_slices_IndexFunc___impl_Range_impl_Range__fn (fle rfl) ?_
 rw [init_mk]
 refine AW.weaken (wk_mk [] (kv 0 (.one (.d (.sl 2 (List.map d_TRange a1)))) rfl rfl (SL.cons (v := (.one (.fn k_impl_ShardOk_1 [(.bd (d_TShard a2) 0)]))) (eS rfl eZ) rfl (VWk.one (CWk.fn (css := [d_TShard a2]))) SL.nil)) BL.nil BK.nil) ?_
 unfold m_slices_IndexFunc_Range__ShardOk_1 at H
 unfold i_slices_IndexFunc___impl_Range_impl_Range_
 refine aV (oMov eC (xQ (AW.seqJ (fun t3 : Unit => slices_IndexFunc_Range__ShardOk_1_j3 t3 = some r) (fun t3 => mk [] [] noG) ?_ ?_)))
 ·intro t3 H
  unfold slices_IndexFunc_Range__ShardOk_1_j3 at H
  refine aV (oMov eC (xQ (AW.ret ?_)))
  cases H
  exact eE rfl rfl
 ·refine aV (oMov (eR rfl) (oLenD eZ (n := a1.length) (List.length_map _) (oMov eC (xQ (AW.block (AW.iter (fun s5 : Int => mk [(0, (.one (.d (.sl 2 (List.map d_TRange a1))))), (1, (.one (.fn k_impl_ShardOk_1 [(.bd (d_TShard a2) 0)]))), (7, (oI (a1.length : Int))), (8, (oI s5))] [] noG) H (wk_mk [] (kR rfl rfl (kR rfl rfl (kR rfl rfl (kR rfl rfl SL.nil)))) BL.nil BK.nil) ?_))))))
  intro kb6 s5 H
  unfold slices_IndexFunc_Range__ShardOk_1_b5 at H
  refine aV (oLss (eR rfl) (eR rfl) (xQ (aS ?_)))
  rcases oite H with ⟨h7, H⟩ | ⟨h7, H⟩
  ·refine AW.condT eZ (decide_eq_true h7) (AW.skip (TQ.qn (aS (AW.block (aV (oMov (eR rfl) (oMov eZ (xQ (aV (oMov (eR rfl) (oMov (eR rfl) (oMov (eR rfl) ?_))))))))))))
   obtain ⟨v8, h9, H⟩ := obind H
   refine oAtD (eR rfl) eZ h9 (oLoadBA (es := [(dI v8.Lo), (dI v8.Hi)]) eZ rfl ?_)
   obtain ⟨v10, h11, H⟩ := obind H
   refine oCall (u := (oB v10)) (eR rfl) Cl.fn (c_impl_ShardOk_1 h11) (Evs.cons eZ Evs.nil) (VDs.cons (VD.agg rfl) (VDs.cons VD.ptrB VDs.nil)) rfl (xQ ?_)
   rcases oite H with ⟨h12, H⟩ | ⟨h12, H⟩
   ·refine AW.condT eZ h12 (aV (oMov (eR rfl) (oMov eZ (xQ (AW.ret (BQ.qr (TQ.qr (TQ.qr (BQ.qr (TQ.qr ?_))))))))))
    cases H
    exact eE rfl rfl
   ·exact AW.condF eZ (nt h12) (AW.skip (BQ.qn (TQ.qn (aR (oAdd (eR rfl) eC (oMov eZ (xNil (TQ.qn ⟨(IntKind.wrap .i64 (s5 + 1)), H, (wk_mk [] (kR rfl rfl (kR rfl rfl (kR rfl rfl (kR rfl rfl SL.nil)))) BL.nil BK.nil)⟩))))))))
  ·exact AW.condF eZ (decide_eq_false h7) (AW.exit (TQ.qe (TQ.qe (BQ.qe (TQ.qn ⟨(), H, (wk_mk [] SL.nil BL.nil BK.nil)⟩)))))
theorem c_slices_ContainsFunc_Range__ShardOk_1 {a1 : (List TRange)} {a2 : TShard} {r : Bool} (H : m_slices_ContainsFunc_Range__ShardOk_1 a1 a2 = some r) : Fn Tryz.prog k_slices_ContainsFunc___impl_Range_impl_Range_ (lent [(.sl 2 (List.map d_TRange a1)), (.fn k_impl_ShardOk_1 [.ptr (d_TShard a2)])]) true [(.bool r)] := by
 refine i_slices_ContainsFunc___impl_Range_impl_Range__fn (fle rfl) ?_
 rw [init_mk]
 refine AW.weaken (wk_mk [] (kv 0 (.one (.d (.sl 2 (List.map d_TRange a1)))) rfl rfl (SL.cons (v := (.one (.fn k_impl_ShardOk_1 [(.bd (d_TShard a2) 0)]))) (eS rfl eZ) rfl (VWk.one (CWk.fn (css := [d_TShard a2]))) SL.nil)) BL.nil BK.nil) ?_
 unfold m_slices_ContainsFunc_Range__ShardOk_1 at H
 unfold i_slices_ContainsFunc___impl_Range_impl_Range_
 refine aV (oMov eC (xQ (aV (oMov (eR rfl) (oMov (eR rfl) ?_)))))
 obtain ⟨v3, h4, H⟩ := obind H
 refine oCall (u := (oI v3)) eC Cl.fn (c_slices_IndexFunc_Range__ShardOk_1 h4) (Evs.cons (eR rfl) (Evs.cons eZ Evs.nil)) (VDs.cons VD.plain (VDs.cons (VD.fn (PDs.cons VD.ptrB PDs.nil)) VDs.nil)) rfl (oGeq eZ eC (oMov eZ (xQ (AW.ret ?_))))
 cases H
 exact eE rfl rfl
theorem c_impl_ShardOk_2 {a1 : TCell} {a2 : TShard} {r : Bool} (H : m_impl_ShardOk_2 a1 a2 = some r) : Fn Tryz.prog k_impl_ShardOk_2 (lent [(.agg (d_TCell a1)), (.ptr (d_TShard a2))]) true [(.bool r)] := by
 refine i_impl_ShardOk_2_fn (fle rfl) ?_
 rw [init_mk]
 refine AW.weaken (wk_mk [] (kv 0 (.agg [(dI a1.Key), (dI a1.Value)]) rfl rfl (SL.cons (v := (.one (.ptr (.bd (d_TShard a2) 0)))) (eS rfl eZ) rfl (VWk.one CWk.ptr) SL.nil)) BL.nil BK.nil) ?_
 unfold m_impl_ShardOk_2 at H
 unfold i_impl_ShardOk_2
 refine aV (oBox (n := 128) (m := 2) (cs := [(dI a1.Key), (dI a1.Value)]) rfl eZ rfl rfl nZ (oMov eC (xQ (aS (AW.regd (oFaddrB (m := 1) (eR rfl) rfl (oLoadB (e := (.sl 2 (List.map d_TRange a2.Own))) eZ rfl (oFaddrN (m := 0) (eR rfl) rfl (oLoadV (q := 0) (c := (dI a1.Key)) eZ bZ rfl rfl ?_)))))))))
 obtain ⟨v3, h4, H⟩ := obind H
 refine oCall (u := (.agg [(dI v3.Lo), (dI v3.Hi)])) eC Cl.fn (c_impl_one h4) (Evs.cons eZ Evs.nil) (VDs.cons VD.plain VDs.nil) rfl ?_
 obtain ⟨v5, h6, H⟩ := obind H
 refine oCall (u := (oB v5)) eC Cl.fn (c_impl_haveAll h6) (Evs.cons (eR rfl) (Evs.cons eZ Evs.nil)) (VDs.cons VD.plain (VDs.cons (VD.agg rfl) VDs.nil)) rfl (oInv eZ (oMov eZ (xQ (AW.ret ?_))))
 cases H
 exact eE rfl rfl
theorem c_slices_IndexFunc_Cell__ShardOk_2 {a1 : (List TCell)} {a2 : TShard} {r : Int} (H : m_slices_IndexFunc_Cell__ShardOk_2 a1 a2 = some r) : Fn Tryz.prog k_slices_IndexFunc___impl_Cell_impl_Cell_ (lent [(.sl 2 (List.map d_TCell a1)), (.fn k_impl_ShardOk_2 [.ptr (d_TShard a2)])]) true [(.int .i64 r)] := by
 refine i_slices_IndexFunc___impl_Cell_impl_Cell__fn (fle rfl) ?_
 rw [init_mk]
 refine AW.weaken (wk_mk [] (kv 0 (.one (.d (.sl 2 (List.map d_TCell a1)))) rfl rfl (SL.cons (v := (.one (.fn k_impl_ShardOk_2 [(.bd (d_TShard a2) 0)]))) (eS rfl eZ) rfl (VWk.one (CWk.fn (css := [d_TShard a2]))) SL.nil)) BL.nil BK.nil) ?_
 unfold m_slices_IndexFunc_Cell__ShardOk_2 at H
 unfold i_slices_IndexFunc___impl_Cell_impl_Cell_
 refine aV (oMov eC (xQ (AW.seqJ (fun t3 : Unit => slices_IndexFunc_Cell__ShardOk_2_j3 t3 = some r) (fun t3 => mk [] [] noG) ?_ ?_)))
 ·intro t3 H
  unfold slices_IndexFunc_Cell__ShardOk_2_j3 at H
  refine aV (oMov eC (xQ (AW.ret ?_)))
  cases H
  exact eE rfl rfl
 ·refine aV (oMov (eR rfl) (oLenD eZ (n := a1.length) (List.length_map _) (oMov eC (xQ (AW.block (AW.iter (fun s5 : Int => mk [(0, (.one (.d (.sl 2 (List.map d_TCell a1))))), (1, (.one (.fn k_impl_ShardOk_2 [(.bd (d_TShard a2) 0)]))), (7, (oI (a1.length : Int))), (8, (oI s5))] [] noG) H (wk_mk [] (kR rfl rfl (kR rfl rfl (kR rfl rfl (kR rfl rfl SL.nil)))) BL.nil BK.nil) ?_))))))
  intro kb6 s5 H
  unfold slices_IndexFunc_Cell__ShardOk_2_b5 at H
  refine aV (oLss (eR rfl) (eR rfl) (xQ (aS ?_)))
  rcases oite H with ⟨h7, H⟩ | ⟨h7, H⟩
  ·refine AW.condT eZ (decide_eq_true h7) (AW.skip (TQ.qn (aS (AW.block (aV (oMov (eR rfl) (oMov eZ (xQ (aV (oMov (eR rfl) (oMov (eR rfl) (oMov (eR rfl) ?_))))))))))))
   obtain ⟨v8, h9, H⟩ := obind H
   refine oAtD (eR rfl) eZ h9 (oLoadBA (es := [(dI v8.Key), (dI v8.Value)]) eZ rfl ?_)
   obtain ⟨v10, h11, H⟩ := obind H
   refine oCall (u := (oB v10)) (eR rfl) Cl.fn (c_impl_ShardOk_2 h11) (Evs.cons eZ Evs.nil) (VDs.cons (VD.agg rfl) (VDs.cons VD.ptrB VDs.nil)) rfl (xQ ?_)
   rcases oite H with ⟨h12, H⟩ | ⟨h12, H⟩
   ·refine AW.condT eZ h12 (aV (oMov (eR rfl) (oMov eZ (xQ (AW.ret (BQ.qr (TQ.qr (TQ.qr (BQ.qr (TQ.qr ?_))))))))))
    cases H
    exact eE rfl rfl
   ·exact AW.condF eZ (nt h12) (AW.skip (BQ.qn (TQ.qn (aR (oAdd (eR rfl) eC (oMov eZ (xNil (TQ.qn ⟨(IntKind.wrap .i64 (s5 + 1)), H, (wk_mk [] (kR rfl rfl (kR rfl rfl (kR rfl rfl (kR rfl rfl SL.nil)))) BL.nil BK.nil)⟩))))))))
  ·exact AW.condF eZ (decide_eq_false h7) (AW.exit (TQ.qe (TQ.qe (BQ.qe (TQ.qn ⟨(), H, (wk_mk [] SL.nil BL.nil BK.nil)⟩)))))
theorem c_slices_ContainsFunc_Cell__ShardOk_2 {a1 : (List TCell)} {a2 : TShard} {r : Bool} (H : m_slices_ContainsFunc_Cell__ShardOk_2 a1 a2 = some r) : Fn Tryz.prog k_slices_ContainsFunc___impl_Cell_impl_Cell_ (lent [(.sl 2 (List.map d_TCell a1)), (.fn k_impl_ShardOk_2 [.ptr (d_TShard a2)])]) true [(.bool r)] := by
 refine i_slices_ContainsFunc___impl_Cell_impl_Cell__fn (fle rfl) ?_
 rw [init_mk]
 refine AW.weaken (wk_mk [] (kv 0 (.one (.d (.sl 2 (List.map d_TCell a1)))) rfl rfl (SL.cons (v := (.one (.fn k_impl_ShardOk_2 [(.bd (d_TShard a2) 0)]))) (eS rfl eZ) rfl (VWk.one (CWk.fn (css := [d_TShard a2]))) SL.nil)) BL.nil BK.nil) ?_
 unfold m_slices_ContainsFunc_Cell__ShardOk_2 at H
 unfold i_slices_ContainsFunc___impl_Cell_impl_Cell_
 refine aV (oMov eC (xQ (aV (oMov (eR rfl) (oMov (eR rfl) ?_)))))
 obtain ⟨v3, h4, H⟩ := obind H
 refine oCall (u := (oI v3)) eC Cl.fn (c_slices_IndexFunc_Cell__ShardOk_2 h4) (Evs.cons (eR rfl) (Evs.cons eZ Evs.nil)) (VDs.cons VD.plain (VDs.cons (VD.fn (PDs.cons VD.ptrB PDs.nil)) VDs.nil)) rfl (oGeq eZ eC (oMov eZ (xQ (AW.ret ?_))))
 cases H
 exact eE rfl rfl
theorem c_slices_Grow_int {a1 r : List Int} {a2 : Int} (H : m_slices_Grow_int a1 a2 = some r) : Fn Tryz.prog k_slices_Grow___int_int_ [⟨(.sl 1 []), .z⟩, ⟨(.int .i64 a2), .b⟩] true [(.sl 1 (List.map d_i64 r))] := by
 obtain ⟨⟨h1, h2⟩, H⟩ := oguard H
 cases H
 obtain ⟨n, rfl⟩ : ∃ n : Nat, a2 = (n : Int) := ⟨Int.toNat a2, by omega⟩
 exact grow_ok Tryz.grow102 (by kernel_rfl) (by kernel_rfl) (by kernel_rfl) n (by omega)
theorem c_slices_Concat_int {a1 : (List (List Int))} {r : (List Int)} (H : m_slices_Concat_int a1 = some r) : Fn Tryz.prog k_slices_Concat___int_int_ (lent [(.sl 1 (List.map dS_i64 a1))]) true [(.sl 1 (List.map d_i64 r))] := by
 refine i_slices_Concat___int_int__fn (fle rfl) ?_
 rw [init_mk]
 refine AW.weaken (t := mk [(0, (.one (.d (.sl 1 (List.map dS_i64 a1)))))] [] (lk [])) (wk_mk [] (kv 0 (.one (.d (.sl 1 (List.map dS_i64 a1)))) rfl rfl SL.nil) BL.nil BK.nil) ?_
 unfold m_slices_Concat_int at H
 unfold i_slices_Concat___int_int_
 refine aV (oMov eC (xQ (aV (oMov eC (xQ (AW.seqJ (fun t2 : Int => (slices_Concat_int_j2 a1) t2 = some r) (fun t2 => mk [(0, (.one (.d (.sl 1 (List.map dS_i64 a1))))), (3, (oI t2))] [] (lk [])) ?_ ?_))))))
 ·intro t2 H
  unfold slices_Concat_int_j2 at H
  refine aS (AW.regm (rmOne (oMov (eR rfl) (xNil ?_))))
  obtain ⟨v4, h5, H⟩ := obind H
  refine rmCall (ON := []) (ls := []) (G := []) (E := []) (MB := []) (u := (.one (.sl 1536 0 v4.length))) (bs := [(1536, (.data 1 (List.map d_i64 v4) true none))]) eC Cl.fn (c_slices_Grow_int h5) (Evs.cons eC (Evs.cons eZ Evs.nil)) (AO.zs (AO.lent VD.plain rfl AO.nil)) rfl rfl rfl SZ.nil (erL.cons (v' := (oI t2)) rfl (erL.cons (v' := (.one (.d (.sl 1 (List.map dS_i64 a1))))) rfl (erL.cons (v' := (oI t2)) rfl erL.nil))) erH.nil erL.nil (by simp [bindR, bindV, bindVs, bindC, bindCs]) rfl (fC nZ rfl (fC nZ rfl fN)) (rmRest (oMov eZ (xQ (AW.seqJ (fun t6 : (List Int) => slices_Concat_int_j6 t6 = some r) (fun t6 => mk [(6, (.one (.sl 320128 0 t6.length)))] [(320128, (.data 1 (List.map d_i64 t6) true none))] (lk [])) ?_ ?_))))
  ·intro t6 H
   unfold slices_Concat_int_j6 at H
   refine aV (oMov eZ (oMov eZ (xQ (AW.ret ?_))))
   cases H
   exact endsR (RL.cons (RV.tmp eZ) (VO.sl bZ (List.length_map _) (allFlat fun _ => rfl)) RL.nil) (by decide)
  ·refine aV (oMov (eR rfl) (oLenD eZ (n := a1.length) (List.length_map _) (oMov eC (xQ (AW.block (AW.iter (fun s8 : ((List Int) × Int) => mk [(6, (.one (.sl 320192 0 s8.1.length))), (25, (.one (.d (.sl 1 (List.map dS_i64 a1))))), (26, (oI (a1.length : Int))), (27, (oI s8.2))] [(320192, (.data 1 (List.map d_i64 s8.1) true none))] (lk [])) H ((wk_mkG [] (kR rfl rfl (kR rfl rfl (kR rfl rfl (kR rfl rfl SL.nil)))) (BL.keep rfl BL.nil) (BK.cons rfl bZ rfl rfl BK.nil) GK.nil).trans (wk_renG 1536 320192 rfl rfl (nS rfl nZ) GR.nil)) ?_))))))
   intro kb9 s8 H
   unfold slices_Concat_int_b8 at H
   refine aV (oLss (eR rfl) (eR rfl) (xQ (aS ?_)))
   rcases oite H with ⟨h10, H⟩ | ⟨h10, H⟩
   ·refine AW.condT eZ (decide_eq_true h10) (AW.skip (TQ.qn (aS (AW.block (aV ?_)))))
    obtain ⟨v11, h12, H⟩ := obind H
    refine oAtD (eR rfl) (eR rfl) h12 (oLoadB (e := (.sl 1 (List.map d_i64 v11))) eZ rfl (oMov eZ (xQ (aR (oMov (eR rfl) (oMov (eR rfl) ?_))))))
    obtain ⟨h13, H⟩ := oguard H
    exact oAppNG (f := d_i64) (xs := s8.1) (ys := v11) (q := (s8.1 ++ v11).length) (eR rfl) eZ bZ rfl (El.lent fun _ _ => rfl) rfl h13 (by decide) (by decide) (erL.cons (v' := (.one (.d (.sl 1 (List.map d_i64 v11))))) rfl (erL.cons (v' := (.one .any)) rfl (erL.cons (v' := (.one (.d (.sl 1 (List.map d_i64 v11))))) rfl (erL.cons (v' := (.one (.d (.sl 1 (List.map d_i64 v11))))) rfl (erL.cons (v' := (.one (.ptr (.bd (dS_i64 v11) 0)))) rfl (erL.cons (v' := (oB (decide (s8.2 < (a1.length : Int))))) rfl (erL.cons (v' := (.one .any)) rfl (erL.cons (v' := (.one (.d (.sl 1 (List.map dS_i64 a1))))) rfl (erL.cons (v' := (oI (a1.length : Int))) rfl (erL.cons (v' := (oI s8.2)) rfl erL.nil)))))))))) (erH.drop rfl erH.nil) GK.nil (oMov eZ (xNil (BQ.qn (TQ.qn (aR (oAdd (eR rfl) eC (oMov eZ (xNil (TQ.qn ⟨((s8.1 ++ v11), (IntKind.wrap .i64 (s8.2 + 1))), H, (wk_mkG [] (kR rfl rfl (kR rfl rfl (kR rfl rfl (kR rfl rfl SL.nil)))) (BL.keep rfl BL.nil) (BK.cons rfl bZ rfl rfl BK.nil) GK.nil)⟩)))))))))
   ·exact AW.condF eZ (decide_eq_false h10) (AW.exit (TQ.qe (TQ.qe (BQ.qe (TQ.qn ⟨s8.1, H, ((wk_mkG [] (kR rfl rfl SL.nil) (BL.keep rfl BL.nil) (BK.cons rfl bZ rfl rfl BK.nil) GK.nil).trans (wk_renG 320192 320128 rfl rfl (nS rfl nZ) GR.nil))⟩)))))
 ·refine aV (oMov (eR rfl) (oLenD eZ (n := a1.length) (List.length_map _) (oMov eC (xQ (AW.block (AW.iter (fun s14 : (Int × Int) => mk [(0, (.one (.d (.sl 1 (List.map dS_i64 a1))))), (3, (oI s14.1)), (9, (.one (.d (.sl 1 (List.map dS_i64 a1))))), (10, (oI (a1.length : Int))), (11, (oI s14.2))] [] (lk [])) H (wk_mkG [] (kR rfl rfl (kR rfl rfl (kR rfl rfl (kR rfl rfl (kR rfl rfl SL.nil))))) BL.nil BK.nil GK.nil) ?_))))))
  intro kb15 s14 H
  unfold slices_Concat_int_b14 at H
  refine aV (oLss (eR rfl) (eR rfl) (xQ (aS ?_)))
  rcases oite H with ⟨h16, H⟩ | ⟨h16, H⟩
  ·refine AW.condT eZ (decide_eq_true h16) (AW.skip (TQ.qn (aS (AW.block (aV ?_)))))
   obtain ⟨v17, h18, H⟩ := obind H
   refine oAtD (eR rfl) (eR rfl) h18 (oLoadB (e := (.sl 1 (List.map d_i64 v17))) eZ rfl (oMov eZ (xQ (aV (oMov (eR rfl) (oMov (eR rfl) (oLenD eZ (n := v17.length) (List.length_map _) (oAdd (eR rfl) eZ (oMov eZ (xQ (aV (oMov eZ (oLss eZ eC (xQ (AW.weaken (wk_mkG [] (kr 20 rfl rfl (kr 3 rfl rfl (kr 0 rfl rfl (kr 9 rfl rfl (kr 10 rfl rfl (kr 11 rfl rfl SL.nil)))))) BL.nil BK.nil GK.nil) ?_)))))))))))))))
   rcases oite H with ⟨h19, H⟩ | ⟨h19, H⟩
   ·refine AW.condT eZ (decide_eq_true h19) (aR ?_)
    cases H
   ·exact AW.condF eZ (decide_eq_false h19) (AW.skip (BQ.qn (TQ.qn (aR (oAdd (eR rfl) eC (oMov eZ (xNil (TQ.qn ⟨((IntKind.wrap .i64 (s14.1 + (v17.length : Int))), (IntKind.wrap .i64 (s14.2 + 1))), H, (wk_mkG [] (kR rfl rfl (kR rfl rfl (kR rfl rfl (kR rfl rfl (kR rfl rfl SL.nil))))) BL.nil BK.nil GK.nil)⟩))))))))
  ·exact AW.condF eZ (decide_eq_false h16) (AW.exit (TQ.qe (TQ.qe (BQ.qe (TQ.qn ⟨s14.1, H, (wk_mkG [] (kR rfl rfl (kR rfl rfl SL.nil)) BL.nil BK.nil GK.nil)⟩)))))
theorem c_slices_Index_int {a1 : (List Int)} {a2 : Int} {r : Int} (H : m_slices_Index_int a1 a2 = some r) : Fn Tryz.prog k_slices_Index___int_int_ (lent [(.sl 1 (List.map d_i64 a1)), (.int .i64 a2)]) true [(.int .i64 r)] := by
 refine i_slices_Index___int_int__fn (fle rfl) ?_
 rw [init_mk]
 refine AW.weaken (wk_mk [] (kv 0 (.one (.d (.sl 1 (List.map d_i64 a1)))) rfl rfl (kv 1 (oI a2) rfl rfl SL.nil)) BL.nil BK.nil) ?_
 unfold m_slices_Index_int at H
 unfold i_slices_Index___int_int_
 refine aV (oMov eC (xQ (AW.seqJ (fun t3 : Unit => slices_Index_int_j3 t3 = some r) (fun t3 => mk [] [] noG) ?_ ?_)))
 ·intro t3 H
  unfold slices_Index_int_j3 at H
  refine aV (oMov eC (xQ (AW.ret ?_)))
  cases H
  exact eE rfl rfl
 ·refine aV (oMov (eR rfl) (oLenD eZ (n := a1.length) (List.length_map _) (oMov eC (xQ (AW.block (AW.iter (fun s5 : Int => mk [(0, (.one (.d (.sl 1 (List.map d_i64 a1))))), (1, (oI a2)), (7, (oI (a1.length : Int))), (8, (oI s5))] [] noG) H (wk_mk [] (kR rfl rfl (kR rfl rfl (kR rfl rfl (kR rfl rfl SL.nil)))) BL.nil BK.nil) ?_))))))
  intro kb6 s5 H
  unfold slices_Index_int_b5 at H
  refine aV (oLss (eR rfl) (eR rfl) (xQ (aS ?_)))
  rcases oite H with ⟨h7, H⟩ | ⟨h7, H⟩
  ·refine AW.condT eZ (decide_eq_true h7) (AW.skip (TQ.qn (aS (AW.block (aV (oMov (eR rfl) (oMov eZ (xQ (aV (oMov (eR rfl) (oMov (eR rfl) (oMov (eR rfl) ?_))))))))))))
   obtain ⟨v8, h9, H⟩ := obind H
   refine oAtD (eR rfl) eZ h9 (oLoadB (e := (.int .i64 v8)) eZ rfl (oEql (eR rfl) eZ (xQ ?_)))
   rcases oite H with ⟨h10, H⟩ | ⟨h10, H⟩
   ·refine AW.condT eZ (decide_eq_true h10) (aV (oMov (eR rfl) (oMov eZ (xQ (AW.ret (BQ.qr (TQ.qr (TQ.qr (BQ.qr (TQ.qr ?_))))))))))
    cases H
    exact eE rfl rfl
   ·exact AW.condF eZ (decide_eq_false h10) (AW.skip (BQ.qn (TQ.qn (aR (oAdd (eR rfl) eC (oMov eZ (xNil (TQ.qn ⟨(IntKind.wrap .i64 (s5 + 1)), H, (wk_mk [] (kR rfl rfl (kR rfl rfl (kR rfl rfl (kR rfl rfl SL.nil)))) BL.nil BK.nil)⟩))))))))
  ·exact AW.condF eZ (decide_eq_false h7) (AW.exit (TQ.qe (TQ.qe (BQ.qe (TQ.qn ⟨(), H, (wk_mk [] SL.nil BL.nil BK.nil)⟩)))))
theorem c_slices_Contains_int {a1 : (List Int)} {a2 : Int} {r : Bool} (H : m_slices_Contains_int a1 a2 = some r) : Fn Tryz.prog k_slices_Contains___int_int_ (lent [(.sl 1 (List.map d_i64 a1)), (.int .i64 a2)]) true [(.bool r)] := by
 refine i_slices_Contains___int_int__fn (fle rfl) ?_
 rw [init_mk]
 refine AW.weaken (wk_mk [] (kv 0 (.one (.d (.sl 1 (List.map d_i64 a1)))) rfl rfl (kv 1 (oI a2) rfl rfl SL.nil)) BL.nil BK.nil) ?_
 unfold m_slices_Contains_int at H
 unfold i_slices_Contains___int_int_
 refine aV (oMov eC (xQ (aV (oMov (eR rfl) (oMov (eR rfl) ?_)))))
 obtain ⟨v3, h4, H⟩ := obind H
 refine oCall (u := (oI v3)) eC Cl.fn (c_slices_Index_int h4) (Evs.cons (eR rfl) (Evs.cons eZ Evs.nil)) (VDs.cons VD.plain (VDs.cons VD.plain VDs.nil)) rfl (oGeq eZ eC (oMov eZ (xQ (AW.ret ?_))))
 cases H
 exact eE rfl rfl
theorem c_impl_ShardOk_3 {a1 : TLock} {a2 : TShard} {a3 : (List Int)} {r : Bool} (H : m_impl_ShardOk_3 a1 a2 a3 = some r) : Fn Tryz.prog k_impl_ShardOk_3 (lent [(.agg (d_TLock a1)), (.ptr (d_TShard a2)), (.ptr (dS_i64 a3))]) true [(.bool r)] := by
 refine i_impl_ShardOk_3_fn (fle rfl) ?_
 rw [init_mk]
 refine AW.weaken (wk_mk [] (kv 0 (.agg [(dI a1.Tx), (dI a1.Lo), (dI a1.Hi), (dI a1.Mode)]) rfl rfl (SL.cons (v := (.one (.ptr (.bd (d_TShard a2) 0)))) (eS rfl eZ) rfl (VWk.one CWk.ptr) (SL.cons (v := (.one (.ptr (.bd (dS_i64 a3) 0)))) (eS rfl (eS rfl eZ)) rfl (VWk.one CWk.ptr) SL.nil))) BL.nil BK.nil) ?_
 unfold m_impl_ShardOk_3 at H
 unfold i_impl_ShardOk_3
 refine aV (oBox (n := 192) (m := 4) (cs := [(dI a1.Tx), (dI a1.Lo), (dI a1.Hi), (dI a1.Mode)]) rfl eZ rfl rfl nZ (oMov eC (xQ (aS (AW.regd (oFaddrB (m := 1) (eR rfl) rfl (oLoadB (e := (.sl 2 (List.map d_TRange a2.Own))) eZ rfl (oLoadVA (es := [(dI a1.Tx), (dI a1.Lo), (dI a1.Hi), (dI a1.Mode)]) (eR rfl) bZ rfl ?_))))))))
 obtain ⟨v4, h5, H⟩ := obind H
 refine oCall (u := (.agg [(dI v4.Lo), (dI v4.Hi)])) eC Cl.fn (c_impl_Lock_keys h5) (Evs.cons eZ Evs.nil) (VDs.cons (VD.agg rfl) VDs.nil) rfl ?_
 obtain ⟨v6, h7, H⟩ := obind H
 refine oCall (u := (oB v6)) eC Cl.fn (c_impl_haveAll h7) (Evs.cons (eR rfl) (Evs.cons eZ Evs.nil)) (VDs.cons VD.plain (VDs.cons (VD.agg rfl) VDs.nil)) rfl (oInv eZ (oMov eZ ?_))
 rcases oite H with ⟨h8, H⟩ | ⟨h8, H⟩
 ·refine gDo eZ (congrArg Bool.not h8) (oLoadB (e := (.sl 1 (List.map d_i64 a3))) (eR rfl) rfl (gDo (eR rfl) (congrArg Bool.not h8) (oFaddrN (m := 0) (eR rfl) rfl (gDo (eR rfl) (congrArg Bool.not h8) (oLoadV (q := 0) (c := (dI a1.Tx)) eZ bZ rfl rfl (gDo (eR rfl) (congrArg Bool.not h8) ?_))))))
  obtain ⟨v9, h10, H⟩ := obind H
  refine oCall (u := (oB v9)) eC Cl.fn (c_slices_Contains_int h10) (Evs.cons (eR rfl) (Evs.cons eZ Evs.nil)) (VDs.cons VD.plain (VDs.cons VD.plain VDs.nil)) rfl (oPickF (eR rfl) (congrArg Bool.not h8) eZ (oMov eZ (xQ (AW.weaken (wk_mk [192] (kr 4 rfl rfl SL.nil) (BL.drop rfl BL.nil) BK.nil) (AW.ret ?_)))))
  cases H
  exact eE rfl rfl
 ·refine gSkip eZ (congrArg Bool.not (nt h8)) rfl (gSkip (eR rfl) (congrArg Bool.not (nt h8)) rfl (gSkip (eR rfl) (congrArg Bool.not (nt h8)) rfl (gSkip (eR rfl) (congrArg Bool.not (nt h8)) rfl (oPickT (eR rfl) (congrArg Bool.not (nt h8)) eC (oMov eZ (xQ (AW.weaken (wk_mk [192] (kr 4 rfl rfl SL.nil) (BL.drop rfl BL.nil) BK.nil) (AW.ret ?_))))))))
  cases H
  exact eE rfl rfl
theorem c_slices_IndexFunc_Lock__ShardOk_3 {a1 : (List TLock)} {a2 : TShard} {a3 : (List Int)} {r : Int} (H : m_slices_IndexFunc_Lock__ShardOk_3 a1 a2 a3 = some r) : Fn Tryz.prog k_slices_IndexFunc___impl_Lock_impl_Lock_ (lent [(.sl 4 (List.map d_TLock a1)), (.fn k_impl_ShardOk_3 [.ptr (d_TShard a2), .ptr (dS_i64 a3)])]) true [(.int .i64 r)] := by
 refine i_slices_IndexFunc___impl_Lock_impl_Lock__fn (fle rfl) ?_
 rw [init_mk]
 refine AW.weaken (wk_mk [] (kv 0 (.one (.d (.sl 4 (List.map d_TLock a1)))) rfl rfl (SL.cons (v := (.one (.fn k_impl_ShardOk_3 [(.bd (d_TShard a2) 0), (.bd (dS_i64 a3) 0)]))) (eS rfl eZ) rfl (VWk.one (CWk.fn (css := [d_TShard a2, dS_i64 a3]))) SL.nil)) BL.nil BK.nil) ?_
 unfold m_slices_IndexFunc_Lock__ShardOk_3 at H
 unfold i_slices_IndexFunc___impl_Lock_impl_Lock_
 refine aV (oMov eC (xQ (AW.seqJ (fun t4 : Unit => slices_IndexFunc_Lock__ShardOk_3_j4 t4 = some r) (fun t4 => mk [] [] noG) ?_ ?_)))
 ·intro t4 H
  unfold slices_IndexFunc_Lock__ShardOk_3_j4 at H
  refine aV (oMov eC (xQ (AW.ret ?_)))
  cases H
  exact eE rfl rfl
 ·refine aV (oMov (eR rfl) (oLenD eZ (n := a1.length) (List.length_map _) (oMov eC (xQ (AW.block (AW.iter (fun s6 : Int => mk [(0, (.one (.d (.sl 4 (List.map d_TLock a1))))), (1, (.one (.fn k_impl_ShardOk_3 [(.bd (d_TShard a2) 0), (.bd (dS_i64 a3) 0)]))), (7, (oI (a1.length : Int))), (8, (oI s6))] [] noG) H (wk_mk [] (kR rfl rfl (kR rfl rfl (kR rfl rfl (kR rfl rfl SL.nil)))) BL.nil BK.nil) ?_))))))
  intro kb7 s6 H
  unfold slices_IndexFunc_Lock__ShardOk_3_b6 at H
  refine aV (oLss (eR rfl) (eR rfl) (xQ (aS ?_)))
  rcases oite H with ⟨h8, H⟩ | ⟨h8, H⟩
  ·refine AW.condT eZ (decide_eq_true h8) (AW.skip (TQ.qn (aS (AW.block (aV (oMov (eR rfl) (oMov eZ (xQ (aV (oMov (eR rfl) (oMov (eR rfl) (oMov (eR rfl) ?_))))))))))))
   obtain ⟨v9, h10, H⟩ := obind H
   refine oAtD (eR rfl) eZ h10 (oLoadBA (es := [(dI v9.Tx), (dI v9.Lo), (dI v9.Hi), (dI v9.Mode)]) eZ rfl ?_)
   obtain ⟨v11, h12, H⟩ := obind H
   refine oCall (u := (oB v11)) (eR rfl) Cl.fn (c_impl_ShardOk_3 h12) (Evs.cons eZ Evs.nil) (VDs.cons (VD.agg rfl) (VDs.cons VD.ptrB (VDs.cons VD.ptrB VDs.nil))) rfl (xQ ?_)
   rcases oite H with ⟨h13, H⟩ | ⟨h13, H⟩
   ·refine AW.condT eZ h13 (aV (oMov (eR rfl) (oMov eZ (xQ (AW.ret (BQ.qr (TQ.qr (TQ.qr (BQ.qr (TQ.qr ?_))))))))))
    cases H
    exact eE rfl rfl
   ·exact AW.condF eZ (nt h13) (AW.skip (BQ.qn (TQ.qn (aR (oAdd (eR rfl) eC (oMov eZ (xNil (TQ.qn ⟨(IntKind.wrap .i64 (s6 + 1)), H, (wk_mk [] (kR rfl rfl (kR rfl rfl (kR rfl rfl (kR rfl rfl SL.nil)))) BL.nil BK.nil)⟩))))))))
  ·exact AW.condF eZ (decide_eq_false h8) (AW.exit (TQ.qe (TQ.qe (BQ.qe (TQ.qn ⟨(), H, (wk_mk [] SL.nil BL.nil BK.nil)⟩)))))
theorem c_slices_ContainsFunc_Lock__ShardOk_3 {a1 : (List TLock)} {a2 : TShard} {a3 : (List Int)} {r : Bool} (H : m_slices_ContainsFunc_Lock__ShardOk_3 a1 a2 a3 = some r) : Fn Tryz.prog k_slices_ContainsFunc___impl_Lock_impl_Lock_ (lent [(.sl 4 (List.map d_TLock a1)), (.fn k_impl_ShardOk_3 [.ptr (d_TShard a2), .ptr (dS_i64 a3)])]) true [(.bool r)] := by
 refine i_slices_ContainsFunc___impl_Lock_impl_Lock__fn (fle rfl) ?_
 rw [init_mk]
 refine AW.weaken (wk_mk [] (kv 0 (.one (.d (.sl 4 (List.map d_TLock a1)))) rfl rfl (SL.cons (v := (.one (.fn k_impl_ShardOk_3 [(.bd (d_TShard a2) 0), (.bd (dS_i64 a3) 0)]))) (eS rfl eZ) rfl (VWk.one (CWk.fn (css := [d_TShard a2, dS_i64 a3]))) SL.nil)) BL.nil BK.nil) ?_
 unfold m_slices_ContainsFunc_Lock__ShardOk_3 at H
 unfold i_slices_ContainsFunc___impl_Lock_impl_Lock_
 refine aV (oMov eC (xQ (aV (oMov (eR rfl) (oMov (eR rfl) ?_)))))
 obtain ⟨v4, h5, H⟩ := obind H
 refine oCall (u := (oI v4)) eC Cl.fn (c_slices_IndexFunc_Lock__ShardOk_3 h5) (Evs.cons (eR rfl) (Evs.cons eZ Evs.nil)) (VDs.cons VD.plain (VDs.cons (VD.fn (PDs.cons VD.ptrB (PDs.cons VD.ptrB PDs.nil))) VDs.nil)) rfl (oGeq eZ eC (oMov eZ (xQ (AW.ret ?_))))
 cases H
 exact eE rfl rfl
theorem c_slices_Sort_int {a1 r : List Int} (H : m_slices_Sort_int a1 = some r) : Fn Tryz.prog k_slices_Sort___int_int_ [⟨(.sl 1 (List.map d_i64 a1)), .m (.sl 1 (List.map d_i64 r))⟩] true [] := by
 obtain ⟨h, H⟩ := oguard H
 cases H
 exact sort_fn Tryz.lays189 (by kernel_rfl) (by kernel_rfl) a1 (by omega)
theorem c_slices_Clone_int {a1 : (List Int)} {r : (List Int)} (H : m_slices_Clone_int a1 = some r) : Fn Tryz.prog k_slices_Clone___int_int_ (lent [(.sl 1 (List.map d_i64 a1))]) true [(.sl 1 (List.map d_i64 r))] := by
 refine i_slices_Clone___int_int__fn (fle rfl) ?_
 rw [init_mk]
 refine AW.weaken (wk_mk [] (kv 0 (.one (.d (.sl 1 (List.map d_i64 a1)))) rfl rfl SL.nil) BL.nil BK.nil) ?_
 unfold m_slices_Clone_int at H
 unfold i_slices_Clone___int_int_
 refine aV (oMov eC (xQ (AW.seqJ (fun t2 : Unit => (slices_Clone_int_j2 a1) t2 = some r) (fun t2 => mk [(0, (.one (.d (.sl 1 (List.map d_i64 a1)))))] [] noG) ?_ ?_)))
 ·intro t2 H
  unfold slices_Clone_int_j2 at H
  refine aV (oBsliceZ (m := 320) rfl nZ (oMov (eR rfl) ?_))
  obtain ⟨h4, H⟩ := oguard H
  refine oAppZ (f := d_i64) (m := 448) (own := true) (ys := a1) (q := a1.length) rfl rfl (eR rfl) eZ (El.lent fun _ _ => rfl) rfl h4 (by decide) nZ (oMov eZ (xQ (AW.ret ?_)))
  cases H
  exact endsR (RL.cons (RV.tmp eZ) (VO.sl bZ (List.length_map _) (allFlat fun _ => rfl)) RL.nil) (by decide)
 ·refine aV (oMov (eR rfl) ?_)
  rcases oite H with ⟨h5, H⟩ | ⟨h5, H⟩
  ·refine oNilD0 eZ h5 (xQ (AW.condU eZ ?_ ?_))
   ·have H : (some ([] : (List Int))) = some r := by rw [← H]; simp [List.eq_nil_of_length_eq_zero h5, slices_Clone_int_j2]
    refine aV (oMov eC (xQ (AW.ret (TQ.qr ?_))))
    cases H
    exact endsR (RL.cons (RV.tmp eZ) VO.zs RL.nil) List.nodup_nil
   ·exact AW.skip (TQ.qn ⟨(), H, (wk_mk [] (kR rfl rfl SL.nil) BL.nil BK.nil)⟩)
  ·exact oNilD eZ h5 (xQ (AW.condF eZ rfl (AW.skip (TQ.qn ⟨(), H, (wk_mk [] (kR rfl rfl SL.nil) BL.nil BK.nil)⟩))))
theorem c_slices_Compact_int {a1 r : List Int} (H : m_slices_Compact_int a1 = some r) : Fn Tryz.prog k_slices_Compact___int_int_ [⟨(.sl 1 (List.map d_i64 a1)), .g⟩] true [(.sl 1 (List.map d_i64 r))] := by
 obtain ⟨h, H⟩ := oguard H
 cases H
 exact compact_fn Tryz.laysNm220 (by kernel_rfl) (by kernel_rfl) a1 (by omega)
theorem c_impl_cellFor_1 {a1 : TCell} {a2 : Int} {r : Int} (H : m_impl_cellFor_1 a1 a2 = some r) : Fn Tryz.prog k_impl_cellFor_1 (lent [(.agg (d_TCell a1)), (.int .i64 a2)]) true [(.int .i64 r)] := by
 refine i_impl_cellFor_1_fn (fle rfl) ?_
 rw [init_mk]
 refine AW.weaken (wk_mk [] (kv 0 (.agg [(dI a1.Key), (dI a1.Value)]) rfl rfl (kv 1 (oI a2) rfl rfl SL.nil)) BL.nil BK.nil) ?_
 unfold m_impl_cellFor_1 at H
 unfold i_impl_cellFor_1
 refine aV (oBox (n := 128) (m := 2) (cs := [(dI a1.Key), (dI a1.Value)]) rfl eZ rfl rfl nZ (oMov eC (xQ (aV (oFaddrN (m := 0) (eR rfl) rfl (oLoadV (q := 0) (c := (dI a1.Key)) eZ bZ rfl rfl (oMov (eR rfl) (oSub (eR rfl) eZ (oMov eZ (xQ (AW.ret ?_)))))))))))
 cases H
 exact eE rfl rfl
theorem c_slices_BinarySearchFunc_Cell_int__cellFor_1 {a1 : (List TCell)} {a2 : Int} {r : (Int × Bool)} (H : m_slices_BinarySearchFunc_Cell_int__cellFor_1 a1 a2 = some r) : Fn Tryz.prog k_slices_BinarySearchFunc___impl_Cell_impl_Cell_int_ (lent [(.sl 2 (List.map d_TCell a1)), (.int .i64 a2), (.fn k_impl_cellFor_1 [])]) true [(.int .i64 r.1), (.bool r.2)] := by
 refine i_slices_BinarySearchFunc___impl_Cell_impl_Cell_int__fn (fle rfl) ?_
 rw [init_mk]
 refine AW.weaken (wk_mk [] (kv 0 (.one (.d (.sl 2 (List.map d_TCell a1)))) rfl rfl (kv 1 (oI a2) rfl rfl (SL.cons (v := (.one (.fn k_impl_cellFor_1 []))) (eS rfl (eS rfl eZ)) rfl (VWk.one (CWk.fn (css := []))) SL.nil))) BL.nil BK.nil) ?_
 unfold m_slices_BinarySearchFunc_Cell_int__cellFor_1 at H
 unfold i_slices_BinarySearchFunc___impl_Cell_impl_Cell_int_
 refine aV (oMov eC (oMov eC (xQ (aV (oMov (eR rfl) (oLenD eZ (n := a1.length) (List.length_map _) (oMov eZ (xQ (aV (oMov eZ (oMov eC (oMov (eR rfl) (xQ (AW.seqJ (fun t3 : Int => (slices_BinarySearchFunc_Cell_int__cellFor_1_j3 a1 a2) t3 = some r) (fun t3 => mk [(0, (.one (.d (.sl 2 (List.map d_TCell a1))))), (1, (oI a2)), (2, (.one (.fn k_impl_cellFor_1 []))), (8, (oI (a1.length : Int))), (9, (oI t3))] [] noG) ?_ ?_))))))))))))))
 ·intro t3 H
  unfold slices_BinarySearchFunc_Cell_int__cellFor_1_j3 at H
  refine aV (oMov (eR rfl) (oMov (eR rfl) (oMov (eR rfl) (oLss (eR rfl) eZ (oMov eZ ?_)))))
  rcases oite H with ⟨h5, H⟩ | ⟨h5, H⟩
  ·refine gDo eZ (decide_eq_true h5) (oMov (eR rfl) (gDo (eR rfl) (decide_eq_true h5) (oMov (eR rfl) (gDo (eR rfl) (decide_eq_true h5) (oMov (eR rfl) (gDo (eR rfl) (decide_eq_true h5) ?_))))))
   obtain ⟨v6, h7, H⟩ := obind H
   refine oAtD (eR rfl) eZ h7 (gDo (eR rfl) (decide_eq_true h5) (oLoadBA (es := [(dI v6.Key), (dI v6.Value)]) eZ rfl (gDo (eR rfl) (decide_eq_true h5) (oMov (eR rfl) (gDo (eR rfl) (decide_eq_true h5) ?_)))))
   obtain ⟨v8, h9, H⟩ := obind H
   refine oCall (u := (oI v8)) (eR rfl) Cl.fn (c_impl_cellFor_1 h9) (Evs.cons (eR rfl) (Evs.cons eZ Evs.nil)) (VDs.cons (VD.agg rfl) (VDs.cons VD.plain VDs.nil)) rfl (gDo (eR rfl) (decide_eq_true h5) (oEql eZ eC (oPickT (eR rfl) (decide_eq_true h5) eZ (oMov (eR rfl) (oMov (eR rfl) (xQ (AW.weaken (wk_mk [] (kr 7 rfl rfl (kr 6 rfl rfl SL.nil)) BL.nil BK.nil) (AW.ret ?_))))))))
   cases H
   exact endsR (RL.cons (RV.tmp (eR rfl)) (VO.flat rfl) (RL.cons (RV.tmp eZ) (VO.flat rfl) RL.nil)) List.nodup_nil
  ·refine gSkip eZ (decide_eq_false h5) rfl (gSkip (eR rfl) (decide_eq_false h5) rfl (gSkip (eR rfl) (decide_eq_false h5) rfl (gSkip (eR rfl) (decide_eq_false h5) rfl (gSkip (eR rfl) (decide_eq_false h5) rfl (gSkip (eR rfl) (decide_eq_false h5) rfl (gSkip (eR rfl) (decide_eq_false h5) rfl (gSkip (eR rfl) (decide_eq_false h5) rfl (oPickF (eR rfl) (decide_eq_false h5) eC (oMov (eR rfl) (oMov (eR rfl) (xQ (AW.weaken (wk_mk [] (kr 7 rfl rfl (kr 6 rfl rfl SL.nil)) BL.nil BK.nil) (AW.ret ?_)))))))))))))
   cases H
   exact endsR (RL.cons (RV.tmp (eR rfl)) (VO.flat rfl) (RL.cons (RV.tmp eZ) (VO.flat rfl) RL.nil)) List.nodup_nil
 ·refine AW.block (AW.iter (fun s10 : (Int × Int) => mk [(0, (.one (.d (.sl 2 (List.map d_TCell a1))))), (1, (oI a2)), (2, (.one (.fn k_impl_cellFor_1 []))), (8, (oI (a1.length : Int))), (9, (oI s10.1)), (10, (oI s10.2))] [] noG) H (wk_mk [] (kR rfl rfl (kR rfl rfl (kR rfl rfl (kR rfl rfl (kR rfl rfl (kR rfl rfl SL.nil)))))) BL.nil BK.nil) ?_)
  intro kb11 s10 H
  unfold slices_BinarySearchFunc_Cell_int__cellFor_1_b10 at H
  refine aS (aV (oMov (eR rfl) (oMov (eR rfl) (oLss (eR rfl) eZ (xQ ?_)))))
  rcases oite H with ⟨h12, H⟩ | ⟨h12, H⟩
  ·refine AW.condT eZ (decide_eq_true h12) (AW.skip (TQ.qn (AW.block (aV (oMov (eR rfl) (oMov (eR rfl) (oAdd (eR rfl) eZ (oConv eZ (oShr eZ eC (by decide) (oConv eZ (oMov eZ (xQ (AW.weaken (wk_mk [] (kr 11 rfl rfl (kr 0 rfl rfl (kr 1 rfl rfl (kr 2 rfl rfl (kr 8 rfl rfl (kr 9 rfl rfl (kr 10 rfl rfl SL.nil))))))) BL.nil BK.nil) (aV (oMov (eR rfl) (oMov (eR rfl) (oMov (eR rfl) ?_)))))))))))))))))
   obtain ⟨v13, h14, H⟩ := obind H
   refine oAtD (eR rfl) eZ h14 (oLoadBA (es := [(dI v13.Key), (dI v13.Value)]) eZ rfl (oMov (eR rfl) ?_))
   obtain ⟨v15, h16, H⟩ := obind H
   refine oCall (u := (oI v15)) (eR rfl) Cl.fn (c_impl_cellFor_1 h16) (Evs.cons (eR rfl) (Evs.cons eZ Evs.nil)) (VDs.cons (VD.agg rfl) (VDs.cons VD.plain VDs.nil)) rfl (oLss eZ eC (xQ ?_))
   rcases oite H with ⟨h17, H⟩ | ⟨h17, H⟩
   ·exact AW.condT eZ (decide_eq_true h17) (aR (oMov (eR rfl) (oAdd eZ eC (oMov eZ (xNil (BQ.qn (TQ.qn ⟨((IntKind.wrap .i64 ((IntKind.wrap .i64 (Int.fdiv (IntKind.wrap .u64 (IntKind.wrap .i64 (s10.1 + s10.2))) (2 ^ (min (Int.toNat 1) (IntKind.bits .u64))))) + 1)), s10.2), H, (wk_mk [] (kR rfl rfl (kR rfl rfl (kR rfl rfl (kR rfl rfl (kR rfl rfl (kR rfl rfl SL.nil)))))) BL.nil BK.nil)⟩)))))))
   ·exact AW.condF eZ (decide_eq_false h17) (aR (oMov (eR rfl) (oMov eZ (xNil (BQ.qn (TQ.qn ⟨(s10.1, (IntKind.wrap .i64 (Int.fdiv (IntKind.wrap .u64 (IntKind.wrap .i64 (s10.1 + s10.2))) (2 ^ (min (Int.toNat 1) (IntKind.bits .u64)))))), H, (wk_mk [] (kR rfl rfl (kR rfl rfl (kR rfl rfl (kR rfl rfl (kR rfl rfl (kR rfl rfl SL.nil)))))) BL.nil BK.nil)⟩))))))
  ·exact AW.condF eZ (decide_eq_false h12) (AW.exit (TQ.qe (TQ.qe (BQ.qe (TQ.qn ⟨s10.1, H, (wk_mk [] (kR rfl rfl (kR rfl rfl (kR rfl rfl (kR rfl rfl (kR rfl rfl SL.nil))))) BL.nil BK.nil)⟩)))))
theorem c_impl_cellFor {a1 : (List TCell)} {a2 : Int} {r : (Int × Bool)} (H : m_impl_cellFor a1 a2 = some r) : Fn Tryz.prog k_impl_cellFor (lent [(.sl 2 (List.map d_TCell a1)), (.int .i64 a2)]) true [(.int .i64 r.1), (.bool r.2)] := by
 refine i_impl_cellFor_fn (fle rfl) ?_
 rw [init_mk]
 refine AW.weaken (wk_mk [] (kv 0 (.one (.d (.sl 2 (List.map d_TCell a1)))) rfl rfl (kv 1 (oI a2) rfl rfl SL.nil)) BL.nil BK.nil) ?_
 unfold m_impl_cellFor at H
 unfold i_impl_cellFor
 refine aV (oMov eC (oMov eC (xQ (aV (oMov (eR rfl) (oMov (eR rfl) ?_))))))
 obtain ⟨v3, h4, H⟩ := obind H
 refine oCall (u := (.tup [(oI v3.1), (oB v3.2)])) eC Cl.fn (c_slices_BinarySearchFunc_Cell_int__cellFor_1 h4) (Evs.cons (eR rfl) (Evs.cons eZ (Evs.cons eC Evs.nil))) (VDs.cons VD.plain (VDs.cons VD.plain (VDs.cons (VD.fn PDs.nil) VDs.nil))) rfl (oExt (v := (oI v3.1)) eZ rfl (oExt (v := (oB v3.2)) (eR rfl) rfl (oMov (eR rfl) (oMov (eR rfl) (xQ (AW.ret ?_))))))
 cases H
 exact endsR (RL.cons (RV.tmp (eR rfl)) (VO.flat rfl) (RL.cons (RV.tmp eZ) (VO.flat rfl) RL.nil)) List.nodup_nil
theorem c_impl_valueOf {a1 : (List TCell)} {a2 : Int} {r : Int} (H : m_impl_valueOf a1 a2 = some r) : Fn Tryz.prog k_impl_valueOf (lent [(.sl 2 (List.map d_TCell a1)), (.int .i64 a2)]) true [(.int .i64 r)] := by
 refine i_impl_valueOf_fn (fle rfl) ?_
 rw [init_mk]
 refine AW.weaken (wk_mk [] (kv 0 (.one (.d (.sl 2 (List.map d_TCell a1)))) rfl rfl (kv 1 (oI a2) rfl rfl SL.nil)) BL.nil BK.nil) ?_
 unfold m_impl_valueOf at H
 unfold i_impl_valueOf
 refine aV (oMov eC (xQ (aV (oMov (eR rfl) (oMov (eR rfl) ?_)))))
 obtain ⟨v3, h4, H⟩ := obind H
 refine oCall (u := (.tup [(oI v3.1), (oB v3.2)])) eC Cl.fn (c_impl_cellFor h4) (Evs.cons (eR rfl) (Evs.cons eZ Evs.nil)) (VDs.cons VD.plain (VDs.cons VD.plain VDs.nil)) rfl (oMov eZ (oExt (v := (oI v3.1)) eZ rfl (oExt (v := (oB v3.2)) (eR rfl) rfl (oMov (eR rfl) (oMov (eR rfl) (xQ (aS (aV (oMov eZ (oInv eZ (xQ ?_)))))))))))
 rcases oite H with ⟨h5, H⟩ | ⟨h5, H⟩
 ·refine AW.condF eZ (congrArg Bool.not h5) (AW.skip (TQ.qn (aV (oMov (eR rfl) (oMov (eR rfl) ?_)))))
  obtain ⟨v6, h7, H⟩ := obind H
  refine oAtD (eR rfl) eZ h7 (oFaddrB (m := 1) eZ rfl (oLoadB (e := (.int .i64 v6.Value)) eZ rfl (oMov eZ (xQ (AW.weaken (wk_mk [] (kr 4 rfl rfl SL.nil) BL.nil BK.nil) (AW.ret ?_))))))
  cases H
  exact eE rfl rfl
 ·refine AW.condT eZ (congrArg Bool.not (nt h5)) (aV (oMov eC (xQ (AW.ret (TQ.qr ?_)))))
  cases H
  exact eE rfl rfl
theorem c_impl_StoreNew {a1 : (List TCell)} {a2 : (List TCell)} {r : Int} (H : m_impl_StoreNew a1 a2 = some r) : Fn Tryz.prog k_impl_StoreNew (lent [(.sl 2 (List.map d_TCell a1)), (.sl 2 (List.map d_TCell a2))]) true [(.int .i64 r)] := by
 refine i_impl_StoreNew_fn (fle rfl) ?_
 rw [init_mk]
 refine AW.weaken (wk_mk [] (kv 0 (.one (.d (.sl 2 (List.map d_TCell a1)))) rfl rfl (kv 1 (.one (.d (.sl 2 (List.map d_TCell a2)))) rfl rfl SL.nil)) BL.nil BK.nil) ?_
 unfold m_impl_StoreNew at H
 unfold i_impl_StoreNew
 refine aV (oMov eC (xQ (aS (AW.seqJ (fun t3 : Bool => (impl_StoreNew_j3 a2 a1) t3 = some r) (fun t3 => mk [(0, (.one (.d (.sl 2 (List.map d_TCell a1))))), (1, (.one (.d (.sl 2 (List.map d_TCell a2))))), (15, (oB t3))] [] noG) ?_ ?_))))
 ·intro t3 H
  unfold impl_StoreNew_j3 at H
  rcases oite H with ⟨h5, H⟩ | ⟨h5, H⟩
  ·refine AW.condT (eR rfl) h5 (aV (oMov eC (xQ (AW.ret (TQ.qr ?_)))))
   cases H
   exact eE rfl rfl
  ·refine AW.condF (eR rfl) (nt h5) (AW.skip (TQ.qn (aV (oMov eC (xQ (AW.seqJ (fun t6 : Int => impl_StoreNew_j6 t6 = some r) (fun t6 => mk [(5, (oI t6))] [] noG) ?_ ?_))))))
   ·intro t6 H
    unfold impl_StoreNew_j6 at H
    refine aV (oMov eZ (oMov eZ (xQ (AW.ret ?_))))
    cases H
    exact eE rfl rfl
   ·refine aV (oMov (eR rfl) (oLenD eZ (n := a2.length) (List.length_map _) (oMov eC (xQ (AW.block (AW.iter (fun s8 : (Int × Int) => mk [(0, (.one (.d (.sl 2 (List.map d_TCell a1))))), (5, (oI s8.1)), (16, (.one (.d (.sl 2 (List.map d_TCell a2))))), (17, (oI (a2.length : Int))), (18, (oI s8.2))] [] noG) H (wk_mk [] (kR rfl rfl (kR rfl rfl (kR rfl rfl (kR rfl rfl (kR rfl rfl SL.nil))))) BL.nil BK.nil) ?_))))))
    intro kb9 s8 H
    unfold impl_StoreNew_b8 at H
    refine aV (oLss (eR rfl) (eR rfl) (xQ (aS ?_)))
    rcases oite H with ⟨h10, H⟩ | ⟨h10, H⟩
    ·refine AW.condT eZ (decide_eq_true h10) (AW.skip (TQ.qn (aS (AW.block (aV ?_)))))
     obtain ⟨v11, h12, H⟩ := obind H
     refine oAtD (eR rfl) (eR rfl) h12 (oLoadBA (es := [(dI v11.Key), (dI v11.Value)]) eZ rfl (oVar (n := 448) (m := 2) rfl rfl nZ (oStoreV (es := [(dI v11.Key), (dI v11.Value)]) eZ (eR rfl) rfl rfl bZ rfl (xQ (AW.seqJ (fun t13 : Bool => (impl_StoreNew_j13 kb9 s8) t13 = some r) (fun t13 => mk [(0, (.one (.d (.sl 2 (List.map d_TCell a1))))), (5, (oI s8.1)), (16, (.one (.d (.sl 2 (List.map d_TCell a2))))), (17, (oI (a2.length : Int))), (18, (oI s8.2)), (31, (oB t13))] [] noG) ?_ ?_)))))
     ·intro t13 H
      unfold impl_StoreNew_j13 at H
      rcases oite H with ⟨h15, H⟩ | ⟨h15, H⟩
      ·exact AW.condT (eR rfl) h15 (aR (oMov (eR rfl) (oAdd eZ eC (oMov eZ (xNil (BQ.qn (TQ.qn (aR (oAdd (eR rfl) eC (oMov eZ (xNil (TQ.qn ⟨((IntKind.wrap .i64 (s8.1 + 1)), (IntKind.wrap .i64 (s8.2 + 1))), H, (wk_mk [] (kR rfl rfl (kR rfl rfl (kR rfl rfl (kR rfl rfl (kR rfl rfl SL.nil))))) BL.nil BK.nil)⟩))))))))))))
      ·exact AW.condF (eR rfl) (nt h15) (AW.skip (BQ.qn (TQ.qn (aR (oAdd (eR rfl) eC (oMov eZ (xNil (TQ.qn ⟨(s8.1, (IntKind.wrap .i64 (s8.2 + 1))), H, (wk_mk [] (kR rfl rfl (kR rfl rfl (kR rfl rfl (kR rfl rfl (kR rfl rfl SL.nil))))) BL.nil BK.nil)⟩))))))))
     ·refine aR (oFaddrN (m := 1) eZ rfl (oLoadV (q := 1) (c := (dI v11.Value)) eZ bZ rfl rfl (oNeq eZ eC (oMov eZ ?_))))
      rcases oite H with ⟨h16, H⟩ | ⟨h16, H⟩
      ·refine gDo eZ (decide_eq_true h16) (oMov (eR rfl) (gDo (eR rfl) (decide_eq_true h16) (oFaddrN (m := 0) (eR rfl) rfl (gDo (eR rfl) (decide_eq_true h16) (oLoadV (q := 0) (c := (dI v11.Key)) eZ bZ rfl rfl (gDo (eR rfl) (decide_eq_true h16) ?_))))))
       obtain ⟨v17, h18, H⟩ := obind H
       exact oCall (u := (oI v17)) eC Cl.fn (c_impl_valueOf h18) (Evs.cons (eR rfl) (Evs.cons eZ Evs.nil)) (VDs.cons VD.plain (VDs.cons VD.plain VDs.nil)) rfl (gDo (eR rfl) (decide_eq_true h16) (oLss eZ eC (oPickT (eR rfl) (decide_eq_true h16) eZ (xNil (TQ.qn ⟨(decide (v17 < 0)), H, (wk_mk [448] (kR rfl rfl (kR rfl rfl (kR rfl rfl (kR rfl rfl (kR rfl rfl (kR rfl rfl SL.nil)))))) (BL.drop rfl (BL.drop rfl BL.nil)) BK.nil)⟩)))))
      ·exact gSkip eZ (decide_eq_false h16) rfl (gSkip (eR rfl) (decide_eq_false h16) rfl (gSkip (eR rfl) (decide_eq_false h16) rfl (gSkip (eR rfl) (decide_eq_false h16) rfl (gSkip (eR rfl) (decide_eq_false h16) rfl (oPickF (eR rfl) (decide_eq_false h16) eC (xNil (TQ.qn ⟨false, H, (wk_mk [448] (kR rfl rfl (kR rfl rfl (kR rfl rfl (kR rfl rfl (kR rfl rfl (kR rfl rfl SL.nil)))))) (BL.drop rfl (BL.drop rfl BL.nil)) BK.nil)⟩)))))))
    ·exact AW.condF eZ (decide_eq_false h10) (AW.exit (TQ.qe (TQ.qe (BQ.qe (TQ.qn ⟨s8.1, H, (wk_mk [] (kR rfl rfl SL.nil) BL.nil BK.nil)⟩)))))
 ·refine aR (oMov (eR rfl) ?_)
  obtain ⟨v19, h20, H⟩ := obind H
  refine oCall (u := (oB v19)) eC Cl.fn (c_impl_StoreOk h20) (Evs.cons eZ Evs.nil) (VDs.cons VD.plain VDs.nil) rfl (oInv eZ (oMov eZ ?_))
  rcases oite H with ⟨h21, H⟩ | ⟨h21, H⟩
  ·refine gDo eZ (congrArg Bool.not h21) (oMov (eR rfl) (gDo (eR rfl) (congrArg Bool.not h21) ?_))
   obtain ⟨v22, h23, H⟩ := obind H
   exact oCall (u := (oB v22)) eC Cl.fn (c_impl_WritesOk h23) (Evs.cons eZ Evs.nil) (VDs.cons VD.plain VDs.nil) rfl (gDo (eR rfl) (congrArg Bool.not h21) (oInv eZ (oPickF (eR rfl) (congrArg Bool.not h21) eZ (xNil (TQ.qn ⟨(!v22), H, (wk_mk [] (kR rfl rfl (kR rfl rfl (kR rfl rfl SL.nil))) BL.nil BK.nil)⟩)))))
  ·exact gSkip eZ (congrArg Bool.not (nt h21)) rfl (gSkip (eR rfl) (congrArg Bool.not (nt h21)) rfl (gSkip (eR rfl) (congrArg Bool.not (nt h21)) rfl (oPickT (eR rfl) (congrArg Bool.not (nt h21)) eC (xNil (TQ.qn ⟨true, H, (wk_mk [] (kR rfl rfl (kR rfl rfl (kR rfl rfl SL.nil))) BL.nil BK.nil)⟩)))))
theorem c_impl_room {a1 : TShard} {r : Int} (H : m_impl_room a1 = some r) : Fn Tryz.prog k_impl_room (lent [(.agg (d_TShard a1))]) true [(.int .i64 r)] := by
 refine i_impl_room_fn (fle rfl) ?_
 rw [init_mk]
 refine AW.weaken (t := mk [(0, (.agg [(dI a1.Me), (.d (.sl 2 (List.map d_TRange a1.Own))), (.d (.sl 2 (List.map d_TRange a1.Frozen))), (.d (.sl 2 (List.map d_TCell a1.Cells))), (.d (.sl 4 (List.map d_TLock a1.Locks))), (.d (.sl 2 (List.map d_THeld a1.Helds))), (.d (.sl 1 (List.map d_i64 a1.Wounded))), (.d (.sl 1 (List.map d_i64 a1.Ended))), (dI a1.Rank)]))] [] (lk [])) (wk_mk [] (kv 0 (.agg [(dI a1.Me), (.d (.sl 2 (List.map d_TRange a1.Own))), (.d (.sl 2 (List.map d_TRange a1.Frozen))), (.d (.sl 2 (List.map d_TCell a1.Cells))), (.d (.sl 4 (List.map d_TLock a1.Locks))), (.d (.sl 2 (List.map d_THeld a1.Helds))), (.d (.sl 1 (List.map d_i64 a1.Wounded))), (.d (.sl 1 (List.map d_i64 a1.Ended))), (dI a1.Rank)]) rfl rfl SL.nil) BL.nil BK.nil) ?_
 unfold m_impl_room at H
 unfold i_impl_room
 refine aV (oBox (n := 64) (m := 9) (cs := [(dI a1.Me), (.d (.sl 2 (List.map d_TRange a1.Own))), (.d (.sl 2 (List.map d_TRange a1.Frozen))), (.d (.sl 2 (List.map d_TCell a1.Cells))), (.d (.sl 4 (List.map d_TLock a1.Locks))), (.d (.sl 2 (List.map d_THeld a1.Helds))), (.d (.sl 1 (List.map d_i64 a1.Wounded))), (.d (.sl 1 (List.map d_i64 a1.Ended))), (dI a1.Rank)]) rfl eZ rfl rfl nZ (oMov eC (xQ (aV (oFaddrN (m := 3) (eR rfl) rfl (oLoadV (q := 3) (c := (.d (.sl 2 (List.map d_TCell a1.Cells)))) eZ bZ rfl rfl (oLenD eZ (n := a1.Cells.length) (List.length_map _) (oMov eZ (xQ (AW.seqJ (fun t2 : Int => impl_room_j2 t2 = some r) (fun t2 => mk [(3, (oI t2))] [] (lk [])) ?_ ?_))))))))))
 ·intro t2 H
  unfold impl_room_j2 at H
  refine aV (oMov eZ (oMov eZ (xQ (AW.ret ?_))))
  cases H
  exact eE rfl rfl
 ·refine aV (oFaddrN (m := 5) (eR rfl) rfl (oLoadV (q := 5) (c := (.d (.sl 2 (List.map d_THeld a1.Helds)))) eZ bZ rfl rfl (oLenD eZ (n := a1.Helds.length) (List.length_map _) (oMov eC (xQ (AW.block (AW.iter (fun s4 : (Int × Int) => mk [(1, (.one (.ptr (.nm 64 0 0)))), (3, (oI s4.1)), (10, (.one (.d (.sl 2 (List.map d_THeld a1.Helds))))), (11, (oI (a1.Helds.length : Int))), (12, (oI s4.2))] [(64, (.vars 9 [(dI a1.Me), (.d (.sl 2 (List.map d_TRange a1.Own))), (.d (.sl 2 (List.map d_TRange a1.Frozen))), (.d (.sl 2 (List.map d_TCell a1.Cells))), (.d (.sl 4 (List.map d_TLock a1.Locks))), (.d (.sl 2 (List.map d_THeld a1.Helds))), (.d (.sl 1 (List.map d_i64 a1.Wounded))), (.d (.sl 1 (List.map d_i64 a1.Ended))), (dI a1.Rank)]))] (lk [])) H (wk_mkG [] (kR rfl rfl (kR rfl rfl (kR rfl rfl (kR rfl rfl (kR rfl rfl SL.nil))))) (BL.keep rfl BL.nil) (BK.cons rfl bZ rfl rfl BK.nil) GK.nil) ?_)))))))
  intro kb5 s4 H
  unfold impl_room_b4 at H
  refine aV (oLss (eR rfl) (eR rfl) (xQ (aS ?_)))
  rcases oite H with ⟨h6, H⟩ | ⟨h6, H⟩
  ·refine AW.condT eZ (decide_eq_true h6) (AW.skip (TQ.qn (aS (AW.block (aS (AW.regm (rmOne ?_)))))))
   obtain ⟨v7, h8, H⟩ := obind H
   refine oAtD (eR rfl) (eR rfl) h8 (xNil (rmOne (oLoadBA (es := [(dI v7.Tx), (.d (.sl 2 (List.map d_TCell v7.Writes)))]) eZ rfl (xNil (rmOne (oVar (n := 320) (m := 2) rfl rfl (nS rfl nZ) (xNil (rmOne (oStoreV (es := [(dI v7.Tx), (.d (.sl 2 (List.map d_TCell v7.Writes)))]) eZ (eR rfl) rfl rfl bZ rfl (xNil (rmRest (xQ (aR (oMov (eR rfl) (oFaddrN (m := 3) (eR rfl) rfl (oLoadV (q := 3) (c := (.d (.sl 2 (List.map d_TCell a1.Cells)))) eZ (bS rfl (bS rfl bZ)) rfl rfl (oFaddrN (m := 1) (eR rfl) rfl (oLoadV (q := 1) (c := (.d (.sl 2 (List.map d_TCell v7.Writes)))) eZ bZ rfl rfl ?_))))))))))))))))))
   obtain ⟨v9, h10, H⟩ := obind H
   exact oCall (u := (oI v9)) eC Cl.fn (c_impl_StoreNew h10) (Evs.cons (eR rfl) (Evs.cons eZ Evs.nil)) (VDs.cons VD.plain (VDs.cons VD.plain VDs.nil)) rfl (oAdd (eR rfl) eZ (oMov eZ (xNil (BQ.qn (TQ.qn (AW.weaken (wk_mkG [320] (kr 3 rfl rfl (kr 1 rfl rfl (kr 10 rfl rfl (kr 11 rfl rfl (kr 12 rfl rfl SL.nil))))) (BL.drop rfl (BL.drop rfl (BL.keep rfl BL.nil))) (BK.cons (n := 64) rfl (bS rfl (bS rfl bZ)) rfl rfl BK.nil) GK.nil) (aR (oAdd (eR rfl) eC (oMov eZ (xNil (TQ.qn ⟨((IntKind.wrap .i64 (s4.1 + v9)), (IntKind.wrap .i64 (s4.2 + 1))), H, (wk_mkG [] (kR rfl rfl (kR rfl rfl (kR rfl rfl (kR rfl rfl (kR rfl rfl SL.nil))))) (BL.keep rfl BL.nil) (BK.cons rfl bZ rfl rfl BK.nil) GK.nil)⟩)))))))))))
  ·exact AW.condF eZ (decide_eq_false h6) (AW.exit (TQ.qe (TQ.qe (BQ.qe (TQ.qn ⟨s4.1, H, (wk_mkG [64] (kR rfl rfl SL.nil) (BL.drop rfl BL.nil) BK.nil GK.nil)⟩)))))
end Go.AW
