/- What is proved: contracts of functions, one a function. No condition. -/
import Derived.Test.YtoaebcjjfojfeaaW7
namespace Go.Proofs.Ytoaebcjjfojfeaa
open Go Go.RowKit
set_option linter.unusedVariables false
set_option linter.unusedSimpArgs false
set_option maxHeartbeats 1000000 in
set_option maxRecDepth 20000 in
theorem c_49 {w0 : World} {S0 : Bs} {x : RInode} {cs0 : List Value} (h0 : kT_66.ro w0 (FF w0 S0) x cs0) {y : RInode} {cs1 : List Value} (h1 : kT_66.ro w0 (FF w0 S0) y cs1)  :
    Calls Try.prog 49 #[.agg cs0.toArray, .agg cs1.toArray] w0 (TriPost w0 S0 (fun r l => r = .bool (decide (x = y)) ∧ l = [])) := by
 obtain ⟨u0_4, u0_5, rfl, h0_4, h0_5⟩ := kT_66_ro h0
 obtain ⟨A0_4, c0_4, rfl, hl0_4, hm0_4, hb0_4, he0_4⟩ := ro_form h0_4
 obtain ⟨A0_5, c0_5, rfl, hl0_5, hm0_5, hb0_5, he0_5⟩ := ro_form h0_5
 obtain ⟨u1_4, u1_5, rfl, h1_4, h1_5⟩ := kT_66_ro h1
 obtain ⟨A1_4, c1_4, rfl, hl1_4, hm1_4, hb1_4, he1_4⟩ := ro_form h1_4
 obtain ⟨A1_5, c1_5, rfl, hl1_5, hm1_5, hb1_5, he1_5⟩ := ro_form h1_5
 refine FJ.enter (N := 16) Try.func49 rfl rfl (by simp) [(0, .agg #[.int .i64 x.code, .int .i64 x.inode.kind, .int .i64 x.inode.links, .int .i64 x.inode.size, .slice A0_4 x.inode.blocks.length c0_4, .slice A0_5 x.inode.ents.length c0_5]), (1, .agg #[.int .i64 y.code, .int .i64 y.inode.kind, .int .i64 y.inode.links, .int .i64 y.inode.size, .slice A1_4 y.inode.blocks.length c1_4, .slice A1_5 y.inode.ents.length c1_5])] (by simp) (l0 := []) trivial ?_
 refine FJ.seq (FJ.region ?_)
 refine FJ.e (goes_list rfl) rfl (by decide) rfl (e_box (cs := [.int .i64 x.code, .int .i64 x.inode.kind, .int .i64 x.inode.links, .int .i64 x.inode.size, .slice A0_4 x.inode.blocks.length c0_4, .slice A0_5 x.inode.ents.length c0_5]) (n := 6) rfl (.t .z) rfl rfl) ?_
 rintro _ _ ⟨g5, rfl, rfl⟩
 refine FJ.e (goes_list rfl) rfl (by decide) rfl (e_box (cs := [.int .i64 y.code, .int .i64 y.inode.kind, .int .i64 y.inode.links, .int .i64 y.inode.size, .slice A1_4 y.inode.blocks.length c1_4, .slice A1_5 y.inode.ents.length c1_5]) (n := 6) rfl (.t (.s (.s .z))) rfl rfl) ?_
 rintro _ _ ⟨g6, rfl, rfl⟩
 refine FJ.ql rfl (q_assign rfl .c) (FJ.nil (FJ.then_ (FJ.seq (FJ.seq ?_))))
 refine FJ.region (FJ.ql rfl (q_fieldAddr rfl (.t (.s (.s .z))) (fun _ => fa_66_0 _ _)) (FJ.ql rfl (q_load rfl ag_2 (.t .z) (WS.row (.s .z) rfl)) (FJ.ql rfl (q_fieldAddr rfl (.t (.s (.s (.s .z)))) (fun _ => fa_66_0 _ _)) (FJ.ql rfl (q_load rfl ag_2 (.t .z) (WS.row .z rfl)) ?_))))
 refine FJ.ql rfl (q_neq rfl (.t (.s (.s .z))) (.t .z)) (FJ.nil (FJ.then_ ?_))
 refine FJ.condN (.t .z) (fun b7 => ?_) (fun b7 => ?_)
 refine FJ.seq (FJ.region (FJ.er (.s4 (.s .z)) (FJ.ql rfl (q_assign rfl .c) (FJ.nil ?_))))
 refine FJ.then_ (FJ.ret (FJ.thenR ?_))
 refine FJ.doneS (res1 rfl .z) .n ?_
 exact ⟨by rw [decide_eq_false]; rintro rfl; simp_all, rfl⟩
 refine FJ.skip (FJ.then_ (FJ.seq (FJ.seq (FJ.region ?_))))
 refine FJ.ql rfl (q_fieldAddr rfl (.t (.s4 (.s (.s (.s .z))))) (fun _ => fa_66_1 _ _)) (FJ.ql rfl (q_loadA (cs := [.int .i64 x.inode.kind, .int .i64 x.inode.links, .int .i64 x.inode.size, .slice A0_4 x.inode.blocks.length c0_4, .slice A0_5 x.inode.ents.length c0_5]) rfl ag_30 sz_30 (.t .z) (WS.rows (.s .z) (sub_at rfl))) (FJ.ql rfl (q_fieldAddr rfl (.t (.s4 (.s4 .z))) (fun _ => fa_66_1 _ _)) (FJ.ql rfl (q_loadA (cs := [.int .i64 y.inode.kind, .int .i64 y.inode.links, .int .i64 y.inode.size, .slice A1_4 y.inode.blocks.length c1_4, .slice A1_5 y.inode.ents.length c1_5]) rfl ag_30 sz_30 (.t .z) (WS.rows .z (sub_at rfl))) ?_)))
 refine FJ.call (goes_list rfl) rfl (by decide) rfl (c_call rfl Try.func19 rfl rfl (args2 (.t (.s (.s .z))) (.t .z))) .n (fun w1 S1 hs tr => c_19 (kT_30_mk x.inode (tr.ctx h0_4) (tr.ctx h0_5)) (kT_30_mk y.inode (tr.ctx h1_4) (tr.ctx h1_5))) ?_
 rintro _ _ ⟨rfl, rfl⟩
 refine FJ.cat .n ?_
 refine FJ.ql rfl (q_not rfl (.t .z)) (FJ.nil (FJ.then_ ?_))
 refine FJ.condN (.t .z) (fun b8 => ?_) (fun b8 => ?_)
 refine FJ.seq (FJ.region (FJ.er (.s4 (.s4 (.s (.s (.s .z))))) (FJ.ql rfl (q_assign rfl .c) (FJ.nil ?_))))
 refine FJ.then_ (FJ.ret (FJ.thenR ?_))
 refine FJ.doneS (res1 rfl .z) .n ?_
 exact ⟨by rw [decide_eq_false]; rintro rfl; simp_all, rfl⟩
 refine FJ.skip (FJ.then_ (FJ.seq (FJ.region (FJ.er (.s4 (.s4 (.s (.s (.s .z))))) ?_))))
 refine FJ.ql rfl (q_assign rfl .c) (FJ.nil (FJ.then_ (FJ.ret ?_)))
 refine FJ.doneS (res1 rfl .z) .n ?_
 exact ⟨by rw [decide_eq_true]; cases x; cases y; simp_all, rfl⟩

set_option maxHeartbeats 1000000 in
set_option maxRecDepth 20000 in
theorem c_52 {w0 : World} {S0 : Bs} {x : RInode} {v0_4 : Value} {v0_5 : Value} (n : Int) (hs : Star [ownA kSl_2 x.inode.blocks [v0_4], ownA kSl_130 x.inode.ents [v0_5]] w0 S0) (hn0 : 0 ≤ n) (hn1 : n + ((vcnt_RInode x) : Int) ≤ 4611686018427387904) :
    Calls Try.prog 52 #[.agg #[.int .i64 x.code, .int .i64 x.inode.kind, .int .i64 x.inode.links, .int .i64 x.inode.size, v0_4, v0_5], .int .i64 n] w0 (TriPost w0 S0 (fun r l => r = .int .i64 (n + ((vcnt_RInode x) : Int)) ∧ l = [ownA kSl_2 (vmark_RInode n x).inode.blocks [v0_4], ownA kSl_130 (vmark_RInode n x).inode.ents [v0_5]])) := by
 simp only [vcnt_RInode] at hn1
 refine FJ.enter (N := 10) Try.func52 rfl rfl (by simp) [(0, .agg #[.int .i64 x.code, .int .i64 x.inode.kind, .int .i64 x.inode.links, .int .i64 x.inode.size, v0_4, v0_5]), (1, .int .i64 n)] (by simp) hs ?_
 refine FJ.know (WS.oform .z) ?_
 rintro ⟨Ao1, co1, rfl, hlo1, hmo1, hbo1⟩
 refine FJ.know (WS.oform (.s .z)) ?_
 rintro ⟨Ao2, co2, rfl, hlo2, hmo2, hbo2⟩
 refine FJ.seq (FJ.region ?_)
 refine FJ.e (goes_list rfl) rfl (by decide) rfl (e_box (cs := [.int .i64 x.code, .int .i64 x.inode.kind, .int .i64 x.inode.links, .int .i64 x.inode.size, .slice Ao1 x.inode.blocks.length co1, .slice Ao2 x.inode.ents.length co2]) (n := 6) rfl (.t .z) rfl rfl) ?_
 rintro _ _ ⟨g3, rfl, rfl⟩
 refine FJ.ql rfl (q_assign rfl .c) (FJ.nil (FJ.then_ (FJ.seq (FJ.region ?_))))
 refine FJ.ql rfl (q_fieldAddr rfl (.t (.s .z)) (fun _ => fa_66_1 _ _)) (FJ.ql rfl (q_loadA (cs := [.int .i64 x.inode.kind, .int .i64 x.inode.links, .int .i64 x.inode.size, .slice Ao1 x.inode.blocks.length co1, .slice Ao2 x.inode.ents.length co2]) rfl ag_30 sz_30 (.t .z) (WS.rows .z (sub_at rfl))) (FJ.ql rfl (q_move rfl (.t (.s4 (.s .z)))) ?_))
 refine FJ.call (goes_list rfl) rfl (by decide) rfl (c_call rfl Try.func38 rfl rfl (args2 (.t (.s .z)) (.t .z))) (.c (.s .z) (.c (.s .z) .n)) (fun w1 S1 hs tr => c_38 _ hs (by omega) (by first | omega | (omega))) ?_
 rintro _ _ ⟨rfl, rfl⟩
 refine FJ.cat (.c (.c .n)) ?_
 refine FJ.er (.s4 (.s (.s (.s .z)))) (FJ.ql rfl (q_assign rfl (.t .z)) (FJ.nil (FJ.then_ (FJ.seq ?_))))
 refine FJ.region (FJ.ql rfl (q_move rfl (.t .z)) (FJ.er (.s4 (.s (.s .z))) (FJ.ql rfl (q_assign rfl (.t .z)) (FJ.nil ?_))))
 refine FJ.then_ (FJ.ret ?_)
 refine FJ.doneS (res1 rfl .z) (.c .z (.c .z .n)) ?_
 exact ⟨congrArg (Value.int .i64) (by simp only [vcnt_RInode]; omega), rfl⟩

set_option maxHeartbeats 1000000 in
set_option maxRecDepth 20000 in
theorem c_53 {w0 : World} {S0 : Bs} {y : RInode} {cs0 : List Value} (h0 : kT_66.ro w0 (FF w0 S0) y cs0) (n : Int) (x : RInode) (e0 : y = (vmark_RInode n x)) (hn0 : 0 ≤ n) (hn1 : n + ((vcnt_RInode x) : Int) ≤ 4611686018427387904) :
    Calls Try.prog 53 #[.agg cs0.toArray, .int .i64 n] w0 (TriPost w0 S0 (fun r l => r = .int .i64 (n + ((vcnt_RInode x) : Int)) ∧ l = [])) := by
 obtain ⟨u0_4, u0_5, rfl, h0_4, h0_5⟩ := kT_66_ro h0
 obtain ⟨A0_4, c0_4, rfl, hl0_4, hm0_4, hb0_4, he0_4⟩ := ro_form h0_4
 obtain ⟨A0_5, c0_5, rfl, hl0_5, hm0_5, hb0_5, he0_5⟩ := ro_form h0_5
 simp only [vcnt_RInode] at hn1
 refine FJ.enter (N := 12) Try.func53 rfl rfl (by simp) [(0, .agg #[.int .i64 y.code, .int .i64 y.inode.kind, .int .i64 y.inode.links, .int .i64 y.inode.size, .slice A0_4 y.inode.blocks.length c0_4, .slice A0_5 y.inode.ents.length c0_5]), (1, .int .i64 n)] (by simp) (l0 := []) trivial ?_
 refine FJ.seq (FJ.region ?_)
 refine FJ.e (goes_list rfl) rfl (by decide) rfl (e_box (cs := [.int .i64 y.code, .int .i64 y.inode.kind, .int .i64 y.inode.links, .int .i64 y.inode.size, .slice A0_4 y.inode.blocks.length c0_4, .slice A0_5 y.inode.ents.length c0_5]) (n := 6) rfl (.t .z) rfl rfl) ?_
 rintro _ _ ⟨g3, rfl, rfl⟩
 refine FJ.ql rfl (q_assign rfl .c) (FJ.nil (FJ.then_ (FJ.seq (FJ.region ?_))))
 refine FJ.ql rfl (q_fieldAddr rfl (.t (.s .z)) (fun _ => fa_66_1 _ _)) (FJ.ql rfl (q_loadA (cs := [.int .i64 y.inode.kind, .int .i64 y.inode.links, .int .i64 y.inode.size, .slice A0_4 y.inode.blocks.length c0_4, .slice A0_5 y.inode.ents.length c0_5]) rfl ag_30 sz_30 (.t .z) (WS.rows .z (sub_at rfl))) (FJ.ql rfl (q_move rfl (.t (.s4 (.s .z)))) ?_))
 refine FJ.call (goes_list rfl) rfl (by decide) rfl (c_call rfl Try.func101 rfl rfl (args2 (.t (.s .z)) (.t .z))) .n (fun w1 S1 hs tr => c_101 (kT_30_mk y.inode (tr.ctx h0_4) (tr.ctx h0_5)) _ x.inode (congrArg (·.inode) e0) (by omega) (by first | omega | (omega))) ?_
 rintro _ _ ⟨rfl, rfl⟩
 refine FJ.cat .n ?_
 refine FJ.er (.s4 (.s (.s (.s .z)))) (FJ.ql rfl (q_assign rfl (.t .z)) (FJ.nil (FJ.then_ (FJ.seq ?_))))
 refine FJ.seq (FJ.region (FJ.ql rfl (q_move rfl (.t .z)) (FJ.ql rfl (q_lss rfl (.t .z) .c) (FJ.nil ?_))))
 refine FJ.then_ ?_
 refine FJ.condP (.t .z) (fun b4 => ?_) (fun b4 => ?_)
 refine FJ.seq (FJ.region (FJ.er (.s4 (.s (.s (.s .z)))) (FJ.ql rfl (q_assign rfl .c) (FJ.nil ?_))))
 refine FJ.then_ (FJ.ret (FJ.thenR ?_))
 refine FJ.doneS (res1 rfl .z) .n ?_
 exfalso; omega
 refine FJ.skip (FJ.then_ (FJ.seq (FJ.region (FJ.ql rfl (q_move rfl (.t (.s (.s .z)))) ?_))))
 refine FJ.er (.s4 (.s4 .z)) (FJ.ql rfl (q_assign rfl (.t .z)) (FJ.nil (FJ.then_ (FJ.ret ?_))))
 refine FJ.doneS (res1 rfl .z) .n ?_
 exact ⟨congrArg (Value.int .i64) (by simp only [vcnt_RInode]; omega), rfl⟩

end Go.Proofs.Ytoaebcjjfojfeaa
