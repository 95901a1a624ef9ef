/- What is proved: contracts of functions, one a function. No condition. -/
import Derived.Test.YtkmcpcahbfdohaaW46
namespace Go.Proofs.Ytkmcpcahbfdohaa
open Go Go.RowKit
set_option linter.unusedVariables false
set_option linter.unusedSimpArgs false
set_option maxHeartbeats 1000000 in
set_option maxRecDepth 20000 in
theorem c_68 {w0 : World} {S0 : Bs} {cd : (List UInt8)} {v0 : Value} (h0 : kSl_5.ro w0 (FF w0 S0) cd [v0]) (hcl : cd.length ≤ 1048576) :
    Calls Try.prog 68 #[v0] w0 (TriPost w0 S0 (fun r l => ∃ (x : DKern) (w0_ w1_ w2_ : Value) (n0_ : Int) (n1_ : Int) (ws : List Int) (w3_ : Value), (x.disk.blocks.length ≤ 61 ∧ x.disk.cache.length ≤ 201 ∧ x.exts.length ≤ 9 ∧ ws.length ≤ 70) ∧ r = .tuple #[.agg #[w0_, w1_, w2_], .int .i64 n0_, .int .i64 n1_, w3_] ∧ l = [ownA kSl_40 x.disk.blocks [w0_], ownA kSl_57 x.disk.cache [w1_], ownA kSl_135 x.exts [w2_], ownA kSl_2 ws [w3_]])) := by
 obtain ⟨A0, c0, rfl, hl0, hm0, hb0, he0⟩ := ro_form h0
 refine FJ.enter (N := 25) Try.func68 rfl rfl (by simp) [(0, .slice A0 cd.length c0)] (by simp) (l0 := []) trivial ?_
 refine FJ.seq (FJ.region ?_)
 refine FJ.e (goes_list rfl) rfl (by decide) rfl (e_alloc rfl z_43 rfl rfl) ?_
 rintro _ _ ⟨g2, rfl, rfl⟩
 refine FJ.ql rfl (q_assign rfl .c) (FJ.ql rfl (q_assign rfl .c) (FJ.ql rfl (q_assign rfl .c) (FJ.nil (FJ.then_ ?_))))
 refine FJ.seq (FJ.region (FJ.ql rfl (q_move rfl (.t (.s4 .z))) ?_))
 refine FJ.call (goes_list rfl) rfl (by decide) rfl (c_call rfl Try.func131 rfl rfl (args1 (.t .z))) .n (fun w1 S1 hs tr => c_131 (tr.ctx h0)) ?_
 rintro _ _ ⟨kn3, v4, v6, v8, m10, m11, hzkn3, rfl, rfl⟩
 refine FJ.cat (.c (.c (.c .n))) ?_
 refine FJ.know (WS.oform .z) ?_
 rintro ⟨Ao12, co12, rfl, hlo12, hmo12, hbo12⟩
 refine FJ.know (WS.oform (.s .z)) ?_
 rintro ⟨Ao13, co13, rfl, hlo13, hmo13, hbo13⟩
 refine FJ.know (WS.oform (.s (.s .z))) ?_
 rintro ⟨Ao14, co14, rfl, hlo14, hmo14, hbo14⟩
 refine FJ.ql rfl (q_move rfl (.t .z)) (FJ.ql rfl (q_extract (v := .agg #[.slice Ao12 kn3.disk.blocks.length co12, .slice Ao13 kn3.disk.cache.length co13, .slice Ao14 kn3.exts.length co14]) rfl (.t .z) rfl) (FJ.ql rfl (q_extract (v := .int .i64 m10) rfl (.t (.s .z)) rfl) (FJ.ql rfl (q_extract (v := .int .i64 m11) rfl (.t (.s (.s .z))) rfl) ?_)))
 refine FJ.e (goes_list rfl) rfl (by decide) rfl (e_alloc rfl z_43 rfl rfl) ?_
 rintro _ _ ⟨g15, rfl, rfl⟩
 refine FJ.es (goes_list rfl) rfl (es_store (off := 0) (cs := [.slice Ao12 kn3.disk.blocks.length co12, .slice Ao13 kn3.disk.cache.length co13, .slice Ao14 kn3.exts.length co14]) rfl sz_43 (.t .z) (.t (.s (.s (.s .z)))) rfl (ones rfl) .z (Nat.le_of_ble_eq_true rfl) (.c .z (.c (.s .z) (.c (.s (.s .z)) .n)))) ?_
 refine FJ.ql rfl (q_assign rfl (.t (.s (.s .z)))) (FJ.ql rfl (q_assign rfl (.t (.s (.s .z)))) (FJ.nil (FJ.then_ (FJ.seq ?_))))
 refine FJ.region ?_
 refine FJ.e (goes_list rfl) rfl (by decide) rfl (e_buildSliceL (ps := [(0, .int .u8 4)]) (cs := [.int .u8 4]) rfl u_49 (inz inf_5) (by decide) (by intro act hact; simp only [List.map_toArray, List.map_cons, List.map_nil, (show Val _ _ _ from .c) act hact]) rfl rfl (by decide) rfl rfl) ?_
 rintro _ _ ⟨g16, rfl, rfl⟩
 refine FJ.ql rfl (q_move rfl (.t (.s4 (.s4 (.s4 (.s (.s .z))))))) ?_
 refine FJ.turns (c := ownA kSl_5 ([(4 : UInt8)] : (List UInt8)) [.slice (some ⟨g16, 0, none⟩) 1 1]) (.c .z .n) (fun w S h => lit_own (xs := ([(4 : UInt8)] : (List UInt8))) h rfl (by simp) (by omega) (by omega)) ?_
 refine FJ.e (goes_list rfl) rfl (by decide) rfl (e_appendF (flat_scalar _ _ _) rfl u_49 inf_5 rfl (.t (.s .z)) (.t .z) (.c .z .n) (fun w1 S1 tr => tr.ctx h0) (by first | omega | (simp only [List.length_append, List.length_take, List.length_nil, List.length_cons]; omega)) (by first | omega | (simp only [List.length_append, List.length_take, List.length_nil, List.length_cons]; omega))) ?_
 rintro _ _ rfl
 refine FJ.know (WS.oform .z) ?_
 rintro ⟨Ao18, co18, rfl, hlo18, hmo18, hbo18⟩
 refine FJ.call (goes_list rfl) rfl (by decide) rfl (c_call rfl Try.func92 rfl rfl (args1 (.t .z))) .n (fun w1 S1 hs tr => c_92 (tr.own .z)) ?_
 rintro _ _ ⟨g19, rfl, rfl⟩
 refine FJ.cat (.c .n) ?_
 refine FJ.ql rfl (q_assign rfl (.t .z)) (FJ.nil (FJ.then_ (FJ.seq ?_)))
 refine FJ.sel (.c .z (.c .z (.c (.s .z) (.c (.s .z) (.c (.s .z) (.c (.s .z) (.c .z .n))))))) ?_
 refine FJ.draw [rowA g15 43 3 1 [.slice Ao12 kn3.disk.blocks.length co12, .slice Ao13 kn3.disk.cache.length co13, .slice Ao14 kn3.exts.length co14]] 8 (by kernel_rfl) ?_
 refine FJ.sch [(0, true), (1, true), (2, true), (3, true), (4, false), (5, false), (6, true), (7, true), (8, false)] 0 #[true, true, true, true, true, true, true, true, true] (by rfl) (by kernel_rfl) ?_
 refine FJ.dq rfl rfl rfl (by decide) rfl (.s4 (.s (.s .z))) (q_loadA (cs := [.slice Ao12 kn3.disk.blocks.length co12, .slice Ao13 kn3.disk.cache.length co13, .slice Ao14 kn3.exts.length co14]) rfl ag_43 sz_43 (.t (.s4 (.s (.s (.s .z))))) (WS.rows0 .z (fun i u h => by exact h))) ?_
 refine FJ.dq rfl rfl rfl (by decide) rfl (.s4 (.s (.s .z))) (q_move rfl (.t (.s4 (.s (.s (.s .z)))))) (FJ.dq rfl rfl rfl (by decide) rfl (.s4 (.s (.s .z))) (q_move rfl (.t (.s4 (.s (.s (.s .z)))))) (FJ.dq rfl rfl rfl (by decide) rfl (.s4 (.s (.s .z))) (q_move rfl (.t (.s (.s (.s .z))))) ?_))
 refine FJ.call (goes_sch rfl rfl) rfl (by decide) rfl (c_call rfl Try.func132 rfl rfl (args1 (.t .z))) (.c .z .n) (fun w1 S1 hs tr => c_132 (tr.own .z) hs (by omega)) ?_
 rintro _ _ ⟨ws20, u21, hzws20, rfl⟩
 refine FJ.cat (.c (.c .n)) ?_
 refine FJ.know (WS.oform .z) ?_
 rintro ⟨Ao23, co23, rfl, hlo23, hmo23, hbo23⟩
 refine FJ.sk (.s4 (.s (.s (.s .z)))) ?_
 refine FJ.es (goes_sch rfl rfl) rfl (es_store (off := 0) (cs := [.slice Ao12 kn3.disk.blocks.length co12, .slice Ao13 kn3.disk.cache.length co13, .slice Ao14 kn3.exts.length co14]) rfl sz_43 (.t (.s16 (.s4 (.s (.s .z))))) (.t (.s4 .z)) rfl (ones rfl) (.s4 (.s (.s .z))) (Nat.le_of_ble_eq_true rfl) (.c .z (.c (.s .z) (.c (.s (.s .z)) .n)))) ?_
 refine FJ.sk (.s4 (.s (.s (.s .z)))) ?_
 refine FJ.er (.s16 (.s4 (.s .z))) (FJ.dq rfl rfl rfl (by decide) rfl (.s4 (.s (.s (.s .z)))) (q_assign rfl (.t (.s (.s (.s .z))))) (FJ.er (.s16 (.s4 (.s .z))) (FJ.dq rfl rfl rfl (by decide) rfl (.s4 (.s (.s (.s .z)))) (q_assign rfl (.t (.s (.s (.s .z))))) (FJ.er (.s16 (.s4 (.s .z))) ?_))))
 refine FJ.q (goes_sch rfl rfl) rfl (by decide) rfl (q_assign rfl (.t (.s (.s .z)))) ?_
 refine FJ.sl rfl ?_
 refine FJ.schN ?_
 refine FJ.drawN (by kernel_rfl) ?_
 refine FJ.then_ (FJ.ret ?_)
 refine FJ.doneS (res_cttt (cs := [.slice Ao12 kn3.disk.blocks.length co12, .slice Ao13 kn3.disk.cache.length co13, .slice Ao14 kn3.exts.length co14]) rfl (.s16 (.s4 (.s (.s .z)))) ag_43 sz_43 (WS.rows0 (cs := [.slice Ao12 kn3.disk.blocks.length co12, .slice Ao13 kn3.disk.cache.length co13, .slice Ao14 kn3.exts.length co14]) .z (fun _ _ h => h)) (.s (.s .z)) (.s .z) .z) (.c (.s4 .z) (.c (.s4 .z) (.c (.s4 .z) (.c (.s .z) .n)))) ?_
 exact ⟨⟨⟨kn3.disk.blocks, kn3.disk.cache⟩, kn3.exts⟩, _, _, _, _, _, _, _, ⟨by first | omega | (dsimp only; omega), by first | omega | (dsimp only; omega), by first | omega | (dsimp only; omega), by first | omega | (dsimp only; omega)⟩, rfl, rfl⟩

end Go.Proofs.Ytkmcpcahbfdohaa
