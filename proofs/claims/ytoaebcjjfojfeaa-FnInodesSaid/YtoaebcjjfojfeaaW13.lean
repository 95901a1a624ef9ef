/- What is proved: contracts of functions, one a function. No condition. -/
import Derived.Test.YtoaebcjjfojfeaaW3
import Derived.Test.YtoaebcjjfojfeaaW10
import Derived.Test.YtoaebcjjfojfeaaBase1
namespace Go.Proofs.Ytoaebcjjfojfeaa
open Go Go.RowKit
set_option linter.unusedVariables false
set_option linter.unusedSimpArgs false
set_option maxHeartbeats 1000000 in
set_option maxRecDepth 20000 in
theorem c_87 {w0 : World} {S0 : Bs} {x : DInode} {cs0 : List Value} (h0 : kT_30.ro w0 (FF w0 S0) x cs0) (hb : inodeFault x = 0) :
    Calls Try.prog 87 #[.agg cs0.toArray] w0 (TriPost w0 S0 (fun r l => l = [ownA kSl_2 (packI x) [r]])) := by
 obtain ⟨u0_3, u0_4, rfl, h0_3, h0_4⟩ := kT_30_ro h0
 obtain ⟨A0_3, c0_3, rfl, hl0_3, hm0_3, hb0_3, he0_3⟩ := ro_form h0_3
 obtain ⟨A0_4, c0_4, rfl, hl0_4, hm0_4, hb0_4, he0_4⟩ := ro_form h0_4
 have h4 := (blocks_4 hb).1
 refine FJ.enter (N := 63) Try.func87 rfl rfl (by simp) [(0, .agg #[.int .i64 x.kind, .int .i64 x.links, .int .i64 x.size, .slice A0_3 x.blocks.length c0_3, .slice A0_4 x.ents.length c0_4])] (by simp) (l0 := []) trivial ?_
 refine FJ.seq (FJ.region ?_)
 refine FJ.e (goes_list rfl) rfl (by decide) rfl (e_box (cs := [.int .i64 x.kind, .int .i64 x.links, .int .i64 x.size, .slice A0_3 x.blocks.length c0_3, .slice A0_4 x.ents.length c0_4]) (n := 5) rfl (.t .z) rfl rfl) ?_
 rintro _ _ ⟨g3, rfl, rfl⟩
 refine FJ.ql rfl (q_assign rfl .c) (FJ.nil (FJ.then_ (FJ.seq (FJ.region ?_))))
 refine FJ.ql rfl (q_fieldAddr rfl (.t (.s .z)) (fun _ => fa_30_0 _ _)) (FJ.ql rfl (q_load rfl ag_2 (.t .z) (WS.row .z rfl)) (FJ.ql rfl (q_fieldAddr rfl (.t (.s (.s (.s .z)))) (fun _ => fa_30_1 _ _)) (FJ.ql rfl (q_load rfl ag_2 (.t .z) (WS.row .z rfl)) (FJ.ql rfl (q_fieldAddr rfl (.t (.s4 (.s .z))) (fun _ => fa_30_2 _ _)) ?_))))
 refine FJ.ql rfl (q_load rfl ag_2 (.t .z) (WS.row .z rfl)) ?_
 refine FJ.e (goes_list rfl) rfl (by decide) rfl (e_buildSliceL (ps := [(0, .int .i64 x.kind), (1, .int .i64 x.links), (2, .int .i64 x.size)]) (cs := [.int .i64 x.kind, .int .i64 x.links, .int .i64 x.size]) rfl u_22 (inz inf_2) (by decide) (by intro act hact; simp only [List.map_toArray, List.map_cons, List.map_nil, (show Val _ _ _ from (.t (.s4 .z))) act hact, (show Val _ _ _ from (.t (.s (.s .z)))) act hact, (show Val _ _ _ from (.t .z)) act hact]) rfl rfl (by decide) rfl rfl) ?_
 rintro _ _ ⟨g4, rfl, rfl⟩
 refine FJ.ql rfl (q_fieldAddr rfl (.t (.s4 (.s4 .z))) (fun _ => fa_30_3 _ _)) (FJ.ql rfl (q_load rfl ag_22 (.t .z) (WS.row (.s .z) rfl)) ?_)
 refine FJ.turns (c := ownA kSl_2 ([x.kind, x.links, x.size] : (List Int)) [.slice (some ⟨g4, 0, none⟩) 3 3]) (.c .z .n) (fun w S h => lit_own (xs := ([x.kind, x.links, x.size] : (List Int))) h rfl (by simp) (by omega) (by omega)) ?_
 refine FJ.e (goes_list rfl) rfl (by decide) rfl (e_appendF (flat_scalar _ _ _) rfl u_22 inf_2 rfl (.t (.s (.s .z))) (.t .z) (.c .z .n) (fun w1 S1 tr => tr.ctx h0_3) (by first | omega | (simp only [List.length_append, List.length_take, List.length_nil, List.length_cons]; omega)) (by first | omega | (simp only [List.length_append, List.length_take, List.length_nil, List.length_cons]; omega))) ?_
 rintro _ _ rfl
 refine FJ.know (WS.oform .z) ?_
 rintro ⟨Ao6, co6, rfl, hlo6, hmo6, hbo6⟩
 refine FJ.ql rfl (q_assign rfl (.t .z)) (FJ.nil (FJ.then_ (FJ.seq (FJ.seq ?_))))
 refine FJ.region (FJ.ql rfl (q_fieldAddr rfl (.t (.s4 (.s4 (.s4 .z)))) (fun _ => fa_30_0 _ _)) (FJ.ql rfl (q_load rfl ag_2 (.t .z) (WS.row (.s .z) rfl)) (FJ.ql rfl (q_neq rfl (.t .z) .c) (FJ.nil ?_))))
 refine FJ.then_ ?_
 refine FJ.condN (.t .z) (fun b7 => ?_) (fun b7 => ?_)
 refine FJ.seq (FJ.region (FJ.ql rfl (q_move rfl (.t (.s (.s (.s .z))))) (FJ.er (.s4 (.s4 (.s4 (.s (.s (.s .z)))))) (FJ.ql rfl (q_assign rfl (.t .z)) ?_))))
 refine FJ.nil (FJ.then_ (FJ.ret (FJ.thenR ?_)))
 refine FJ.ceq (x' := packI x) .z (by first | exact packI_f (by assumption) | exact packI_d (by omega) (by omega)) ?_
 refine FJ.doneS (res1 rfl .z) (.c .z .n) ?_
 rfl
 refine FJ.skip (FJ.then_ (FJ.seq (FJ.region (FJ.ql rfl (q_move rfl (.t (.s (.s (.s .z))))) ?_))))
 refine FJ.ql rfl (q_fieldAddr rfl (.t (.s16 .z)) (fun _ => fa_30_4 _ _)) (FJ.ql rfl (q_load rfl ag_28 (.t .z) (WS.row (.s .z) rfl)) (FJ.ql rfl (q_len rfl u_28 (.t .z)) ?_))
 refine FJ.e (goes_list rfl) rfl (by decide) rfl (e_buildSliceL (ps := [(0, .int .i64 (x.ents.length : Int))]) (cs := [.int .i64 (x.ents.length : Int)]) rfl u_22 (inz inf_2) (by decide) (by intro act hact; simp only [List.map_toArray, List.map_cons, List.map_nil, (show Val _ _ _ from (.t .z)) act hact]) rfl rfl (by decide) rfl rfl) ?_
 rintro _ _ ⟨g8, rfl, rfl⟩
 refine FJ.add (c := ownA (kint .i64) (x.ents.length : Int) [.int .i64 (x.ents.length : Int)]) (fun _ _ => ⟨rfl, trivial⟩) ?_
 refine FJ.e (goes_list rfl) rfl (by decide) rfl (e_append1 rfl u_22 inf_2 rfl (.t (.s4 .z)) (.t .z) (.c (.s (.s .z)) (.c (.s .z) (.c .z .n))) (by first | omega | (simp only [List.length_append, List.length_take, List.length_nil, List.length_cons]; omega)) (by first | omega | (simp only [List.length_append, List.length_take, List.length_nil, List.length_cons]; omega))) ?_
 rintro _ _ rfl
 refine FJ.know (WS.oform .z) ?_
 rintro ⟨Ao10, co10, rfl, hlo10, hmo10, hbo10⟩
 refine FJ.er (.s4 (.s4 (.s .z))) (FJ.ql rfl (q_assign rfl (.t .z)) (FJ.nil (FJ.then_ (FJ.seq ?_))))
 refine FJ.seq (FJ.region (FJ.ql rfl (q_assign rfl .c) (FJ.nil (FJ.then_ ?_))))
 refine FJ.block ?_
 have he11 : (([x.kind, x.links, x.size] : (List Int)) ++ x.blocks) ++ [(x.ents.length : Int)] = packTo x 0 := (packTo_0 x)
 refine FJ.eq (.s .z) (congrArg (fun z_ => (.slice Ao10 (z_).length co10 : Value)) he11) ?_
 refine FJ.eq (.s (.s .z)) (congrArg (fun z_ => (.slice Ao10 (z_).length co10 : Value)) he11) ?_
 refine FJ.chEq .z (congrArg (fun z_ => (ownA kSl_2 (z_) [.slice Ao10 (z_).length co10] : Asn)) he11) ?_
 have hp0 := packTo_len hb 0
 refine FJ.loopi (γ := Nat × (Option Addr) × Nat) (fun ⟨k, Agk0, cgk0⟩ => [(3, .slice Agk0 (packTo x k).length cgk0), (4, .int .i64 (k : Int)), (2, .slice none 0 0), (1, .pointer (some ⟨g3, 0, none⟩))]) (fun ⟨k, Agk0, cgk0⟩ => [ownA kSl_2 (packTo x k) [.slice Agk0 (packTo x k).length cgk0], rowA g3 30 5 1 [.int .i64 x.kind, .int .i64 x.links, .int .i64 x.size, .slice A0_3 x.blocks.length c0_3, .slice A0_4 x.ents.length c0_4]]) (fun ⟨k, Agk0, cgk0⟩ => k ≤ x.ents.length) (fun ⟨k, Agk0, cgk0⟩ => x.ents.length - k) (0, Ao10, co10) (Nat.zero_le _) (.c (.s .z) (.c (.s (.s .z)) (.c (.s16 (.s4 (.s .z))) (.c (.s16 (.s4 (.s (.s .z)))) .n)))) (fun _ h => h.sel (.c .z (.c .z .n))) ?_
 rintro ⟨k, Agk0, cgk0⟩ hk
 have hp := packTo_len hb k
 refine FJ.seq (FJ.seq (FJ.region (FJ.ql rfl (q_move rfl (.t (.s .z))) (FJ.ql rfl (q_fieldAddr rfl (.t (.s4 .z)) (fun _ => fa_30_4 _ _)) ?_))))
 refine FJ.ql rfl (q_load rfl ag_28 (.t .z) (WS.row (.s .z) rfl)) (FJ.ql rfl (q_len rfl u_28 (.t .z)) (FJ.ql rfl (q_lss rfl (.t (.s (.s (.s .z)))) (.t .z)) (FJ.nil (FJ.then_ ?_))))
 refine FJ.condP (.t .z) (fun b12 => ?_) (fun b12 => ?_)
 refine FJ.skip (FJ.then_ (FJ.seq (FJ.block (FJ.seq ?_))))
 refine FJ.region (FJ.ql rfl (q_fieldAddr rfl (.t (.s4 (.s4 .z))) (fun _ => fa_30_4 _ _)) (FJ.ql rfl (q_load rfl ag_28 (.t .z) (WS.row (.s .z) rfl)) (FJ.ql rfl (q_move rfl (.t (.s4 (.s4 .z)))) ?_)))
 obtain ⟨ad13, hAad13, hrad13⟩ := he0_4 (by omega)
 subst hAad13
 obtain ⟨x14, hx14⟩ := get_ex (xs := x.ents) (j := k) (by omega)
 obtain ⟨ece15, hre15, hFe15, hce15⟩ := hrad13.elem hx14
 obtain ⟨rfl, se15_0⟩ := kT_130_ro hre15
 refine FJ.ql rfl (q_indexAddr (j := k) rfl u_28 sz_130 (.t (.s .z)) (.t .z) rfl (by omega)) ?_
 refine FJ.ql rfl (q_loadA (cs := [.string x14.name, .int .i64 x14.ino]) rfl ag_130 sz_130 (.t .z) (WS.els hFe15 hce15)) ?_
 refine FJ.e (goes_list rfl) rfl (by decide) rfl (e_alloc rfl z_130 rfl rfl) ?_
 rintro _ _ ⟨g16, rfl, rfl⟩
 refine FJ.es (goes_list rfl) rfl (es_store (off := 0) (cs := [.string x14.name, .int .i64 x14.ino]) rfl sz_130 (.t .z) (.t (.s .z)) rfl (ones rfl) .z (Nat.le_of_ble_eq_true rfl) (.c .z (.c (.s .z) .n))) ?_
 refine FJ.nil (FJ.then_ (FJ.seq (FJ.region (FJ.ql rfl (q_move rfl (.t (.s4 (.s4 (.s (.s (.s .z))))))) ?_))))
 refine FJ.ql rfl (q_fieldAddr rfl (.t (.s .z)) (fun _ => fa_130_1 _ _)) (FJ.ql rfl (q_load rfl ag_2 (.t .z) (WS.row .z rfl)) (FJ.ql rfl (q_fieldAddr rfl (.t (.s (.s (.s .z)))) (fun _ => fa_130_0 _ _)) (FJ.ql rfl (q_load rfl ag_9 (.t .z) (WS.row .z rfl)) (FJ.ql rfl (q_len_s rfl u_9 (.t .z)) ?_))))
 refine FJ.e (goes_list rfl) rfl (by decide) rfl (e_buildSliceL (ps := [(0, .int .i64 x14.ino), (1, .int .i64 (x14.name.size : Int))]) (cs := [.int .i64 x14.ino, .int .i64 (x14.name.size : Int)]) rfl u_22 (inz inf_2) (by decide) (by intro act hact; simp only [List.map_toArray, List.map_cons, List.map_nil, (show Val _ _ _ from (.t (.s (.s (.s .z))))) act hact, (show Val _ _ _ from (.t .z)) act hact]) rfl rfl (by decide) rfl rfl) ?_
 rintro _ _ ⟨g17, rfl, rfl⟩
 refine FJ.turns (c := ownA kSl_2 ([x14.ino, (x14.name.size : Int)] : (List Int)) [.slice (some ⟨g17, 0, none⟩) 2 2]) (.c .z .n) (fun w S h => lit_own (xs := ([x14.ino, (x14.name.size : Int)] : (List Int))) h rfl (by simp) (by omega) (by omega)) ?_
 refine FJ.e (goes_list rfl) rfl (by decide) rfl (e_appendF (flat_scalar _ _ _) rfl u_22 inf_2 rfl (.t (.s4 (.s (.s .z)))) (.t .z) (.c (.s (.s .z)) .n) (fun w1 S1 tr => tr.own .z) (by first | omega | (simp only [List.length_append, List.length_take, List.length_nil, List.length_cons]; omega)) (by first | omega | (simp only [List.length_append, List.length_take, List.length_nil, List.length_cons]; omega))) ?_
 rintro _ _ rfl
 refine FJ.know (WS.oform .z) ?_
 rintro ⟨Ao19, co19, rfl, hlo19, hmo19, hbo19⟩
 refine FJ.er (.s16 (.s (.s (.s .z)))) (FJ.ql rfl (q_assign rfl (.t .z)) (FJ.nil (FJ.then_ (FJ.seq ?_))))
 refine FJ.region (FJ.ql rfl (q_assign rfl .c) (FJ.nil (FJ.then_ (FJ.block ?_))))
 have hn4 := name_size hb hx14
 have he20 : (packTo x k) ++ ([x14.ino, (x14.name.size : Int)] : (List Int)) = nameTo (packTo x k ++ [x14.ino, (x14.name.size : Int)]) x14.name 0 := (nameTo_0 _ _)
 refine FJ.eq (.s .z) (congrArg (fun z_ => (.slice Ao19 (z_).length co19 : Value)) he20) ?_
 refine FJ.eq (.s (.s .z)) (congrArg (fun z_ => (.slice Ao19 (z_).length co19 : Value)) he20) ?_
 refine FJ.chEq .z (congrArg (fun z_ => (ownA kSl_2 (z_) [.slice Ao19 (z_).length co19] : Asn)) he20) ?_
 refine FJ.loopi (γ := Nat × (Option Addr) × Nat) (fun ⟨j, Agj0, cgj0⟩ => [(3, .slice Agj0 (nameTo (packTo x k ++ [x14.ino, (x14.name.size : Int)]) x14.name j).length cgj0), (6, .int .i64 (j : Int)), (5, .pointer (some ⟨g16, 0, none⟩)), (4, .int .i64 (k : Int)), (2, .slice none 0 0), (1, .pointer (some ⟨g3, 0, none⟩))]) (fun ⟨j, Agj0, cgj0⟩ => [ownA kSl_2 (nameTo (packTo x k ++ [x14.ino, (x14.name.size : Int)]) x14.name j) [.slice Agj0 (nameTo (packTo x k ++ [x14.ino, (x14.name.size : Int)]) x14.name j).length cgj0], ownA kSl_2 ([x14.ino, (x14.name.size : Int)] : (List Int)) [.slice (some ⟨g17, 0, none⟩) 2 2], rowA g16 130 2 1 [.string x14.name, .int .i64 x14.ino], rowA g3 30 5 1 [.int .i64 x.kind, .int .i64 x.links, .int .i64 x.size, .slice A0_3 x.blocks.length c0_3, .slice (some ad13) x.ents.length c0_4]]) (fun ⟨j, Agj0, cgj0⟩ => j ≤ x14.name.size) (fun ⟨j, Agj0, cgj0⟩ => x14.name.size - j) (0, Ao19, co19) (Nat.zero_le _) (.c (.s .z) (.c (.s (.s .z)) (.c (.s4 (.s4 (.s (.s .z)))) (.c (.s16 (.s4 (.s .z))) (.c (.s16 (.s4 (.s (.s .z)))) (.c (.s16 (.s4 (.s (.s (.s .z))))) .n)))))) (fun _ h => h.sel (.c .z (.c .z (.c .z (.c .z .n))))) ?_
 rintro ⟨j, Agj0, cgj0⟩ hj
 have hq := nameTo_len (packTo x k ++ [x14.ino, (x14.name.size : Int)]) x14.name j
 simp only [List.length_append, List.length_cons, List.length_nil] at hq
 refine FJ.seq (FJ.seq (FJ.region (FJ.ql rfl (q_move rfl (.t (.s .z))) (FJ.ql rfl (q_fieldAddr rfl (.t (.s (.s (.s .z)))) (fun _ => fa_130_0 _ _)) ?_))))
 refine FJ.ql rfl (q_load rfl ag_9 (.t .z) (WS.row (.s (.s .z)) rfl)) (FJ.ql rfl (q_len_s rfl u_9 (.t .z)) (FJ.ql rfl (q_lss rfl (.t (.s (.s (.s .z)))) (.t .z)) (FJ.nil (FJ.then_ ?_))))
 refine FJ.condP (.t .z) (fun b21 => ?_) (fun b21 => ?_)
 refine FJ.skip (FJ.then_ (FJ.seq (FJ.block (FJ.region ?_))))
 refine FJ.ql rfl (q_move rfl (.t (.s4 (.s .z)))) (FJ.ql rfl (q_fieldAddr rfl (.t (.s4 (.s4 .z))) (fun _ => fa_130_0 _ _)) (FJ.ql rfl (q_load rfl ag_9 (.t .z) (WS.row (.s (.s .z)) rfl)) (FJ.ql rfl (q_move rfl (.t (.s4 (.s4 (.s .z))))) ?_)))
 obtain ⟨b22, hb22⟩ := get_ex (xs := x14.name.data.toList) (j := j) (by have := str_len x14.name; omega)
 refine FJ.ql rfl (q_index_s rfl u_9 (.t (.s .z)) (.t .z) rfl hb22) ?_
 refine FJ.ql rfl (q_conv (c := (b22.toNat : Int)) rfl (.t .z) u_5 u_2 (wr rfl (by omega) (by have := UInt8.toNat_lt b22; omega))) ?_
 refine FJ.e (goes_list rfl) rfl (by decide) rfl (e_buildSliceL (ps := [(0, .int .i64 (b22.toNat : Int))]) (cs := [.int .i64 (b22.toNat : Int)]) rfl u_22 (inz inf_2) (by decide) (by intro act hact; simp only [List.map_toArray, List.map_cons, List.map_nil, (show Val _ _ _ from (.t .z)) act hact]) rfl rfl (by decide) rfl rfl) ?_
 rintro _ _ ⟨g23, rfl, rfl⟩
 refine FJ.add (c := ownA (kint .i64) (b22.toNat : Int) [.int .i64 (b22.toNat : Int)]) (fun _ _ => ⟨rfl, trivial⟩) ?_
 refine FJ.e (goes_list rfl) rfl (by decide) rfl (e_append1 rfl u_22 inf_2 rfl (.t (.s4 (.s (.s .z)))) (.t .z) (.c (.s (.s .z)) (.c (.s .z) (.c .z .n))) (by first | omega | (simp only [List.length_append, List.length_take, List.length_nil, List.length_cons]; omega)) (by first | omega | (simp only [List.length_append, List.length_take, List.length_nil, List.length_cons]; omega))) ?_
 rintro _ _ rfl
 refine FJ.ceq .z (nameTo_s hb22) ?_
 refine FJ.know (WS.oform .z) ?_
 rintro ⟨Ao25, co25, rfl, hlo25, hmo25, hbo25⟩
 refine FJ.er (.s4 (.s4 (.s4 (.s .z)))) (FJ.ql rfl (q_assign rfl (.t .z)) (FJ.nil (FJ.inBN (FJ.then_ ?_))))
 refine FJ.region (FJ.ql rfl (q_move rfl (.t (.s4 (.s4 (.s4 (.s (.s .z))))))) ?_)
 refine FJ.ql rfl (q_add (c := ((j + 1 : Nat) : Int)) rfl (.t .z) .c (wr (by omega) (by omega) (by omega))) ?_
 refine FJ.er (.s16 .z) (FJ.ql rfl (q_assign rfl (.t .z)) (FJ.nil ?_))
 refine FJ.again ((j + 1), Ao25, co25) (by omega) (by first | omega | (dsimp only; omega)) (.c (.s (.s (.s .z))) (.c .z (.c (.s16 (.s .z)) (.c (.s16 (.s (.s .z))) (.c (.s16 (.s (.s (.s .z)))) (.c (.s16 (.s4 .z)) .n)))))) (fun _ h => h.sel (.c .z (.c .z (.c .z (.c .z .n)))))
 refine FJ.exit (FJ.thenE (FJ.thenE (FJ.inB (FJ.inBN ?_))))
 refine FJ.then_ (FJ.region (FJ.ql rfl (q_move rfl (.t (.s4 (.s4 .z)))) ?_))
 refine FJ.ql rfl (q_add (c := ((k + 1 : Nat) : Int)) rfl (.t .z) .c (wr (by omega) (by omega) (by omega))) ?_
 refine FJ.er (.s4 (.s4 (.s (.s .z)))) (FJ.ql rfl (q_assign rfl (.t .z)) (FJ.nil ?_))
 have he26 : nameTo (packTo x k ++ [x14.ino, (x14.name.size : Int)]) x14.name j = packTo x (k + 1) := (packTo_s hx14 (by omega))
 refine FJ.eq (.s4 (.s4 .z)) (congrArg (fun z_ => (.slice Agj0 (z_).length cgj0 : Value)) he26) ?_
 refine FJ.chEq .z (congrArg (fun z_ => (ownA kSl_2 (z_) [.slice Agj0 (z_).length cgj0] : Asn)) he26) ?_
 refine FJ.again ((k + 1), Agj0, cgj0) (by omega) (by first | omega | (dsimp only; omega)) (.c .z (.c (.s .z) (.c (.s4 (.s4 (.s (.s (.s .z))))) (.c (.s4 (.s4 (.s4 .z))) .n)))) (fun _ h => h.sel (.c .z (.c (.s (.s .z)) .n)))
 refine FJ.exit (FJ.thenE (FJ.thenE (FJ.inB (FJ.then_ ?_))))
 refine FJ.seq (FJ.region (FJ.ql rfl (q_move rfl (.t (.s4 (.s .z)))) (FJ.er (.s4 (.s4 .z)) (FJ.ql rfl (q_assign rfl (.t .z)) ?_))))
 refine FJ.nil (FJ.then_ (FJ.ret ?_))
 refine FJ.ceq (x' := packI x) .z (by first | exact packI_f (by assumption) | exact packI_d (by omega) (by omega)) ?_
 refine FJ.doneS (res1 rfl .z) (.c .z .n) ?_
 rfl

set_option maxHeartbeats 1000000 in
set_option maxRecDepth 20000 in
theorem c_88 {w0 : World} {S0 : Bs} {x : DInode} {cs0 : List Value} (h0 : kT_30.ro w0 (FF w0 S0) x cs0) (hb : inodeFault x = 0) :
    Calls Try.prog 88 #[.agg cs0.toArray] w0 (TriPost w0 S0 (fun r l => l = [ownA kSl_2 (packI x) [r]])) := by
 obtain ⟨u0_3, u0_4, rfl, h0_3, h0_4⟩ := kT_30_ro h0
 obtain ⟨A0_3, c0_3, rfl, hl0_3, hm0_3, hb0_3, he0_3⟩ := ro_form h0_3
 obtain ⟨A0_4, c0_4, rfl, hl0_4, hm0_4, hb0_4, he0_4⟩ := ro_form h0_4
 have h4 := (blocks_4 hb).1
 refine FJ.enter (N := 59) Try.func88 rfl rfl (by simp) [(0, .agg #[.int .i64 x.kind, .int .i64 x.links, .int .i64 x.size, .slice A0_3 x.blocks.length c0_3, .slice A0_4 x.ents.length c0_4])] (by simp) (l0 := []) trivial ?_
 refine FJ.seq (FJ.region ?_)
 refine FJ.e (goes_list rfl) rfl (by decide) rfl (e_box (cs := [.int .i64 x.kind, .int .i64 x.links, .int .i64 x.size, .slice A0_3 x.blocks.length c0_3, .slice A0_4 x.ents.length c0_4]) (n := 5) rfl (.t .z) rfl rfl) ?_
 rintro _ _ ⟨g3, rfl, rfl⟩
 refine FJ.ql rfl (q_assign rfl .c) (FJ.nil (FJ.then_ (FJ.seq (FJ.region ?_))))
 refine FJ.ql rfl (q_fieldAddr rfl (.t (.s .z)) (fun _ => fa_30_0 _ _)) (FJ.ql rfl (q_load rfl ag_2 (.t .z) (WS.row .z rfl)) (FJ.ql rfl (q_fieldAddr rfl (.t (.s (.s (.s .z)))) (fun _ => fa_30_1 _ _)) (FJ.ql rfl (q_load rfl ag_2 (.t .z) (WS.row .z rfl)) (FJ.ql rfl (q_fieldAddr rfl (.t (.s4 (.s .z))) (fun _ => fa_30_2 _ _)) ?_))))
 refine FJ.ql rfl (q_load rfl ag_2 (.t .z) (WS.row .z rfl)) ?_
 refine FJ.e (goes_list rfl) rfl (by decide) rfl (e_buildSliceL (ps := [(0, .int .i64 x.kind), (1, .int .i64 x.links), (2, .int .i64 x.size)]) (cs := [.int .i64 x.kind, .int .i64 x.links, .int .i64 x.size]) rfl u_22 (inz inf_2) (by decide) (by intro act hact; simp only [List.map_toArray, List.map_cons, List.map_nil, (show Val _ _ _ from (.t (.s4 .z))) act hact, (show Val _ _ _ from (.t (.s (.s .z)))) act hact, (show Val _ _ _ from (.t .z)) act hact]) rfl rfl (by decide) rfl rfl) ?_
 rintro _ _ ⟨g4, rfl, rfl⟩
 refine FJ.ql rfl (q_fieldAddr rfl (.t (.s4 (.s4 .z))) (fun _ => fa_30_3 _ _)) (FJ.ql rfl (q_load rfl ag_22 (.t .z) (WS.row (.s .z) rfl)) ?_)
 refine FJ.turns (c := ownA kSl_2 ([x.kind, x.links, x.size] : (List Int)) [.slice (some ⟨g4, 0, none⟩) 3 3]) (.c .z .n) (fun w S h => lit_own (xs := ([x.kind, x.links, x.size] : (List Int))) h rfl (by simp) (by omega) (by omega)) ?_
 refine FJ.e (goes_list rfl) rfl (by decide) rfl (e_appendF (flat_scalar _ _ _) rfl u_22 inf_2 rfl (.t (.s (.s .z))) (.t .z) (.c .z .n) (fun w1 S1 tr => tr.ctx h0_3) (by first | omega | (simp only [List.length_append, List.length_take, List.length_nil, List.length_cons]; omega)) (by first | omega | (simp only [List.length_append, List.length_take, List.length_nil, List.length_cons]; omega))) ?_
 rintro _ _ rfl
 refine FJ.know (WS.oform .z) ?_
 rintro ⟨Ao6, co6, rfl, hlo6, hmo6, hbo6⟩
 refine FJ.ql rfl (q_assign rfl (.t .z)) (FJ.nil (FJ.then_ (FJ.seq (FJ.seq ?_))))
 refine FJ.region (FJ.ql rfl (q_fieldAddr rfl (.t (.s4 (.s4 (.s4 .z)))) (fun _ => fa_30_0 _ _)) (FJ.ql rfl (q_load rfl ag_2 (.t .z) (WS.row (.s .z) rfl)) (FJ.ql rfl (q_neq rfl (.t .z) .c) (FJ.nil ?_))))
 refine FJ.then_ ?_
 refine FJ.condN (.t .z) (fun b7 => ?_) (fun b7 => ?_)
 refine FJ.seq (FJ.region (FJ.ql rfl (q_move rfl (.t (.s (.s (.s .z))))) (FJ.er (.s4 (.s4 (.s4 (.s (.s (.s .z)))))) (FJ.ql rfl (q_assign rfl (.t .z)) ?_))))
 refine FJ.nil (FJ.then_ (FJ.ret (FJ.thenR ?_)))
 refine FJ.ceq (x' := packI x) .z (by first | exact packI_f (by assumption) | exact packI_d (by omega) (by omega)) ?_
 refine FJ.doneS (res1 rfl .z) (.c .z .n) ?_
 rfl
 refine FJ.skip (FJ.then_ (FJ.seq (FJ.region (FJ.ql rfl (q_move rfl (.t (.s (.s (.s .z))))) ?_))))
 refine FJ.ql rfl (q_fieldAddr rfl (.t (.s16 .z)) (fun _ => fa_30_4 _ _)) (FJ.ql rfl (q_load rfl ag_28 (.t .z) (WS.row (.s .z) rfl)) ?_)
 refine FJ.call (goes_list rfl) rfl (by decide) rfl (c_call rfl Try.func127 rfl rfl (args1 (.t .z))) .n (fun w1 S1 hs tr => c_127 (tr.ctx h0_4)) ?_
 rintro _ _ ⟨rfl, rfl⟩
 refine FJ.cat .n ?_
 refine FJ.e (goes_list rfl) rfl (by decide) rfl (e_buildSliceL (ps := [(0, .int .i64 (x.ents.length : Int))]) (cs := [.int .i64 (x.ents.length : Int)]) rfl u_22 (inz inf_2) (by decide) (by intro act hact; simp only [List.map_toArray, List.map_cons, List.map_nil, (show Val _ _ _ from (.t .z)) act hact]) rfl rfl (by decide) rfl rfl) ?_
 rintro _ _ ⟨g8, rfl, rfl⟩
 refine FJ.add (c := ownA (kint .i64) (x.ents.length : Int) [.int .i64 (x.ents.length : Int)]) (fun _ _ => ⟨rfl, trivial⟩) ?_
 refine FJ.e (goes_list rfl) rfl (by decide) rfl (e_append1 rfl u_22 inf_2 rfl (.t (.s4 .z)) (.t .z) (.c (.s (.s .z)) (.c (.s .z) (.c .z .n))) (by first | omega | (simp only [List.length_append, List.length_take, List.length_nil, List.length_cons]; omega)) (by first | omega | (simp only [List.length_append, List.length_take, List.length_nil, List.length_cons]; omega))) ?_
 rintro _ _ rfl
 refine FJ.know (WS.oform .z) ?_
 rintro ⟨Ao10, co10, rfl, hlo10, hmo10, hbo10⟩
 refine FJ.er (.s4 (.s4 (.s .z))) (FJ.ql rfl (q_assign rfl (.t .z)) (FJ.nil (FJ.then_ (FJ.seq ?_))))
 refine FJ.seq (FJ.region (FJ.ql rfl (q_fieldAddr rfl (.t (.s16 (.s4 (.s .z)))) (fun _ => fa_30_4 _ _)) (FJ.ql rfl (q_load rfl ag_28 (.t .z) (WS.row (.s .z) rfl)) (FJ.ql rfl (q_len rfl u_28 (.t .z)) ?_))))
 refine FJ.ql rfl (q_move rfl .c) (FJ.nil (FJ.then_ (FJ.block ?_)))
 have he11 : (([x.kind, x.links, x.size] : (List Int)) ++ x.blocks) ++ [(x.ents.length : Int)] = packTo x 0 := (packTo_0 x)
 refine FJ.eq (.s4 .z) (congrArg (fun z_ => (.slice Ao10 (z_).length co10 : Value)) he11) ?_
 refine FJ.eq (.s4 (.s .z)) (congrArg (fun z_ => (.slice Ao10 (z_).length co10 : Value)) he11) ?_
 refine FJ.chEq .z (congrArg (fun z_ => (ownA kSl_2 (z_) [.slice Ao10 (z_).length co10] : Asn)) he11) ?_
 have hp0 := packTo_len hb 0
 refine FJ.loopi (γ := Nat × (Option Addr) × Nat) (fun ⟨k, Agk0, cgk0⟩ => [(3, .slice Agk0 (packTo x k).length cgk0), (30, .int .i64 (k : Int)), (29, .int .i64 (x.ents.length : Int)), (28, .slice A0_4 x.ents.length c0_4), (2, .slice none 0 0)]) (fun ⟨k, Agk0, cgk0⟩ => [ownA kSl_2 (packTo x k) [.slice Agk0 (packTo x k).length cgk0], rowA g3 30 5 1 [.int .i64 x.kind, .int .i64 x.links, .int .i64 x.size, .slice A0_3 x.blocks.length c0_3, .slice A0_4 x.ents.length c0_4]]) (fun ⟨k, Agk0, cgk0⟩ => k ≤ x.ents.length) (fun ⟨k, Agk0, cgk0⟩ => x.ents.length - k) (0, Ao10, co10) (Nat.zero_le _) (.c (.s .z) (.c (.s (.s .z)) (.c (.s (.s (.s .z))) (.c (.s4 .z) (.c (.s16 (.s4 (.s4 .z))) .n))))) (fun _ h => h.sel (.c .z (.c .z .n))) ?_
 rintro ⟨k, Agk0, cgk0⟩ hk
 have hp := packTo_len hb k
 refine FJ.seq (FJ.region (FJ.ql rfl (q_lss rfl (.t (.s .z)) (.t (.s (.s .z)))) (FJ.nil (FJ.then_ ?_))))
 refine FJ.seq ?_
 refine FJ.condP (.t .z) (fun b12 => ?_) (fun b12 => ?_)
 refine FJ.skip (FJ.then_ (FJ.seq (FJ.block (FJ.seq ?_))))
 refine FJ.region ?_
 obtain ⟨ad13, hAad13, hrad13⟩ := he0_4 (by omega)
 subst hAad13
 obtain ⟨x14, hx14⟩ := get_ex (xs := x.ents) (j := k) (by omega)
 obtain ⟨ece15, hre15, hFe15, hce15⟩ := hrad13.elem hx14
 obtain ⟨rfl, se15_0⟩ := kT_130_ro hre15
 refine FJ.ql rfl (q_indexAddr (j := k) rfl u_28 sz_130 (.t (.s4 .z)) (.t (.s (.s .z))) rfl (by omega)) ?_
 refine FJ.ql rfl (q_loadA (cs := [.string x14.name, .int .i64 x14.ino]) rfl ag_130 sz_130 (.t .z) (WS.els hFe15 hce15)) ?_
 refine FJ.e (goes_list rfl) rfl (by decide) rfl (e_alloc rfl z_130 rfl rfl) ?_
 rintro _ _ ⟨g16, rfl, rfl⟩
 refine FJ.es (goes_list rfl) rfl (es_store (off := 0) (cs := [.string x14.name, .int .i64 x14.ino]) rfl sz_130 (.t .z) (.t (.s .z)) rfl (ones rfl) .z (Nat.le_of_ble_eq_true rfl) (.c .z (.c (.s .z) .n))) ?_
 refine FJ.nil (FJ.then_ (FJ.seq (FJ.region (FJ.ql rfl (q_move rfl (.t (.s4 .z))) ?_))))
 refine FJ.ql rfl (q_fieldAddr rfl (.t (.s .z)) (fun _ => fa_130_1 _ _)) (FJ.ql rfl (q_load rfl ag_2 (.t .z) (WS.row .z rfl)) (FJ.ql rfl (q_fieldAddr rfl (.t (.s (.s (.s .z)))) (fun _ => fa_130_0 _ _)) (FJ.ql rfl (q_load rfl ag_9 (.t .z) (WS.row .z rfl)) (FJ.ql rfl (q_len_s rfl u_9 (.t .z)) ?_))))
 refine FJ.e (goes_list rfl) rfl (by decide) rfl (e_buildSliceL (ps := [(0, .int .i64 x14.ino), (1, .int .i64 (x14.name.size : Int))]) (cs := [.int .i64 x14.ino, .int .i64 (x14.name.size : Int)]) rfl u_22 (inz inf_2) (by decide) (by intro act hact; simp only [List.map_toArray, List.map_cons, List.map_nil, (show Val _ _ _ from (.t (.s (.s (.s .z))))) act hact, (show Val _ _ _ from (.t .z)) act hact]) rfl rfl (by decide) rfl rfl) ?_
 rintro _ _ ⟨g17, rfl, rfl⟩
 refine FJ.turns (c := ownA kSl_2 ([x14.ino, (x14.name.size : Int)] : (List Int)) [.slice (some ⟨g17, 0, none⟩) 2 2]) (.c .z .n) (fun w S h => lit_own (xs := ([x14.ino, (x14.name.size : Int)] : (List Int))) h rfl (by simp) (by omega) (by omega)) ?_
 refine FJ.e (goes_list rfl) rfl (by decide) rfl (e_appendF (flat_scalar _ _ _) rfl u_22 inf_2 rfl (.t (.s4 (.s (.s .z)))) (.t .z) (.c (.s (.s .z)) .n) (fun w1 S1 tr => tr.own .z) (by first | omega | (simp only [List.length_append, List.length_take, List.length_nil, List.length_cons]; omega)) (by first | omega | (simp only [List.length_append, List.length_take, List.length_nil, List.length_cons]; omega))) ?_
 rintro _ _ rfl
 refine FJ.know (WS.oform .z) ?_
 rintro ⟨Ao19, co19, rfl, hlo19, hmo19, hbo19⟩
 refine FJ.er (.s4 (.s4 (.s4 .z))) (FJ.ql rfl (q_assign rfl (.t .z)) (FJ.nil (FJ.then_ (FJ.seq ?_))))
 refine FJ.region (FJ.ql rfl (q_fieldAddr rfl (.t (.s4 (.s4 (.s .z)))) (fun _ => fa_130_0 _ _)) (FJ.ql rfl (q_load rfl ag_9 (.t .z) (WS.row (.s (.s .z)) rfl)) (FJ.ql rfl (q_len_s rfl u_9 (.t .z)) (FJ.ql rfl (q_move rfl .c) ?_))))
 refine FJ.nil (FJ.then_ (FJ.block ?_))
 have hn4 := name_size hb hx14
 have he20 : (packTo x k) ++ ([x14.ino, (x14.name.size : Int)] : (List Int)) = nameTo (packTo x k ++ [x14.ino, (x14.name.size : Int)]) x14.name 0 := (nameTo_0 _ _)
 refine FJ.eq (.s4 .z) (congrArg (fun z_ => (.slice Ao19 (z_).length co19 : Value)) he20) ?_
 refine FJ.eq (.s4 (.s .z)) (congrArg (fun z_ => (.slice Ao19 (z_).length co19 : Value)) he20) ?_
 refine FJ.chEq .z (congrArg (fun z_ => (ownA kSl_2 (z_) [.slice Ao19 (z_).length co19] : Asn)) he20) ?_
 refine FJ.loopi (γ := Nat × (Option Addr) × Nat) (fun ⟨j, Agj0, cgj0⟩ => [(3, .slice Agj0 (nameTo (packTo x k ++ [x14.ino, (x14.name.size : Int)]) x14.name j).length cgj0), (45, .int .i64 (j : Int)), (44, .int .i64 (x14.name.size : Int)), (5, .pointer (some ⟨g16, 0, none⟩)), (30, .int .i64 (k : Int)), (29, .int .i64 (x.ents.length : Int)), (28, .slice (some ad13) x.ents.length c0_4), (2, .slice none 0 0)]) (fun ⟨j, Agj0, cgj0⟩ => [ownA kSl_2 (nameTo (packTo x k ++ [x14.ino, (x14.name.size : Int)]) x14.name j) [.slice Agj0 (nameTo (packTo x k ++ [x14.ino, (x14.name.size : Int)]) x14.name j).length cgj0], ownA kSl_2 ([x14.ino, (x14.name.size : Int)] : (List Int)) [.slice (some ⟨g17, 0, none⟩) 2 2], rowA g16 130 2 1 [.string x14.name, .int .i64 x14.ino], rowA g3 30 5 1 [.int .i64 x.kind, .int .i64 x.links, .int .i64 x.size, .slice A0_3 x.blocks.length c0_3, .slice (some ad13) x.ents.length c0_4]]) (fun ⟨j, Agj0, cgj0⟩ => j ≤ x14.name.size) (fun ⟨j, Agj0, cgj0⟩ => x14.name.size - j) (0, Ao19, co19) (Nat.zero_le _) (.c (.s .z) (.c (.s (.s .z)) (.c (.s (.s (.s .z))) (.c (.s4 (.s4 (.s4 (.s .z)))) (.c (.s16 (.s .z)) (.c (.s16 (.s (.s .z))) (.c (.s16 (.s (.s (.s .z)))) (.c (.s16 (.s4 .z)) .n)))))))) (fun _ h => h.sel (.c .z (.c .z (.c .z (.c .z .n))))) ?_
 rintro ⟨j, Agj0, cgj0⟩ hj
 have hq := nameTo_len (packTo x k ++ [x14.ino, (x14.name.size : Int)]) x14.name j
 simp only [List.length_append, List.length_cons, List.length_nil] at hq
 refine FJ.seq (FJ.region (FJ.ql rfl (q_lss rfl (.t (.s .z)) (.t (.s (.s .z)))) (FJ.nil (FJ.then_ ?_))))
 refine FJ.seq ?_
 refine FJ.condP (.t .z) (fun b21 => ?_) (fun b21 => ?_)
 refine FJ.skip (FJ.then_ (FJ.seq (FJ.block (FJ.seq ?_))))
 refine FJ.region (FJ.ql rfl (q_move rfl (.t (.s (.s .z)))) (FJ.ql rfl (q_assign rfl (.t .z)) (FJ.nil (FJ.then_ ?_))))
 refine FJ.region (FJ.ql rfl (q_move rfl (.t (.s (.s (.s .z))))) (FJ.ql rfl (q_fieldAddr rfl (.t (.s4 (.s (.s (.s .z))))) (fun _ => fa_130_0 _ _)) (FJ.ql rfl (q_load rfl ag_9 (.t .z) (WS.row (.s (.s .z)) rfl)) (FJ.ql rfl (q_move rfl (.t (.s (.s (.s .z))))) ?_))))
 obtain ⟨b22, hb22⟩ := get_ex (xs := x14.name.data.toList) (j := j) (by have := str_len x14.name; omega)
 refine FJ.ql rfl (q_index_s rfl u_9 (.t (.s .z)) (.t .z) rfl hb22) ?_
 refine FJ.ql rfl (q_conv (c := (b22.toNat : Int)) rfl (.t .z) u_5 u_2 (wr rfl (by omega) (by have := UInt8.toNat_lt b22; omega))) ?_
 refine FJ.e (goes_list rfl) rfl (by decide) rfl (e_buildSliceL (ps := [(0, .int .i64 (b22.toNat : Int))]) (cs := [.int .i64 (b22.toNat : Int)]) rfl u_22 (inz inf_2) (by decide) (by intro act hact; simp only [List.map_toArray, List.map_cons, List.map_nil, (show Val _ _ _ from (.t .z)) act hact]) rfl rfl (by decide) rfl rfl) ?_
 rintro _ _ ⟨g23, rfl, rfl⟩
 refine FJ.add (c := ownA (kint .i64) (b22.toNat : Int) [.int .i64 (b22.toNat : Int)]) (fun _ _ => ⟨rfl, trivial⟩) ?_
 refine FJ.e (goes_list rfl) rfl (by decide) rfl (e_append1 rfl u_22 inf_2 rfl (.t (.s4 (.s (.s .z)))) (.t .z) (.c (.s (.s .z)) (.c (.s .z) (.c .z .n))) (by first | omega | (simp only [List.length_append, List.length_take, List.length_nil, List.length_cons]; omega)) (by first | omega | (simp only [List.length_append, List.length_take, List.length_nil, List.length_cons]; omega))) ?_
 rintro _ _ rfl
 refine FJ.ceq .z (nameTo_s hb22) ?_
 refine FJ.know (WS.oform .z) ?_
 rintro ⟨Ao25, co25, rfl, hlo25, hmo25, hbo25⟩
 refine FJ.er (.s4 (.s4 (.s (.s (.s .z))))) (FJ.ql rfl (q_assign rfl (.t .z)) (FJ.nil (FJ.inBN (FJ.then_ ?_))))
 refine FJ.region ?_
 refine FJ.ql rfl (q_add (c := ((j + 1 : Nat) : Int)) rfl (.t (.s4 (.s4 (.s4 .z)))) .c (wr (by omega) (by omega) (by omega))) ?_
 refine FJ.er (.s4 (.s4 (.s4 (.s .z)))) (FJ.ql rfl (q_move rfl (.t .z)) (FJ.nil ?_))
 refine FJ.again ((j + 1), Ao25, co25) (by omega) (by first | omega | (dsimp only; omega)) (.c (.s (.s .z)) (.c .z (.c (.s4 (.s4 (.s4 (.s (.s .z))))) (.c (.s4 (.s4 (.s4 (.s (.s (.s .z)))))) (.c (.s16 .z) (.c (.s16 (.s .z)) (.c (.s16 (.s (.s .z))) (.c (.s16 (.s (.s (.s .z)))) .n)))))))) (fun _ h => h.sel (.c .z (.c .z (.c .z (.c .z .n)))))
 refine FJ.exit (FJ.thenE (FJ.thenE (FJ.inB (FJ.inBN ?_))))
 refine FJ.then_ (FJ.region ?_)
 refine FJ.ql rfl (q_add (c := ((k + 1 : Nat) : Int)) rfl (.t (.s4 (.s .z))) .c (wr (by omega) (by omega) (by omega))) ?_
 refine FJ.er (.s4 (.s (.s .z))) (FJ.ql rfl (q_move rfl (.t .z)) (FJ.nil ?_))
 have he26 : nameTo (packTo x k ++ [x14.ino, (x14.name.size : Int)]) x14.name j = packTo x (k + 1) := (packTo_s hx14 (by omega))
 refine FJ.eq (.s (.s (.s .z))) (congrArg (fun z_ => (.slice Agj0 (z_).length cgj0 : Value)) he26) ?_
 refine FJ.chEq .z (congrArg (fun z_ => (ownA kSl_2 (z_) [.slice Agj0 (z_).length cgj0] : Asn)) he26) ?_
 refine FJ.again ((k + 1), Agj0, cgj0) (by omega) (by first | omega | (dsimp only; omega)) (.c .z (.c (.s .z) (.c (.s4 (.s (.s (.s .z)))) (.c (.s4 (.s4 .z)) (.c (.s4 (.s4 (.s .z))) .n))))) (fun _ h => h.sel (.c .z (.c (.s (.s .z)) .n)))
 refine FJ.exit (FJ.thenE (FJ.thenE (FJ.inB (FJ.then_ ?_))))
 refine FJ.seq (FJ.region (FJ.ql rfl (q_move rfl (.t (.s .z))) (FJ.er (.s4 (.s (.s .z))) (FJ.ql rfl (q_assign rfl (.t .z)) ?_))))
 refine FJ.nil (FJ.then_ (FJ.ret ?_))
 refine FJ.ceq (x' := packI x) .z (by first | exact packI_f (by assumption) | exact packI_d (by omega) (by omega)) ?_
 refine FJ.doneS (res1 rfl .z) (.c .z .n) ?_
 rfl

set_option maxHeartbeats 1000000 in
set_option maxRecDepth 20000 in
theorem c_36 {w0 : World} {S0 : Bs} {x : DInode} {cs0 : List Value} (h0 : kT_30.ro w0 (FF w0 S0) x cs0)  :
    Calls Try.prog 36 #[.agg cs0.toArray] w0 (TriPost w0 S0 (RA_57 (packR x))) := by
 obtain ⟨u0_3, u0_4, rfl, h0_3, h0_4⟩ := kT_30_ro h0
 obtain ⟨A0_3, c0_3, rfl, hl0_3, hm0_3, hb0_3, he0_3⟩ := ro_form h0_3
 obtain ⟨A0_4, c0_4, rfl, hl0_4, hm0_4, hb0_4, he0_4⟩ := ro_form h0_4
 refine FJ.enter (N := 13) Try.func36 rfl rfl (by simp) [(0, .agg #[.int .i64 x.kind, .int .i64 x.links, .int .i64 x.size, .slice A0_3 x.blocks.length c0_3, .slice A0_4 x.ents.length c0_4])] (by simp) (l0 := []) trivial ?_
 refine FJ.seq (FJ.region ?_)
 refine FJ.e (goes_list rfl) rfl (by decide) rfl (e_box (cs := [.int .i64 x.kind, .int .i64 x.links, .int .i64 x.size, .slice A0_3 x.blocks.length c0_3, .slice A0_4 x.ents.length c0_4]) (n := 5) rfl (.t .z) rfl rfl) ?_
 rintro _ _ ⟨g3, rfl, rfl⟩
 refine FJ.e (goes_list rfl) rfl (by decide) rfl (e_alloc rfl z_57 rfl rfl) ?_
 rintro _ _ ⟨g4, rfl, rfl⟩
 refine FJ.nil (FJ.then_ (FJ.seq (FJ.seq (FJ.region ?_))))
 refine FJ.ql rfl (q_loadA (cs := [.int .i64 x.kind, .int .i64 x.links, .int .i64 x.size, .slice A0_3 x.blocks.length c0_3, .slice A0_4 x.ents.length c0_4]) rfl ag_30 sz_30 (.t (.s .z)) (WS.rows0 (.s .z) (fun i u h => by exact h))) ?_
 refine FJ.call (goes_list rfl) rfl (by decide) rfl (c_call rfl Try.func70 rfl rfl (args1 (.t .z))) .n (fun w1 S1 hs tr => c_70 (kT_30_mk x (tr.ctx h0_3) (tr.ctx h0_4))) ?_
 rintro _ _ ⟨rfl, rfl⟩
 refine FJ.cat .n ?_
 refine FJ.ql rfl (q_assign rfl (.t .z)) (FJ.nil (FJ.then_ (FJ.seq (FJ.region ?_))))
 refine FJ.ql rfl (q_move rfl (.t .z)) (FJ.ql rfl (q_neq rfl (.t .z) .c) (FJ.nil (FJ.then_ ?_)))
 refine FJ.condN (.t .z) (fun b5 => ?_) (fun b5 => ?_)
 refine FJ.seq (FJ.region (FJ.ql rfl (q_move rfl (.t (.s (.s .z)))) ?_))
 refine FJ.ql rfl (q_build (ps := [(0, .int .i64 (inodeFault x))]) (cs := [.int .i64 (inodeFault x), .slice none 0 0]) rfl bl_57 (by intro act hact; simp only [List.map_toArray, List.map_cons, List.map_nil, (show Val _ _ _ from (.t .z)) act hact]) rfl) ?_
 refine FJ.es (goes_list rfl) rfl (es_store (off := 0) (cs := [.int .i64 (inodeFault x), .slice none 0 0]) rfl sz_57 (.t (.s4 (.s (.s (.s .z))))) (.t .z) rfl (ones rfl) .z (Nat.le_of_ble_eq_true rfl) (.c .z (.c (.s .z) .n))) ?_
 refine FJ.nil (FJ.then_ (FJ.ret (FJ.thenR ?_)))
 refine FJ.add (c := ownA kSl_2 [] [.slice none 0 0]) (fun w S => own_nil w S none) ?_
 refine FJ.doneS (resC (cs := [.int .i64 (inodeFault x), .slice none 0 0]) rfl (.s4 (.s (.s (.s .z)))) ag_57 sz_57 (WS.rows0 (cs := [.int .i64 (inodeFault x), .slice none 0 0]) (.s .z) (fun _ _ h => h))) (.c .z .n) ?_
 first | (rw [packR_f (by assumption)]; exact ⟨_, rfl, rfl⟩) | (rw [packR_0 (by assumption)]; exact ⟨_, rfl, rfl⟩)
 refine FJ.skip (FJ.then_ (FJ.seq (FJ.region ?_)))
 refine FJ.ql rfl (q_loadA (cs := [.int .i64 x.kind, .int .i64 x.links, .int .i64 x.size, .slice A0_3 x.blocks.length c0_3, .slice A0_4 x.ents.length c0_4]) rfl ag_30 sz_30 (.t (.s4 (.s (.s .z)))) (WS.rows0 (.s .z) (fun i u h => by exact h))) ?_
 refine FJ.call (goes_list rfl) rfl (by decide) rfl (c_call rfl Try.func88 rfl rfl (args1 (.t .z))) .n (fun w1 S1 hs tr => c_88 (kT_30_mk x (tr.ctx h0_3) (tr.ctx h0_4)) (by assumption)) ?_
 rintro _ _ rfl
 refine FJ.cat (.c .n) ?_
 refine FJ.know (WS.oform .z) ?_
 rintro ⟨Ao8, co8, rfl, hlo8, hmo8, hbo8⟩
 refine FJ.ql rfl (q_build (ps := [(1, .slice Ao8 (packI x).length co8)]) (cs := [.int .i64 0, .slice Ao8 (packI x).length co8]) rfl bl_57 (by intro act hact; simp only [List.map_toArray, List.map_cons, List.map_nil, (show Val _ _ _ from (.t .z)) act hact]) rfl) ?_
 refine FJ.es (goes_list rfl) rfl (es_store (off := 0) (cs := [.int .i64 0, .slice Ao8 (packI x).length co8]) rfl sz_57 (.t (.s4 (.s4 .z))) (.t .z) rfl (ones rfl) (.s .z) (Nat.le_of_ble_eq_true rfl) (.c .z (.c (.s .z) .n))) ?_
 refine FJ.nil (FJ.then_ (FJ.ret ?_))
 refine FJ.doneS (resC (cs := [.int .i64 0, .slice Ao8 (packI x).length co8]) rfl (.s4 (.s4 .z)) ag_57 sz_57 (WS.rows0 (cs := [.int .i64 0, .slice Ao8 (packI x).length co8]) .z (fun _ _ h => h))) (.c (.s .z) .n) ?_
 first | (rw [packR_f (by assumption)]; exact ⟨_, rfl, rfl⟩) | (rw [packR_0 (by assumption)]; exact ⟨_, rfl, rfl⟩)
end Go.Proofs.Ytoaebcjjfojfeaa
