/- What is proved: contracts of functions, one a function. No condition. -/
import Derived.Test.YtoaebcjjfojfeaaW51
namespace Go.Proofs.Ytoaebcjjfojfeaa
open Go Go.RowKit
set_option linter.unusedVariables false
set_option linter.unusedSimpArgs false
set_option maxHeartbeats 1000000 in
set_option maxRecDepth 20000 in
theorem c_87w {w0 : World} {S0 : Bs} {x : DInode} {cs0 : List Value} (h0 : kT_30.ro w0 (FF w0 S0) x cs0) (hb : PackOk x) :
    Calls Try.prog 87 #[.agg cs0.toArray] w0 (TriPost w0 S0 (fun r l => l = [ownA kSl_2 (packI x) [r]])) := by
 obtain ⟨u0_3, u0_4, rfl, h0_3, h0_4⟩ := kT_30_ro h0
 obtain ⟨A0_3, c0_3, rfl, hl0_3, hm0_3, hb0_3, he0_3⟩ := ro_form h0_3
 obtain ⟨A0_4, c0_4, rfl, hl0_4, hm0_4, hb0_4, he0_4⟩ := ro_form h0_4
 have packTo_len : PackOk x → ∀ k : Nat, (packTo x k).length ≤ 50 := packTo_lenW
 have name_size : PackOk x → ∀ {j : Nat} {e : DEnt}, x.ents[j]? = some e → e.name.size ≤ 4 := fun hb _ _ he => name_sizeW hb he
 have h4 := hb.2.2
 refine FJ.enter (N := 63) Try.func87 rfl rfl (by simp) [(0, .agg #[.int .i64 x.kind, .int .i64 x.links, .int .i64 x.size, .slice A0_3 x.blocks.length c0_3, .slice A0_4 x.ents.length c0_4])] (by simp) (l0 := []) trivial ?_
 refine FJ.seq (FJ.region ?_)
 refine FJ.e (goes_list rfl) rfl (by decide) rfl (e_box (cs := [.int .i64 x.kind, .int .i64 x.links, .int .i64 x.size, .slice A0_3 x.blocks.length c0_3, .slice A0_4 x.ents.length c0_4]) (n := 5) rfl (.t .z) rfl rfl) ?_
 rintro _ _ ⟨g3, rfl, rfl⟩
 refine FJ.ql rfl (q_assign rfl .c) (FJ.nil (FJ.then_ (FJ.seq (FJ.region ?_))))
 refine FJ.ql rfl (q_fieldAddr rfl (.t (.s .z)) (fun _ => fa_30_0 _ _)) (FJ.ql rfl (q_load rfl ag_2 (.t .z) (WS.row .z rfl)) (FJ.ql rfl (q_fieldAddr rfl (.t (.s (.s (.s .z)))) (fun _ => fa_30_1 _ _)) (FJ.ql rfl (q_load rfl ag_2 (.t .z) (WS.row .z rfl)) (FJ.ql rfl (q_fieldAddr rfl (.t (.s4 (.s .z))) (fun _ => fa_30_2 _ _)) ?_))))
 refine FJ.ql rfl (q_load rfl ag_2 (.t .z) (WS.row .z rfl)) ?_
 refine FJ.e (goes_list rfl) rfl (by decide) rfl (e_buildSliceL (ps := [(0, .int .i64 x.kind), (1, .int .i64 x.links), (2, .int .i64 x.size)]) (cs := [.int .i64 x.kind, .int .i64 x.links, .int .i64 x.size]) rfl u_22 (inz inf_2) (by decide) (by intro act hact; simp only [List.map_toArray, List.map_cons, List.map_nil, (show Val _ _ _ from (.t (.s4 .z))) act hact, (show Val _ _ _ from (.t (.s (.s .z)))) act hact, (show Val _ _ _ from (.t .z)) act hact]) rfl rfl (by decide) rfl rfl) ?_
 rintro _ _ ⟨g4, rfl, rfl⟩
 refine FJ.ql rfl (q_fieldAddr rfl (.t (.s4 (.s4 .z))) (fun _ => fa_30_3 _ _)) (FJ.ql rfl (q_load rfl ag_22 (.t .z) (WS.row (.s .z) rfl)) ?_)
 refine FJ.turns (c := ownA kSl_2 ([x.kind, x.links, x.size] : (List Int)) [.slice (some ⟨g4, 0, none⟩) 3 3]) (.c .z .n) (fun w S h => lit_own (xs := ([x.kind, x.links, x.size] : (List Int))) h rfl (by simp) (by omega) (by omega)) ?_
 refine FJ.e (goes_list rfl) rfl (by decide) rfl (e_appendF (flat_scalar _ _ _) rfl u_22 inf_2 rfl (.t (.s (.s .z))) (.t .z) (.c .z .n) (fun w1 S1 tr => tr.ctx h0_3) (by first | omega | (simp only [List.length_append, List.length_take, List.length_nil, List.length_cons]; omega)) (by first | omega | (simp only [List.length_append, List.length_take, List.length_nil, List.length_cons]; omega))) ?_
 rintro _ _ rfl
 refine FJ.know (WS.oform .z) ?_
 rintro ⟨Ao6, co6, rfl, hlo6, hmo6, hbo6⟩
 refine FJ.ql rfl (q_assign rfl (.t .z)) (FJ.nil (FJ.then_ (FJ.seq (FJ.seq ?_))))
 refine FJ.region (FJ.ql rfl (q_fieldAddr rfl (.t (.s4 (.s4 (.s4 .z)))) (fun _ => fa_30_0 _ _)) (FJ.ql rfl (q_load rfl ag_2 (.t .z) (WS.row (.s .z) rfl)) (FJ.ql rfl (q_neq rfl (.t .z) .c) (FJ.nil ?_))))
 refine FJ.then_ ?_
 refine FJ.condN (.t .z) (fun b7 => ?_) (fun b7 => ?_)
 refine FJ.seq (FJ.region (FJ.ql rfl (q_move rfl (.t (.s (.s (.s .z))))) (FJ.er (.s4 (.s4 (.s4 (.s (.s (.s .z)))))) (FJ.ql rfl (q_assign rfl (.t .z)) ?_))))
 refine FJ.nil (FJ.then_ (FJ.ret (FJ.thenR ?_)))
 refine FJ.ceq (x' := packI x) .z (by first | exact packI_f (by assumption) | exact packI_d (by omega) (by omega)) ?_
 refine FJ.doneS (res1 rfl .z) (.c .z .n) ?_
 rfl
 refine FJ.skip (FJ.then_ (FJ.seq (FJ.region (FJ.ql rfl (q_move rfl (.t (.s (.s (.s .z))))) ?_))))
 refine FJ.ql rfl (q_fieldAddr rfl (.t (.s16 .z)) (fun _ => fa_30_4 _ _)) (FJ.ql rfl (q_load rfl ag_28 (.t .z) (WS.row (.s .z) rfl)) (FJ.ql rfl (q_len rfl u_28 (.t .z)) ?_))
 refine FJ.e (goes_list rfl) rfl (by decide) rfl (e_buildSliceL (ps := [(0, .int .i64 (x.ents.length : Int))]) (cs := [.int .i64 (x.ents.length : Int)]) rfl u_22 (inz inf_2) (by decide) (by intro act hact; simp only [List.map_toArray, List.map_cons, List.map_nil, (show Val _ _ _ from (.t .z)) act hact]) rfl rfl (by decide) rfl rfl) ?_
 rintro _ _ ⟨g8, rfl, rfl⟩
 refine FJ.add (c := ownA (kint .i64) (x.ents.length : Int) [.int .i64 (x.ents.length : Int)]) (fun _ _ => ⟨rfl, trivial⟩) ?_
 refine FJ.e (goes_list rfl) rfl (by decide) rfl (e_append1 rfl u_22 inf_2 rfl (.t (.s4 .z)) (.t .z) (.c (.s (.s .z)) (.c (.s .z) (.c .z .n))) (by first | omega | (simp only [List.length_append, List.length_take, List.length_nil, List.length_cons]; omega)) (by first | omega | (simp only [List.length_append, List.length_take, List.length_nil, List.length_cons]; omega))) ?_
 rintro _ _ rfl
 refine FJ.know (WS.oform .z) ?_
 rintro ⟨Ao10, co10, rfl, hlo10, hmo10, hbo10⟩
 refine FJ.er (.s4 (.s4 (.s .z))) (FJ.ql rfl (q_assign rfl (.t .z)) (FJ.nil (FJ.then_ (FJ.seq ?_))))
 refine FJ.seq (FJ.region (FJ.ql rfl (q_assign rfl .c) (FJ.nil (FJ.then_ ?_))))
 refine FJ.block ?_
 have he11 : (([x.kind, x.links, x.size] : (List Int)) ++ x.blocks) ++ [(x.ents.length : Int)] = packTo x 0 := (packTo_0 x)
 refine FJ.eq (.s .z) (congrArg (fun z_ => (.slice Ao10 (z_).length co10 : Value)) he11) ?_
 refine FJ.eq (.s (.s .z)) (congrArg (fun z_ => (.slice Ao10 (z_).length co10 : Value)) he11) ?_
 refine FJ.chEq .z (congrArg (fun z_ => (ownA kSl_2 (z_) [.slice Ao10 (z_).length co10] : Asn)) he11) ?_
 have hp0 := packTo_len hb 0
 refine FJ.loopi (γ := Nat × (Option Addr) × Nat) (fun ⟨k, Agk0, cgk0⟩ => [(3, .slice Agk0 (packTo x k).length cgk0), (4, .int .i64 (k : Int)), (2, .slice none 0 0), (1, .pointer (some ⟨g3, 0, none⟩))]) (fun ⟨k, Agk0, cgk0⟩ => [ownA kSl_2 (packTo x k) [.slice Agk0 (packTo x k).length cgk0], rowA g3 30 5 1 [.int .i64 x.kind, .int .i64 x.links, .int .i64 x.size, .slice A0_3 x.blocks.length c0_3, .slice A0_4 x.ents.length c0_4]]) (fun ⟨k, Agk0, cgk0⟩ => k ≤ x.ents.length) (fun ⟨k, Agk0, cgk0⟩ => x.ents.length - k) (0, Ao10, co10) (Nat.zero_le _) (.c (.s .z) (.c (.s (.s .z)) (.c (.s16 (.s4 (.s .z))) (.c (.s16 (.s4 (.s (.s .z)))) .n)))) (fun _ h => h.sel (.c .z (.c .z .n))) ?_
 rintro ⟨k, Agk0, cgk0⟩ hk
 have hp := packTo_len hb k
 refine FJ.seq (FJ.seq (FJ.region (FJ.ql rfl (q_move rfl (.t (.s .z))) (FJ.ql rfl (q_fieldAddr rfl (.t (.s4 .z)) (fun _ => fa_30_4 _ _)) ?_))))
 refine FJ.ql rfl (q_load rfl ag_28 (.t .z) (WS.row (.s .z) rfl)) (FJ.ql rfl (q_len rfl u_28 (.t .z)) (FJ.ql rfl (q_lss rfl (.t (.s (.s (.s .z)))) (.t .z)) (FJ.nil (FJ.then_ ?_))))
 refine FJ.condP (.t .z) (fun b12 => ?_) (fun b12 => ?_)
 refine FJ.skip (FJ.then_ (FJ.seq (FJ.block (FJ.seq ?_))))
 refine FJ.region (FJ.ql rfl (q_fieldAddr rfl (.t (.s4 (.s4 .z))) (fun _ => fa_30_4 _ _)) (FJ.ql rfl (q_load rfl ag_28 (.t .z) (WS.row (.s .z) rfl)) (FJ.ql rfl (q_move rfl (.t (.s4 (.s4 .z)))) ?_)))
 obtain ⟨ad13, hAad13, hrad13⟩ := he0_4 (by omega)
 subst hAad13
 obtain ⟨x14, hx14⟩ := get_ex (xs := x.ents) (j := k) (by omega)
 obtain ⟨ece15, hre15, hFe15, hce15⟩ := hrad13.elem hx14
 obtain ⟨rfl, se15_0⟩ := kT_130_ro hre15
 refine FJ.ql rfl (q_indexAddr (j := k) rfl u_28 sz_130 (.t (.s .z)) (.t .z) rfl (by omega)) ?_
 refine FJ.ql rfl (q_loadA (cs := [.string x14.name, .int .i64 x14.ino]) rfl ag_130 sz_130 (.t .z) (WS.els hFe15 hce15)) ?_
 refine FJ.e (goes_list rfl) rfl (by decide) rfl (e_alloc rfl z_130 rfl rfl) ?_
 rintro _ _ ⟨g16, rfl, rfl⟩
 refine FJ.es (goes_list rfl) rfl (es_store (off := 0) (cs := [.string x14.name, .int .i64 x14.ino]) rfl sz_130 (.t .z) (.t (.s .z)) rfl (ones rfl) .z (Nat.le_of_ble_eq_true rfl) (.c .z (.c (.s .z) .n))) ?_
 refine FJ.nil (FJ.then_ (FJ.seq (FJ.region (FJ.ql rfl (q_move rfl (.t (.s4 (.s4 (.s (.s (.s .z))))))) ?_))))
 refine FJ.ql rfl (q_fieldAddr rfl (.t (.s .z)) (fun _ => fa_130_1 _ _)) (FJ.ql rfl (q_load rfl ag_2 (.t .z) (WS.row .z rfl)) (FJ.ql rfl (q_fieldAddr rfl (.t (.s (.s (.s .z)))) (fun _ => fa_130_0 _ _)) (FJ.ql rfl (q_load rfl ag_9 (.t .z) (WS.row .z rfl)) (FJ.ql rfl (q_len_s rfl u_9 (.t .z)) ?_))))
 refine FJ.e (goes_list rfl) rfl (by decide) rfl (e_buildSliceL (ps := [(0, .int .i64 x14.ino), (1, .int .i64 (x14.name.size : Int))]) (cs := [.int .i64 x14.ino, .int .i64 (x14.name.size : Int)]) rfl u_22 (inz inf_2) (by decide) (by intro act hact; simp only [List.map_toArray, List.map_cons, List.map_nil, (show Val _ _ _ from (.t (.s (.s (.s .z))))) act hact, (show Val _ _ _ from (.t .z)) act hact]) rfl rfl (by decide) rfl rfl) ?_
 rintro _ _ ⟨g17, rfl, rfl⟩
 refine FJ.turns (c := ownA kSl_2 ([x14.ino, (x14.name.size : Int)] : (List Int)) [.slice (some ⟨g17, 0, none⟩) 2 2]) (.c .z .n) (fun w S h => lit_own (xs := ([x14.ino, (x14.name.size : Int)] : (List Int))) h rfl (by simp) (by omega) (by omega)) ?_
 refine FJ.e (goes_list rfl) rfl (by decide) rfl (e_appendF (flat_scalar _ _ _) rfl u_22 inf_2 rfl (.t (.s4 (.s (.s .z)))) (.t .z) (.c (.s (.s .z)) .n) (fun w1 S1 tr => tr.own .z) (by first | omega | (simp only [List.length_append, List.length_take, List.length_nil, List.length_cons]; omega)) (by first | omega | (simp only [List.length_append, List.length_take, List.length_nil, List.length_cons]; omega))) ?_
 rintro _ _ rfl
 refine FJ.know (WS.oform .z) ?_
 rintro ⟨Ao19, co19, rfl, hlo19, hmo19, hbo19⟩
 refine FJ.er (.s16 (.s (.s (.s .z)))) (FJ.ql rfl (q_assign rfl (.t .z)) (FJ.nil (FJ.then_ (FJ.seq ?_))))
 refine FJ.region (FJ.ql rfl (q_assign rfl .c) (FJ.nil (FJ.then_ (FJ.block ?_))))
 have hn4 := name_size hb hx14
 have he20 : (packTo x k) ++ ([x14.ino, (x14.name.size : Int)] : (List Int)) = nameTo (packTo x k ++ [x14.ino, (x14.name.size : Int)]) x14.name 0 := (nameTo_0 _ _)
 refine FJ.eq (.s .z) (congrArg (fun z_ => (.slice Ao19 (z_).length co19 : Value)) he20) ?_
 refine FJ.eq (.s (.s .z)) (congrArg (fun z_ => (.slice Ao19 (z_).length co19 : Value)) he20) ?_
 refine FJ.chEq .z (congrArg (fun z_ => (ownA kSl_2 (z_) [.slice Ao19 (z_).length co19] : Asn)) he20) ?_
 refine FJ.loopi (γ := Nat × (Option Addr) × Nat) (fun ⟨j, Agj0, cgj0⟩ => [(3, .slice Agj0 (nameTo (packTo x k ++ [x14.ino, (x14.name.size : Int)]) x14.name j).length cgj0), (6, .int .i64 (j : Int)), (5, .pointer (some ⟨g16, 0, none⟩)), (4, .int .i64 (k : Int)), (2, .slice none 0 0), (1, .pointer (some ⟨g3, 0, none⟩))]) (fun ⟨j, Agj0, cgj0⟩ => [ownA kSl_2 (nameTo (packTo x k ++ [x14.ino, (x14.name.size : Int)]) x14.name j) [.slice Agj0 (nameTo (packTo x k ++ [x14.ino, (x14.name.size : Int)]) x14.name j).length cgj0], ownA kSl_2 ([x14.ino, (x14.name.size : Int)] : (List Int)) [.slice (some ⟨g17, 0, none⟩) 2 2], rowA g16 130 2 1 [.string x14.name, .int .i64 x14.ino], rowA g3 30 5 1 [.int .i64 x.kind, .int .i64 x.links, .int .i64 x.size, .slice A0_3 x.blocks.length c0_3, .slice (some ad13) x.ents.length c0_4]]) (fun ⟨j, Agj0, cgj0⟩ => j ≤ x14.name.size) (fun ⟨j, Agj0, cgj0⟩ => x14.name.size - j) (0, Ao19, co19) (Nat.zero_le _) (.c (.s .z) (.c (.s (.s .z)) (.c (.s4 (.s4 (.s (.s .z)))) (.c (.s16 (.s4 (.s .z))) (.c (.s16 (.s4 (.s (.s .z)))) (.c (.s16 (.s4 (.s (.s (.s .z))))) .n)))))) (fun _ h => h.sel (.c .z (.c .z (.c .z (.c .z .n))))) ?_
 rintro ⟨j, Agj0, cgj0⟩ hj
 have hq := nameTo_len (packTo x k ++ [x14.ino, (x14.name.size : Int)]) x14.name j
 simp only [List.length_append, List.length_cons, List.length_nil] at hq
 refine FJ.seq (FJ.seq (FJ.region (FJ.ql rfl (q_move rfl (.t (.s .z))) (FJ.ql rfl (q_fieldAddr rfl (.t (.s (.s (.s .z)))) (fun _ => fa_130_0 _ _)) ?_))))
 refine FJ.ql rfl (q_load rfl ag_9 (.t .z) (WS.row (.s (.s .z)) rfl)) (FJ.ql rfl (q_len_s rfl u_9 (.t .z)) (FJ.ql rfl (q_lss rfl (.t (.s (.s (.s .z)))) (.t .z)) (FJ.nil (FJ.then_ ?_))))
 refine FJ.condP (.t .z) (fun b21 => ?_) (fun b21 => ?_)
 refine FJ.skip (FJ.then_ (FJ.seq (FJ.block (FJ.region ?_))))
 refine FJ.ql rfl (q_move rfl (.t (.s4 (.s .z)))) (FJ.ql rfl (q_fieldAddr rfl (.t (.s4 (.s4 .z))) (fun _ => fa_130_0 _ _)) (FJ.ql rfl (q_load rfl ag_9 (.t .z) (WS.row (.s (.s .z)) rfl)) (FJ.ql rfl (q_move rfl (.t (.s4 (.s4 (.s .z))))) ?_)))
 obtain ⟨b22, hb22⟩ := get_ex (xs := x14.name.data.toList) (j := j) (by have := str_len x14.name; omega)
 refine FJ.ql rfl (q_index_s rfl u_9 (.t (.s .z)) (.t .z) rfl hb22) ?_
 refine FJ.ql rfl (q_conv (c := (b22.toNat : Int)) rfl (.t .z) u_5 u_2 (wr rfl (by omega) (by have := UInt8.toNat_lt b22; omega))) ?_
 refine FJ.e (goes_list rfl) rfl (by decide) rfl (e_buildSliceL (ps := [(0, .int .i64 (b22.toNat : Int))]) (cs := [.int .i64 (b22.toNat : Int)]) rfl u_22 (inz inf_2) (by decide) (by intro act hact; simp only [List.map_toArray, List.map_cons, List.map_nil, (show Val _ _ _ from (.t .z)) act hact]) rfl rfl (by decide) rfl rfl) ?_
 rintro _ _ ⟨g23, rfl, rfl⟩
 refine FJ.add (c := ownA (kint .i64) (b22.toNat : Int) [.int .i64 (b22.toNat : Int)]) (fun _ _ => ⟨rfl, trivial⟩) ?_
 refine FJ.e (goes_list rfl) rfl (by decide) rfl (e_append1 rfl u_22 inf_2 rfl (.t (.s4 (.s (.s .z)))) (.t .z) (.c (.s (.s .z)) (.c (.s .z) (.c .z .n))) (by first | omega | (simp only [List.length_append, List.length_take, List.length_nil, List.length_cons]; omega)) (by first | omega | (simp only [List.length_append, List.length_take, List.length_nil, List.length_cons]; omega))) ?_
 rintro _ _ rfl
 refine FJ.ceq .z (nameTo_s hb22) ?_
 refine FJ.know (WS.oform .z) ?_
 rintro ⟨Ao25, co25, rfl, hlo25, hmo25, hbo25⟩
 refine FJ.er (.s4 (.s4 (.s4 (.s .z)))) (FJ.ql rfl (q_assign rfl (.t .z)) (FJ.nil (FJ.inBN (FJ.then_ ?_))))
 refine FJ.region (FJ.ql rfl (q_move rfl (.t (.s4 (.s4 (.s4 (.s (.s .z))))))) ?_)
 refine FJ.ql rfl (q_add (c := ((j + 1 : Nat) : Int)) rfl (.t .z) .c (wr (by omega) (by omega) (by omega))) ?_
 refine FJ.er (.s16 .z) (FJ.ql rfl (q_assign rfl (.t .z)) (FJ.nil ?_))
 refine FJ.again ((j + 1), Ao25, co25) (by omega) (by first | omega | (dsimp only; omega)) (.c (.s (.s (.s .z))) (.c .z (.c (.s16 (.s .z)) (.c (.s16 (.s (.s .z))) (.c (.s16 (.s (.s (.s .z)))) (.c (.s16 (.s4 .z)) .n)))))) (fun _ h => h.sel (.c .z (.c .z (.c .z (.c .z .n)))))
 refine FJ.exit (FJ.thenE (FJ.thenE (FJ.inB (FJ.inBN ?_))))
 refine FJ.then_ (FJ.region (FJ.ql rfl (q_move rfl (.t (.s4 (.s4 .z)))) ?_))
 refine FJ.ql rfl (q_add (c := ((k + 1 : Nat) : Int)) rfl (.t .z) .c (wr (by omega) (by omega) (by omega))) ?_
 refine FJ.er (.s4 (.s4 (.s (.s .z)))) (FJ.ql rfl (q_assign rfl (.t .z)) (FJ.nil ?_))
 have he26 : nameTo (packTo x k ++ [x14.ino, (x14.name.size : Int)]) x14.name j = packTo x (k + 1) := (packTo_s hx14 (by omega))
 refine FJ.eq (.s4 (.s4 .z)) (congrArg (fun z_ => (.slice Agj0 (z_).length cgj0 : Value)) he26) ?_
 refine FJ.chEq .z (congrArg (fun z_ => (ownA kSl_2 (z_) [.slice Agj0 (z_).length cgj0] : Asn)) he26) ?_
 refine FJ.again ((k + 1), Agj0, cgj0) (by omega) (by first | omega | (dsimp only; omega)) (.c .z (.c (.s .z) (.c (.s4 (.s4 (.s (.s (.s .z))))) (.c (.s4 (.s4 (.s4 .z))) .n)))) (fun _ h => h.sel (.c .z (.c (.s (.s .z)) .n)))
 refine FJ.exit (FJ.thenE (FJ.thenE (FJ.inB (FJ.then_ ?_))))
 refine FJ.seq (FJ.region (FJ.ql rfl (q_move rfl (.t (.s4 (.s .z)))) (FJ.er (.s4 (.s4 .z)) (FJ.ql rfl (q_assign rfl (.t .z)) ?_))))
 refine FJ.nil (FJ.then_ (FJ.ret ?_))
 refine FJ.ceq (x' := packI x) .z (by first | exact packI_f (by assumption) | exact packI_d (by omega) (by omega)) ?_
 refine FJ.doneS (res1 rfl .z) (.c .z .n) ?_
 rfl

set_option maxHeartbeats 1000000 in
set_option maxRecDepth 20000 in
theorem c_42 {w0 : World} {S0 : Bs} {cd : (List UInt8)} {v0 : Value} (h0 : kSl_5.ro w0 (FF w0 S0) cd [v0])  :
    Calls Try.prog 42 #[v0] w0 (TriPost w0 S0 (fun r l => ∃ x : List Int, x.length ≤ 75 ∧ l = [ownA kSl_2 x [r]])) := by
 obtain ⟨A0, c0, rfl, hl0, hm0, hb0, he0⟩ := ro_form h0
 refine FJ.enter (N := 44) Try.func42 rfl rfl (by simp) [(0, .slice A0 cd.length c0)] (by simp) (l0 := []) trivial ?_
 refine FJ.seq (FJ.region (FJ.ql rfl (q_assign rfl .c) (FJ.nil (FJ.then_ ?_))))
 refine FJ.seq (FJ.region (FJ.ql rfl (q_move rfl (.t (.s .z))) ?_))
 refine FJ.call (goes_list rfl) rfl (by decide) rfl (c_call rfl Try.func91 rfl rfl (args1 (.t .z))) .n (fun w1 S1 hs tr => c_91 (tr.ctx h0)) ?_
 rintro _ _ ⟨g2, rfl, rfl⟩
 refine FJ.cat (.c .n) ?_
 refine FJ.ql rfl (q_assign rfl (.t .z)) (FJ.nil (FJ.then_ (FJ.seq (FJ.region ?_))))
 refine FJ.ql rfl (q_move rfl (.t .z)) ?_
 refine FJ.call (goes_list rfl) rfl (by decide) rfl (c_call rfl Try.func92 rfl rfl (args1 (.t .z))) (.c .z .n) (fun w1 S1 hs tr => c_92 (tr.ctx h0) hs (by omega)) ?_
 rintro _ _ ⟨nd3, v5, v7, u4, hznd3, rfl, rfl⟩
 refine FJ.cat (.c (.c (.c .n))) ?_
 refine FJ.know (WS.oform .z) ?_
 rintro ⟨Ao9, co9, rfl, hlo9, hmo9, hbo9⟩
 refine FJ.know (WS.oform (.s .z)) ?_
 rintro ⟨Ao10, co10, rfl, hlo10, hmo10, hbo10⟩
 have hpk : PackOk nd3 := ⟨fun j e he => hznd3.2.2.1 e (List.mem_of_getElem? he), by omega, hznd3.1⟩
 refine FJ.call (goes_list rfl) rfl (by decide) rfl (c_call rfl Try.func87 rfl rfl (args1 (.t .z))) .n (fun w1 S1 hs tr => c_87w (kT_30_mk nd3 (tr.own .z) (tr.own (.s .z))) (by assumption)) ?_
 rintro _ _ rfl
 refine FJ.cat (.c .n) ?_
 refine FJ.know (WS.oform .z) ?_
 rintro ⟨Ao12, co12, rfl, hlo12, hmo12, hbo12⟩
 have hp3 := packI_3 nd3; have hp5 := packI_lenW (x := nd3) (by assumption)
 refine FJ.ql rfl (q_assign rfl (.t .z)) (FJ.nil (FJ.then_ (FJ.seq (FJ.region ?_))))
 refine FJ.ql rfl (q_move rfl (.t .z)) (FJ.ql rfl (q_len rfl u_22 (.t .z)) (FJ.ql rfl (q_assign rfl (.t .z)) (FJ.nil (FJ.then_ ?_))))
 refine FJ.seq (FJ.seq (FJ.region (FJ.ql rfl (q_move rfl (.t (.s4 (.s (.s (.s .z)))))) ?_)))
 refine FJ.call (goes_list rfl) rfl (by decide) rfl (c_call rfl Try.func93 rfl rfl (args2 (.t .z) .c)) (.c (.s (.s (.s .z))) .n) (fun w1 S1 hs tr => c_93 (tr.ctx h0) _ hs (by omega) (by omega)) ?_
 rintro _ _ ⟨m13, h0m13, h1m13, rfl, rfl⟩
 refine FJ.cat (.c .n) ?_
 refine FJ.nil (FJ.then_ (FJ.block (FJ.seq (FJ.region ?_))))
 refine FJ.ql rfl (q_eql rfl (.t .z) .c) (FJ.ql rfl (q_assign rfl (.t .z)) (FJ.nil (FJ.then_ ?_)))
 refine FJ.condP (.t .z) (fun b14 => ?_) (fun b14 => ?_)
 refine FJ.region (FJ.ql rfl (q_move rfl (.t (.s4 (.s (.s (.s .z)))))) (FJ.ql rfl (q_move rfl (.t (.s4 (.s4 (.s4 .z))))) (FJ.ql rfl (q_move rfl (.t (.s4 (.s (.s .z))))) ?_)))
 refine FJ.call (goes_list rfl) rfl (by decide) rfl (c_call rfl Try.func93 rfl rfl (args2 (.t (.s .z)) (.t .z))) (.c .z .n) (fun w1 S1 hs tr => c_93 (tr.ctx h0) _ hs (by omega) (by omega)) ?_
 rintro _ _ ⟨m15, h0m15, h1m15, rfl, rfl⟩
 refine FJ.cat (.c .n) ?_
 refine FJ.ql rfl (q_move rfl (.t (.s4 (.s4 (.s4 (.s (.s (.s .z)))))))) (FJ.ql rfl (q_move rfl (.t (.s16 .z))) ?_)
 refine FJ.call (goes_list rfl) rfl (by decide) rfl (c_call rfl Try.func93 rfl rfl (args2 (.t .z) .c)) (.c .z .n) (fun w1 S1 hs tr => c_93 (tr.ctx h0) _ hs (by omega) (by omega)) ?_
 rintro _ _ ⟨m16, h0m16, h1m16, rfl, rfl⟩
 refine FJ.cat (.c .n) ?_
 refine FJ.e (goes_list rfl) rfl (by decide) rfl (e_buildSliceL (ps := [(0, .int .i64 m16), (1, .int .i64 (-1)), (2, .int .i64 65536), (3, .int .i64 300)]) (cs := [.int .i64 m16, .int .i64 (-1), .int .i64 65536, .int .i64 300]) rfl u_22 (inz inf_2) (by decide) (by intro act hact; simp only [List.map_toArray, List.map_cons, List.map_nil, (show Val _ _ _ from (.t .z)) act hact, (show Val _ _ _ from .c) act hact, (show Val _ _ _ from .c) act hact, (show Val _ _ _ from .c) act hact]) rfl rfl (by decide) rfl rfl) ?_
 rintro _ _ ⟨g17, rfl, rfl⟩
 refine FJ.turns (c := ownA kSl_2 ([m16, (-1), 65536, 300] : (List Int)) [.slice (some ⟨g17, 0, none⟩) 4 4]) (.c .z .n) (fun w S h => lit_own (xs := ([m16, (-1), 65536, 300] : (List Int))) h rfl (by simp) (by omega) (by omega)) ?_
 refine FJ.call (goes_list rfl) rfl (by decide) rfl (c_call rfl Try.func94 rfl rfl (args2 (.t (.s (.s (.s .z)))) (.t .z))) (.c (.s .z) .n) (fun w1 S1 hs tr => c_94 (tr.ctx h0) (tr.own .z) hs (by omega) (by simp)) ?_
 rintro _ _ ⟨m19, hm19, rfl, rfl⟩
 refine FJ.cat (.c .n) ?_
 simp only [List.mem_cons, List.not_mem_nil, or_false] at hm19
 refine FJ.know (WS.oad (.s (.s .z)) (by omega)) ?_
 rintro ⟨ad20, rfl⟩
 refine FJ.ql rfl (q_indexAddr (j := Int.toNat m15) rfl u_22 sz_2 (.t (.s4 (.s4 .z))) (.t (.s4 (.s .z))) (by omega) (by omega)) ?_
 refine FJ.add (c := ownA (kint .i64) m19 [.int .i64 m19]) (fun _ _ => ⟨rfl, trivial⟩) ?_
 refine FJ.es (goes_list rfl) rfl (es_set (j := Int.toNat m15) rfl sz_2 (.t .z) (.t (.s .z)) rfl (.c (.s (.s (.s .z))) (.c .z .n)) (by omega)) ?_
 refine FJ.nil (FJ.inBN (FJ.then_ (FJ.seq (FJ.region ?_))))
 refine FJ.ql rfl (q_move rfl (.t (.s16 (.s .z)))) (FJ.er (.s16 (.s4 (.s4 (.s .z)))) (FJ.ql rfl (q_assign rfl (.t .z)) (FJ.nil (FJ.then_ ?_))))
 refine FJ.ret ?_
 refine FJ.doneS (res1 rfl .z) (.c .z .n) ?_
 exact ⟨_, by first | omega | (simp only [List.length_append, List.length_cons, List.length_nil, List.length_set, List.length_take]; omega), rfl⟩
 refine FJ.seq (FJ.region (FJ.ql rfl (q_eql rfl (.t (.s (.s .z))) .c) (FJ.ql rfl (q_assign rfl (.t .z)) (FJ.nil ?_))))
 refine FJ.then_ ?_
 refine FJ.condP (.t .z) (fun b22 => ?_) (fun b22 => ?_)
 refine FJ.region (FJ.ql rfl (q_move rfl (.t (.s4 (.s4 (.s .z))))) (FJ.ql rfl (q_move rfl (.t (.s4 (.s4 (.s4 (.s (.s .z))))))) (FJ.ql rfl (q_move rfl (.t (.s4 (.s4 .z)))) ?_)))
 refine FJ.call (goes_list rfl) rfl (by decide) rfl (c_call rfl Try.func93 rfl rfl (args2 (.t (.s .z)) (.t .z))) (.c .z .n) (fun w1 S1 hs tr => c_93 (tr.ctx h0) _ hs (by omega) (by omega)) ?_
 rintro _ _ ⟨m23, h0m23, h1m23, rfl, rfl⟩
 refine FJ.cat (.c .n) ?_
 refine FJ.know (WS.ocap (.s .z)) ?_
 rintro ⟨-, hk24, -, -⟩
 have hm25 : (List.take (Int.toNat m23) (packI nd3)).length = Int.toNat m23 := by rw [List.length_take]; omega
 refine FJ.eq .z (congrArg (Value.int .i64) (show m23 = (((List.take (Int.toNat m23) (packI nd3)).length : Nat) : Int) by rw [hm25]; try omega)) ?_
 refine FJ.turns (c := ownA kSl_2 (List.take (Int.toNat m23) (packI nd3)) [.slice Ao12 ((List.take (Int.toNat m23) (packI nd3)).length) co12]) (.c (.s .z) .n) (own_take' (by omega)) ?_
 refine FJ.ql rfl (q_sliceTake (b := (List.take (Int.toNat m23) (packI nd3)).length) rfl u_22 sz_2 (.t (.s (.s (.s .z)))) (.t .z) (by omega)) ?_
 refine FJ.er (.s4 (.s4 (.s4 (.s (.s .z))))) (FJ.ql rfl (q_assign rfl (.t .z)) (FJ.nil (FJ.inBN (FJ.then_ ?_))))
 refine FJ.seq (FJ.region (FJ.ql rfl (q_move rfl (.t .z)) (FJ.er (.s16 (.s4 (.s (.s .z)))) (FJ.ql rfl (q_assign rfl (.t .z)) ?_))))
 refine FJ.nil (FJ.then_ (FJ.ret ?_))
 refine FJ.doneS (res1 rfl .z) (.c .z .n) ?_
 exact ⟨_, by first | omega | (simp only [List.length_append, List.length_cons, List.length_nil, List.length_set, List.length_take]; omega), rfl⟩
 refine FJ.seq (FJ.region (FJ.ql rfl (q_eql rfl (.t (.s4 .z)) .c) (FJ.ql rfl (q_assign rfl (.t .z)) (FJ.nil ?_))))
 refine FJ.then_ ?_
 refine FJ.condP (.t .z) (fun b26 => ?_) (fun b26 => ?_)
 refine FJ.region (FJ.ql rfl (q_move rfl (.t (.s4 (.s4 (.s (.s (.s .z))))))) ?_)
 refine FJ.e (goes_list rfl) rfl (by decide) rfl (e_buildSliceL (ps := [(0, .int .i64 0)]) (cs := [.int .i64 0]) rfl u_22 (inz inf_2) (by decide) (by intro act hact; simp only [List.map_toArray, List.map_cons, List.map_nil, (show Val _ _ _ from .c) act hact]) rfl rfl (by decide) rfl rfl) ?_
 rintro _ _ ⟨g27, rfl, rfl⟩
 refine FJ.add (c := ownA (kint .i64) 0 [.int .i64 0]) (fun _ _ => ⟨rfl, trivial⟩) ?_
 refine FJ.e (goes_list rfl) rfl (by decide) rfl (e_append1 rfl u_22 inf_2 rfl (.t (.s .z)) (.t .z) (.c (.s (.s (.s .z))) (.c (.s .z) (.c .z .n))) (by first | omega | (simp only [List.length_append, List.length_cons, List.length_nil, List.length_replicate]; omega)) (by first | omega | (simp only [List.length_append, List.length_cons, List.length_nil, List.length_replicate]; omega))) ?_
 rintro _ _ rfl
 refine FJ.know (WS.oform .z) ?_
 rintro ⟨Ao29, co29, rfl, hlo29, hmo29, hbo29⟩
 refine FJ.er (.s4 (.s4 (.s4 (.s (.s .z))))) (FJ.ql rfl (q_assign rfl (.t .z)) (FJ.nil (FJ.inBN (FJ.then_ ?_))))
 refine FJ.seq (FJ.region (FJ.ql rfl (q_move rfl (.t .z)) (FJ.er (.s16 (.s4 (.s (.s .z)))) (FJ.ql rfl (q_assign rfl (.t .z)) ?_))))
 refine FJ.nil (FJ.then_ (FJ.ret ?_))
 refine FJ.doneS (res1 rfl .z) (.c .z .n) ?_
 exact ⟨_, by first | omega | (simp only [List.length_append, List.length_cons, List.length_nil, List.length_set, List.length_take]; omega), rfl⟩
 refine FJ.seq (FJ.region (FJ.ql rfl (q_eql rfl (.t (.s4 (.s (.s .z)))) .c) (FJ.ql rfl (q_assign rfl (.t .z)) (FJ.nil ?_))))
 refine FJ.then_ ?_
 refine FJ.condP (.t .z) (fun b30 => ?_) (fun b30 => ?_)
 refine FJ.region (FJ.ql rfl (q_move rfl (.t (.s16 (.s .z)))) ?_)
 refine FJ.call (goes_list rfl) rfl (by decide) rfl (c_call rfl Try.func95 rfl rfl (args1 (.t .z))) (.c .z .n) (fun w1 S1 hs tr => c_95 (tr.ctx h0) hs (by omega)) ?_
 rintro _ _ ⟨ws31, u32, hzws31, rfl⟩
 refine FJ.cat (.c (.c .n)) ?_
 refine FJ.know (WS.oform .z) ?_
 rintro ⟨Ao34, co34, rfl, hlo34, hmo34, hbo34⟩
 refine FJ.er (.s4 (.s4 (.s4 (.s (.s (.s .z)))))) (FJ.ql rfl (q_assign rfl (.t .z)) (FJ.nil (FJ.inBN (FJ.then_ ?_))))
 refine FJ.seq (FJ.region (FJ.ql rfl (q_move rfl (.t .z)) (FJ.er (.s16 (.s4 (.s (.s (.s .z))))) (FJ.ql rfl (q_assign rfl (.t .z)) ?_))))
 refine FJ.nil (FJ.then_ (FJ.ret ?_))
 refine FJ.doneS (res1 rfl .z) (.c .z .n) ?_
 exact ⟨_, by first | omega | (simp only [List.length_append, List.length_cons, List.length_nil, List.length_set, List.length_take]; omega), rfl⟩
 refine FJ.skip (FJ.inBN (FJ.then_ (FJ.seq (FJ.region ?_))))
 refine FJ.ql rfl (q_move rfl (.t (.s4 (.s4 (.s4 (.s .z)))))) (FJ.er (.s16 (.s4 (.s .z))) (FJ.ql rfl (q_assign rfl (.t .z)) (FJ.nil (FJ.then_ ?_))))
 refine FJ.ret ?_
 refine FJ.doneS (res1 rfl .z) (.c (.s .z) .n) ?_
 exact ⟨_, by first | omega | (simp only [List.length_append, List.length_cons, List.length_nil, List.length_set, List.length_take]; omega), rfl⟩

set_option maxHeartbeats 1000000 in
set_option maxRecDepth 20000 in
theorem c_46 {w0 : World} {S0 : Bs} {cd : (List UInt8)} {v0 : Value} (h0 : kSl_5.ro w0 (FF w0 S0) cd [v0])  :
    Calls Try.prog 46 #[v0] w0 (TriPost w0 S0 (fun r l => ∃ (x : DInode) (v0_ v1_ : Value), (x.blocks.length ≤ 11 ∧ x.ents.length ≤ 6) ∧ r = .agg #[.int .i64 x.kind, .int .i64 x.links, .int .i64 x.size, v0_, v1_] ∧ l = [ownA kSl_2 x.blocks [v0_], ownA kSl_130 x.ents [v1_]])) := by
 obtain ⟨A0, c0, rfl, hl0, hm0, hb0, he0⟩ := ro_form h0
 refine FJ.enter (N := 6) Try.func46 rfl rfl (by simp) [(0, .slice A0 cd.length c0)] (by simp) (l0 := []) trivial ?_
 refine FJ.seq (FJ.region ?_)
 refine FJ.e (goes_list rfl) rfl (by decide) rfl (e_alloc rfl z_30 rfl rfl) ?_
 rintro _ _ ⟨g2, rfl, rfl⟩
 refine FJ.nil (FJ.then_ (FJ.seq (FJ.region (FJ.ql rfl (q_move rfl (.t (.s .z))) ?_))))
 refine FJ.call (goes_list rfl) rfl (by decide) rfl (c_call rfl Try.func91 rfl rfl (args1 (.t .z))) .n (fun w1 S1 hs tr => c_91 (tr.ctx h0)) ?_
 rintro _ _ ⟨g3, rfl, rfl⟩
 refine FJ.cat (.c .n) ?_
 refine FJ.call (goes_list rfl) rfl (by decide) rfl (c_call rfl Try.func99 rfl rfl (args1 (.t .z))) (.c .z .n) (fun w1 S1 hs tr => c_99 (tr.ctx h0) hs (by omega)) ?_
 rintro _ _ ⟨nd4, v6, v8, u5, hznd4, rfl, rfl⟩
 refine FJ.cat (.c (.c (.c .n))) ?_
 refine FJ.know (WS.oform .z) ?_
 rintro ⟨Ao10, co10, rfl, hlo10, hmo10, hbo10⟩
 refine FJ.know (WS.oform (.s .z)) ?_
 rintro ⟨Ao11, co11, rfl, hlo11, hmo11, hbo11⟩
 refine FJ.es (goes_list rfl) rfl (es_store (off := 0) (cs := [.int .i64 nd4.kind, .int .i64 nd4.links, .int .i64 nd4.size, .slice Ao10 nd4.blocks.length co10, .slice Ao11 nd4.ents.length co11]) rfl sz_30 (.t (.s (.s (.s .z)))) (.t .z) rfl (ones rfl) (.s (.s (.s .z))) (Nat.le_of_ble_eq_true rfl) (.c .z (.c (.s .z) (.c (.s (.s .z)) (.c (.s (.s (.s .z))) (.c (.s (.s (.s (.s .z)))) .n)))))) ?_
 refine FJ.nil (FJ.then_ (FJ.ret ?_))
 refine FJ.doneS (resC (cs := [.int .i64 nd4.kind, .int .i64 nd4.links, .int .i64 nd4.size, .slice Ao10 nd4.blocks.length co10, .slice Ao11 nd4.ents.length co11]) rfl (.s (.s (.s .z))) ag_30 sz_30 (WS.rows0 (cs := [.int .i64 nd4.kind, .int .i64 nd4.links, .int .i64 nd4.size, .slice Ao10 nd4.blocks.length co10, .slice Ao11 nd4.ents.length co11]) .z (fun _ _ h => h))) (.c (.s .z) (.c (.s .z) .n)) ?_
 exact ⟨⟨nd4.kind, nd4.links, nd4.size, nd4.blocks, nd4.ents⟩, _, _, ⟨by dsimp only; omega, by dsimp only; omega⟩, rfl, rfl⟩

set_option maxHeartbeats 1000000 in
set_option maxRecDepth 20000 in
theorem c_44 {w0 : World} {S0 : Bs} {x : (List Int)} {v0 : Value} (h0 : kSl_2.ro w0 (FF w0 S0) x [v0]) {y : (List Int)} {v1 : Value} (h1 : kSl_2.ro w0 (FF w0 S0) y [v1])  :
    Calls Try.prog 44 #[v0, v1] w0 (TriPost w0 S0 (fun r l => r = .bool (decide (x = y)) ∧ l = [])) := by
 obtain ⟨A0, c0, rfl, hl0, hm0, hb0, he0⟩ := ro_form h0
 obtain ⟨A1, c1, rfl, hl1, hm1, hb1, he1⟩ := ro_form h1
 refine FJ.enter (N := 26) Try.func44 rfl rfl (by simp) [(0, .slice A0 x.length c0), (1, .slice A1 y.length c1)] (by simp) (l0 := []) trivial ?_
 refine FJ.seq (FJ.region (FJ.ql rfl (q_assign rfl .c) (FJ.nil (FJ.then_ ?_))))
 refine FJ.seq (FJ.seq (FJ.region (FJ.ql rfl (q_move rfl (.t (.s .z))) (FJ.ql rfl (q_len rfl u_22 (.t .z)) ?_))))
 refine FJ.ql rfl (q_move rfl (.t (.s4 .z))) (FJ.ql rfl (q_len rfl u_22 (.t .z)) (FJ.ql rfl (q_neq rfl (.t (.s (.s .z))) (.t .z)) (FJ.nil (FJ.then_ ?_))))
 refine FJ.condN (.t .z) (fun b3 => ?_) (fun b3 => ?_)
 refine FJ.seq (FJ.region (FJ.er (.s4 (.s .z)) (FJ.ql rfl (q_assign rfl .c) (FJ.nil ?_))))
 refine FJ.then_ (FJ.ret (FJ.thenR ?_))
 refine FJ.doneS (res1 rfl .z) .n ?_
 exact ⟨by rw [decide_eq_false (fun h => by subst h; omega)], rfl⟩
 refine FJ.skip (FJ.then_ (FJ.seq (FJ.seq (FJ.region ?_))))
 refine FJ.ql rfl (q_assign rfl .c) (FJ.nil (FJ.then_ (FJ.block ?_)))
 refine FJ.loopi (γ := Nat) (fun k => [(5, .int .i64 (k : Int)), (0, .slice A0 x.length c0), (1, .slice A1 y.length c1)]) (fun k => []) (fun k => k ≤ x.length ∧ ∀ j, j < k → x[j]? = y[j]?) (fun k => x.length - k) 0 ⟨Nat.zero_le _, all_eq_zero⟩ (.c .z (.c (.s4 (.s (.s (.s .z)))) (.c (.s4 (.s4 .z)) .n))) (fun _ h => h) ?_
 rintro k ⟨hk, hallk⟩
 refine FJ.seq (FJ.seq (FJ.region (FJ.ql rfl (q_move rfl (.t .z)) (FJ.ql rfl (q_move rfl (.t (.s (.s .z)))) ?_))))
 refine FJ.ql rfl (q_len rfl u_22 (.t .z)) (FJ.ql rfl (q_lss rfl (.t (.s (.s .z))) (.t .z)) (FJ.nil (FJ.then_ ?_)))
 refine FJ.condP (.t .z) (fun b4 => ?_) (fun b4 => ?_)
 refine FJ.skip (FJ.then_ (FJ.seq (FJ.block (FJ.seq ?_))))
 refine FJ.draw [] 9 (by kernel_rfl) ?_
 refine FJ.sch [(0, true), (1, true), (2, true), (3, true), (4, true), (5, true), (6, true), (7, true), (8, true)] 0 #[true, true, true, true, true, true, true, true, true] (by rfl) (by kernel_rfl) ?_
 refine FJ.dq rfl rfl rfl (by decide) rfl .z (q_move rfl (.t (.s4 (.s .z)))) (FJ.dq rfl rfl rfl (by decide) rfl .z (q_move rfl (.t (.s4 (.s .z)))) ?_)
 obtain ⟨ad5, hAad5, hrad5⟩ := he0 (by omega)
 subst hAad5
 obtain ⟨x6, hx6⟩ := get_ex (xs := x) (j := k) (by omega)
 obtain ⟨ece7, hre7, hFe7, hce7⟩ := hrad5.elem hx6
 obtain ⟨rfl, se7⟩ := hre7
 refine FJ.dq rfl rfl rfl (by decide) rfl .z (q_indexAddr (j := k) rfl u_22 sz_2 (.t (.s .z)) (.t .z) rfl (by omega)) ?_
 refine FJ.dq rfl rfl rfl (by decide) rfl .z (q_load rfl ag_2 (.t .z) (WS.el0 hFe7 hce7 rfl)) (FJ.dq rfl rfl rfl (by decide) rfl .z (q_move rfl (.t (.s4 (.s4 (.s (.s .z)))))) (FJ.dq rfl rfl rfl (by decide) rfl .z (q_move rfl (.t (.s4 (.s4 (.s .z))))) ?_))
 obtain ⟨ad8, hAad8, hrad8⟩ := he1 (by omega)
 subst hAad8
 obtain ⟨x9, hx9⟩ := get_ex (xs := y) (j := k) (by omega)
 obtain ⟨ece10, hre10, hFe10, hce10⟩ := hrad8.elem hx9
 obtain ⟨rfl, se10⟩ := hre10
 refine FJ.dq rfl rfl rfl (by decide) rfl .z (q_indexAddr (j := k) rfl u_22 sz_2 (.t (.s .z)) (.t .z) rfl (by omega)) ?_
 refine FJ.dq rfl rfl rfl (by decide) rfl .z (q_load rfl ag_2 (.t .z) (WS.el0 hFe10 hce10 rfl)) (FJ.dq rfl rfl rfl (by decide) rfl .z (q_neq rfl (.t (.s4 .z)) (.t .z)) (FJ.schN ?_))
 refine FJ.drawN (by kernel_rfl) ?_
 refine FJ.then_ ?_
 refine FJ.condN (.t .z) (fun b11 => ?_) (fun b11 => ?_)
 refine FJ.seq (FJ.region (FJ.ql rfl (q_assign rfl .c) (FJ.nil (FJ.then_ ?_))))
 refine FJ.ret (FJ.inBR (FJ.thenR (FJ.thenR (FJ.inBR ?_))))
 refine FJ.thenR ?_
 refine FJ.doneS (res1 rfl .z) .n ?_
 exact ⟨by rw [decide_eq_false (ne_of_get hx6 hx9 (by first | assumption | (intro e; subst e; contradiction) | (simp_all; done)))], rfl⟩
 refine FJ.skip (FJ.inBN (FJ.then_ (FJ.region (FJ.ql rfl (q_move rfl (.t (.s4 (.s4 (.s4 (.s .z)))))) ?_))))
 refine FJ.ql rfl (q_add (c := ((k + 1 : Nat) : Int)) rfl (.t .z) .c (wr (by omega) (by omega) (by omega))) ?_
 refine FJ.er (.s4 (.s4 (.s4 (.s (.s (.s .z)))))) (FJ.ql rfl (q_assign rfl (.t .z)) (FJ.nil ?_))
 refine FJ.again (k + 1) ⟨by omega, all_eq_succ hallk hx6 hx9 (by first | assumption | exact byte_eq (by assumption) | (simp_all; done))⟩ (by first | omega | (dsimp only; omega)) (.c .z (.c (.s16 .z) (.c (.s16 (.s .z)) .n))) (fun _ h => h)
 refine FJ.exit (FJ.thenE (FJ.thenE (FJ.inB (FJ.then_ ?_))))
 refine FJ.seq (FJ.region (FJ.ql rfl (q_assign rfl .c) (FJ.nil (FJ.then_ ?_))))
 refine FJ.ret ?_
 refine FJ.doneS (res1 rfl .z) .n ?_
 exact ⟨by rw [decide_eq_true (eq_of_all (by omega) (by omega) hallk)], rfl⟩

end Go.Proofs.Ytoaebcjjfojfeaa
