/- What is proved: contracts of functions, one a function. No condition. -/
import Derived.Test.YtkmcpcahbfdohaaW15
namespace Go.Proofs.Ytkmcpcahbfdohaa
open Go Go.RowKit
set_option linter.unusedVariables false
set_option linter.unusedSimpArgs false
set_option maxHeartbeats 1000000 in
set_option maxRecDepth 20000 in
theorem c_75 {w0 : World} {S0 : Bs} {k : DKern} {cs0 : List Value} (h0 : kT_43.ro w0 (FF w0 S0) k cs0) (a : Int) (key : Int)  :
    Calls Try.prog 75 #[.agg cs0.toArray, .int .i64 a, .int .i64 key] w0 (TriPost w0 S0 (RA_45 (revoke k a key))) := by
  obtain ⟨u0_0, u0_1, u0_2, rfl, h0_0, h0_1, h0_2⟩ := kT_43_ro h0
  obtain ⟨A0_0, c0_0, rfl, hl0_0, hm0_0, hb0_0, he0_0⟩ := ro_form h0_0
  obtain ⟨A0_1, c0_1, rfl, hl0_1, hm0_1, hb0_1, he0_1⟩ := ro_form h0_1
  obtain ⟨A0_2, c0_2, rfl, hl0_2, hm0_2, hb0_2, he0_2⟩ := ro_form h0_2
  refine FJ.enter (N := 57) Try.func75 rfl rfl (by simp) [(0, .agg #[.slice A0_0 k.disk.blocks.length c0_0, .slice A0_1 k.disk.cache.length c0_1, .slice A0_2 k.exts.length c0_2]), (1, .int .i64 a), (2, .int .i64 key)] (by simp) (l0 := []) trivial ?_
  refine FJ.seq ?_
  refine FJ.region ?_
  refine FJ.e (goes_list rfl) rfl (by decide) rfl (e_box (cs := [.slice A0_0 k.disk.blocks.length c0_0, .slice A0_1 k.disk.cache.length c0_1, .slice A0_2 k.exts.length c0_2]) (n := 3) rfl (.t .z) rfl rfl) ?_
  rintro _ _ ⟨g4, rfl, rfl⟩
  refine FJ.e (goes_list rfl) rfl (by decide) rfl (e_alloc rfl z_45 rfl rfl) ?_
  rintro _ _ ⟨g5, rfl, rfl⟩
  refine FJ.nil ?_
  refine FJ.then_ ?_
  refine FJ.seq ?_
  refine FJ.seq ?_
  refine FJ.region ?_
  refine FJ.call (goes_list rfl) rfl (by decide) rfl (c_call rfl Try.func110 rfl rfl (args1 (.t (.s .z)))) .n (fun w1 S1 hs tr => c_110 (tr.ptr (.s .z) (kT_43_mk k (tr.ctx h0_0) (tr.ctx h0_1) (tr.ctx h0_2)))) ?_
  rintro _ _ ⟨rfl, rfl⟩
  refine FJ.cat .n ?_
  refine FJ.q (goes_list rfl) rfl (by decide) rfl (q_assign rfl (.t .z)) ?_
  refine FJ.nil ?_
  refine FJ.then_ ?_
  refine FJ.seq ?_
  refine FJ.region ?_
  refine FJ.q (goes_list rfl) rfl (by decide) rfl (q_move rfl (.t .z)) ?_
  refine FJ.q (goes_list rfl) rfl (by decide) rfl (q_neq rfl (.t .z) .c) ?_
  refine FJ.nil ?_
  refine FJ.then_ ?_
  refine FJ.condN (.t .z) (fun b6 => ?_) (fun b6 => ?_)
  · -- b6: True
    refine FJ.seq ?_
    refine FJ.region ?_
    refine FJ.q (goes_list rfl) rfl (by decide) rfl (q_move rfl (.t (.s (.s .z)))) ?_
    refine FJ.call (goes_list rfl) rfl (by decide) rfl (c_call rfl Try.func89 rfl rfl (args1 (.t .z))) .n (fun w1 S1 hs tr => c_89 _) ?_
    rintro _ _ ⟨v7, v9, v11, v13, rfl, rfl⟩
    refine FJ.cat (.c (.c (.c (.c .n)))) ?_
    refine FJ.know (WS.oform .z) ?_
    rintro ⟨Ao15, co15, rfl, hlo15, hmo15, hbo15⟩
    refine FJ.know (WS.oform (.s .z)) ?_
    rintro ⟨Ao16, co16, rfl, hlo16, hmo16, hbo16⟩
    refine FJ.know (WS.oform (.s (.s .z))) ?_
    rintro ⟨Ao17, co17, rfl, hlo17, hmo17, hbo17⟩
    refine FJ.know (WS.oform (.s (.s (.s .z)))) ?_
    rintro ⟨Ao18, co18, rfl, hlo18, hmo18, hbo18⟩
    refine FJ.es (goes_list rfl) rfl (es_store (off := 0) (cs := [.int .i64 ((badKern (kernFault k)).code), .slice Ao15 ((badKern (kernFault k)).words).length co15, .slice Ao16 ((badKern (kernFault k)).kern.disk.blocks).length co16, .slice Ao17 ((badKern (kernFault k)).kern.disk.cache).length co17, .slice Ao18 ((badKern (kernFault k)).kern.exts).length co18]) rfl sz_45 (.t (.s (.s (.s (.s (.s (.s .z))))))) (.t .z) rfl (ones rfl) (.s (.s (.s (.s .z)))) (Nat.le_of_ble_eq_true rfl) (.c .z (.c (.s .z) (.c (.s (.s .z)) (.c (.s (.s (.s .z))) (.c (.s (.s (.s (.s .z)))) .n)))))) ?_
    refine FJ.nil ?_
    refine FJ.then_ ?_
    refine FJ.ret ?_
    refine FJ.thenR ?_
    refine FJ.doneS (resC (cs := [.int .i64 ((badKern (kernFault k)).code), .slice Ao15 ((badKern (kernFault k)).words).length co15, .slice Ao16 ((badKern (kernFault k)).kern.disk.blocks).length co16, .slice Ao17 ((badKern (kernFault k)).kern.disk.cache).length co17, .slice Ao18 ((badKern (kernFault k)).kern.exts).length co18]) rfl (.s (.s (.s (.s (.s (.s .z)))))) ag_45 sz_45 (WS.rows0 (cs := [.int .i64 ((badKern (kernFault k)).code), .slice Ao15 ((badKern (kernFault k)).words).length co15, .slice Ao16 ((badKern (kernFault k)).kern.disk.blocks).length co16, .slice Ao17 ((badKern (kernFault k)).kern.disk.cache).length co17, .slice Ao18 ((badKern (kernFault k)).kern.exts).length co18]) .z (fun _ _ h => h))) (.c (.s .z) (.c (.s .z) (.c (.s .z) (.c (.s .z) .n)))) ?_
    rw [revoke_f (by assumption)]
    exact ⟨_, _, _, _, rfl, rfl⟩
  · -- b6: False
    refine FJ.skip ?_
    refine FJ.then_ ?_
    refine FJ.seq ?_
    refine FJ.seq ?_
    refine FJ.region ?_
    refine FJ.q (goes_list rfl) rfl (by decide) rfl (q_assign rfl .c) ?_
    refine FJ.nil ?_
    refine FJ.then_ ?_
    refine FJ.block ?_
    refine FJ.loopi (γ := Nat) (fun q => [(8, .int .i64 (q : Int)), (6, .pointer (some ⟨g5, 0, none⟩)), (3, .pointer (some ⟨g4, 0, none⟩)), (1, .int .i64 a), (2, .int .i64 key)]) (fun q => [rowA g5 45 5 1 [.int .i64 0, .slice none 0 0, .slice none 0 0, .slice none 0 0, .slice none 0 0], rowA g4 43 3 1 [.slice A0_0 k.disk.blocks.length c0_0, .slice A0_1 k.disk.cache.length c0_1, .slice A0_2 k.exts.length c0_2]]) (fun q => q ≤ k.exts.length ∧ ∀ j e, j < q → k.exts[j]? = some e → ¬ e.frm = a) (fun q => k.exts.length - q) 0 ⟨Nat.zero_le _, all_zero (q := fun _ e => ¬ DExt.frm e = a)⟩ (.c .z (.c (.s (.s (.s (.s (.s .z))))) (.c (.s (.s (.s (.s (.s (.s .z)))))) (.c (.s (.s (.s (.s (.s (.s (.s (.s .z)))))))) (.c (.s (.s (.s (.s (.s (.s (.s (.s (.s .z))))))))) .n))))) (fun _ h => h.sel (.c .z (.c .z .n))) ?_
    rintro q ⟨hq, hallq⟩
    refine FJ.seq ?_
    refine FJ.seq ?_
    refine FJ.region ?_
    refine FJ.q (goes_list rfl) rfl (by decide) rfl (q_move rfl (.t .z)) ?_
    refine FJ.q (goes_list rfl) rfl (by decide) rfl (q_fieldAddr rfl (.t (.s (.s (.s .z)))) (fun _ => fa_43_1 _ _)) ?_
    refine FJ.q (goes_list rfl) rfl (by decide) rfl (q_load rfl ag_41 (.t .z) (WS.row (.s .z) rfl)) ?_
    refine FJ.q (goes_list rfl) rfl (by decide) rfl (q_len rfl u_41 (.t .z)) ?_
    refine FJ.q (goes_list rfl) rfl (by decide) rfl (q_lss rfl (.t (.s (.s (.s .z)))) (.t .z)) ?_
    refine FJ.nil ?_
    refine FJ.then_ ?_
    refine FJ.condP (.t .z) (fun b19 => ?_) (fun b19 => ?_)
    · -- b19: True
      refine FJ.skip ?_
      refine FJ.then_ ?_
      refine FJ.seq ?_
      refine FJ.block ?_
      refine FJ.seq ?_
      refine FJ.seq ?_
      refine FJ.region ?_
      refine FJ.q (goes_list rfl) rfl (by decide) rfl (q_fieldAddr rfl (.t (.s (.s (.s (.s (.s (.s (.s .z)))))))) (fun _ => fa_43_1 _ _)) ?_
      refine FJ.q (goes_list rfl) rfl (by decide) rfl (q_load rfl ag_41 (.t .z) (WS.row (.s .z) rfl)) ?_
      refine FJ.q (goes_list rfl) rfl (by decide) rfl (q_move rfl (.t (.s (.s (.s (.s (.s (.s (.s .z))))))))) ?_
      obtain ⟨ad20, hAad20, hrad20⟩ := he0_2 (by omega)
      subst hAad20
      obtain ⟨x21, hx21⟩ := get_ex (xs := k.exts) (j := q) (by omega)
      obtain ⟨ece22, hre22, hFe22, hce22⟩ := hrad20.elem hx21
      obtain rfl := kT_135_ro hre22
      refine FJ.q (goes_list rfl) rfl (by decide) rfl (q_indexAddr (j := q) rfl u_41 sz_135 (.t (.s .z)) (.t .z) rfl (by omega)) ?_
      refine FJ.q (goes_list rfl) rfl (by decide) rfl (q_fieldAddr rfl (.t .z) (fun _ => fa_135_0 _ _)) ?_
      refine FJ.q (goes_list rfl) rfl (by decide) rfl (q_load rfl ag_2 (.t .z) (WS.el hFe22 hce22 rfl)) ?_
      refine FJ.q (goes_list rfl) rfl (by decide) rfl (q_move rfl (.t (.s (.s (.s (.s (.s (.s (.s (.s (.s (.s (.s (.s (.s (.s .z)))))))))))))))) ?_
      refine FJ.q (goes_list rfl) rfl (by decide) rfl (q_neq rfl (.t (.s .z)) (.t .z)) ?_
      refine FJ.nil ?_
      refine FJ.then_ ?_
      refine FJ.condN (.t .z) (fun b23 => ?_) (fun b23 => ?_)
      · -- b23: True
        refine FJ.exit ?_
        refine FJ.thenE ?_
        refine FJ.inB ?_
        refine FJ.then_ ?_
        refine FJ.region ?_
        refine FJ.q (goes_list rfl) rfl (by decide) rfl (q_move rfl (.t (.s (.s (.s (.s (.s (.s (.s (.s (.s (.s (.s (.s (.s .z))))))))))))))) ?_
        refine FJ.q (goes_list rfl) rfl (by decide) rfl (q_add (c := ((q + 1 : Nat) : Int)) rfl (.t .z) .c (wr (by omega) (by omega) (by omega))) ?_
        refine FJ.er (.s (.s (.s (.s (.s (.s (.s (.s (.s (.s (.s (.s (.s (.s (.s .z))))))))))))))) ?_
        refine FJ.q (goes_list rfl) rfl (by decide) rfl (q_assign rfl (.t .z)) ?_
        refine FJ.nil ?_
        refine FJ.again (q + 1) ⟨by omega, all_succ (q := fun _ e => ¬ DExt.frm e = a) hallq hx21 (by assumption)⟩ (by first | omega | (dsimp only; omega)) (.c .z (.c (.s (.s (.s (.s (.s (.s (.s (.s (.s (.s (.s (.s (.s (.s (.s (.s .z)))))))))))))))) (.c (.s (.s (.s (.s (.s (.s (.s (.s (.s (.s (.s (.s (.s (.s (.s (.s (.s .z))))))))))))))))) (.c (.s (.s (.s (.s (.s (.s (.s (.s (.s (.s (.s (.s (.s (.s (.s (.s (.s (.s .z)))))))))))))))))) (.c (.s (.s (.s (.s (.s (.s (.s (.s (.s (.s (.s (.s (.s (.s (.s (.s (.s (.s (.s .z))))))))))))))))))) .n))))) (fun _ h => h.sel (.c .z (.c .z .n)))
      · -- b23: False
        refine FJ.skip ?_
        refine FJ.then_ ?_
        refine FJ.seq ?_
        refine FJ.seq ?_
        refine FJ.region ?_
        refine FJ.q (goes_list rfl) rfl (by decide) rfl (q_fieldAddr rfl (.t (.s (.s (.s (.s (.s (.s (.s (.s (.s (.s (.s (.s (.s (.s (.s .z)))))))))))))))) (fun _ => fa_43_1 _ _)) ?_
        refine FJ.q (goes_list rfl) rfl (by decide) rfl (q_load rfl ag_41 (.t .z) (WS.row (.s .z) rfl)) ?_
        refine FJ.q (goes_list rfl) rfl (by decide) rfl (q_move rfl (.t (.s (.s (.s (.s (.s (.s (.s (.s (.s (.s (.s (.s (.s (.s (.s .z))))))))))))))))) ?_
        refine FJ.q (goes_list rfl) rfl (by decide) rfl (q_indexAddr (j := q) rfl u_41 sz_135 (.t (.s .z)) (.t .z) rfl (by omega)) ?_
        refine FJ.q (goes_list rfl) rfl (by decide) rfl (q_fieldAddr rfl (.t .z) (fun _ => fa_135_2 _ _)) ?_
        refine FJ.q (goes_list rfl) rfl (by decide) rfl (q_load rfl ag_2 (.t .z) (WS.el hFe22 hce22 rfl)) ?_
        refine FJ.q (goes_list rfl) rfl (by decide) rfl (q_move rfl (.t (.s (.s (.s (.s (.s (.s (.s (.s (.s (.s (.s (.s (.s (.s (.s (.s (.s (.s (.s (.s (.s (.s (.s .z))))))))))))))))))))))))) ?_
        refine FJ.q (goes_list rfl) rfl (by decide) rfl (q_neq rfl (.t (.s .z)) (.t .z)) ?_
        refine FJ.nil ?_
        refine FJ.then_ ?_
        refine FJ.condN (.t .z) (fun b24 => ?_) (fun b24 => ?_)
        · -- b24: True
          refine FJ.seq ?_
          refine FJ.region ?_
          refine FJ.call (goes_list rfl) rfl (by decide) rfl (c_call rfl Try.func89 rfl rfl (args1 .c)) .n (fun w1 S1 hs tr => c_89 _) ?_
          rintro _ _ ⟨v25, v27, v29, v31, rfl, rfl⟩
          refine FJ.cat (.c (.c (.c (.c .n)))) ?_
          refine FJ.know (WS.oform .z) ?_
          rintro ⟨Ao33, co33, rfl, hlo33, hmo33, hbo33⟩
          refine FJ.know (WS.oform (.s .z)) ?_
          rintro ⟨Ao34, co34, rfl, hlo34, hmo34, hbo34⟩
          refine FJ.know (WS.oform (.s (.s .z))) ?_
          rintro ⟨Ao35, co35, rfl, hlo35, hmo35, hbo35⟩
          refine FJ.know (WS.oform (.s (.s (.s .z)))) ?_
          rintro ⟨Ao36, co36, rfl, hlo36, hmo36, hbo36⟩
          refine FJ.es (goes_list rfl) rfl (es_store (off := 0) (cs := [.int .i64 ((badKern 6).code), .slice Ao33 ((badKern 6).words).length co33, .slice Ao34 ((badKern 6).kern.disk.blocks).length co34, .slice Ao35 ((badKern 6).kern.disk.cache).length co35, .slice Ao36 ((badKern 6).kern.exts).length co36]) rfl sz_45 (.t (.s (.s (.s (.s (.s (.s (.s (.s (.s (.s (.s (.s (.s (.s (.s (.s (.s (.s (.s (.s (.s (.s (.s .z)))))))))))))))))))))))) (.t .z) rfl (ones rfl) (.s (.s (.s (.s .z)))) (Nat.le_of_ble_eq_true rfl) (.c .z (.c (.s .z) (.c (.s (.s .z)) (.c (.s (.s (.s .z))) (.c (.s (.s (.s (.s .z)))) .n)))))) ?_
          refine FJ.nil ?_
          refine FJ.then_ ?_
          refine FJ.ret ?_
          refine FJ.thenR ?_
          refine FJ.inBR ?_
          refine FJ.thenR ?_
          refine FJ.thenR ?_
          refine FJ.inBR ?_
          refine FJ.thenR ?_
          refine FJ.doneS (resC (cs := [.int .i64 ((badKern 6).code), .slice Ao33 ((badKern 6).words).length co33, .slice Ao34 ((badKern 6).kern.disk.blocks).length co34, .slice Ao35 ((badKern 6).kern.disk.cache).length co35, .slice Ao36 ((badKern 6).kern.exts).length co36]) rfl (.s (.s (.s (.s (.s (.s (.s (.s (.s (.s (.s (.s (.s (.s (.s (.s (.s (.s (.s (.s (.s (.s (.s .z))))))))))))))))))))))) ag_45 sz_45 (WS.rows0 (cs := [.int .i64 ((badKern 6).code), .slice Ao33 ((badKern 6).words).length co33, .slice Ao34 ((badKern 6).kern.disk.blocks).length co34, .slice Ao35 ((badKern 6).kern.disk.cache).length co35, .slice Ao36 ((badKern 6).kern.exts).length co36]) .z (fun _ _ h => h))) (.c (.s .z) (.c (.s .z) (.c (.s .z) (.c (.s .z) .n)))) ?_
          rw [revoke_6 (by assumption) (findFrm_some hx21 (by assumption) hallq) hx21 (by assumption)]
          exact ⟨_, _, _, _, rfl, rfl⟩
        · -- b24: False
          refine FJ.skip ?_
          refine FJ.then_ ?_
          refine FJ.seq ?_
          refine FJ.region ?_
          refine FJ.q (goes_list rfl) rfl (by decide) rfl (q_loadA (cs := [.slice A0_0 k.disk.blocks.length c0_0, .slice A0_1 k.disk.cache.length c0_1, .slice (some ad20) k.exts.length c0_2]) rfl ag_43 sz_43 (.t (.s (.s (.s (.s (.s (.s (.s (.s (.s (.s (.s (.s (.s (.s (.s (.s (.s (.s (.s (.s (.s (.s (.s .z)))))))))))))))))))))))) (WS.rows0 (.s .z) (fun i u h => by exact h))) ?_
          refine FJ.call (goes_list rfl) rfl (by decide) rfl (c_call rfl Try.func127 rfl rfl (args1 (.t .z))) .n (fun w1 S1 hs tr => c_127 (kT_43_mk k (tr.ctx h0_0) (tr.ctx h0_1) (tr.ctx h0_2))) ?_
          rintro _ _ ⟨v37, v39, v41, rfl, rfl⟩
          refine FJ.cat (.c (.c (.c .n))) ?_
          refine FJ.know (WS.oform .z) ?_
          rintro ⟨Ao43, co43, rfl, hlo43, hmo43, hbo43⟩
          refine FJ.know (WS.oform (.s .z)) ?_
          rintro ⟨Ao44, co44, rfl, hlo44, hmo44, hbo44⟩
          refine FJ.know (WS.oform (.s (.s .z))) ?_
          rintro ⟨Ao45, co45, rfl, hlo45, hmo45, hbo45⟩
          refine FJ.e (goes_list rfl) rfl (by decide) rfl (e_alloc rfl z_43 rfl rfl) ?_
          rintro _ _ ⟨g46, rfl, rfl⟩
          refine FJ.es (goes_list rfl) rfl (es_store (off := 0) (cs := [.slice Ao43 k.disk.blocks.length co43, .slice Ao44 k.disk.cache.length co44, .slice Ao45 k.exts.length co45]) rfl sz_43 (.t .z) (.t (.s .z)) rfl (ones rfl) .z (Nat.le_of_ble_eq_true rfl) (.c .z (.c (.s .z) (.c (.s (.s .z)) .n)))) ?_
          refine FJ.nil ?_
          refine FJ.then_ ?_
          refine FJ.seq ?_
          refine FJ.sel (.c (.s .z) (.c (.s .z) (.c (.s .z) (.c .z (.c .z (.c .z .n)))))) ?_
          refine FJ.draw [rowA g46 43 3 1 [.slice Ao43 k.disk.blocks.length co43, .slice Ao44 k.disk.cache.length co44, .slice Ao45 k.exts.length co45], rowA g5 45 5 1 [.int .i64 0, .slice none 0 0, .slice none 0 0, .slice none 0 0, .slice none 0 0], rowA g4 43 3 1 [.slice A0_0 k.disk.blocks.length c0_0, .slice A0_1 k.disk.cache.length c0_1, .slice (some ad20) k.exts.length c0_2]] 13 (by kernel_rfl) ?_
          refine FJ.sch [(1, true), (2, true), (3, true), (4, true), (6, true), (7, true), (8, true), (9, true), (10, true), (0, false), (5, false), (11, false), (12, true), (13, false)] 0 #[true, true, true, true, true, true, true, true, true, true, true, true, true, true] (by rfl) (by kernel_rfl) ?_
          refine FJ.dq rfl rfl rfl (by decide) rfl (.s (.s (.s .z))) (q_fieldAddr rfl (.t (.s (.s (.s (.s (.s (.s (.s (.s (.s (.s (.s (.s (.s (.s (.s (.s (.s (.s (.s (.s (.s (.s (.s (.s (.s (.s .z))))))))))))))))))))))))))) (fun _ => fa_43_1 _ _)) ?_
          refine FJ.dq rfl rfl rfl (by decide) rfl (.s (.s (.s .z))) (q_load rfl ag_41 (.t .z) (WS.row (.s (.s .z)) rfl)) ?_
          refine FJ.dq rfl rfl rfl (by decide) rfl (.s (.s (.s .z))) (q_move rfl (.t (.s (.s (.s (.s (.s (.s (.s (.s (.s (.s (.s (.s (.s (.s (.s (.s (.s (.s (.s (.s (.s (.s (.s (.s (.s (.s .z)))))))))))))))))))))))))))) ?_
          obtain ⟨As47, hAs47⟩ : ∃ A' : Option Addr, A' = (if c0_2 = 0 then (some ad20) else Option.map (fun z => Addr.add z (0 * 3)) (some ad20)) := ⟨_, rfl⟩
          have hs47 := ro_sub (a := 0) (b := q) hAs47 h0_2 (by omega) (by omega)
          have ls47 := subL_len (xs := k.exts) (a := 0) (b := q) (by omega)
          refine FJ.dq rfl rfl rfl (by decide) rfl (.s (.s (.s .z))) (q_sliceL (a := 0) (b := q) rfl u_41 sz_135 (.t (.s .z)) hAs47 (.inl ⟨rfl, rfl⟩) (.inr ⟨_, _, rfl, (.t .z)⟩) (by omega) (by omega) (by omega)) ?_
          refine FJ.dq rfl rfl rfl (by decide) rfl (.s (.s (.s .z))) (q_fieldAddr rfl (.t (.s (.s (.s (.s (.s (.s (.s (.s (.s (.s (.s (.s (.s (.s (.s (.s (.s (.s (.s (.s (.s (.s (.s (.s (.s (.s (.s (.s (.s (.s .z))))))))))))))))))))))))))))))) (fun _ => fa_43_1 _ _)) ?_
          refine FJ.dq rfl rfl rfl (by decide) rfl (.s (.s (.s .z))) (q_load rfl ag_41 (.t .z) (WS.row (.s (.s .z)) rfl)) ?_
          refine FJ.dq rfl rfl rfl (by decide) rfl (.s (.s (.s .z))) (q_move rfl (.t (.s (.s (.s (.s (.s (.s (.s (.s (.s (.s (.s (.s (.s (.s (.s (.s (.s (.s (.s (.s (.s (.s (.s (.s (.s (.s (.s (.s (.s (.s .z)))))))))))))))))))))))))))))))) ?_
          refine FJ.dq rfl rfl rfl (by decide) rfl (.s (.s (.s .z))) (q_add (c := ((q + 1 : Nat) : Int)) rfl (.t .z) .c (wr (by omega) (by omega) (by omega))) ?_
          obtain ⟨As49, hAs49⟩ : ∃ A' : Option Addr, A' = (if c0_2 = q + 1 then (some ad20) else Option.map (fun z => Addr.add z ((q + 1) * 3)) (some ad20)) := ⟨_, rfl⟩
          have hs49 := ro_sub (a := q + 1) (b := k.exts.length) hAs49 h0_2 (by omega) (by omega)
          have ls49 := subL_len (xs := k.exts) (a := q + 1) (b := k.exts.length) (by omega)
          refine FJ.dq rfl rfl rfl (by decide) rfl (.s (.s (.s .z))) (q_sliceL (a := q + 1) (b := k.exts.length) rfl u_41 sz_135 (.t (.s (.s .z))) hAs49 (.inr ⟨_, _, rfl, (.t .z)⟩) (.inl ⟨rfl, rfl⟩) (by omega) (by omega) (by omega)) ?_
          refine FJ.e (goes_sch rfl rfl) rfl (by decide) rfl (e_buildNil rfl u_41 (inz inf_135)) ?_
          rintro _ _ ⟨g51, rfl, rfl⟩
          refine FJ.sk (.s (.s (.s (.s .z)))) ?_
          refine FJ.add (c := ownA kSl_135 ([] : (List DExt)) [.slice (some ⟨g51, 0, none⟩) 0 0]) (fun w S => own_nil w S _) ?_
          refine FJ.e (goes_sch rfl rfl) rfl (by decide) rfl (e_appendF (flat_iso _ (flat_pair (flat_scalar _ _ _) (flat_pair (flat_scalar _ _ _) (flat_scalar _ _ _)))) rfl u_41 inf_135 rfl (.t .z) (.t (.s (.s (.s (.s (.s (.s .z))))))) (.c .z .n) (fun w1 S1 tr => tr.ctx hs47) (by first | omega | (simp only [List.length_append, List.length_take, List.length_nil, List.length_cons]; omega)) (by first | omega | (simp only [List.length_append, List.length_take, List.length_nil, List.length_cons]; omega))) ?_
          rintro _ _ rfl
          refine FJ.ceq .z (List.nil_append _) ?_
          refine FJ.know (WS.oform .z) ?_
          rintro ⟨Ao53, co53, rfl, hlo53, hmo53, hbo53⟩
          refine FJ.sk (.s (.s (.s (.s (.s .z))))) ?_
          refine FJ.e (goes_sch rfl rfl) rfl (by decide) rfl (e_appendF (flat_iso _ (flat_pair (flat_scalar _ _ _) (flat_pair (flat_scalar _ _ _) (flat_scalar _ _ _)))) rfl u_41 inf_135 rfl (.t .z) (.t (.s (.s .z))) (.c .z .n) (fun w1 S1 tr => tr.ctx hs49) (by first | omega | (simp only [List.length_append, List.length_take, List.length_nil, List.length_cons]; omega)) (by first | omega | (simp only [List.length_append, List.length_take, List.length_nil, List.length_cons]; omega))) ?_
          rintro _ _ rfl
          refine FJ.ceq .z (subL_erase _ _) ?_
          refine FJ.know (WS.oform .z) ?_
          rintro ⟨Ao54, co54, rfl, hlo54, hmo54, hbo54⟩
          refine FJ.sk (.s (.s (.s (.s (.s .z))))) ?_
          refine FJ.dq rfl rfl rfl (by decide) rfl (.s (.s (.s (.s (.s .z))))) (q_fieldAddr rfl (.t (.s (.s (.s (.s (.s (.s (.s (.s (.s (.s (.s (.s .z))))))))))))) (fun _ => fa_43_1 _ _)) ?_
          refine FJ.es (goes_sch rfl rfl) rfl (es_store (off := 2) (cs := [.slice Ao54 (List.eraseIdx k.exts q).length co54]) rfl sz_41 (.t .z) (.t (.s .z)) rfl (ones rfl) (.s (.s (.s (.s (.s .z))))) (Nat.le_of_ble_eq_true rfl) (.c (.s (.s .z)) .n)) ?_
          refine FJ.sl rfl ?_
          refine FJ.schN ?_
          refine FJ.drawN (by kernel_rfl) ?_
          refine FJ.then_ ?_
          refine FJ.seq ?_
          refine FJ.region ?_
          refine FJ.q (goes_list rfl) rfl (by decide) rfl (q_loadA (cs := [.slice Ao43 k.disk.blocks.length co43, .slice Ao44 k.disk.cache.length co44, .slice Ao54 (List.eraseIdx k.exts q).length co54]) rfl ag_43 sz_43 (.t (.s (.s (.s (.s (.s (.s (.s (.s (.s (.s (.s (.s (.s .z)))))))))))))) (WS.rows0 .z (fun i u h => by exact h))) ?_
          refine FJ.q (goes_list rfl) rfl (by decide) rfl (q_build (ps := [(2, .agg #[.slice Ao43 k.disk.blocks.length co43, .slice Ao44 k.disk.cache.length co44, .slice Ao54 (List.eraseIdx k.exts q).length co54])]) (cs := [.int .i64 0, .slice none 0 0, .slice Ao43 k.disk.blocks.length co43, .slice Ao44 k.disk.cache.length co44, .slice Ao54 (List.eraseIdx k.exts q).length co54]) rfl bl_45 (by intro act hact; simp only [List.map_toArray, List.map_cons, List.map_nil, (show Val _ _ _ from (.t .z)) act hact]) rfl) ?_
          refine FJ.es (goes_list rfl) rfl (es_store (off := 0) (cs := [.int .i64 0, .slice none 0 0, .slice Ao43 k.disk.blocks.length co43, .slice Ao44 k.disk.cache.length co44, .slice Ao54 (List.eraseIdx k.exts q).length co54]) rfl sz_45 (.t (.s (.s (.s (.s (.s (.s (.s (.s (.s (.s (.s (.s (.s (.s (.s (.s (.s (.s (.s (.s (.s (.s (.s (.s (.s (.s (.s (.s (.s (.s (.s (.s (.s (.s (.s (.s (.s (.s (.s (.s .z))))))))))))))))))))))))))))))))))))))))) (.t .z) rfl (ones rfl) (.s (.s (.s (.s (.s (.s .z)))))) (Nat.le_of_ble_eq_true rfl) (.c .z (.c (.s .z) (.c (.s (.s .z)) (.c (.s (.s (.s .z))) (.c (.s (.s (.s (.s .z)))) .n)))))) ?_
          refine FJ.nil ?_
          refine FJ.then_ ?_
          refine FJ.ret ?_
          refine FJ.inBR ?_
          refine FJ.thenR ?_
          refine FJ.thenR ?_
          refine FJ.inBR ?_
          refine FJ.thenR ?_
          refine FJ.add (c := ownA kSl_2 [] [.slice none 0 0]) (fun w S => own_nil w S none) ?_
          refine FJ.doneS (resC (cs := [.int .i64 0, .slice none 0 0, .slice Ao43 k.disk.blocks.length co43, .slice Ao44 k.disk.cache.length co44, .slice Ao54 (List.eraseIdx k.exts q).length co54]) rfl (.s (.s (.s (.s (.s (.s (.s (.s (.s (.s (.s (.s (.s (.s (.s (.s (.s (.s (.s (.s (.s (.s (.s (.s (.s (.s (.s (.s (.s (.s (.s (.s (.s (.s (.s (.s (.s (.s (.s (.s .z)))))))))))))))))))))))))))))))))))))))) ag_45 sz_45 (WS.rows0 (cs := [.int .i64 0, .slice none 0 0, .slice Ao43 k.disk.blocks.length co43, .slice Ao44 k.disk.cache.length co44, .slice Ao54 (List.eraseIdx k.exts q).length co54]) (.s .z) (fun _ _ h => h))) (.c .z (.c (.s (.s (.s (.s .z)))) (.c (.s (.s (.s (.s .z)))) (.c (.s (.s .z)) .n)))) ?_
          rw [revoke_0 (by assumption) (findFrm_some hx21 (by assumption) hallq) hx21 (by assumption)]
          exact ⟨_, _, _, _, rfl, rfl⟩
    · -- b19: False
      refine FJ.exit ?_
      refine FJ.thenE ?_
      refine FJ.thenE ?_
      refine FJ.inB ?_
      refine FJ.then_ ?_
      refine FJ.seq ?_
      refine FJ.region ?_
      refine FJ.call (goes_list rfl) rfl (by decide) rfl (c_call rfl Try.func89 rfl rfl (args1 .c)) .n (fun w1 S1 hs tr => c_89 _) ?_
      rintro _ _ ⟨v56, v58, v60, v62, rfl, rfl⟩
      refine FJ.cat (.c (.c (.c (.c .n)))) ?_
      refine FJ.know (WS.oform .z) ?_
      rintro ⟨Ao64, co64, rfl, hlo64, hmo64, hbo64⟩
      refine FJ.know (WS.oform (.s .z)) ?_
      rintro ⟨Ao65, co65, rfl, hlo65, hmo65, hbo65⟩
      refine FJ.know (WS.oform (.s (.s .z))) ?_
      rintro ⟨Ao66, co66, rfl, hlo66, hmo66, hbo66⟩
      refine FJ.know (WS.oform (.s (.s (.s .z)))) ?_
      rintro ⟨Ao67, co67, rfl, hlo67, hmo67, hbo67⟩
      refine FJ.es (goes_list rfl) rfl (es_store (off := 0) (cs := [.int .i64 ((badKern 4).code), .slice Ao64 ((badKern 4).words).length co64, .slice Ao65 ((badKern 4).kern.disk.blocks).length co65, .slice Ao66 ((badKern 4).kern.disk.cache).length co66, .slice Ao67 ((badKern 4).kern.exts).length co67]) rfl sz_45 (.t (.s (.s (.s (.s (.s (.s (.s .z)))))))) (.t .z) rfl (ones rfl) (.s (.s (.s (.s .z)))) (Nat.le_of_ble_eq_true rfl) (.c .z (.c (.s .z) (.c (.s (.s .z)) (.c (.s (.s (.s .z))) (.c (.s (.s (.s (.s .z)))) .n)))))) ?_
      refine FJ.nil ?_
      refine FJ.then_ ?_
      refine FJ.ret ?_
      refine FJ.doneS (resC (cs := [.int .i64 ((badKern 4).code), .slice Ao64 ((badKern 4).words).length co64, .slice Ao65 ((badKern 4).kern.disk.blocks).length co65, .slice Ao66 ((badKern 4).kern.disk.cache).length co66, .slice Ao67 ((badKern 4).kern.exts).length co67]) rfl (.s (.s (.s (.s (.s (.s (.s .z))))))) ag_45 sz_45 (WS.rows0 (cs := [.int .i64 ((badKern 4).code), .slice Ao64 ((badKern 4).words).length co64, .slice Ao65 ((badKern 4).kern.disk.blocks).length co65, .slice Ao66 ((badKern 4).kern.disk.cache).length co66, .slice Ao67 ((badKern 4).kern.exts).length co67]) .z (fun _ _ h => h))) (.c (.s .z) (.c (.s .z) (.c (.s .z) (.c (.s .z) .n)))) ?_
      rw [revoke_4 (by assumption) (findFrm_none (q := q) (by omega) hallq)]
      exact ⟨_, _, _, _, rfl, rfl⟩

end Go.Proofs.Ytkmcpcahbfdohaa
