/- What is proved: contracts of functions, one a function. No condition. -/
import Derived.Test.YtmejbfmhaoilmaaGreatBase1
import Derived.Test.YtmejbfmhaoilmaaGreatW32
import Derived.Test.YtmejbfmhaoilmaaGreatW42
import Derived.Test.YtmejbfmhaoilmaaGreatW41
import Derived.Test.YtmejbfmhaoilmaaGreatW70
import Derived.Test.YtmejbfmhaoilmaaGreatBase2
namespace Go.Proofs.YtmejbfmhaoilmaaGreat
open Go Go.RowKit
set_option linter.unusedVariables false
set_option linter.unusedSimpArgs false
set_option maxHeartbeats 1000000
set_option maxRecDepth 20000
theorem c_131 {w0 : World} {S0 : Bs}   :
    Calls Tryz.prog 131 #[] w0 (TriPost w0 S0 (RA_27 (⟨[⟨2, 0, 0, [], []⟩], List.replicate 20 []⟩ : DFs))) := by
 refine Y.enter (N := 5) Tryz.func131 rfl rfl (by simp) [] (by simp) (l0 := []) trivial ?_
 refine Y.seq (Y.region ?_)
 refine Y.el rfl (e_alloc rfl z_27 rfl rfl) ?_
 rintro _ _ ⟨g1, rfl, rfl⟩
 refine Y.nt (Y.seq (Y.region (Y.ql rfl (q_build (cs := [.int .i64 2, .int .i64 0, .int .i64 0, .slice none 0 0, .slice none 0 0]) rfl bl_44 (pv1 .c) rfl) ?_)))
 refine Y.el rfl (e_buildSliceL (cs := [.int .i64 2, .int .i64 0, .int .i64 0, .slice none 0 0, .slice none 0 0]) rfl u_24 (inz inf_44) (by decide) (pv1 (.t .z)) rfl rfl (by decide) rfl rfl) ?_
 rintro _ _ ⟨g2, rfl, rfl⟩
 refine Y.el rfl (e_makeSlice (n := 20) (x0 := ([] : (List UInt8))) rfl u_25 inf_22 rfl (fun w S => own_nil w S none) .c .c (by omega) (by omega)) ?_
 rintro _ _ rfl
 refine Y.know (WS.oform .z) ?_
 rintro ⟨aa, ab, rfl, ac, ad, ae⟩
 refine Y.ql rfl (q_build (cs := [.slice (some ⟨g2, 0, none⟩) 1 1, .slice aa (List.replicate 20 ([] : (List UInt8))).length ab]) rfl bl_27 (pv2 (.t .g1) (.t .z)) rfl) ?_
 refine Y.es (goes_list rfl) rfl (esW rfl (.t .g4) (.t .z) .g2 sz_27 rfl rfl) ?_
 refine Y.nt (Y.ret ?_)
 refine Y.add (c := ownA kSl_2 [] [.slice none 0 0]) (fun w S => own_nil w S none) ?_
 refine Y.add (c := ownA kSl_46 [] [.slice none 0 0]) (fun w S => own_nil w S none) ?_
 refine Y.turns (c := ownA kT_44 (⟨2, 0, 0, [], []⟩ : DInode) [.int .i64 2, .int .i64 0, .int .i64 0, .slice none 0 0, .slice none 0 0]) (.c .g1 (.c .z .n)) (fun w S h => kT_44_omk (⟨2, 0, 0, [], []⟩ : DInode) h) ?_
 refine Y.turns (c := ownA kSl_44 [(⟨2, 0, 0, [], []⟩ : DInode)] [.slice (some ⟨g2, 0, none⟩) 1 1]) (.c .g3 (.c .z .n)) (lit1_own rfl rfl (by decide)) ?_
 refine Y.doneS (resW rfl .g4 ag_27 .g1 sz_27) (.c .z (.c .g1 .n)) ?_
 exact ⟨_, _, rfl, rfl⟩

theorem c_172 {w0 : World} {S0 : Bs} {f : DFs} {ai : List Value} (h0 : kT_27.ro w0 (FF w0 S0) f ai) (c : Int)  :
    Calls Tryz.prog 172 #[.agg ai.toArray, .int .i64 c] w0 (TriPost w0 S0 (RA_155 (⟨0, c, 0, [], [], f⟩ : RCall))) := by
 obtain ⟨aw, ax, rfl, aa, ab⟩ := kT_27_ro h0
 obtain ⟨ac, ad, rfl, aj, ak, al, am⟩ := ro_form aa
 obtain ⟨ae, af, rfl, an, ao, ap, aq⟩ := ro_form ab
 refine Y.enter (N := 9) Tryz.func172 rfl rfl (by simp) [(0, .agg #[.slice ac f.inodes.length ad, .slice ae f.data.length af]), (1, .int .i64 c)] (by simp) (l0 := []) trivial ?_
 refine Y.seq (Y.region ?_)
 refine Y.el rfl (e_box (cs := [.slice ac f.inodes.length ad, .slice ae f.data.length af]) (n := 2) rfl (.t .z) rfl rfl) ?_
 rintro _ _ ⟨g3, rfl, rfl⟩
 refine Y.el rfl (e_alloc rfl z_155 rfl rfl) ?_
 rintro _ _ ⟨g4, rfl, rfl⟩
 refine Y.nt (Y.seq (Y.region (Y.mv rfl .g3 (Y.ql rfl (qW rfl ag_27 (.t .g2) .g1 sz_27) ?_))))
 refine Y.cl rfl rfl Tryz.func67 rfl rfl (args1 (.t .z)) .n (fun _ _ hs tr => c_67 (kT_27_mk f (tr.ctx aa) (tr.ctx ab))) ?_
 rintro _ _ ⟨v5, v7, rfl, rfl⟩
 refine Y.cat (.c (.c .n)) ?_
 refine Y.know (WS.oform .z) ?_
 rintro ⟨ay, az, rfl, a0, a1, a2⟩
 refine Y.know (WS.oform .g1) ?_
 rintro ⟨ag, ah, rfl, ar, au, av⟩
 refine Y.ql rfl (q_build (cs := [.int .i64 0, .int .i64 c, .int .i64 0, .slice none 0 0, .slice none 0 0, .slice ay f.inodes.length az, .slice ag f.data.length ah]) rfl bl_155 (pv2 (.t .g2) (.t .z)) rfl) ?_
 refine Y.es (goes_list rfl) rfl (esW rfl (.t .g4) (.t .z) .g2 sz_155 rfl rfl) ?_
 refine Y.nt (Y.ret ?_)
 refine Y.add (c := ownA kSl_5 [] [.slice none 0 0]) (fun w S => own_nil w S none) ?_
 refine Y.add (c := ownA kSl_9 [] [.slice none 0 0]) (fun w S => own_nil w S none) ?_
 refine Y.doneS (resW rfl .g4 ag_155 .g2 sz_155) (.c .g1 (.c .z (.c .g1 (.c .g1 .n)))) ?_
 exact ⟨_, _, _, _, rfl, rfl⟩

end Go.Proofs.YtmejbfmhaoilmaaGreat
