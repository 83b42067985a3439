/- Part 13 of the proof of orlop/orloptop.TopAnewStand: every call of the package puts the same twice, and changes no argument. Conditions: those of the statement, and no others. -/
import Derived.Test.YtpghfghcpffffaaGreatP5
import Derived.Test.YtpghfghcpffffaaGreatP6
import Derived.Test.YtpghfghcpffffaaGreatP7
import Derived.Test.YtpghfghcpffffaaGreatP8
import Derived.Test.YtpghfghcpffffaaGreatP9
import Derived.Test.YtpghfghcpffffaaGreatP10
import Derived.Test.YtpghfghcpffffaaGreatP11
import Derived.Test.YtpghfghcpffffaaGreatP12
import Derived.KernelRfl
import Derived.Test.YtpghfghcpffffaaGreatP4
import Derived.Test.YtpghfghcpffffaaGreatRows
import Derived.WalkKit
import Derived.ProofKit
import Derived.OpenShut
import Derived.JoinedCond
namespace Go.Proofs.Orl
open Go
set_option maxRecDepth 100000
set_option maxHeartbeats 4000000
def topM4:Sm:=[.inv [] [(.t 6,J),(.c 1 0,.a [I]),(.c 1 1,.a [.str])] [⟨0,[(1000000,1)]⟩,⟨0,[(2,1),(1000000,-1)]⟩,⟨0,[(1000000,-1),(1000001,1)]⟩,⟨0,[(1000000,-1),(1000002,1)]⟩,⟨0,[(1000000,1),(1000002,-1)]⟩,⟨0,[(2,1),(1000000,1),(1000002,-1)]⟩,⟨0,[(5,1),(1000000,1),(1000002,-1)]⟩,⟨0,[(6,1),(1000000,1),(1000002,-1)]⟩,⟨0,[(10,1),(1000000,1),(1000002,-1)]⟩,⟨0,[(15,1),(1000000,1),(1000002,-1)]⟩,⟨-1,[(1000001,1)]⟩,⟨0,[(1000002,1)]⟩,⟨0,[(15,-1),(1000001,1)]⟩,⟨0,[(2,1),(1000002,-1)]⟩,⟨0,[(15,1),(1000000,6),(1000001,-1)]⟩,⟨1073741824,[(1000002,-1)]⟩] ⟨0,[(2,1),(1000000,-1)]⟩,.inv [] [(.t 6,J),(.c 1 0,.a [I])] [⟨0,[(1000000,1)]⟩,⟨0,[(5,1),(1000000,-1)]⟩,⟨0,[(1000000,-1),(1000001,1)]⟩,⟨0,[(1025,1),(1000000,1),(1000001,-1)]⟩,⟨-1,[(1000001,1)]⟩,⟨0,[(2,-1),(1000001,1)]⟩,⟨0,[(1025,-1),(1000001,1)]⟩,⟨0,[(18,-1),(1000001,1)]⟩] ⟨0,[(5,1),(1000000,-1)]⟩,.inv [] [(.t 6,J),(.c 1 0,.a [I])] [⟨0,[(1000000,1)]⟩,⟨0,[(6,1),(1000000,-1)]⟩,⟨0,[(1000000,-1),(1000001,1)]⟩,⟨0,[(2029,1),(1000000,1),(1000001,-1)]⟩,⟨-1,[(1000001,1)]⟩,⟨0,[(2,-1),(1000001,1)]⟩,⟨0,[(5,-1),(1000001,1)]⟩,⟨0,[(2029,-1),(1000001,1)]⟩,⟨0,[(18,-1),(1000001,1)]⟩] ⟨0,[(6,1),(1000000,-1)]⟩,.inv [] [(.t 6,J),(.c 1 0,.a [I])] [⟨0,[(1000000,1)]⟩,⟨0,[(10,1),(1000000,-1)]⟩,⟨0,[(1000000,-1),(1000001,1)]⟩,⟨-1,[(1000001,1)]⟩,⟨0,[(2,-1),(1000001,1)]⟩,⟨0,[(5,-1),(1000001,1)]⟩,⟨0,[(6,-1),(1000001,1)]⟩,⟨0,[(3040,-1),(1000001,1)]⟩,⟨0,[(18,-1),(1000001,1)]⟩,⟨0,[(3040,1),(1000000,2),(1000001,-1)]⟩] ⟨0,[(10,1),(1000000,-1)]⟩]
theorem topC4:topA topIv topTs 4 topM4=true:=by kernel_rfl
theorem top_allw {old:Array Obj} (as1:Value) (ax2:Int) (ax3:Int) (as4:Value) (as5:Value) (ax6:Int) (ax7:Int) (ax8:Int) (as9:Value) (ax10:Int) (hvas1:OT old.size old (.sl false [.str,.int .i64,.int .i64,.int .i64,.int .i64,.int .i64,.int .i64]) as1) (hvas4:OT old.size old (.sl false [.int .i64]) as4) (hvas5:OT old.size old (.sl false [.int .i64]) as5) (hvas9:OT old.size old (.sl false [.int .i64,.int .i64]) as9):AllW Tryz.prog 4 old #[as1,vI ax2,vI ax3,as4,as5,vI ax6,vI ax7,vI ax8,as9,vI ax10]:=topA_ok (ts:=topTs) (vs:=[as1,vI ax2,vI ax3,as4,as5,vI ax6,vI ax7,vI ax8,as9,vI ax10]) topIv_ok topC4 (vtsC (.old hvas1) (vtsC (.int _ _) (vtsC (.int _ _) (vtsC (.old hvas4) (vtsC (.old hvas5) (vtsC (.int _ _) (vtsC (.int _ _) (vtsC (.int _ _) (vtsC (.old hvas9) (vtsC (.int _ _) vtsN)))))))))) (oldL_mem ⟨hvas1.oldV,⟨old_int _ _,⟨old_int _ _,⟨hvas4.oldV,⟨hvas5.oldV,⟨old_int _ _,⟨old_int _ _,⟨old_int _ _,⟨hvas9.oldV,⟨old_int _ _,trivial⟩⟩⟩⟩⟩⟩⟩⟩⟩⟩)
end Go.Proofs.Orl

namespace Go.Proofs.Orl
open Go Go.MapKept
set_option maxRecDepth 10000
set_option maxHeartbeats 4000000
theorem ag32:aggT Tryz.prog 32=some true:=by kernel_rfl
theorem sz32:szT Tryz.prog 32=some 10:=by kernel_rfl
theorem top_Awake_ok (H:SH) (wt:WT H):WC Tryz.prog 36 [] H (fun v H' => Keep H H'∧WT H'∧v=(.bool true)):=awake_run wt

theorem top_main_ok (as1:Value) (ax2 ax3:Int) (as4 as5:Value) (ax6 ax7 ax8:Int) (as9:Value) (ax10:Int) (H:SH) (wt:WT H) (hvas1:VT H (.sl false [.str,.int .i64,.int .i64,.int .i64,.int .i64,.int .i64,.int .i64]) as1) (hvas4:VT H (.sl false [.int .i64]) as4) (hvas5:VT H (.sl false [.int .i64]) as5) (hvas9:VT H (.sl false [.int .i64,.int .i64]) as9) (otas1:OT H.old.size H.old (.sl false [.str,.int .i64,.int .i64,.int .i64,.int .i64,.int .i64,.int .i64]) as1) (otas4:OT H.old.size H.old (.sl false [.int .i64]) as4) (otas5:OT H.old.size H.old (.sl false [.int .i64]) as5) (otas9:OT H.old.size H.old (.sl false [.int .i64,.int .i64]) as9):WC Tryz.prog 3 [.agg #[as1,vI ax2,vI ax3,as4,as5,vI ax6,vI ax7,vI ax8,as9,vI ax10]] H (fun v H' => Keep H H'∧WT H'∧v=(.bool true)):=by
 have hx:OldR H.old #[as1,vI ax2,vI ax3,as4,as5,vI ax6,vI ax7,vI ax8,as9,vI ax10]:=oldR_ofL ⟨otas1.oldV,⟨old_int _ _,⟨old_int _ _,⟨otas4.oldV,⟨otas5.oldV,⟨old_int _ _,⟨old_int _ _,⟨old_int _ _,⟨otas9.oldV,⟨old_int _ _,trivial⟩⟩⟩⟩⟩⟩⟩⟩⟩⟩
 obtain ⟨C1,C2,hall⟩:=all_core hx (top_allw as1 ax2 ax3 as4 as5 ax6 ax7 ax8 as9 ax10 otas1 otas4 otas5 otas9)
 have hw6:=top_callw6 as1 ax2 ax3 as4 as5 ax6 ax7 ax8 as9 ax10 otas1 otas4 otas5 otas9
 have hw11:=top_callw11 as1 ax2 ax3 as4 as5 ax6 ax7 ax8 as9 ax10 otas1 otas4 otas5 otas9
 have hw14:=top_callw14 as1 ax2 ax3 as4 as5 ax6 ax7 ax8 as9 ax10 otas1 otas4 otas5 otas9
 have hw16:=top_callw16 as1 ax2 ax3 as4 as5 ax6 ax7 ax8 as9 ax10 otas1 otas4 otas5 otas9
 have hw18:=top_callw18 as1 ax2 ax3 as4 as5 ax6 ax7 ax8 as9 ax10 otas1 otas4 otas5 otas9
 have hw23:=top_callw23 as1 ax2 ax3 as4 as5 ax6 ax7 ax8 as9 ax10 otas1 otas4 otas5 otas9
 have hw28:=top_callw28 as1 ax2 ax3 as4 as5 ax6 ax7 ax8 as9 ax10 otas1 otas4 otas5 otas9
 have hw31:=top_callw31 as1 ax2 ax3 as4 as5 ax6 ax7 ax8 as9 ax10 otas1 otas4 otas5 otas9
 have hw33:=top_callw33 as1 ax2 ax3 as4 as5 ax6 ax7 ax8 as9 ax10 otas1 otas4 otas5 otas9
 have hB0:H.old.size ≤ H.next:=wt.base
 refine wc_of_body Tryz.func3 rfl ?_
 refine wk ⟨[(0,.agg #[as1,vI ax2,vI ax3,as4,as5,vI ax6,vI ax7,vI ax8,as9,vI ax10])],53,[],H⟩ rfl ?_
 refine w_seq (w_region (sv_new (H:=H) (v:=vP H.next 0) (x:=.row #[as1,vI ax2,vI ax3,as4,as5,vI ax6,vI ax7,vI ax8,as9,vI ax10] .raw) rfl rfl rfl rfl (opv_boxE (v:=.agg #[as1,vI ax2,vI ax3,as4,as5,vI ax6,vI ax7,vI ax8,as9,vI ax10]) rfl rfl rfl (by simp [undef]) rfl) ?_))
 intro H101 f102
 refine newL wt f102 fun n105 w103 l104 => ?_
 refine mv (.bool false) rfl rfl ?_
 refine wo_nil (tq_n (wk ⟨[(1,vP H.next 0)],53,[],H101⟩ rfl ?_))
 refine w_seq (w_region (sv_new (H:=H101) (v:=vP H101.next 0) (x:=.row #[.slice none 0 0,.slice none 0 0] .raw) rfl rfl rfl rfl (opv_alloc rfl ze35 rfl) ?_))
 intro H106 f107
 refine newL w103 f107 fun n110 w108 l109 => ?_
 refine sv_new (H:=H106) (v:=vP H106.next 0) (x:=.row #[.slice none 0 0,.slice none 0 0] .raw) rfl rfl rfl rfl (opv_alloc rfl ze35 rfl) ?_
 intro H111 f112
 refine newL w108 f112 fun n115 w113 l114 => ?_
 refine wo_nil (tq_n (wk ⟨[(1,vP H.next 0),(3,vP H101.next 0),(4,vP H106.next 0)],53,[],H111⟩ rfl ?_))
 refine w_seq (w_region ?_)
 have b116:=((f112.get H.next (by omega)).trans ((f107.get H.next (by omega)).trans f102.blk))
 refine sv (v:=.agg #[as1,vI ax2,vI ax3,as4,as5,vI ax6,vI ax7,vI ax8,as9,vI ax10]) rfl rfl rfl (opv_loadE rfl rfl rfl ag32 sz32 b116 rfl (.inl rfl) rfl) rfl ?_
 refine sc_ (H:=H111) (vs:=[.agg #[as1,vI ax2,vI ax3,as4,as5,vI ax6,vI ax7,vI ax8,as9,vI ax10],vP H101.next 0]) (fv:=.func (.func 4) #[] #[]) rfl rfl rfl rfl rfl rfl (.cons rfl rfl (by simp [undef]) (.cons rfl rfl neP .nil)) rfl ?_
 have b117:=((f112.get H101.next (by omega)).trans f107.blk)
 refine WV.mono (wv_f0 Tryz.call4 (hall _ H.next H101.next w113 (((l104.trans l109).trans l114).old) b116 b117 (by omega) (by omega) (by omega) (by omega) (by omega) ((f112.live _).2 (.inl ((f107.live _).2 (.inl ((f102.live _).2 (.inr rfl)))))) ((f112.live _).2 (.inl ((f107.live _).2 (.inr rfl)))))) ?_
 rintro v125 H126 ⟨k127,l118,k119,s120,s121,g122,cv123,cv124⟩
 have n128:=k119.next
 refine wo_nil (tq_n (wk ⟨[(1,vP H.next 0),(3,vP H101.next 0),(4,vP H106.next 0)],53,[],H126⟩ rfl ?_))
 refine w_seq (w_region (sv (v:=.func (.func 6) #[] #[vP H.next 0]) rfl rfl rfl (opv_makeFunc (vs:=[]) (us:=[vP H.next 0]) rfl (.func _) .nil (.cons rfl rfl neP .nil)) rfl ?_))
 refine sc_ (H:=H126) (vs:=[.func (.func 6) #[] #[vP H.next 0]]) (fv:=.func (.func 5) #[] #[]) rfl rfl rfl rfl rfl rfl (.cons rfl rfl (by simp [undef]) .nil) rfl ?_
 have b129:=((k119.get H.next (by omega) (by (try dsimp only); omega)).trans b116)
 refine WV.mono (wv_f0 Tryz.call5 (top_again_ok Tryz.call6 hx hw6 H.next _ k127 ((((l104.trans l109).trans l114).trans l118).old) b129 (by omega) (by omega) (KeepX.live k119 _ ((f112.live _).2 (.inl ((f107.live _).2 (.inl ((f102.live _).2 (.inr rfl))))))))) ?_
 rintro v131 H132 ⟨k133,w130,rfl⟩
 have n134:=k133.next
 have l135:=k133.le
 refine mv (.bool true) rfl rfl ?_
 refine sv (v:=.func (.func 11) #[] #[vP H.next 0]) rfl (wants_g rfl rfl rfl rfl rfl) rfl (opv_makeFunc (vs:=[]) (us:=[vP H.next 0]) rfl (.func _) .nil (.cons rfl rfl neP .nil)) rfl ?_
 refine sc_ (H:=H132) (vs:=[.func (.func 11) #[] #[vP H.next 0]]) (fv:=.func (.func 5) #[] #[]) rfl (wants_g rfl rfl rfl rfl rfl) rfl rfl rfl rfl (.cons rfl rfl (by simp [undef]) .nil) rfl ?_
 have b136:=((k133.get H.next (by omega)).trans b129)
 refine WV.mono (wv_f0 Tryz.call5 (top_again_ok Tryz.call11 hx hw11 H.next _ w130 (((((l104.trans l109).trans l114).trans l118).trans l135).old) b136 (by omega) (by omega) (k133.live _ (KeepX.live k119 _ ((f112.live _).2 (.inl ((f107.live _).2 (.inl ((f102.live _).2 (.inr rfl)))))))))) ?_
 rintro v138 H139 ⟨k140,w137,rfl⟩
 have n141:=k140.next
 have l142:=k140.le
 refine sv (v:=.bool true) rfl rfl rfl (opv_pick (b:=true) rfl rfl rfl rfl rfl rfl) rfl ?_
 refine mv (.bool true) rfl rfl ?_
 refine sv (v:=.func (.func 14) #[] #[vP H.next 0]) rfl (wants_g rfl rfl rfl rfl rfl) rfl (opv_makeFunc (vs:=[]) (us:=[vP H.next 0]) rfl (.func _) .nil (.cons rfl rfl neP .nil)) rfl ?_
 refine sc_ (H:=H139) (vs:=[.func (.func 14) #[] #[vP H.next 0]]) (fv:=.func (.func 5) #[] #[]) rfl (wants_g rfl rfl rfl rfl rfl) rfl rfl rfl rfl (.cons rfl rfl (by simp [undef]) .nil) rfl ?_
 have b143:=((k140.get H.next (by omega)).trans b136)
 refine WV.mono (wv_f0 Tryz.call5 (top_again_ok Tryz.call14 hx hw14 H.next _ w137 ((((((l104.trans l109).trans l114).trans l118).trans l135).trans l142).old) b143 (by omega) (by omega) (k140.live _ (k133.live _ (KeepX.live k119 _ ((f112.live _).2 (.inl ((f107.live _).2 (.inl ((f102.live _).2 (.inr rfl))))))))))) ?_
 rintro v145 H146 ⟨k147,w144,rfl⟩
 have n148:=k147.next
 have l149:=k147.le
 refine sv (v:=.bool true) rfl rfl rfl (opv_pick (b:=true) rfl rfl rfl rfl rfl rfl) rfl ?_
 refine mv (.bool true) rfl rfl ?_
 refine sv (v:=.func (.func 16) #[] #[vP H.next 0]) rfl (wants_g rfl rfl rfl rfl rfl) rfl (opv_makeFunc (vs:=[]) (us:=[vP H.next 0]) rfl (.func _) .nil (.cons rfl rfl neP .nil)) rfl ?_
 refine sc_ (H:=H146) (vs:=[.func (.func 16) #[] #[vP H.next 0]]) (fv:=.func (.func 5) #[] #[]) rfl (wants_g rfl rfl rfl rfl rfl) rfl rfl rfl rfl (.cons rfl rfl (by simp [undef]) .nil) rfl ?_
 have b150:=((k147.get H.next (by omega)).trans b143)
 refine WV.mono (wv_f0 Tryz.call5 (top_again_ok Tryz.call16 hx hw16 H.next _ w144 (((((((l104.trans l109).trans l114).trans l118).trans l135).trans l142).trans l149).old) b150 (by omega) (by omega) (k147.live _ (k140.live _ (k133.live _ (KeepX.live k119 _ ((f112.live _).2 (.inl ((f107.live _).2 (.inl ((f102.live _).2 (.inr rfl)))))))))))) ?_
 rintro v152 H153 ⟨k154,w151,rfl⟩
 have n155:=k154.next
 have l156:=k154.le
 refine sv (v:=.bool true) rfl rfl rfl (opv_pick (b:=true) rfl rfl rfl rfl rfl rfl) rfl ?_
 refine mv (.bool true) rfl rfl ?_
 refine sv (v:=.func (.func 18) #[] #[vP H.next 0]) rfl (wants_g rfl rfl rfl rfl rfl) rfl (opv_makeFunc (vs:=[]) (us:=[vP H.next 0]) rfl (.func _) .nil (.cons rfl rfl neP .nil)) rfl ?_
 refine sc_ (H:=H153) (vs:=[.func (.func 18) #[] #[vP H.next 0]]) (fv:=.func (.func 5) #[] #[]) rfl (wants_g rfl rfl rfl rfl rfl) rfl rfl rfl rfl (.cons rfl rfl (by simp [undef]) .nil) rfl ?_
 have b157:=((k154.get H.next (by omega)).trans b150)
 refine WV.mono (wv_f0 Tryz.call5 (top_again_ok Tryz.call18 hx hw18 H.next _ w151 ((((((((l104.trans l109).trans l114).trans l118).trans l135).trans l142).trans l149).trans l156).old) b157 (by omega) (by omega) (k154.live _ (k147.live _ (k140.live _ (k133.live _ (KeepX.live k119 _ ((f112.live _).2 (.inl ((f107.live _).2 (.inl ((f102.live _).2 (.inr rfl))))))))))))) ?_
 rintro v159 H160 ⟨k161,w158,rfl⟩
 have n162:=k161.next
 have l163:=k161.le
 refine sv (v:=.bool true) rfl rfl rfl (opv_pick (b:=true) rfl rfl rfl rfl rfl rfl) rfl ?_
 refine mv (.bool true) rfl rfl ?_
 refine sv (v:=.func (.func 23) #[] #[vP H.next 0]) rfl (wants_g rfl rfl rfl rfl rfl) rfl (opv_makeFunc (vs:=[]) (us:=[vP H.next 0]) rfl (.func _) .nil (.cons rfl rfl neP .nil)) rfl ?_
 refine sc_ (H:=H160) (vs:=[.func (.func 23) #[] #[vP H.next 0]]) (fv:=.func (.func 5) #[] #[]) rfl (wants_g rfl rfl rfl rfl rfl) rfl rfl rfl rfl (.cons rfl rfl (by simp [undef]) .nil) rfl ?_
 have b164:=((k161.get H.next (by omega)).trans b157)
 refine WV.mono (wv_f0 Tryz.call5 (top_again_ok Tryz.call23 hx hw23 H.next _ w158 (((((((((l104.trans l109).trans l114).trans l118).trans l135).trans l142).trans l149).trans l156).trans l163).old) b164 (by omega) (by omega) (k161.live _ (k154.live _ (k147.live _ (k140.live _ (k133.live _ (KeepX.live k119 _ ((f112.live _).2 (.inl ((f107.live _).2 (.inl ((f102.live _).2 (.inr rfl)))))))))))))) ?_
 rintro v166 H167 ⟨k168,w165,rfl⟩
 have n169:=k168.next
 have l170:=k168.le
 refine sv (v:=.bool true) rfl rfl rfl (opv_pick (b:=true) rfl rfl rfl rfl rfl rfl) rfl ?_
 refine mv (.bool true) rfl rfl ?_
 refine sv (v:=.func (.func 28) #[] #[vP H.next 0]) rfl (wants_g rfl rfl rfl rfl rfl) rfl (opv_makeFunc (vs:=[]) (us:=[vP H.next 0]) rfl (.func _) .nil (.cons rfl rfl neP .nil)) rfl ?_
 refine sc_ (H:=H167) (vs:=[.func (.func 28) #[] #[vP H.next 0]]) (fv:=.func (.func 5) #[] #[]) rfl (wants_g rfl rfl rfl rfl rfl) rfl rfl rfl rfl (.cons rfl rfl (by simp [undef]) .nil) rfl ?_
 have b171:=((k168.get H.next (by omega)).trans b164)
 refine WV.mono (wv_f0 Tryz.call5 (top_again_ok Tryz.call28 hx hw28 H.next _ w165 ((((((((((l104.trans l109).trans l114).trans l118).trans l135).trans l142).trans l149).trans l156).trans l163).trans l170).old) b171 (by omega) (by omega) (k168.live _ (k161.live _ (k154.live _ (k147.live _ (k140.live _ (k133.live _ (KeepX.live k119 _ ((f112.live _).2 (.inl ((f107.live _).2 (.inl ((f102.live _).2 (.inr rfl))))))))))))))) ?_
 rintro v173 H174 ⟨k175,w172,rfl⟩
 have n176:=k175.next
 have l177:=k175.le
 refine sv (v:=.bool true) rfl rfl rfl (opv_pick (b:=true) rfl rfl rfl rfl rfl rfl) rfl ?_
 refine mv (.bool true) rfl rfl ?_
 refine sv (v:=.func (.func 31) #[] #[vP H.next 0]) rfl (wants_g rfl rfl rfl rfl rfl) rfl (opv_makeFunc (vs:=[]) (us:=[vP H.next 0]) rfl (.func _) .nil (.cons rfl rfl neP .nil)) rfl ?_
 refine sc_ (H:=H174) (vs:=[.func (.func 31) #[] #[vP H.next 0]]) (fv:=.func (.func 5) #[] #[]) rfl (wants_g rfl rfl rfl rfl rfl) rfl rfl rfl rfl (.cons rfl rfl (by simp [undef]) .nil) rfl ?_
 have b178:=((k175.get H.next (by omega)).trans b171)
 refine WV.mono (wv_f0 Tryz.call5 (top_again_ok Tryz.call31 hx hw31 H.next _ w172 (((((((((((l104.trans l109).trans l114).trans l118).trans l135).trans l142).trans l149).trans l156).trans l163).trans l170).trans l177).old) b178 (by omega) (by omega) (k175.live _ (k168.live _ (k161.live _ (k154.live _ (k147.live _ (k140.live _ (k133.live _ (KeepX.live k119 _ ((f112.live _).2 (.inl ((f107.live _).2 (.inl ((f102.live _).2 (.inr rfl)))))))))))))))) ?_
 rintro v180 H181 ⟨k182,w179,rfl⟩
 have n183:=k182.next
 have l184:=k182.le
 refine sv (v:=.bool true) rfl rfl rfl (opv_pick (b:=true) rfl rfl rfl rfl rfl rfl) rfl ?_
 refine mv (.bool true) rfl rfl ?_
 refine sv (v:=.func (.func 33) #[] #[vP H.next 0]) rfl (wants_g rfl rfl rfl rfl rfl) rfl (opv_makeFunc (vs:=[]) (us:=[vP H.next 0]) rfl (.func _) .nil (.cons rfl rfl neP .nil)) rfl ?_
 refine sc_ (H:=H181) (vs:=[.func (.func 33) #[] #[vP H.next 0]]) (fv:=.func (.func 5) #[] #[]) rfl (wants_g rfl rfl rfl rfl rfl) rfl rfl rfl rfl (.cons rfl rfl (by simp [undef]) .nil) rfl ?_
 have b185:=((k182.get H.next (by omega)).trans b178)
 refine WV.mono (wv_f0 Tryz.call5 (top_again_ok Tryz.call33 hx hw33 H.next _ w179 ((((((((((((l104.trans l109).trans l114).trans l118).trans l135).trans l142).trans l149).trans l156).trans l163).trans l170).trans l177).trans l184).old) b185 (by omega) (by omega) (k182.live _ (k175.live _ (k168.live _ (k161.live _ (k154.live _ (k147.live _ (k140.live _ (k133.live _ (KeepX.live k119 _ ((f112.live _).2 (.inl ((f107.live _).2 (.inl ((f102.live _).2 (.inr rfl))))))))))))))))) ?_
 rintro v187 H188 ⟨k189,w186,rfl⟩
 have n190:=k189.next
 have l191:=k189.le
 refine sv (v:=.bool true) rfl rfl rfl (opv_pick (b:=true) rfl rfl rfl rfl rfl rfl) rfl ?_
 refine mv (.bool true) rfl rfl ?_
 refine wo_nil (tq_n (wk ⟨[(1,vP H.next 0),(3,vP H101.next 0),(4,vP H106.next 0),(5,.bool true)],53,[],H188⟩ rfl ?_))
 refine w_seq (w_region ?_)
 have b192:=((k189.get H.next (by omega)).trans b185)
 refine sv (v:=.agg #[as1,vI ax2,vI ax3,as4,as5,vI ax6,vI ax7,vI ax8,as9,vI ax10]) rfl rfl rfl (opv_loadE rfl rfl rfl ag32 sz32 b192 rfl (.inl rfl) rfl) rfl ?_
 refine sc_ (H:=H188) (vs:=[.agg #[as1,vI ax2,vI ax3,as4,as5,vI ax6,vI ax7,vI ax8,as9,vI ax10],vP H106.next 0]) (fv:=.func (.func 4) #[] #[]) rfl rfl rfl rfl rfl rfl (.cons rfl rfl (by simp [undef]) (.cons rfl rfl neP .nil)) rfl ?_
 have b193:=((k189.get H106.next (by omega)).trans ((k182.get H106.next (by omega)).trans ((k175.get H106.next (by omega)).trans ((k168.get H106.next (by omega)).trans ((k161.get H106.next (by omega)).trans ((k154.get H106.next (by omega)).trans ((k147.get H106.next (by omega)).trans ((k140.get H106.next (by omega)).trans ((k133.get H106.next (by omega)).trans ((k119.get H106.next (by omega) (by (try dsimp only); omega)).trans f112.blk))))))))))
 refine WV.mono (wv_f0 Tryz.call4 (hall _ H.next H106.next w186 (((((((((((((l104.trans l109).trans l114).trans l118).trans l135).trans l142).trans l149).trans l156).trans l163).trans l170).trans l177).trans l184).trans l191).old) b192 b193 (by omega) (by omega) (by omega) (by omega) (by omega) (k189.live _ (k182.live _ (k175.live _ (k168.live _ (k161.live _ (k154.live _ (k147.live _ (k140.live _ (k133.live _ (KeepX.live k119 _ ((f112.live _).2 (.inl ((f107.live _).2 (.inl ((f102.live _).2 (.inr rfl)))))))))))))))) (k189.live _ (k182.live _ (k175.live _ (k168.live _ (k161.live _ (k154.live _ (k147.live _ (k140.live _ (k133.live _ (KeepX.live k119 _ ((f112.live _).2 (.inr rfl)))))))))))))) ?_
 rintro v201 H202 ⟨k203,l194,k195,s196,s197,g198,cv199,cv200⟩
 have n204:=k195.next
 refine wo_nil (tq_n (wk ⟨[(3,vP H101.next 0),(4,vP H106.next 0),(5,.bool true)],53,[],H202⟩ rfl ?_))
 refine w_seq (w_region (mv (.bool true) rfl rfl ?_))
 refine mv (.bool true) rfl rfl ?_
 have b205:=((k195.get H101.next (by omega) (by (try dsimp only); omega)).trans ((k189.get H101.next (by omega)).trans ((k182.get H101.next (by omega)).trans ((k175.get H101.next (by omega)).trans ((k168.get H101.next (by omega)).trans ((k161.get H101.next (by omega)).trans ((k154.get H101.next (by omega)).trans ((k147.get H101.next (by omega)).trans ((k140.get H101.next (by omega)).trans ((k133.get H101.next (by omega)).trans g122))))))))))
 refine sv (v:=.agg #[s120,s121]) rfl (wants_g rfl rfl rfl rfl rfl) rfl (opv_loadE rfl rfl rfl ag35 sz35 b205 rfl (.inl rfl) rfl) rfl ?_
 refine sv (v:=.agg #[s196,s197]) rfl (wants_g rfl rfl rfl rfl rfl) rfl (opv_loadE rfl rfl rfl ag35 sz35 g198 rfl (.inl rfl) rfl) rfl ?_
 refine sc_ (H:=H202) (vs:=[.agg #[s120,s121],.agg #[s196,s197]]) (fv:=.func (.func 35) #[] #[]) rfl (wants_g rfl rfl rfl rfl rfl) rfl rfl rfl rfl (.cons rfl rfl (by simp [undef]) (.cons rfl rfl (by simp [undef]) .nil)) rfl ?_
 refine WV.mono (wv_f0 Tryz.call35 (top_same_ok s120 s121 s196 s197 C1 C2 _ k203 (CV.boxX (CV.keep cv123 ((((((((k133.trans k140).trans k147).trans k154).trans k161).trans k168).trans k175).trans k182).trans k189)) k195 ((k189.get H106.next (by omega)).trans ((k182.get H106.next (by omega)).trans ((k175.get H106.next (by omega)).trans ((k168.get H106.next (by omega)).trans ((k161.get H106.next (by omega)).trans ((k154.get H106.next (by omega)).trans ((k147.get H106.next (by omega)).trans ((k140.get H106.next (by omega)).trans ((k133.get H106.next (by omega)).trans ((k119.get H106.next (by omega) (by (try dsimp only); omega)).trans f112.blk))))))))))) (CV.boxX (CV.keep cv124 ((((((((k133.trans k140).trans k147).trans k154).trans k161).trans k168).trans k175).trans k182).trans k189)) k195 ((k189.get H106.next (by omega)).trans ((k182.get H106.next (by omega)).trans ((k175.get H106.next (by omega)).trans ((k168.get H106.next (by omega)).trans ((k161.get H106.next (by omega)).trans ((k154.get H106.next (by omega)).trans ((k147.get H106.next (by omega)).trans ((k140.get H106.next (by omega)).trans ((k133.get H106.next (by omega)).trans ((k119.get H106.next (by omega) (by (try dsimp only); omega)).trans f112.blk))))))))))) cv199 cv200)) ?_
 rintro v207 H208 ⟨k209,w206,rfl⟩
 refine kpL k209 fun n211 l210 => ?_
 refine sv (v:=.bool true) rfl rfl rfl (opv_pick (b:=true) rfl rfl rfl rfl rfl rfl) rfl ?_
 refine mv (.bool true) rfl rfl ?_
 refine sc_ (H:=H208) (vs:=[]) (fv:=.func (.func 36) #[] #[]) rfl (wants_g rfl rfl rfl rfl rfl) rfl rfl rfl rfl .nil rfl ?_
 refine WV.mono (wv_f0 Tryz.call36 (top_Awake_ok _ w206)) ?_
 rintro v213 H214 ⟨k215,w212,rfl⟩
 refine kpL k215 fun n217 l216 => ?_
 refine sv (v:=.bool true) rfl rfl rfl (opv_pick (b:=true) rfl rfl rfl rfl rfl rfl) rfl ?_
 refine mv (.bool true) rfl rfl ?_
 refine wo_nil (tq_n (wk ⟨[(2,.bool true)],53,[],H214⟩ rfl ?_))
 refine w_ret ?_
 refine ⟨.inr rfl,rfl,[.bool true],.cons (resV_tmp rfl (by simp [undef])) .nil,((((((((((((((((((KeepX.refl (fun _ => False) H).new_ f102).new_ f107).new_ f112).trans k119 (by intro m hm; (try simp only [false_or,or_false] at hm ⊢); (try dsimp only at hm ⊢); first | omega | (right; omega) | (left; left; omega) | (left; right; omega))).keep k133).keep k140).keep k147).keep k154).keep k161).keep k168).keep k175).keep k182).keep k189).trans k195 (by intro m hm; (try simp only [false_or,or_false] at hm ⊢); (try dsimp only at hm ⊢); first | omega | (right; omega) | (left; left; omega) | (left; right; omega))).keep k209).keep k215).k (fun _ h => h.elim)),w212,rfl⟩
end Go.Proofs.Orl

namespace Go.Proofs.YtpghfghcpffffaaGreat.topAnewStand
open Go Go.ChangeShapes Go.WideShapes Go.ChangeAt Go.RowKit Go.Proofs.Orl
set_option maxRecDepth 100000
theorem own:ownKnob Tryz.prog.godebug=none:=by kernel_rfl
theorem laid:laidOutB Tryz.prog=true:=by kernel_rfl
theorem readable:Tryz.prog.readableRec 32=true:=by kernel_rfl
theorem inside:32 < Tryz.prog.types.size:=of_decide_eq_true (by kernel_rfl)
theorem tys:tyF Tryz.prog 60 32=some [.sl false [.str,.int .i64,.int .i64,.int .i64,.int .i64,.int .i64,.int .i64],.int .i64,.int .i64,.sl false [.int .i64],.sl false [.int .i64],.int .i64,.int .i64,.int .i64,.sl false [.int .i64,.int .i64],.int .i64]:=by kernel_rfl
theorem cts:Tryz.prog.cellTypes Tryz.prog.depth 32=some [22,3,3,25,25,3,3,3,30,3]:=by kernel_rfl
theorem bulk1 {H:Type} (d:DataW H):1 ≤ Rows.uptoBulk d:=by
  cases d with
  | lit l => cases l <;> simp [Rows.uptoBulk]
  | _ => simp [Rows.uptoBulk]
theorem bk (H:Type):Bk H Rows.uptoBulk Rows.uptoBulkAll:=by
  refine ⟨fun l => ?_,fun d l hd => ?_,fun a b => by simp [Rows.uptoBulk],fun a => by simp [Rows.uptoBulk]⟩
  · induction l with
    | nil => simp
    | cons d l ih => have:=bulk1 d; simp only [Rows.uptoBulkAll,List.length_cons]; omega
  · induction l with
    | nil => cases hd
    | cons e l ih =>
      simp only [Rows.uptoBulkAll]
      rcases List.mem_cons.1 hd with rfl | hd
      · omega
      · have:=ih hd; omega
theorem split {cs:Array Value} (h:cs.toList.length=10) : ∃ c0 c1 c2 c3 c4 c5 c6 c7 c8 c9,cs=#[c0,c1,c2,c3,c4,c5,c6,c7,c8,c9]:=by
  obtain ⟨l⟩:=cs
  match l,h with
  | [c0,c1,c2,c3,c4,c5,c6,c7,c8,c9],_ => exact ⟨c0,c1,c2,c3,c4,c5,c6,c7,c8,c9,rfl⟩
theorem walk (W:World) (as1:Value) (ax2:Int) (ax3:Int) (as4:Value) (as5:Value) (ax6:Int) (ax7:Int) (ax8:Int) (as9:Value) (ax10:Int) (otas1:OT W.heap.size W.heap (.sl false [.str,.int .i64,.int .i64,.int .i64,.int .i64,.int .i64,.int .i64]) as1) (otas4:OT W.heap.size W.heap (.sl false [.int .i64]) as4) (otas5:OT W.heap.size W.heap (.sl false [.int .i64]) as5) (otas9:OT W.heap.size W.heap (.sl false [.int .i64,.int .i64]) as9):Calls Tryz.prog 3 #[.agg #[as1,vI ax2,vI ax3,as4,as5,vI ax6,vI ax7,vI ax8,as9,vI ax10]] W fun e W' => e=.returned (.bool true)∧W'.os=W.os∧W'.output=W.output∧∀ b,b < W.heap.size→W'.heap[b]? = W.heap[b]?:=by
  obtain ⟨v,H',hT,_,_,rfl⟩:=top_main_ok as1 ax2 ax3 as4 as5 ax6 ax7 ax8 as9 ax10 (E0 W.heap) e0_wt (.old otas1) (.old otas4) (.old otas5) (.old otas9) otas1 otas4 otas5 otas9
  exact calls_true hT (fun v hv => by
    rw [List.mem_singleton.1 hv]
    exact oldV_agg (oldR_ofL ⟨otas1.oldV,⟨old_int _ _,⟨old_int _ _,⟨otas4.oldV,⟨otas5.oldV,⟨old_int _ _,⟨old_int _ _,⟨old_int _ _,⟨otas9.oldV,⟨old_int _ _,trivial⟩⟩⟩⟩⟩⟩⟩⟩⟩⟩))
theorem contract (H:Type) (enc:TypeId × Value→H) (W:World) (base:Nat) (args:Array Value) (ds gs:List (DataW H)) (before:List MemPlace)
    (hval : ∀ (j:Nat) t v,Tryz.f3.params[j]? = some t→args[j]? = some v→Value.okWide Tryz.prog W .any base t v)
    (hW:DataW.Whole enc Tryz.prog Tryz.f3.params.toList Rows.topAnewStandSpec.vars false W args.toList ds gs before) (hk:Rows.uptoSmall H (ds++gs) = true) :
    Calls Tryz.prog 3 args W fun e W' => ∃ v,e=.returned v∧Rows.topAnewStandSpec.post enc Tryz.prog Tryz.f3 false true false false W args v W':=by
  have hW':=hW
  obtain ⟨p,q,hA0,hV,rfl,hfz,hnd⟩:=hW
  have hA:DataW.TrodAll enc Tryz.prog W 0 (fun _ => true) true Tryz.f3.params.toList args.toList ds p:=hA0
  rw [Tryz.params3] at hA hval
  obtain ⟨v0,vs0,d0,ds0,p0,q0,hargs,rfl,rfl,h0,r0⟩:=trodAll_cons hA
  obtain ⟨rfl,rfl,rfl⟩:=trodAll_nil r0
  obtain rfl:args=#[v0]:=by cases args; simp_all
  obtain ⟨rfl,rfl⟩:=trodVars_none hV
  have hv:=hval 0 32 v0 rfl rfl
  simp only [Value.okWide,Tryz.underlying32] at hv
  obtain ⟨cs,rfl,hsz,hrow⟩:=hv
  have h0k:=h0
  obtain ⟨fuel,h0⟩:=h0
  have hb:Rows.uptoBulk d0 ≤ LIM:=by
    have h1:Rows.uptoBulkAll ([d0]++[]) ≤ 1048576:=of_decide_eq_true hk
    simp only [List.append_nil,Rows.uptoBulkAll] at h1
    unfold LIM; omega
  obtain ⟨hlen,hP⟩:=(tyF_spec (bk H) 60).1 32 _ tys fuel cs.toList (d0,p0) h0 hb
  obtain ⟨c0,c1,c2,c3,c4,c5,c6,c7,c8,c9,rfl⟩:=split (by simpa using hlen)
  have q0:PT W (.sl false [.str,.int .i64,.int .i64,.int .i64,.int .i64,.int .i64,.int .i64]) c0:=hP 0 (by decide)
  have o0:=pt_sl q0 Tryz.underlying22 (cell_ok hrow cts (i:=0) rfl rfl)
  have q1:PT W (.int .i64) c1:=hP 1 (by decide)
  obtain ⟨x1,rfl⟩:=pt_int q1
  have q2:PT W (.int .i64) c2:=hP 2 (by decide)
  obtain ⟨x2,rfl⟩:=pt_int q2
  have q3:PT W (.sl false [.int .i64]) c3:=hP 3 (by decide)
  have o3:=pt_sl q3 Tryz.underlying25 (cell_ok hrow cts (i:=3) rfl rfl)
  have q4:PT W (.sl false [.int .i64]) c4:=hP 4 (by decide)
  have o4:=pt_sl q4 Tryz.underlying25 (cell_ok hrow cts (i:=4) rfl rfl)
  have q5:PT W (.int .i64) c5:=hP 5 (by decide)
  obtain ⟨x5,rfl⟩:=pt_int q5
  have q6:PT W (.int .i64) c6:=hP 6 (by decide)
  obtain ⟨x6,rfl⟩:=pt_int q6
  have q7:PT W (.int .i64) c7:=hP 7 (by decide)
  obtain ⟨x7,rfl⟩:=pt_int q7
  have q8:PT W (.sl false [.int .i64,.int .i64]) c8:=hP 8 (by decide)
  have o8:=pt_sl q8 Tryz.underlying30 (cell_ok hrow cts (i:=8) rfl rfl)
  have q9:PT W (.int .i64) c9:=hP 9 (by decide)
  obtain ⟨x9,rfl⟩:=pt_int q9
  refine (walk W c0 x1 x2 c3 c4 x5 x6 x7 c8 x9 o0 o3 o4 o8).mono fun e W' ⟨he,h1,h2,h3⟩ => ?_
  subst he
  exact ⟨_,rfl,post_true (t:=32) (tb:=4) (p0:=p0) Tryz.params3 rfl Tryz.underlying4 rfl rfl hW' h0k rfl rfl (by simp) laid readable inside h1 h2 h3⟩
theorem lifted (os:Os) (started:os.Started) (H:Type) (enc:TypeId × Value→H) (F:Stop.Interp) :
    ReturnsInHanded {} Tryz.checked os 3 .any ((Rows.OpenSpec.upto Rows.topAnewStandSpec).pre6 enc Tryz.prog Tryz.f3 Rows.topAnewStandUptoRow.domain false) (((Rows.OpenSpec.upto Rows.topAnewStandSpec).at F).post enc Tryz.prog Tryz.f3 false true false false):=by
  refine returnsInHanded_of_cond (C:=Tryz.checked) (s:=Rows.OpenSpec.upto Rows.topAnewStandSpec) (k:=Rows.uptoSmall) rfl own started (by kernel_rfl) Tryz.func3
    (OpenSpec.witness (enc:=enc) (C:=Tryz.checked) (s:=Rows.OpenSpec.upto Rows.topAnewStandSpec) (k:=Rows.uptoSmall) rfl false ⟨#[],#[.agg #[.slice none 0 0,.int .i64 0,.int .i64 0,.slice none 0 0,.slice none 0 0,.int .i64 0,.int .i64 0,.int .i64 0,.slice none 0 0,.int .i64 0]],[]⟩ 12 (by kernel_rfl) (by kernel_rfl) (by kernel_rfl)
      (x:=([.agg [.agg [.nil,.lit (.int .i64 0),.lit (.int .i64 0)],.agg [.nil,.nil],.lit (.int .i64 0),.agg [.lit (.int .i64 0),.lit (.int .i64 0)],.nil,.lit (.int .i64 0)]],[],[])) (by kernel_rfl) rfl (by kernel_rfl)) ?_
  intro W base args ds gs before hval hW _ hk _
  exact contract H enc W base args ds gs before hval hW hk

theorem proved:Rows.TopAnewStandUptoSaid :=
  OpenClaim.holds_of_cond 3 Tryz.f3 rfl rfl rfl rfl rfl rfl rfl ⟨rfl,rfl,rfl,rfl,rfl⟩ rfl rfl rfl rfl rfl (by kernel_rfl) Tryz.func3 (by kernel_rfl)
    (of_decide_eq_true (by kernel_rfl)) (by unfold Func.isWrapper; first | (rw [if_pos (by decide +kernel)]; kernel_rfl) | (rw [if_neg (by decide +kernel)]; exact ⟨rfl,rfl⟩))
    (fun os started H enc _ F => lifted os started H enc F)
end Go.Proofs.YtpghfghcpffffaaGreat.topAnewStand
