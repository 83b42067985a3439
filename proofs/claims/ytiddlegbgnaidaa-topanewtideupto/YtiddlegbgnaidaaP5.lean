/- Part 5 of the proof of TopAnewTide: every call of the package puts the same twice, and changes no argument. Conditions: those of the statement, and no others. -/
import Derived.Test.YtiddlegbgnaidaaP4
import Derived.Test.YtiddlegbgnaidaaP1
import Derived.Test.YtiddlegbgnaidaaP2
import Derived.Test.YtiddlegbgnaidaaRows
import Derived.WalkKit
import Derived.ProofKit
import Derived.OpenShut
import Derived.JoinedCond
namespace Go.Proofs.Orl
open Go
set_option maxRecDepth 10000
set_option maxHeartbeats 4000000
theorem pl30:placesT Try.prog 30=some [(0,1),(1,1)]:=by kernel_rfl
theorem tin30:Try.prog.info? 30=some Try.t30:=by kernel_rfl
theorem tide_Lies_ok (ax1 ax2:Int) (ax3 ax4 ax5:Int) (as6:Value) (ax7 ax8:Int) (ax9 ax10 ax11:Int) (as12:Value) (H:SH) (wt:WT H) (hvas6:VT H (.sl false [.int .i64,.int .i64,.int .i64,.int .i64,.int .i64]) as6) (hvas12:VT H (.sl false [.int .i64,.int .i64]) as12):WC Try.prog 27 [.agg #[vI ax1,vI ax2,vI ax3,vI ax4,vI ax5,as6],.agg #[vI ax7,vI ax8,vI ax9],.agg #[vI ax10,vI ax11],as12] H (fun v H' => Keep H H'∧WT H'∧∃ (rx13 rx14 rx15:Int),v=(.tuple #[.agg #[vI rx13,vI rx14],vI rx15])):=by
 refine wc_of_body Try.func27 rfl ?_
 refine wk ⟨[(0,.agg #[vI ax1,vI ax2,vI ax3,vI ax4,vI ax5,as6]),(1,.agg #[vI ax7,vI ax8,vI ax9]),(2,.agg #[vI ax10,vI ax11]),(3,as12)],65,[],H⟩ rfl ?_
 refine w_seq (w_region (sv_new (H:=H) (v:=vP H.next 0) (x:=.row #[vI ax1,vI ax2,vI ax3,vI ax4,vI ax5,as6] .raw) rfl rfl rfl rfl (opv_boxE (v:=.agg #[vI ax1,vI ax2,vI ax3,vI ax4,vI ax5,as6]) rfl rfl rfl (by simp [undef]) rfl) ?_))
 intro H101 f102
 refine newL wt f102 fun n105 w103 l104 => ?_
 refine sv_new (H:=H101) (v:=vP H101.next 0) (x:=.row #[vI ax7,vI ax8,vI ax9] .raw) rfl rfl rfl rfl (opv_boxE (v:=.agg #[vI ax7,vI ax8,vI ax9]) rfl rfl rfl (by simp [undef]) rfl) ?_
 intro H106 f107
 refine newL w103 f107 fun n110 w108 l109 => ?_
 refine sv_new (H:=H106) (v:=vP H106.next 0) (x:=.row #[vI ax10,vI ax11] .raw) rfl rfl rfl rfl (opv_boxE (v:=.agg #[vI ax10,vI ax11]) rfl rfl rfl (by simp [undef]) rfl) ?_
 intro H111 f112
 refine newL w108 f112 fun n115 w113 l114 => ?_
 refine sv_new (H:=H111) (v:=vP H111.next 0) (x:=.row #[vI 0,vI 0] .raw) rfl rfl rfl rfl (opv_alloc rfl ze23 rfl) ?_
 intro H116 f117
 refine newL w113 f117 fun n120 w118 l119 => ?_
 refine mv (vI 0) rfl rfl ?_
 refine wo_nil (tq_n (wk ⟨[(3,as12),(4,vP H.next 0),(5,vP H101.next 0),(6,vP H106.next 0),(8,vP H111.next 0)],65,[],H116⟩ rfl ?_))
 refine w_seq (w_region (sv (v:=.agg #[vI ax1,vI ax2,vI ax3,vI ax4,vI ax5,as6]) rfl rfl rfl (opv_loadE rfl rfl rfl ag26 sz26 ((f117.get H.next (by omega)).trans ((f112.get H.next (by omega)).trans ((f107.get H.next (by omega)).trans f102.blk))) rfl (.inl rfl) rfl) rfl ?_))
 refine sv (v:=.agg #[vI ax7,vI ax8,vI ax9]) rfl rfl rfl (opv_loadE rfl rfl rfl ag28 sz28 ((f117.get H101.next (by omega)).trans ((f112.get H101.next (by omega)).trans f107.blk)) rfl (.inl rfl) rfl) rfl ?_
 refine sv (v:=vP H106.next 0) rfl rfl rfl (opv_fieldAddrE rfl rfl rfl Try.underlying30 rfl sz3 (by decide) rfl) rfl ?_
 refine sv (v:=vI ax10) rfl rfl rfl (opv_loadE rfl rfl rfl ag3 sz3 ((f117.get H106.next (by omega)).trans f112.blk) rfl (.inr rfl) rfl) rfl ?_
 refine sv (v:=vP H106.next 1) rfl rfl rfl (opv_fieldAddrE rfl rfl rfl Try.underlying30 rfl sz3 (by decide) rfl) rfl ?_
 refine sv (v:=vI ax11) rfl rfl rfl (opv_loadE rfl rfl rfl ag3 sz3 ((f117.get H106.next (by omega)).trans f112.blk) rfl (.inr rfl) rfl) rfl ?_
 refine sc_ (H:=H116) (vs:=[.agg #[vI ax1,vI ax2,vI ax3,vI ax4,vI ax5,as6],.agg #[vI ax7,vI ax8,vI ax9],vI ax10,vI ax11]) (fv:=.func (.func 38) #[] #[]) rfl rfl rfl rfl rfl rfl (.cons rfl rfl (by simp [undef]) (.cons rfl rfl (by simp [undef]) (.cons rfl rfl neI (.cons rfl rfl neI .nil)))) rfl ?_
 refine WV.mono (wv_f0 Try.call38 (tide_open_ok ax1 ax2 ax3 ax4 ax5 as6 ax7 ax8 ax9 ax10 ax11 _ w118 (hvas6.mono (((l104.trans l109).trans l114).trans l119)))) ?_
 rintro v125 H126 ⟨k127,w121,rx21122,rfl,f123,f124⟩
 refine kpL k127 fun n129 l128 => ?_
 have g130:rx21122=0→∀ k:Nat,k < slen as6→-1000000 ≤ elI H as6 (k * 5 + 1)∧elI H as6 (k * 5 + 2) ≤ 1000000∧-1000000 ≤ elI H as6 (k * 5 + 3)∧elI H as6 (k * 5 + 4) ≤ 1000000:=fun hc k hk => by have:=f124 hc k hk; simp only [elI_keep ((((((KeepX.refl (fun _ => False) H).new_ f102).new_ f107).new_ f112).new_ f117).k (fun _ h => h.elim)) hvas6] at this; exact this
 refine mv (.tuple #[.agg #[vI ax1,vI ax2,vI ax3,vI ax4,vI ax5,as6,vI ax7,vI ax8,vI ax9],vI rx21122]) rfl rfl ?_
 refine sv (v:=.agg #[vI ax1,vI ax2,vI ax3,vI ax4,vI ax5,as6,vI ax7,vI ax8,vI ax9]) rfl rfl rfl (opv_extract rfl rfl rfl rfl) rfl ?_
 refine sv (v:=vI rx21122) rfl rfl rfl (opv_extract rfl rfl rfl rfl) rfl ?_
 refine sv_new (H:=H126) (v:=vP H126.next 0) (x:=.row #[vI 0,vI 0,vI 0,vI 0,vI 0,.slice none 0 0,vI 0,vI 0,vI 0] .raw) rfl rfl rfl rfl (opv_alloc rfl ze79 rfl) ?_
 intro H131 f132
 refine newL w121 f132 fun n135 w133 l134 => ?_
 refine sv_put (H:=H131) (n:=H126.next) (v:=undef) (x:=some (.row #[vI ax1,vI ax2,vI ax3,vI ax4,vI ax5,as6,vI ax7,vI ax8,vI ax9] .raw)) rfl rfl rfl rfl (opv_storeC (u:=.agg #[vI ax1,vI ax2,vI ax3,vI ax4,vI ax5,as6,vI ax7,vI ax8,vI ax9]) rfl rfl rfl rfl rfl (by simp [undef]) sz79 rfl rfl (leafs_of (l:=[vI ax1,vI ax2,vI ax3,vI ax4,vI ax5,as6,vI ax7,vI ax8,vI ax9]) ⟨rfl,rfl,rfl,rfl,rfl,vt_one (hvas6.mono (((((l104.trans l109).trans l114).trans l119).trans l128).trans l134)),rfl,rfl,rfl,trivial⟩) f132.blk rfl rfl) ?_
 intro H136 f137
 refine putL w133 f137 f132.blk fun n140 w138 l139 => ?_
 refine mv (vI rx21122) rfl rfl ?_
 refine wo_nil (tq_n (wk ⟨[(3,as12),(6,vP H106.next 0),(8,vP H111.next 0),(10,vP H126.next 0),(11,vI rx21122)],65,[],H136⟩ rfl ?_))
 refine w_seq (w_block (w_seq (w_region (mv (vI rx21122) rfl rfl ?_))))
 by_cases c141:rx21122=0
 ·
  refine sv (v:=.bool false) rfl rfl rfl (opv_bin rfl rfl rfl rfl rfl (neF c141)) rfl ?_
  refine mv (.bool false) rfl rfl ?_
  refine wo_nil (tq_n (wk ⟨[(3,as12),(6,vP H106.next 0),(8,vP H111.next 0),(10,vP H126.next 0),(11,vI rx21122),(25,.bool false)],65,[],H136⟩ rfl ?_))
  refine w_cond (t:=false) rfl rfl (fun h => by cases h) (fun _ => ?_)
  refine w_seq (w_region (mv as12 rfl rfl ?_))
  have c142:slen as12 ≤ 1073741824:=vt_lim (hvas12.mono ((((((l104.trans l109).trans l114).trans l119).trans l128).trans l134).trans l139))
  refine sv (v:=(vI (slen as12:Int))) rfl rfl rfl (t_len (hvas12.mono ((((((l104.trans l109).trans l114).trans l119).trans l128).trans l134).trans l139)) rfl rfl rfl Try.underlying31) rfl ?_
  by_cases c143 : (slen as12:Int) > 6
  ·
   refine sv (v:=.bool true) rfl rfl rfl (opv_bin rfl rfl rfl rfl rfl (cmpT rfl c143)) rfl ?_
   refine mv (.bool true) rfl rfl ?_
   refine wo_nil (tq_n (wk ⟨[(3,as12),(6,vP H106.next 0),(8,vP H111.next 0),(10,vP H126.next 0),(30,.bool true)],65,[],H136⟩ rfl ?_))
   refine w_cond (t:=true) rfl rfl (fun _ => ?_) (fun h => by cases h)
   refine w_seq (w_region (sv (v:=.agg #[vI 0,vI 0]) rfl rfl rfl (opv_buildStE (vs:=[]) rfl .nil ze23 rfl tin23 Try.underlying23 pl23 rfl rfl) rfl ?_))
   refine sv_put (H:=H136) (n:=H111.next) (v:=undef) (x:=some (.row #[vI 0,vI 0] .raw)) rfl rfl rfl rfl (opv_storeC (u:=.agg #[vI 0,vI 0]) rfl rfl rfl rfl rfl (by simp [undef]) sz23 rfl rfl rfl ((f137.get H111.next (by omega)).trans ((f132.get H111.next (by omega)).trans ((k127.get H111.next (by omega)).trans f117.blk))) rfl rfl) ?_
   intro H144 f145
   refine putL w138 f145 ((f137.get H111.next (by omega)).trans ((f132.get H111.next (by omega)).trans ((k127.get H111.next (by omega)).trans f117.blk))) fun n148 w146 l147 => ?_
   refine mv (vI 3) rfl rfl ?_
   refine wo_nil (tq_n (wk ⟨[(8,vP H111.next 0),(9,vI 3)],65,[],H144⟩ rfl ?_))
   refine w_ret ?_
   try refine q_eq (e':=.ret) rfl ?_
   refine tq_r ?_
   refine ⟨.inr rfl,rfl,[.agg #[vI 0,vI 0],vI 3],.cons (resV_cellE rfl ag23 sz23 f145.blk rfl (.inl rfl) rfl) (.cons (resV_tmp rfl neI) .nil),((((((((((KeepX.refl (fun _ => False) H).new_ f102).new_ f107).new_ f112).new_ f117).keep k127).new_ f132).put f137 (by first | (right; omega) | (left; (try dsimp only) <;> omega))).put f145 (by first | (right; omega) | (left; (try dsimp only) <;> omega))).k (fun _ h => h.elim)),w146,0,0,3,rfl⟩
  ·
   refine sv (v:=.bool false) rfl rfl rfl (opv_bin rfl rfl rfl rfl rfl (cmpF rfl c143)) rfl ?_
   refine mv (.bool false) rfl rfl ?_
   refine wo_nil (tq_n (wk ⟨[(3,as12),(6,vP H106.next 0),(8,vP H111.next 0),(10,vP H126.next 0),(30,.bool false)],65,[],H136⟩ rfl ?_))
   refine w_cond (t:=false) rfl rfl (fun h => by cases h) (fun _ => ?_)
   refine w_skip ?_
   try refine q_eq (e':=.normal) rfl ?_
   refine tqk ⟨[(3,as12),(6,vP H106.next 0),(8,vP H111.next 0),(10,vP H126.next 0)],65,[],H136⟩ rfl ?_
   refine w_seq (w_region (sv (v:=vP H106.next 0) rfl rfl rfl (opv_fieldAddrE rfl rfl rfl Try.underlying30 rfl sz3 (by decide) rfl) rfl ?_))
   refine sv (v:=vI ax10) rfl rfl rfl (opv_loadE rfl rfl rfl ag3 sz3 ((f137.get H106.next (by omega)).trans ((f132.get H106.next (by omega)).trans ((k127.get H106.next (by omega)).trans ((f117.get H106.next (by omega)).trans f112.blk)))) rfl (.inr rfl) rfl) rfl ?_
   refine mv (vI ax10) rfl rfl ?_
   refine wo_nil (tq_n (wk ⟨[(3,as12),(6,vP H106.next 0),(8,vP H111.next 0),(10,vP H126.next 0),(12,vI ax10)],65,[],H136⟩ rfl ?_))
   refine w_seq (w_seq (w_region (mv as12 rfl rfl ?_)))
   have c149:slen as12 ≤ 1073741824:=vt_lim (hvas12.mono ((((((l104.trans l109).trans l114).trans l119).trans l128).trans l134).trans l139))
   refine sv (v:=(vI (slen as12:Int))) rfl rfl rfl (t_len (hvas12.mono ((((((l104.trans l109).trans l114).trans l119).trans l128).trans l134).trans l139)) rfl rfl rfl Try.underlying31) rfl ?_
   refine mv (vI 0) rfl rfl ?_
   refine wo_nil (tq_n (wk ⟨[(3,as12),(6,vP H106.next 0),(8,vP H111.next 0),(10,vP H126.next 0),(12,vI ax10),(37,as12),(38,(vI (slen as12:Int))),(39,vI 0)],65,[],H136⟩ rfl ?_))
   refine w_block (w_loopS (fun m163 s164 => ∃ (x150 x151:Int) (x152 x153:Int) (H154:SH),(0 ≤ x151)∧(x151 ≤ (slen as12:Int))∧(0 ≤ x150)∧H154.get H111.next=some (.row #[vI x152,vI x153] .raw)∧(∀ k:Nat,(k:Int) < x151→0 ≤ elI H as12 (k * 2 + 0)∧elI H as12 (k * 2 + 0) < (slen as6:Int))∧WT H154∧Le H136 H154∧KeepX (fun m => m=H111.next) H136 H154∧m163=(((slen as12:Int):Int) - x151).toNat∧s164=⟨[(3,as12),(6,vP H106.next 0),(8,vP H111.next 0),(10,vP H126.next 0),(12,vI x150),(37,as12),(38,(vI (slen as12:Int))),(39,vI x151)],65,[],H154⟩) (n:=(((slen as12:Int):Int) - 0).toNat) ⟨⟨[(3,as12),(6,vP H106.next 0),(8,vP H111.next 0),(10,vP H126.next 0),(12,vI ax10),(37,as12),(38,(vI (slen as12:Int))),(39,vI 0)],65,[],H136⟩,subk rfl,ax10,0,0,0,H136,by omega,by omega,by omega,(f137.get H111.next (by omega)).trans ((f132.get H111.next (by omega)).trans ((k127.get H111.next (by omega)).trans f117.blk)),(fun k hk => by omega),w138,Le.refl _,KeepX.refl (fun m => m=H111.next) H136,rfl,rfl⟩ ?_)
   rintro m163 s164 ⟨x150,x151,x152,x153,H154,i156,i157,i158,hb159,ha155,w160,l161,k162,rfl,rfl⟩
   have n165:=k162.next
   refine w_seq (w_region ?_)
   by_cases c166:x151 < (slen as12:Int)
   ·
    refine sv (v:=.bool true) rfl rfl rfl (opv_bin rfl rfl rfl rfl rfl (cmpT rfl c166)) rfl ?_
    refine wo_nil (tq_n (wk ⟨[(3,as12),(6,vP H106.next 0),(8,vP H111.next 0),(10,vP H126.next 0),(12,vI x150),(37,as12),(38,(vI (slen as12:Int))),(39,vI x151),(40,.bool true)],65,[],H154⟩ rfl ?_))
    refine w_seq (w_cond (t:=true) rfl rfl (fun _ => ?_) (fun h => by cases h))
    refine w_skip (tq_n (wk ⟨[(3,as12),(6,vP H106.next 0),(8,vP H111.next 0),(10,vP H126.next 0),(12,vI x150),(37,as12),(38,(vI (slen as12:Int))),(39,vI x151)],65,[],H154⟩ rfl ?_))
    refine w_seq (w_block (w_seq (w_region (sv (v:=.pointer (some ⟨snm as12,sof as12 + (x151).toNat * 2,none⟩)) rfl rfl rfl (t_index (z:=2) (hvas12.mono (((((((l104.trans l109).trans l114).trans l119).trans l128).trans l134).trans l139).trans l161)) rfl rfl rfl rfl rfl Try.underlying31 sz30 (by omega) (by omega)) rfl ?_))))
    obtain ⟨vs167,hs168,ho169,he170⟩:=t_loadE (P:=Try.prog) w160 (hvas12.mono (((((((l104.trans l109).trans l114).trans l119).trans l128).trans l134).trans l139).trans l161)) (i:=(x151).toNat) (off:=0) (w:=2) (by omega) (by decide)
    replace hs168:VTs H154 [.int .i64,.int .i64] vs167:=hs168
    obtain ⟨x173,r171,rfl,hs172⟩:=vts_int hs168
    obtain ⟨x176,r174,rfl,hs175⟩:=vts_int hs172
    obtain rfl:=vts_nil hs175
    have q177:elI H as12 ((x151).toNat * 2 + 0) = x173:=elI_of ((((((((((KeepX.refl (fun _ => False) H).new_ f102).new_ f107).new_ f112).new_ f117).keep k127).new_ f132).put f137 (by first | (right; omega) | (left; (try dsimp only) <;> omega))).trans k162 (by intro m hm; (try simp only [false_or,or_false] at hm ⊢); (try dsimp only at hm ⊢); first | omega | (right; omega) | (left; left; omega) | (left; right; omega))).k (fun _ h => h.elim)) hvas12 (he170 0 (by decide))
    have q178:elI H as12 ((x151).toNat * 2 + 1) = x176:=elI_of ((((((((((KeepX.refl (fun _ => False) H).new_ f102).new_ f107).new_ f112).new_ f117).keep k127).new_ f132).put f137 (by first | (right; omega) | (left; (try dsimp only) <;> omega))).trans k162 (by intro m hm; (try simp only [false_or,or_false] at hm ⊢); (try dsimp only at hm ⊢); first | omega | (right; omega) | (left; left; omega) | (left; right; omega))).k (fun _ h => h.elim)) hvas12 (he170 1 (by decide))
    refine sv (v:=.agg #[vI x173,vI x176]) rfl rfl rfl (ho169 _ _ _ _ true rfl rfl rfl rfl ag30 sz30 (.inl rfl)) rfl ?_
    refine sv_new (H:=H154) (v:=vP H154.next 0) (x:=.row #[vI 0,vI 0] .raw) rfl rfl rfl rfl (opv_alloc rfl ze30 rfl) ?_
    intro H179 f180
    refine newL w160 f180 fun n183 w181 l182 => ?_
    refine sv_put (H:=H179) (n:=H154.next) (v:=undef) (x:=some (.row #[vI x173,vI x176] .raw)) rfl rfl rfl rfl (opv_storeC (u:=.agg #[vI x173,vI x176]) rfl rfl rfl rfl rfl (by simp [undef]) sz30 rfl rfl rfl f180.blk rfl rfl) ?_
    intro H184 f185
    refine putL w181 f185 f180.blk fun n188 w186 l187 => ?_
    refine wo_nil (tq_n (wk ⟨[(3,as12),(6,vP H106.next 0),(8,vP H111.next 0),(10,vP H126.next 0),(12,vI x150),(14,vP H154.next 0),(37,as12),(38,(vI (slen as12:Int))),(39,vI x151)],65,[],H184⟩ rfl ?_))
    refine w_seq (w_seq (w_region (sv (v:=.agg #[vI ax1,vI ax2,vI ax3,vI ax4,vI ax5,as6,vI ax7,vI ax8,vI ax9]) rfl rfl rfl (opv_loadE rfl rfl rfl ag79 sz79 ((f185.get H126.next (by omega)).trans ((f180.get H126.next (by omega)).trans ((k162.get H126.next (by omega) (by (try dsimp only); omega)).trans f137.blk))) rfl (.inl rfl) rfl) rfl ?_)))
    refine sv (v:=vP H154.next 0) rfl rfl rfl (opv_fieldAddrE rfl rfl rfl Try.underlying30 rfl sz3 (by decide) rfl) rfl ?_
    refine sv (v:=vI x173) rfl rfl rfl (opv_loadE rfl rfl rfl ag3 sz3 f185.blk rfl (.inr rfl) rfl) rfl ?_
    refine sv (v:=vP H154.next 1) rfl rfl rfl (opv_fieldAddrE rfl rfl rfl Try.underlying30 rfl sz3 (by decide) rfl) rfl ?_
    refine sv (v:=vI x176) rfl rfl rfl (opv_loadE rfl rfl rfl ag3 sz3 f185.blk rfl (.inr rfl) rfl) rfl ?_
    refine sc_ (H:=H184) (vs:=[.agg #[vI ax1,vI ax2,vI ax3,vI ax4,vI ax5,as6,vI ax7,vI ax8,vI ax9],vI x173,vI x176]) (fv:=.func (.func 49) #[] #[]) rfl rfl rfl rfl rfl rfl (.cons rfl rfl (by simp [undef]) (.cons rfl rfl neI (.cons rfl rfl neI .nil))) rfl ?_
    refine WV.mono (wv_f0 Try.call49 (tide_error_ok ax1 ax2 ax3 ax4 ax5 as6 ax7 ax8 ax9 x173 x176 _ w186 (hvas6.mono (((((((((l104.trans l109).trans l114).trans l119).trans l128).trans l134).trans l139).trans l161).trans l182).trans l187)))) ?_
    rintro v192 H193 ⟨k194,w189,rx12190,rfl,f191⟩
    refine kpL k194 fun n196 l195 => ?_
    refine mv (vI rx12190) rfl rfl ?_
    refine wo_nil (tq_n (wk ⟨[(3,as12),(6,vP H106.next 0),(8,vP H111.next 0),(10,vP H126.next 0),(11,vI rx12190),(12,vI x150),(14,vP H154.next 0),(37,as12),(38,(vI (slen as12:Int))),(39,vI x151)],65,[],H193⟩ rfl ?_))
    refine w_seq (w_region (mv (vI rx12190) rfl rfl ?_))
    by_cases c197:rx12190=0
    ·
     refine sv (v:=.bool false) rfl rfl rfl (opv_bin rfl rfl rfl rfl rfl (neF c197)) rfl ?_
     refine wo_nil (tq_n (wk ⟨[(3,as12),(6,vP H106.next 0),(8,vP H111.next 0),(10,vP H126.next 0),(11,vI rx12190),(12,vI x150),(14,vP H154.next 0),(37,as12),(38,(vI (slen as12:Int))),(39,vI x151),(50,.bool false)],65,[],H193⟩ rfl ?_))
     refine w_cond (t:=false) rfl rfl (fun h => by cases h) (fun _ => ?_)
     refine w_skip (tq_n (wk ⟨[(3,as12),(6,vP H106.next 0),(8,vP H111.next 0),(10,vP H126.next 0),(12,vI x150),(14,vP H154.next 0),(37,as12),(38,(vI (slen as12:Int))),(39,vI x151)],65,[],H193⟩ rfl ?_))
     refine w_seq (w_seq (w_region (sv (v:=vP H154.next 0) rfl rfl rfl (opv_fieldAddrE rfl rfl rfl Try.underlying30 rfl sz3 (by decide) rfl) rfl ?_)))
     refine sv (v:=vI x173) rfl rfl rfl (opv_loadE rfl rfl rfl ag3 sz3 ((k194.get H154.next (by omega)).trans f185.blk) rfl (.inr rfl) rfl) rfl ?_
     refine mv (vI x150) rfl rfl ?_
     by_cases c198:x173 ≤ x150
     ·
      refine sv (v:=.bool true) rfl rfl rfl (opv_bin rfl rfl rfl rfl rfl (cmpT rfl c198)) rfl ?_
      refine wo_nil (tq_n (wk ⟨[(3,as12),(6,vP H106.next 0),(8,vP H111.next 0),(10,vP H126.next 0),(14,vP H154.next 0),(37,as12),(38,(vI (slen as12:Int))),(39,vI x151),(56,.bool true)],65,[],H193⟩ rfl ?_))
      refine w_cond (t:=true) rfl rfl (fun _ => ?_) (fun h => by cases h)
      refine w_seq (w_region (sv (v:=.agg #[vI 0,vI 0]) rfl rfl rfl (opv_buildStE (vs:=[]) rfl .nil ze23 rfl tin23 Try.underlying23 pl23 rfl rfl) rfl ?_))
      refine sv_put (H:=H193) (n:=H111.next) (v:=undef) (x:=some (.row #[vI 0,vI 0] .raw)) rfl rfl rfl rfl (opv_storeC (u:=.agg #[vI 0,vI 0]) rfl rfl rfl rfl rfl (by simp [undef]) sz23 rfl rfl rfl ((k194.get H111.next (by omega)).trans ((f185.get H111.next (by omega)).trans ((f180.get H111.next (by omega)).trans hb159))) rfl rfl) ?_
      intro H199 f200
      refine putL w189 f200 ((k194.get H111.next (by omega)).trans ((f185.get H111.next (by omega)).trans ((f180.get H111.next (by omega)).trans hb159))) fun n203 w201 l202 => ?_
      refine mv (vI 2) rfl rfl ?_
      refine wo_nil (tq_n (wk ⟨[(8,vP H111.next 0),(9,vI 2)],65,[],H199⟩ rfl ?_))
      refine w_ret (tq_r ?_)
      try refine q_eq (e':=.ret) rfl ?_
      refine tq_r (tq_r ?_)
      try refine q_eq (e':=.ret) rfl ?_
      refine tq_r ?_
      refine ⟨.inr rfl,rfl,[.agg #[vI 0,vI 0],vI 2],.cons (resV_cellE rfl ag23 sz23 f200.blk rfl (.inl rfl) rfl) (.cons (resV_tmp rfl neI) .nil),((((((((((((((KeepX.refl (fun _ => False) H).new_ f102).new_ f107).new_ f112).new_ f117).keep k127).new_ f132).put f137 (by first | (right; omega) | (left; (try dsimp only) <;> omega))).trans k162 (by intro m hm; (try simp only [false_or,or_false] at hm ⊢); (try dsimp only at hm ⊢); first | omega | (right; omega) | (left; left; omega) | (left; right; omega))).new_ f180).put f185 (by first | (right; omega) | (left; (try dsimp only) <;> omega))).keep k194).put f200 (by first | (right; omega) | (left; (try dsimp only) <;> omega))).k (fun _ h => h.elim)),w201,0,0,2,rfl⟩
     ·
      refine sv (v:=.bool false) rfl rfl rfl (opv_bin rfl rfl rfl rfl rfl (cmpF rfl c198)) rfl ?_
      refine wo_nil (tq_n (wk ⟨[(3,as12),(6,vP H106.next 0),(8,vP H111.next 0),(10,vP H126.next 0),(14,vP H154.next 0),(37,as12),(38,(vI (slen as12:Int))),(39,vI x151),(56,.bool false)],65,[],H193⟩ rfl ?_))
      refine w_cond (t:=false) rfl rfl (fun h => by cases h) (fun _ => ?_)
      refine w_skip (tq_n (wk ⟨[(3,as12),(6,vP H106.next 0),(8,vP H111.next 0),(10,vP H126.next 0),(14,vP H154.next 0),(37,as12),(38,(vI (slen as12:Int))),(39,vI x151)],65,[],H193⟩ rfl ?_))
      refine w_region (sv (v:=vP H154.next 0) rfl rfl rfl (opv_fieldAddrE rfl rfl rfl Try.underlying30 rfl sz3 (by decide) rfl) rfl ?_)
      refine sv (v:=vI x173) rfl rfl rfl (opv_loadE rfl rfl rfl ag3 sz3 ((k194.get H154.next (by omega)).trans f185.blk) rfl (.inr rfl) rfl) rfl ?_
      refine mv (vI x173) rfl rfl ?_
      refine wo_nil ?_
      try refine q_eq (e':=.normal) rfl ?_
      refine tqk ⟨[(3,as12),(6,vP H106.next 0),(8,vP H111.next 0),(10,vP H126.next 0),(12,vI x173),(37,as12),(38,(vI (slen as12:Int))),(39,vI x151)],65,[],H193⟩ rfl ?_
      refine w_region (sv_int rfl rfl rfl (opv_bin rfl rfl rfl rfl rfl rfl) ?_)
      intro x204 h205
      try replace h205:x204=x151 + 1:=wr_ex h205 (by omega) (by omega)
      refine mv (vI x204) rfl rfl ?_
      refine wo_nil ?_
      refine tq_n ⟨(((slen as12:Int):Int) - x204).toNat,by omega,⟨[(3,as12),(6,vP H106.next 0),(8,vP H111.next 0),(10,vP H126.next 0),(12,vI x173),(37,as12),(38,(vI (slen as12:Int))),(39,vI x204)],65,[],H193⟩,subk rfl,x173,x204,x152,x153,H193,by omega,by omega,by omega,(k194.get H111.next (by omega)).trans ((f185.get H111.next (by omega)).trans ((f180.get H111.next (by omega)).trans hb159)),(by intro k hk; by_cases hc : (k:Int) < x151; exact ha155 k hc; have e:k=(x151).toNat:=(by omega); subst e; rw [q177]; omega),w189,((l161.trans l182).trans l187).trans l195,(((((KeepX.refl (fun m => m=H111.next) H136).trans k162 (by intro m hm; (try simp only [false_or,or_false] at hm ⊢); (try dsimp only at hm ⊢); first | omega | (right; omega) | (left; left; omega) | (left; right; omega))).new_ f180).put f185 (by first | (right; omega) | (left; (try dsimp only) <;> omega))).keep k194),rfl,rfl⟩
    ·
     refine sv (v:=.bool true) rfl rfl rfl (opv_bin rfl rfl rfl rfl rfl (neT c197)) rfl ?_
     refine wo_nil (tq_n (wk ⟨[(3,as12),(6,vP H106.next 0),(8,vP H111.next 0),(10,vP H126.next 0),(11,vI rx12190),(12,vI x150),(14,vP H154.next 0),(37,as12),(38,(vI (slen as12:Int))),(39,vI x151),(50,.bool true)],65,[],H193⟩ rfl ?_))
     refine w_cond (t:=true) rfl rfl (fun _ => ?_) (fun h => by cases h)
     refine w_seq (w_region (sv (v:=.agg #[vI 0,vI 0]) rfl rfl rfl (opv_buildStE (vs:=[]) rfl .nil ze23 rfl tin23 Try.underlying23 pl23 rfl rfl) rfl ?_))
     refine mv (vI rx12190) rfl rfl ?_
     refine sv_put (H:=H193) (n:=H111.next) (v:=undef) (x:=some (.row #[vI 0,vI 0] .raw)) rfl rfl rfl rfl (opv_storeC (u:=.agg #[vI 0,vI 0]) rfl rfl rfl rfl rfl (by simp [undef]) sz23 rfl rfl rfl ((k194.get H111.next (by omega)).trans ((f185.get H111.next (by omega)).trans ((f180.get H111.next (by omega)).trans hb159))) rfl rfl) ?_
     intro H206 f207
     refine putL w189 f207 ((k194.get H111.next (by omega)).trans ((f185.get H111.next (by omega)).trans ((f180.get H111.next (by omega)).trans hb159))) fun n210 w208 l209 => ?_
     refine mv (vI rx12190) rfl rfl ?_
     refine wo_nil (tq_n (wk ⟨[(8,vP H111.next 0),(9,vI rx12190)],65,[],H206⟩ rfl ?_))
     refine w_ret (tq_r ?_)
     try refine q_eq (e':=.ret) rfl ?_
     refine tq_r (tq_r ?_)
     try refine q_eq (e':=.ret) rfl ?_
     refine tq_r ?_
     refine ⟨.inr rfl,rfl,[.agg #[vI 0,vI 0],vI rx12190],.cons (resV_cellE rfl ag23 sz23 f207.blk rfl (.inl rfl) rfl) (.cons (resV_tmp rfl neI) .nil),((((((((((((((KeepX.refl (fun _ => False) H).new_ f102).new_ f107).new_ f112).new_ f117).keep k127).new_ f132).put f137 (by first | (right; omega) | (left; (try dsimp only) <;> omega))).trans k162 (by intro m hm; (try simp only [false_or,or_false] at hm ⊢); (try dsimp only at hm ⊢); first | omega | (right; omega) | (left; left; omega) | (left; right; omega))).new_ f180).put f185 (by first | (right; omega) | (left; (try dsimp only) <;> omega))).keep k194).put f207 (by first | (right; omega) | (left; (try dsimp only) <;> omega))).k (fun _ h => h.elim)),w208,0,0,rx12190,rfl⟩
   ·
    refine sv (v:=.bool false) rfl rfl rfl (opv_bin rfl rfl rfl rfl rfl (cmpF rfl c166)) rfl ?_
    refine wo_nil (tq_n (wk ⟨[(3,as12),(6,vP H106.next 0),(8,vP H111.next 0),(10,vP H126.next 0),(12,vI x150),(37,as12),(38,(vI (slen as12:Int))),(39,vI x151),(40,.bool false)],65,[],H154⟩ rfl ?_))
    refine w_seq (w_cond (t:=false) rfl rfl (fun h => by cases h) (fun _ => ?_))
    refine w_exit (tq_e (tq_e ?_))
    try refine q_eq (e':=.normal) rfl ?_
    refine tqk ⟨[(3,as12),(6,vP H106.next 0),(8,vP H111.next 0),(10,vP H126.next 0)],65,[],H154⟩ rfl ?_
    refine w_seq (w_region (sv (v:=.agg #[vI ax1,vI ax2,vI ax3,vI ax4,vI ax5,as6,vI ax7,vI ax8,vI ax9]) rfl rfl rfl (opv_loadE rfl rfl rfl ag79 sz79 ((k162.get H126.next (by omega) (by (try dsimp only); omega)).trans f137.blk) rfl (.inl rfl) rfl) rfl ?_))
    refine sv (v:=.agg #[vI ax10,vI ax11]) rfl rfl rfl (opv_loadE rfl rfl rfl ag30 sz30 ((k162.get H106.next (by omega) (by (try dsimp only); omega)).trans ((f137.get H106.next (by omega)).trans ((f132.get H106.next (by omega)).trans ((k127.get H106.next (by omega)).trans ((f117.get H106.next (by omega)).trans f112.blk))))) rfl (.inl rfl) rfl) rfl ?_
    refine mv as12 rfl rfl ?_
    refine sc_ (H:=H154) (vs:=[.agg #[vI ax1,vI ax2,vI ax3,vI ax4,vI ax5,as6,vI ax7,vI ax8,vI ax9],.agg #[vI ax10,vI ax11],as12]) (fv:=.func (.func 50) #[] #[]) rfl rfl rfl rfl rfl rfl (.cons rfl rfl (by simp [undef]) (.cons rfl rfl (by simp [undef]) (.cons rfl rfl (vt_ne (hvas12.mono (((((((l104.trans l109).trans l114).trans l119).trans l128).trans l134).trans l139).trans l161))) .nil))) rfl ?_
    refine WV.mono (wv_f0 Try.call50 (tide_lies_ok ax1 ax2 ax3 ax4 ax5 as6 ax7 ax8 ax9 ax10 ax11 as12 _ w160 (hvas6.mono (((((((l104.trans l109).trans l114).trans l119).trans l128).trans l134).trans l139).trans l161)) (hvas12.mono (((((((l104.trans l109).trans l114).trans l119).trans l128).trans l134).trans l139).trans l161)) (by omega) (by omega) (by omega) (by omega) (fun k hk => by have:=ha155 k (by omega); simp only [elI_keep ((((((((((KeepX.refl (fun _ => False) H).new_ f102).new_ f107).new_ f112).new_ f117).keep k127).new_ f132).put f137 (by first | (right; omega) | (left; (try dsimp only) <;> omega))).trans k162 (by intro m hm; (try simp only [false_or,or_false] at hm ⊢); (try dsimp only at hm ⊢); first | omega | (right; omega) | (left; left; omega) | (left; right; omega))).k (fun _ h => h.elim)) hvas12]; exact this))) ?_
    rintro v214 H215 ⟨k216,w211,rx13212,rx14213,rfl⟩
    refine kpL k216 fun n218 l217 => ?_
    refine sv_put (H:=H215) (n:=H111.next) (v:=undef) (x:=some (.row #[vI rx13212,vI rx14213] .raw)) rfl rfl rfl rfl (opv_storeC (u:=.agg #[vI rx13212,vI rx14213]) rfl rfl rfl rfl rfl (by simp [undef]) sz23 rfl rfl rfl ((k216.get H111.next (by omega)).trans hb159) rfl rfl) ?_
    intro H219 f220
    refine putL w211 f220 ((k216.get H111.next (by omega)).trans hb159) fun n223 w221 l222 => ?_
    refine mv (vI 0) rfl rfl ?_
    refine wo_nil (tq_n (wk ⟨[(8,vP H111.next 0),(9,vI 0)],65,[],H219⟩ rfl ?_))
    refine w_ret ?_
    refine ⟨.inr rfl,rfl,[.agg #[vI rx13212,vI rx14213],vI 0],.cons (resV_cellE rfl ag23 sz23 f220.blk rfl (.inl rfl) rfl) (.cons (resV_tmp rfl neI) .nil),((((((((((((KeepX.refl (fun _ => False) H).new_ f102).new_ f107).new_ f112).new_ f117).keep k127).new_ f132).put f137 (by first | (right; omega) | (left; (try dsimp only) <;> omega))).trans k162 (by intro m hm; (try simp only [false_or,or_false] at hm ⊢); (try dsimp only at hm ⊢); first | omega | (right; omega) | (left; left; omega) | (left; right; omega))).keep k216).put f220 (by first | (right; omega) | (left; (try dsimp only) <;> omega))).k (fun _ h => h.elim)),w221,rx13212,rx14213,0,rfl⟩
 ·
  refine sv (v:=.bool true) rfl rfl rfl (opv_bin rfl rfl rfl rfl rfl (neT c141)) rfl ?_
  refine mv (.bool true) rfl rfl ?_
  refine wo_nil (tq_n (wk ⟨[(3,as12),(6,vP H106.next 0),(8,vP H111.next 0),(10,vP H126.next 0),(11,vI rx21122),(25,.bool true)],65,[],H136⟩ rfl ?_))
  refine w_cond (t:=true) rfl rfl (fun _ => ?_) (fun h => by cases h)
  refine w_seq (w_region (sv (v:=.agg #[vI 0,vI 0]) rfl rfl rfl (opv_buildStE (vs:=[]) rfl .nil ze23 rfl tin23 Try.underlying23 pl23 rfl rfl) rfl ?_))
  refine mv (vI rx21122) rfl rfl ?_
  refine sv_put (H:=H136) (n:=H111.next) (v:=undef) (x:=some (.row #[vI 0,vI 0] .raw)) rfl rfl rfl rfl (opv_storeC (u:=.agg #[vI 0,vI 0]) rfl rfl rfl rfl rfl (by simp [undef]) sz23 rfl rfl rfl ((f137.get H111.next (by omega)).trans ((f132.get H111.next (by omega)).trans ((k127.get H111.next (by omega)).trans f117.blk))) rfl rfl) ?_
  intro H224 f225
  refine putL w138 f225 ((f137.get H111.next (by omega)).trans ((f132.get H111.next (by omega)).trans ((k127.get H111.next (by omega)).trans f117.blk))) fun n228 w226 l227 => ?_
  refine mv (vI rx21122) rfl rfl ?_
  refine wo_nil (tq_n (wk ⟨[(8,vP H111.next 0),(9,vI rx21122)],65,[],H224⟩ rfl ?_))
  refine w_ret ?_
  try refine q_eq (e':=.ret) rfl ?_
  refine tq_r ?_
  refine ⟨.inr rfl,rfl,[.agg #[vI 0,vI 0],vI rx21122],.cons (resV_cellE rfl ag23 sz23 f225.blk rfl (.inl rfl) rfl) (.cons (resV_tmp rfl neI) .nil),((((((((((KeepX.refl (fun _ => False) H).new_ f102).new_ f107).new_ f112).new_ f117).keep k127).new_ f132).put f137 (by first | (right; omega) | (left; (try dsimp only) <;> omega))).put f225 (by first | (right; omega) | (left; (try dsimp only) <;> omega))).k (fun _ h => h.elim)),w226,0,0,rx21122,rfl⟩

theorem tide_Later_ok (ax1 ax2:Int) (ax3 ax4 ax5:Int) (as6:Value) (ax7 ax8:Int) (ax9 ax10:Int) (ax11 ax12:Int) (H:SH) (wt:WT H) (hvas6:VT H (.sl false [.int .i64,.int .i64,.int .i64,.int .i64,.int .i64]) as6):WC Try.prog 29 [.agg #[vI ax1,vI ax2,vI ax3,vI ax4,vI ax5,as6],.agg #[vI ax7,vI ax8,vI ax9],.agg #[vI ax10,vI ax11],vI ax12] H (fun v H' => Keep H H'∧WT H'∧∃ (rx13 rx14:Int),v=(.tuple #[vI rx13,vI rx14])):=by
 refine wc_of_body Try.func29 rfl ?_
 have hlim:slen as6 ≤ 1073741824:=vt_lim hvas6
 refine wk ⟨[(0,.agg #[vI ax1,vI ax2,vI ax3,vI ax4,vI ax5,as6]),(1,.agg #[vI ax7,vI ax8,vI ax9]),(2,.agg #[vI ax10,vI ax11]),(3,vI ax12)],47,[],H⟩ rfl ?_
 refine w_seq (w_region (sv_new (H:=H) (v:=vP H.next 0) (x:=.row #[vI ax1,vI ax2,vI ax3,vI ax4,vI ax5,as6] .raw) rfl rfl rfl rfl (opv_boxE (v:=.agg #[vI ax1,vI ax2,vI ax3,vI ax4,vI ax5,as6]) rfl rfl rfl (by simp [undef]) rfl) ?_))
 intro H101 f102
 refine newL wt f102 fun n105 w103 l104 => ?_
 refine sv_new (H:=H101) (v:=vP H101.next 0) (x:=.row #[vI ax7,vI ax8,vI ax9] .raw) rfl rfl rfl rfl (opv_boxE (v:=.agg #[vI ax7,vI ax8,vI ax9]) rfl rfl rfl (by simp [undef]) rfl) ?_
 intro H106 f107
 refine newL w103 f107 fun n110 w108 l109 => ?_
 refine sv_new (H:=H106) (v:=vP H106.next 0) (x:=.row #[vI ax10,vI ax11] .raw) rfl rfl rfl rfl (opv_boxE (v:=.agg #[vI ax10,vI ax11]) rfl rfl rfl (by simp [undef]) rfl) ?_
 intro H111 f112
 refine newL w108 f112 fun n115 w113 l114 => ?_
 refine mv (vI 0) rfl rfl ?_
 refine mv (vI 0) rfl rfl ?_
 refine wo_nil (tq_n (wk ⟨[(3,vI ax12),(4,vP H.next 0),(5,vP H101.next 0),(6,vP H106.next 0)],47,[],H111⟩ rfl ?_))
 refine w_seq (w_region (sv (v:=.agg #[vI ax1,vI ax2,vI ax3,vI ax4,vI ax5,as6]) rfl rfl rfl (opv_loadE rfl rfl rfl ag26 sz26 ((f112.get H.next (by omega)).trans ((f107.get H.next (by omega)).trans f102.blk)) rfl (.inl rfl) rfl) rfl ?_))
 refine sv (v:=.agg #[vI ax7,vI ax8,vI ax9]) rfl rfl rfl (opv_loadE rfl rfl rfl ag28 sz28 ((f112.get H101.next (by omega)).trans f107.blk) rfl (.inl rfl) rfl) rfl ?_
 refine sv (v:=vP H106.next 0) rfl rfl rfl (opv_fieldAddrE rfl rfl rfl Try.underlying30 rfl sz3 (by decide) rfl) rfl ?_
 refine sv (v:=vI ax10) rfl rfl rfl (opv_loadE rfl rfl rfl ag3 sz3 f112.blk rfl (.inr rfl) rfl) rfl ?_
 refine sv (v:=vP H106.next 1) rfl rfl rfl (opv_fieldAddrE rfl rfl rfl Try.underlying30 rfl sz3 (by decide) rfl) rfl ?_
 refine sv (v:=vI ax11) rfl rfl rfl (opv_loadE rfl rfl rfl ag3 sz3 f112.blk rfl (.inr rfl) rfl) rfl ?_
 refine sc_ (H:=H111) (vs:=[.agg #[vI ax1,vI ax2,vI ax3,vI ax4,vI ax5,as6],.agg #[vI ax7,vI ax8,vI ax9],vI ax10,vI ax11]) (fv:=.func (.func 38) #[] #[]) rfl rfl rfl rfl rfl rfl (.cons rfl rfl (by simp [undef]) (.cons rfl rfl (by simp [undef]) (.cons rfl rfl neI (.cons rfl rfl neI .nil)))) rfl ?_
 refine WV.mono (wv_f0 Try.call38 (tide_open_ok ax1 ax2 ax3 ax4 ax5 as6 ax7 ax8 ax9 ax10 ax11 _ w113 (hvas6.mono ((l104.trans l109).trans l114)))) ?_
 rintro v120 H121 ⟨k122,w116,rx21117,rfl,f118,f119⟩
 refine kpL k122 fun n124 l123 => ?_
 have g125:rx21117=0→∀ k:Nat,k < slen as6→-1000000 ≤ elI H as6 (k * 5 + 1)∧elI H as6 (k * 5 + 2) ≤ 1000000∧-1000000 ≤ elI H as6 (k * 5 + 3)∧elI H as6 (k * 5 + 4) ≤ 1000000:=fun hc k hk => by have:=f119 hc k hk; simp only [elI_keep (((((KeepX.refl (fun _ => False) H).new_ f102).new_ f107).new_ f112).k (fun _ h => h.elim)) hvas6] at this; exact this
 refine mv (.tuple #[.agg #[vI ax1,vI ax2,vI ax3,vI ax4,vI ax5,as6,vI ax7,vI ax8,vI ax9],vI rx21117]) rfl rfl ?_
 refine sv (v:=.agg #[vI ax1,vI ax2,vI ax3,vI ax4,vI ax5,as6,vI ax7,vI ax8,vI ax9]) rfl rfl rfl (opv_extract rfl rfl rfl rfl) rfl ?_
 refine sv (v:=vI rx21117) rfl rfl rfl (opv_extract rfl rfl rfl rfl) rfl ?_
 refine sv_new (H:=H121) (v:=vP H121.next 0) (x:=.row #[vI 0,vI 0,vI 0,vI 0,vI 0,.slice none 0 0,vI 0,vI 0,vI 0] .raw) rfl rfl rfl rfl (opv_alloc rfl ze79 rfl) ?_
 intro H126 f127
 refine newL w116 f127 fun n130 w128 l129 => ?_
 refine sv_put (H:=H126) (n:=H121.next) (v:=undef) (x:=some (.row #[vI ax1,vI ax2,vI ax3,vI ax4,vI ax5,as6,vI ax7,vI ax8,vI ax9] .raw)) rfl rfl rfl rfl (opv_storeC (u:=.agg #[vI ax1,vI ax2,vI ax3,vI ax4,vI ax5,as6,vI ax7,vI ax8,vI ax9]) rfl rfl rfl rfl rfl (by simp [undef]) sz79 rfl rfl (leafs_of (l:=[vI ax1,vI ax2,vI ax3,vI ax4,vI ax5,as6,vI ax7,vI ax8,vI ax9]) ⟨rfl,rfl,rfl,rfl,rfl,vt_one (hvas6.mono ((((l104.trans l109).trans l114).trans l123).trans l129)),rfl,rfl,rfl,trivial⟩) f127.blk rfl rfl) ?_
 intro H131 f132
 refine putL w128 f132 f127.blk fun n135 w133 l134 => ?_
 refine mv (vI rx21117) rfl rfl ?_
 refine wo_nil (tq_n (wk ⟨[(3,vI ax12),(6,vP H106.next 0),(10,vP H121.next 0),(11,vI rx21117)],47,[],H131⟩ rfl ?_))
 refine w_seq (w_seq (w_region (mv (vI rx21117) rfl rfl ?_)))
 by_cases c136:rx21117=0
 ·
  refine sv (v:=.bool false) rfl rfl rfl (opv_bin rfl rfl rfl rfl rfl (neF c136)) rfl ?_
  refine wo_nil (tq_n (wk ⟨[(3,vI ax12),(6,vP H106.next 0),(10,vP H121.next 0),(11,vI rx21117),(24,.bool false)],47,[],H131⟩ rfl ?_))
  refine w_cond (t:=false) rfl rfl (fun h => by cases h) (fun _ => ?_)
  refine w_skip (tq_n (wk ⟨[(3,vI ax12),(6,vP H106.next 0),(10,vP H121.next 0)],47,[],H131⟩ rfl ?_))
  refine w_seq (w_seq (w_region (sv (v:=vP H106.next 0) rfl rfl rfl (opv_fieldAddrE rfl rfl rfl Try.underlying30 rfl sz3 (by decide) rfl) rfl ?_)))
  refine sv (v:=vI ax10) rfl rfl rfl (opv_loadE rfl rfl rfl ag3 sz3 ((f132.get H106.next (by omega)).trans ((f127.get H106.next (by omega)).trans ((k122.get H106.next (by omega)).trans f112.blk))) rfl (.inr rfl) rfl) rfl ?_
  refine sv_int rfl rfl rfl (opv_bin rfl rfl rfl rfl rfl rfl) ?_
  intro x137 h138
  try replace h138:x137=ax10 + 1:=wr_ex h138 (by omega) (by omega)
  refine mv (vI x137) rfl rfl ?_
  refine wo_nil (tq_n (wk ⟨[(3,vI ax12),(6,vP H106.next 0),(10,vP H121.next 0),(12,vI x137)],47,[],H131⟩ rfl ?_))
  refine w_block (w_loopS (fun m145 s146 => ∃ (x139:Int) (H140:SH),(0 ≤ x139)∧WT H140∧Le H131 H140∧KeepX (fun _ => False) H131 H140∧m145=((slen as6:Int) - x139).toNat∧s146=⟨[(3,vI ax12),(6,vP H106.next 0),(10,vP H121.next 0),(12,vI x139)],47,[],H140⟩) (n:=((slen as6:Int) - x137).toNat) ⟨⟨[(3,vI ax12),(6,vP H106.next 0),(10,vP H121.next 0),(12,vI x137)],47,[],H131⟩,subk rfl,x137,H131,by omega,w133,Le.refl _,KeepX.refl (fun _ => False) H131,rfl,rfl⟩ ?_)
  rintro m145 s146 ⟨x139,H140,i141,w142,l143,k144,rfl,rfl⟩
  have n147:=k144.next
  refine w_seq (w_seq (w_region (mv (vI x139) rfl rfl ?_)))
  refine sv (v:=vP H121.next 0) rfl rfl rfl (opv_fieldAddrE rfl rfl rfl Try.underlying79 rfl sz26 (by decide) rfl) rfl ?_
  refine sv (v:=vP H121.next 5) rfl rfl rfl (opv_fieldAddrE rfl rfl rfl Try.underlying26 rfl sz24 (by decide) rfl) rfl ?_
  refine sv (v:=as6) rfl rfl rfl (opv_loadE rfl rfl rfl ag24 sz24 ((k144.get H121.next (by omega) id).trans f132.blk) rfl (.inr rfl) rfl) rfl ?_
  have c148:slen as6 ≤ 1073741824:=vt_lim (hvas6.mono ((((((l104.trans l109).trans l114).trans l123).trans l129).trans l134).trans l143))
  refine sv (v:=(vI (slen as6:Int))) rfl rfl rfl (t_len (hvas6.mono ((((((l104.trans l109).trans l114).trans l123).trans l129).trans l134).trans l143)) rfl rfl rfl Try.underlying24) rfl ?_
  by_cases c149:x139 < (slen as6:Int)
  ·
   refine sv (v:=.bool true) rfl rfl rfl (opv_bin rfl rfl rfl rfl rfl (cmpT rfl c149)) rfl ?_
   refine wo_nil (tq_n (wk ⟨[(3,vI ax12),(6,vP H106.next 0),(10,vP H121.next 0),(12,vI x139),(34,.bool true)],47,[],H140⟩ rfl ?_))
   refine w_cond (t:=true) rfl rfl (fun _ => ?_) (fun h => by cases h)
   refine w_skip (tq_n (wk ⟨[(3,vI ax12),(6,vP H106.next 0),(10,vP H121.next 0),(12,vI x139)],47,[],H140⟩ rfl ?_))
   refine w_seq (w_block (w_seq (w_region (sv (v:=.agg #[vI ax1,vI ax2,vI ax3,vI ax4,vI ax5,as6,vI ax7,vI ax8,vI ax9]) rfl rfl rfl (opv_loadE rfl rfl rfl ag79 sz79 ((k144.get H121.next (by omega) id).trans f132.blk) rfl (.inl rfl) rfl) rfl ?_))))
   refine sv (v:=.agg #[vI ax10,vI ax11]) rfl rfl rfl (opv_loadE rfl rfl rfl ag30 sz30 ((k144.get H106.next (by omega) id).trans ((f132.get H106.next (by omega)).trans ((f127.get H106.next (by omega)).trans ((k122.get H106.next (by omega)).trans f112.blk)))) rfl (.inl rfl) rfl) rfl ?_
   refine mv (vI x139) rfl rfl ?_
   refine sv (v:=.agg #[vI x139,vI 0]) rfl rfl rfl (opv_buildStE (vs:=[(0,vI x139)]) rfl (.cons rfl rfl neI .nil) ze30 rfl tin30 Try.underlying30 pl30 rfl rfl) rfl ?_
   refine sv_new (H:=H140) (v:=.slice (some ⟨H140.next,0,none⟩) 1 2) (x:=.row #[vI x139,vI 0] .raw) rfl rfl rfl rfl (opv_buildSliceE (vs:=[(0,.agg #[vI x139,vI 0])]) rfl (.cons rfl rfl (by simp [undef]) .nil) Try.underlying31 sz30 ze30 rfl (by decide) (by decide) rfl rfl rfl) ?_
   intro H150 f151
   refine newL w142 f151 fun n154 w152 l153 => ?_
   refine sc_ (H:=H150) (vs:=[.agg #[vI ax1,vI ax2,vI ax3,vI ax4,vI ax5,as6,vI ax7,vI ax8,vI ax9],.agg #[vI ax10,vI ax11],.slice (some ⟨H140.next,0,none⟩) 1 2]) (fv:=.func (.func 50) #[] #[]) rfl rfl rfl rfl rfl rfl (.cons rfl rfl (by simp [undef]) (.cons rfl rfl (by simp [undef]) (.cons rfl rfl (by simp [undef]) .nil))) rfl ?_
   refine WV.mono (wv_f0 Try.call50 (tide_lies1_ok ax1 ax2 ax3 ax4 ax5 as6 ax7 ax8 ax9 ax10 ax11 H140.next x139 0 _ w152 (hvas6.mono (((((((l104.trans l109).trans l114).trans l123).trans l129).trans l134).trans l143).trans l153)) f151.blk (by omega) (by omega) (by omega) (by omega) (by omega) (by omega) (by omega))) ?_
   rintro v158 H159 ⟨k160,w155,rx13156,rx14157,rfl⟩
   refine kpL k160 fun n162 l161 => ?_
   refine sv (v:=vI rx13156) rfl rfl rfl (opv_fieldE rfl rfl rfl Try.underlying23 rfl ag3 sz3 (.inr rfl) rfl) rfl ?_
   refine mv (vI ax12) rfl rfl ?_
   by_cases c163:rx13156 ≥ ax12
   ·
    refine sv (v:=.bool true) rfl rfl rfl (opv_bin rfl rfl rfl rfl rfl (cmpT rfl c163)) rfl ?_
    refine wo_nil (tq_n (wk ⟨[(3,vI ax12),(6,vP H106.next 0),(10,vP H121.next 0),(12,vI x139),(45,.bool true)],47,[],H159⟩ rfl ?_))
    refine w_cond (t:=true) rfl rfl (fun _ => ?_) (fun h => by cases h)
    refine w_seq (w_region (mv (vI x139) rfl rfl ?_))
    refine mv (vI x139) rfl rfl ?_
    refine mv (vI 0) rfl rfl ?_
    refine wo_nil (tq_n (wk ⟨[(8,vI x139),(9,vI 0)],47,[],H159⟩ rfl ?_))
    refine w_ret ?_
    try refine q_eq (e':=.ret) rfl ?_
    refine tq_r (tq_r ?_)
    try refine q_eq (e':=.ret) rfl ?_
    refine tq_r ?_
    refine ⟨.inr rfl,rfl,[vI x139,vI 0],.cons (resV_tmp rfl neI) (.cons (resV_tmp rfl neI) .nil),(((((((((((KeepX.refl (fun _ => False) H).new_ f102).new_ f107).new_ f112).keep k122).new_ f127).put f132 (by first | (right; omega) | (left; (try dsimp only) <;> omega))).trans k144 (fun _ h => h.elim)).new_ f151).keep k160).k (fun _ h => h.elim)),w155,x139,0,rfl⟩
   ·
    refine sv (v:=.bool false) rfl rfl rfl (opv_bin rfl rfl rfl rfl rfl (cmpF rfl c163)) rfl ?_
    refine wo_nil (tq_n (wk ⟨[(3,vI ax12),(6,vP H106.next 0),(10,vP H121.next 0),(12,vI x139),(45,.bool false)],47,[],H159⟩ rfl ?_))
    refine w_cond (t:=false) rfl rfl (fun h => by cases h) (fun _ => ?_)
    refine w_skip ?_
    try refine q_eq (e':=.normal) rfl ?_
    refine tqk ⟨[(3,vI ax12),(6,vP H106.next 0),(10,vP H121.next 0),(12,vI x139)],47,[],H159⟩ rfl ?_
    refine w_region (mv (vI x139) rfl rfl ?_)
    refine sv_int rfl rfl rfl (opv_bin rfl rfl rfl rfl rfl rfl) ?_
    intro x164 h165
    try replace h165:x164=x139 + 1:=wr_ex h165 (by omega) (by omega)
    refine mv (vI x164) rfl rfl ?_
    refine wo_nil ?_
    refine tq_n ⟨((slen as6:Int) - x164).toNat,by omega,⟨[(3,vI ax12),(6,vP H106.next 0),(10,vP H121.next 0),(12,vI x164)],47,[],H159⟩,subk rfl,x164,H159,by omega,w155,(l143.trans l153).trans l161,(((KeepX.refl (fun _ => False) H131).trans k144 (fun _ h => h.elim)).new_ f151).keep k160,rfl,rfl⟩
  ·
   refine sv (v:=.bool false) rfl rfl rfl (opv_bin rfl rfl rfl rfl rfl (cmpF rfl c149)) rfl ?_
   refine wo_nil (tq_n (wk ⟨[(3,vI ax12),(6,vP H106.next 0),(10,vP H121.next 0),(12,vI x139),(34,.bool false)],47,[],H140⟩ rfl ?_))
   refine w_cond (t:=false) rfl rfl (fun h => by cases h) (fun _ => ?_)
   refine w_exit (tq_e (tq_e ?_))
   try refine q_eq (e':=.normal) rfl ?_
   refine tqk ⟨[],47,[],H140⟩ rfl ?_
   refine w_seq (w_region (mv (vI 0) rfl rfl ?_))
   refine mv (vI 9) rfl rfl ?_
   refine wo_nil (tq_n (wk ⟨[(8,vI 0),(9,vI 9)],47,[],H140⟩ rfl ?_))
   refine w_ret ?_
   refine ⟨.inr rfl,rfl,[vI 0,vI 9],.cons (resV_tmp rfl neI) (.cons (resV_tmp rfl neI) .nil),(((((((((KeepX.refl (fun _ => False) H).new_ f102).new_ f107).new_ f112).keep k122).new_ f127).put f132 (by first | (right; omega) | (left; (try dsimp only) <;> omega))).trans k144 (fun _ h => h.elim)).k (fun _ h => h.elim)),w142,0,9,rfl⟩
 ·
  refine sv (v:=.bool true) rfl rfl rfl (opv_bin rfl rfl rfl rfl rfl (neT c136)) rfl ?_
  refine wo_nil (tq_n (wk ⟨[(3,vI ax12),(6,vP H106.next 0),(10,vP H121.next 0),(11,vI rx21117),(24,.bool true)],47,[],H131⟩ rfl ?_))
  refine w_cond (t:=true) rfl rfl (fun _ => ?_) (fun h => by cases h)
  refine w_seq (w_region (mv (vI rx21117) rfl rfl ?_))
  refine mv (vI 0) rfl rfl ?_
  refine mv (vI rx21117) rfl rfl ?_
  refine wo_nil (tq_n (wk ⟨[(8,vI 0),(9,vI rx21117)],47,[],H131⟩ rfl ?_))
  refine w_ret (tq_r ?_)
  refine ⟨.inr rfl,rfl,[vI 0,vI rx21117],.cons (resV_tmp rfl neI) (.cons (resV_tmp rfl neI) .nil),((((((((KeepX.refl (fun _ => False) H).new_ f102).new_ f107).new_ f112).keep k122).new_ f127).put f132 (by first | (right; omega) | (left; (try dsimp only) <;> omega))).k (fun _ h => h.elim)),w133,0,rx21117,rfl⟩
end Go.Proofs.Orl

namespace Go.Proofs.Orl
open Go
set_option maxRecDepth 10000
set_option maxHeartbeats 4000000
theorem ag34:aggT Try.prog 34=some false:=by kernel_rfl
theorem sz34:szT Try.prog 34=some 1:=by kernel_rfl
theorem top_putInt_ok (ax1:Int) (n1 k:Nat) (H:SH) (wt:WT H) (hb:HB H n1 k) (hk:k + (0 * LIM + 1) ≤ CAP):WC Try.prog 8 [vP n1 0,vI ax1] H (fun v H' => KG n1 H H'∧WT H'∧HB H' n1 (k + (0 * LIM + 1))∧v=(.tuple #[])):=by
 have hlt:=hb.lt
 refine wc_of_body Try.func8 rfl ?_
 refine wk ⟨[(0,vP n1 0),(1,vI ax1)],14,[],H⟩ rfl ?_
 refine w_region (mv (vP n1 0) rfl rfl ?_)
 refine mv (vP n1 0) rfl rfl ?_
 refine sv (v:=vP n1 0) rfl rfl rfl (opv_nilCheck_ptr rfl rfl rfl) rfl ?_
 refine sv (v:=vP n1 0) rfl rfl rfl (opv_fieldAddrE rfl rfl rfl Try.underlying37 rfl sz34 (by decide) rfl) rfl ?_
 have hb101:=hb
 obtain ⟨s102,s103,c104,c105,hb106,l107,l108⟩:=id hb101
 refine sv (v:=s102) rfl rfl rfl (opv_loadE rfl rfl rfl ag34 sz34 hb106.blk rfl (.inr rfl) rfl) rfl ?_
 refine mv (vI ax1) rfl rfl ?_
 refine sv_new (H:=H) (v:=.slice (some ⟨H.next,0,none⟩) 1 1) (x:=.row #[vI ax1] .raw) rfl rfl rfl rfl (opv_buildSliceE (vs:=[(0,vI ax1)]) rfl (.cons rfl rfl neI .nil) Try.underlying34 sz3 ze3 rfl (by decide) (by decide) rfl rfl rfl) ?_
 intro H109 f110
 refine newL wt f110 fun n113 w111 l112 => ?_
 refine sv_push (H:=H109) (b:=false) (v:=s102) (c:=c104) (n:=H.next) (e:=vI ax1) (by_:=8) rfl rfl rfl rfl w111 (GV.new hb106.g1 f110) rfl rfl rfl rfl rfl f110.blk ⟨_,rfl⟩ Try.underlying34 Try.underlying34 rfl sz3 tin3 rfl ze3 rfl l107 (by omega) (by decide) (by decide) ?_
 intro s114 H115 g116 w117 l118 k119 n120 ap121
 refine sv (v:=vP n1 0) rfl rfl rfl (opv_nilCheck_ptr rfl rfl rfl) rfl ?_
 refine sv (v:=vP n1 0) rfl rfl rfl (opv_fieldAddrE rfl rfl rfl Try.underlying37 rfl sz34 (by decide) rfl) rfl ?_
 refine sv_put (H:=H115) (n:=n1) (v:=undef) (x:=some (.row #[s114,s103] .raw)) rfl rfl rfl rfl (opv_storeC (u:=s114) rfl rfl rfl rfl rfl (GV.ne g116) sz34 (GV.cells g116) rfl (GV.leafs g116) (push_get k119 (GV.new hb106.g1 f110) ((f110.get n1 (by omega)).trans hb106.blk) (by omega)) rfl rfl) ?_
 intro H122 f123
 refine putL w117 f123 (push_get k119 (GV.new hb106.g1 f110) ((f110.get n1 (by omega)).trans hb106.blk) (by omega)) fun n126 w124 l125 => ?_
 obtain ⟨hb127,k128⟩:=hb_done1 hb106 l107 l108 f110 g116 k119 ap121 f123
 refine wo_nil ?_
 exact ⟨.inl rfl,rfl,[],.nil,KG.trans KG.refl k128,w124,HB.mono hb127 (by omega),rfl⟩

theorem top_putSpan_ok (ax1 ax2:Int) (n1 k:Nat) (H:SH) (wt:WT H) (hb:HB H n1 k) (hk:k + (0 * LIM + 2) ≤ CAP):WC Try.prog 13 [vP n1 0,.agg #[vI ax1,vI ax2]] H (fun v H' => KG n1 H H'∧WT H'∧HB H' n1 (k + (0 * LIM + 2))∧v=(.tuple #[])):=by
 have hlt:=hb.lt
 refine wc_of_body Try.func13 rfl ?_
 refine wk ⟨[(0,vP n1 0),(1,.agg #[vI ax1,vI ax2])],12,[],H⟩ rfl ?_
 refine w_seq (w_region (sv_new (H:=H) (v:=vP H.next 0) (x:=.row #[vI ax1,vI ax2] .raw) rfl rfl rfl rfl (opv_boxE (v:=.agg #[vI ax1,vI ax2]) rfl rfl rfl (by simp [undef]) rfl) ?_))
 intro H101 f102
 refine newL wt f102 fun n105 w103 l104 => ?_
 refine wo_nil (tq_n (wk ⟨[(0,vP n1 0),(3,vP H.next 0)],12,[],H101⟩ rfl ?_))
 refine w_seq (w_region (mv (vP n1 0) rfl rfl ?_))
 refine sv (v:=vP H.next 0) rfl rfl rfl (opv_fieldAddrE rfl rfl rfl Try.underlying23 rfl sz3 (by decide) rfl) rfl ?_
 refine sv (v:=vI ax1) rfl rfl rfl (opv_loadE rfl rfl rfl ag3 sz3 f102.blk rfl (.inr rfl) rfl) rfl ?_
 refine sc_ (H:=H101) (vs:=[vP n1 0,vI ax1]) (fv:=.func (.func 8) #[] #[]) rfl rfl rfl rfl rfl rfl (.cons rfl rfl neP (.cons rfl rfl neI .nil)) rfl ?_
 refine WV.mono (wv_f0 Try.call8 (top_putInt_ok ax1 n1 _ _ w103 (HB.new hb f102) (by omega))) ?_
 rintro v108 H109 ⟨k110,w106,hb107,rfl⟩
 have n111:=KG.next k110
 have l112:=HB.le (HB.new hb f102) k110
 refine wo_nil (tq_n (wk ⟨[(0,vP n1 0),(3,vP H.next 0)],12,[],H109⟩ rfl ?_))
 refine w_region (mv (vP n1 0) rfl rfl ?_)
 refine sv (v:=vP H.next 1) rfl rfl rfl (opv_fieldAddrE rfl rfl rfl Try.underlying23 rfl sz3 (by decide) rfl) rfl ?_
 refine sv (v:=vI ax2) rfl rfl rfl (opv_loadE rfl rfl rfl ag3 sz3 (KG.get k110 f102.blk (by omega) (by omega)) rfl (.inr rfl) rfl) rfl ?_
 refine sc_ (H:=H109) (vs:=[vP n1 0,vI ax2]) (fv:=.func (.func 8) #[] #[]) rfl rfl rfl rfl rfl rfl (.cons rfl rfl neP (.cons rfl rfl neI .nil)) rfl ?_
 refine WV.mono (wv_f0 Try.call8 (top_putInt_ok ax2 n1 _ _ w106 hb107 (by omega))) ?_
 rintro v117 H118 ⟨k119,w115,hb116,rfl⟩
 have n120:=KG.next k119
 have l121:=HB.le hb107 k119
 refine wo_nil ?_
 exact ⟨.inl rfl,rfl,[],.nil,KG.trans (KG.trans (KG.new KG.refl f102) k110) k119,w115,HB.mono hb116 (by omega),rfl⟩

theorem top_putTdTide_ok (ax1 ax2:Int) (ax3 ax4 ax5:Int) (n1 k:Nat) (H:SH) (wt:WT H) (hb:HB H n1 k) (hk:k + (0 * LIM + 5) ≤ CAP):WC Try.prog 67 [vP n1 0,.agg #[vI ax1,vI ax2,vI ax3,vI ax4,vI ax5]] H (fun v H' => KG n1 H H'∧WT H'∧HB H' n1 (k + (0 * LIM + 5))∧v=(.tuple #[])):=by
 have hlt:=hb.lt
 refine wc_of_body Try.func67 rfl ?_
 refine wk ⟨[(0,vP n1 0),(1,.agg #[vI ax1,vI ax2,vI ax3,vI ax4,vI ax5])],16,[],H⟩ rfl ?_
 refine w_seq (w_region (sv_new (H:=H) (v:=vP H.next 0) (x:=.row #[vI ax1,vI ax2,vI ax3,vI ax4,vI ax5] .raw) rfl rfl rfl rfl (opv_boxE (v:=.agg #[vI ax1,vI ax2,vI ax3,vI ax4,vI ax5]) rfl rfl rfl (by simp [undef]) rfl) ?_))
 intro H101 f102
 refine newL wt f102 fun n105 w103 l104 => ?_
 refine wo_nil (tq_n (wk ⟨[(0,vP n1 0),(3,vP H.next 0)],16,[],H101⟩ rfl ?_))
 refine w_seq (w_region (mv (vP n1 0) rfl rfl ?_))
 refine sv (v:=vP H.next 0) rfl rfl rfl (opv_fieldAddrE rfl rfl rfl Try.underlying77 rfl sz3 (by decide) rfl) rfl ?_
 refine sv (v:=vI ax1) rfl rfl rfl (opv_loadE rfl rfl rfl ag3 sz3 f102.blk rfl (.inr rfl) rfl) rfl ?_
 refine sc_ (H:=H101) (vs:=[vP n1 0,vI ax1]) (fv:=.func (.func 8) #[] #[]) rfl rfl rfl rfl rfl rfl (.cons rfl rfl neP (.cons rfl rfl neI .nil)) rfl ?_
 refine WV.mono (wv_f0 Try.call8 (top_putInt_ok ax1 n1 _ _ w103 (HB.new hb f102) (by omega))) ?_
 rintro v108 H109 ⟨k110,w106,hb107,rfl⟩
 have n111:=KG.next k110
 have l112:=HB.le (HB.new hb f102) k110
 refine wo_nil (tq_n (wk ⟨[(0,vP n1 0),(3,vP H.next 0)],16,[],H109⟩ rfl ?_))
 refine w_seq (w_region (mv (vP n1 0) rfl rfl ?_))
 refine sv (v:=vP H.next 1) rfl rfl rfl (opv_fieldAddrE rfl rfl rfl Try.underlying77 rfl sz23 (by decide) rfl) rfl ?_
 refine sv (v:=.agg #[vI ax2,vI ax3]) rfl rfl rfl (opv_loadE rfl rfl rfl ag23 sz23 (KG.get k110 f102.blk (by omega) (by omega)) rfl (.inl rfl) rfl) rfl ?_
 refine sc_ (H:=H109) (vs:=[vP n1 0,.agg #[vI ax2,vI ax3]]) (fv:=.func (.func 13) #[] #[]) rfl rfl rfl rfl rfl rfl (.cons rfl rfl neP (.cons rfl rfl (by simp [undef]) .nil)) rfl ?_
 refine WV.mono (wv_f0 Try.call13 (top_putSpan_ok ax2 ax3 n1 _ _ w106 hb107 (by omega))) ?_
 rintro v117 H118 ⟨k119,w115,hb116,rfl⟩
 have n120:=KG.next k119
 have l121:=HB.le hb107 k119
 refine wo_nil (tq_n (wk ⟨[(0,vP n1 0),(3,vP H.next 0)],16,[],H118⟩ rfl ?_))
 refine w_region (mv (vP n1 0) rfl rfl ?_)
 refine sv (v:=vP H.next 3) rfl rfl rfl (opv_fieldAddrE rfl rfl rfl Try.underlying77 rfl sz23 (by decide) rfl) rfl ?_
 refine sv (v:=.agg #[vI ax4,vI ax5]) rfl rfl rfl (opv_loadE rfl rfl rfl ag23 sz23 (KG.get k119 (KG.get k110 f102.blk (by omega) (by omega)) (by omega) (by omega)) rfl (.inl rfl) rfl) rfl ?_
 refine sc_ (H:=H118) (vs:=[vP n1 0,.agg #[vI ax4,vI ax5]]) (fv:=.func (.func 13) #[] #[]) rfl rfl rfl rfl rfl rfl (.cons rfl rfl neP (.cons rfl rfl (by simp [undef]) .nil)) rfl ?_
 refine WV.mono (wv_f0 Try.call13 (top_putSpan_ok ax4 ax5 n1 _ _ w115 hb116 (by omega))) ?_
 rintro v126 H127 ⟨k128,w124,hb125,rfl⟩
 have n129:=KG.next k128
 have l130:=HB.le hb116 k128
 refine wo_nil ?_
 exact ⟨.inl rfl,rfl,[],.nil,KG.trans (KG.trans (KG.trans (KG.new KG.refl f102) k110) k119) k128,w124,HB.mono hb125 (by omega),rfl⟩

theorem top_TdTide_67_ok (as1:Value) (n1 k:Nat) (H:SH) (wt:WT H) (hvas1:VT H (.sl false [.int .i64,.int .i64,.int .i64,.int .i64,.int .i64]) as1) (hb:HB H n1 k) (hk:k + (5 * LIM + 1) ≤ CAP):WC Try.prog 66 [vP n1 0,as1,.func (.func 67) #[] #[]] H (fun v H' => KG n1 H H'∧WT H'∧HB H' n1 (k + (5 * LIM + 1))∧v=(.tuple #[])):=by
 have hlt:=hb.lt
 refine wc_of_body Try.func66 rfl ?_
 have hL:slen as1 ≤ LIM:=vt_lim hvas1
 refine wk ⟨[(0,vP n1 0),(1,as1),(2,.func (.func 67) #[] #[])],31,[],H⟩ rfl ?_
 refine w_seq (w_region (mv (vP n1 0) rfl rfl ?_))
 refine mv (vP n1 0) rfl rfl ?_
 refine sv (v:=vP n1 0) rfl rfl rfl (opv_nilCheck_ptr rfl rfl rfl) rfl ?_
 refine sv (v:=vP n1 0) rfl rfl rfl (opv_fieldAddrE rfl rfl rfl Try.underlying37 rfl sz34 (by decide) rfl) rfl ?_
 have hb101:=hb
 obtain ⟨s102,s103,c104,c105,hb106,l107,l108⟩:=id hb101
 refine sv (v:=s102) rfl rfl rfl (opv_loadE rfl rfl rfl ag34 sz34 hb106.blk rfl (.inr rfl) rfl) rfl ?_
 refine mv as1 rfl rfl ?_
 have c109:slen as1 ≤ 1073741824:=vt_lim hvas1
 refine sv (v:=(vI (slen as1:Int))) rfl rfl rfl (t_len hvas1 rfl rfl rfl Try.underlying24) rfl ?_
 refine sv_new (H:=H) (v:=.slice (some ⟨H.next,0,none⟩) 1 1) (x:=(.row #[(vI (slen as1:Int))] .raw)) rfl rfl rfl rfl (opv_buildSliceE (vs:=[(0,(vI (slen as1:Int)))]) rfl (.cons rfl rfl neI .nil) Try.underlying34 sz3 ze3 rfl (by decide) (by decide) rfl rfl rfl) ?_
 intro H110 f111
 refine newL wt f111 fun n114 w112 l113 => ?_
 refine sv_push (H:=H110) (b:=false) (v:=s102) (c:=c104) (n:=H.next) (e:=(vI (slen as1:Int))) (by_:=8) rfl rfl rfl rfl w112 (GV.new hb106.g1 f111) rfl rfl rfl rfl rfl f111.blk ⟨_,rfl⟩ Try.underlying34 Try.underlying34 rfl sz3 tin3 rfl ze3 rfl l107 (by omega) (by decide) (by decide) ?_
 intro s115 H116 g117 w118 l119 k120 n121 ap122
 refine sv (v:=vP n1 0) rfl rfl rfl (opv_nilCheck_ptr rfl rfl rfl) rfl ?_
 refine sv (v:=vP n1 0) rfl rfl rfl (opv_fieldAddrE rfl rfl rfl Try.underlying37 rfl sz34 (by decide) rfl) rfl ?_
 refine sv_put (H:=H116) (n:=n1) (v:=undef) (x:=some (.row #[s115,s103] .raw)) rfl rfl rfl rfl (opv_storeC (u:=s115) rfl rfl rfl rfl rfl (GV.ne g117) sz34 (GV.cells g117) rfl (GV.leafs g117) (push_get k120 (GV.new hb106.g1 f111) ((f111.get n1 (by omega)).trans hb106.blk) (by omega)) rfl rfl) ?_
 intro H123 f124
 refine putL w118 f124 (push_get k120 (GV.new hb106.g1 f111) ((f111.get n1 (by omega)).trans hb106.blk) (by omega)) fun n127 w125 l126 => ?_
 obtain ⟨hb128,k129⟩:=hb_done1 hb106 l107 l108 f111 g117 k120 ap122 f124
 refine wo_nil (tq_n (wk ⟨[(0,vP n1 0),(1,as1),(2,.func (.func 67) #[] #[])],31,[],H123⟩ rfl ?_))
 refine w_seq (w_region (mv (vI 0) rfl rfl ?_))
 refine wo_nil (tq_n (wk ⟨[(0,vP n1 0),(1,as1),(2,.func (.func 67) #[] #[]),(6,vI 0)],31,[],H123⟩ rfl ?_))
 refine w_block (w_loopS (fun m137 s138 => ∃ (x130:Int) (H131:SH),(0 ≤ x130)∧(x130 ≤ (slen as1:Int))∧HB H131 n1 (k + (0 * LIM + 1) + (x130).toNat * 5)∧KG n1 H123 H131∧WT H131∧Le H123 H131∧m137=((slen as1:Int) - x130).toNat∧s138=⟨[(0,vP n1 0),(1,as1),(2,.func (.func 67) #[] #[]),(6,vI x130)],31,[],H131⟩) (n:=((slen as1:Int) - 0).toNat) ⟨⟨[(0,vP n1 0),(1,as1),(2,.func (.func 67) #[] #[]),(6,vI 0)],31,[],H123⟩,subk rfl,0,H123,by omega,by omega,HB.mono hb128 (by omega),KG.refl,w125,Le.refl _,rfl,rfl⟩ ?_)
 rintro m137 s138 ⟨x130,H131,i132,i133,hb139,k136,w134,l135,rfl,rfl⟩
 have n140:=KG.next k136
 refine w_seq (w_seq (w_region (mv (vI x130) rfl rfl ?_)))
 refine mv as1 rfl rfl ?_
 have c141:slen as1 ≤ 1073741824:=vt_lim (hvas1.mono ((HB.le hb101 k129).trans l135))
 refine sv (v:=(vI (slen as1:Int))) rfl rfl rfl (t_len (hvas1.mono ((HB.le hb101 k129).trans l135)) rfl rfl rfl Try.underlying24) rfl ?_
 by_cases c142:x130 < (slen as1:Int)
 ·
  refine sv (v:=.bool true) rfl rfl rfl (opv_bin rfl rfl rfl rfl rfl (cmpT rfl c142)) rfl ?_
  refine wo_nil (tq_n (wk ⟨[(0,vP n1 0),(1,as1),(2,.func (.func 67) #[] #[]),(6,vI x130),(21,.bool true)],31,[],H131⟩ rfl ?_))
  refine w_cond (t:=true) rfl rfl (fun _ => ?_) (fun h => by cases h)
  refine w_skip (tq_n (wk ⟨[(0,vP n1 0),(1,as1),(2,.func (.func 67) #[] #[]),(6,vI x130)],31,[],H131⟩ rfl ?_))
  refine w_seq (w_block (w_region (mv (.func (.func 67) #[] #[]) rfl rfl ?_)))
  refine mv (vP n1 0) rfl rfl ?_
  refine mv as1 rfl rfl ?_
  refine mv (vI x130) rfl rfl ?_
  refine sv (v:=.pointer (some ⟨snm as1,sof as1 + (x130).toNat * 5,none⟩)) rfl rfl rfl (t_index (z:=5) (hvas1.mono ((HB.le hb101 k129).trans l135)) rfl rfl rfl rfl rfl Try.underlying24 sz77 (by omega) (by omega)) rfl ?_
  obtain ⟨vs143,hs144,ho145⟩:=t_load (P:=Try.prog) w134 (hvas1.mono ((HB.le hb101 k129).trans l135)) (i:=(x130).toNat) (off:=0) (w:=5) (by omega) (by decide)
  replace hs144:VTs H131 [.int .i64,.int .i64,.int .i64,.int .i64,.int .i64] vs143:=hs144
  obtain ⟨x148,r146,rfl,hs147⟩:=vts_int hs144
  obtain ⟨x151,r149,rfl,hs150⟩:=vts_int hs147
  obtain ⟨x154,r152,rfl,hs153⟩:=vts_int hs150
  obtain ⟨x157,r155,rfl,hs156⟩:=vts_int hs153
  obtain ⟨x160,r158,rfl,hs159⟩:=vts_int hs156
  obtain rfl:=vts_nil hs159
  refine sv (v:=.agg #[vI x148,vI x151,vI x154,vI x157,vI x160]) rfl rfl rfl (ho145 _ _ _ _ true rfl rfl rfl rfl ag77 sz77 (.inl rfl)) rfl ?_
  refine sc_ (H:=H131) (vs:=[vP n1 0,.agg #[vI x148,vI x151,vI x154,vI x157,vI x160]]) (fv:=.func (.func 67) #[] #[]) rfl rfl rfl rfl rfl rfl (.cons rfl rfl neP (.cons rfl rfl (by simp [undef]) .nil)) rfl ?_
  refine WV.mono (wv_f0 Try.call67 (top_putTdTide_ok x148 x151 x154 x157 x160 n1 _ _ w134 hb139 (by omega))) ?_
  rintro v163 H164 ⟨k165,w161,hb162,rfl⟩
  have n166:=KG.next k165
  have l167:=HB.le hb139 k165
  refine wo_nil ?_
  try refine q_eq (e':=.normal) rfl ?_
  refine tqk ⟨[(0,vP n1 0),(1,as1),(2,.func (.func 67) #[] #[]),(6,vI x130)],31,[],H164⟩ rfl ?_
  refine w_region (mv (vI x130) rfl rfl ?_)
  refine sv_int rfl rfl rfl (opv_bin rfl rfl rfl rfl rfl rfl) ?_
  intro x170 h171
  try replace h171:x170=x130 + 1:=wr_ex h171 (by omega) (by omega)
  refine mv (vI x170) rfl rfl ?_
  refine wo_nil ?_
  refine tq_n ⟨((slen as1:Int) - x170).toNat,by omega,⟨[(0,vP n1 0),(1,as1),(2,.func (.func 67) #[] #[]),(6,vI x170)],31,[],H164⟩,subk rfl,x170,H164,by omega,by omega,HB.mono hb162 (by omega),KG.trans (KG.trans KG.refl k136) k165,w161,l135.trans l167,rfl,rfl⟩
 ·
  refine sv (v:=.bool false) rfl rfl rfl (opv_bin rfl rfl rfl rfl rfl (cmpF rfl c142)) rfl ?_
  refine wo_nil (tq_n (wk ⟨[(0,vP n1 0),(1,as1),(2,.func (.func 67) #[] #[]),(6,vI x130),(21,.bool false)],31,[],H131⟩ rfl ?_))
  refine w_cond (t:=false) rfl rfl (fun h => by cases h) (fun _ => ?_)
  refine w_exit (tq_e (tq_e ?_))
  try refine q_eq (e':=.normal) rfl ?_
  exact ⟨.inl rfl,rfl,[],.nil,KG.trans (KG.trans KG.refl k129) k136,w134,HB.mono hb139 (by omega),rfl⟩

theorem top_putTdTides_ok (as1:Value) (n1 k:Nat) (H:SH) (wt:WT H) (hvas1:VT H (.sl false [.int .i64,.int .i64,.int .i64,.int .i64,.int .i64]) as1) (hb:HB H n1 k) (hk:k + (5 * LIM + 1) ≤ CAP):WC Try.prog 55 [vP n1 0,as1] H (fun v H' => KG n1 H H'∧WT H'∧HB H' n1 (k + (5 * LIM + 1))∧v=(.tuple #[])):=by
 have hlt:=hb.lt
 refine wc_of_body Try.func55 rfl ?_
 refine wk ⟨[(0,vP n1 0),(1,as1)],7,[],H⟩ rfl ?_
 refine w_region (mv (vP n1 0) rfl rfl ?_)
 refine mv as1 rfl rfl ?_
 refine sc_ (H:=H) (vs:=[vP n1 0,as1,.func (.func 67) #[] #[]]) (fv:=.func (.func 66) #[] #[]) rfl rfl rfl rfl rfl rfl (.cons rfl rfl neP (.cons rfl rfl (vt_ne hvas1) (.cons rfl rfl (by simp [undef]) .nil))) rfl ?_
 refine WV.mono (wv_f0 Try.call66 (top_TdTide_67_ok as1 n1 _ _ wt hvas1 hb (by omega))) ?_
 rintro v103 H104 ⟨k105,w101,hb102,rfl⟩
 have n106:=KG.next k105
 have l107:=HB.le hb k105
 refine wo_nil ?_
 exact ⟨.inl rfl,rfl,[],.nil,KG.trans KG.refl k105,w101,HB.mono hb102 (by omega),rfl⟩

theorem top_putTdBeach_ok (ax1 ax2:Int) (ax3 ax4 ax5:Int) (as6:Value) (n1 k:Nat) (H:SH) (wt:WT H) (hvas6:VT H (.sl false [.int .i64,.int .i64,.int .i64,.int .i64,.int .i64]) as6) (hb:HB H n1 k) (hk:k + (5 * LIM + 6) ≤ CAP):WC Try.prog 32 [vP n1 0,.agg #[vI ax1,vI ax2,vI ax3,vI ax4,vI ax5,as6]] H (fun v H' => KG n1 H H'∧WT H'∧HB H' n1 (k + (5 * LIM + 6))∧v=(.tuple #[])):=by
 have hlt:=hb.lt
 refine wc_of_body Try.func32 rfl ?_
 refine wk ⟨[(0,vP n1 0),(1,.agg #[vI ax1,vI ax2,vI ax3,vI ax4,vI ax5,as6])],20,[],H⟩ rfl ?_
 refine w_seq (w_region (sv_new (H:=H) (v:=vP H.next 0) (x:=.row #[vI ax1,vI ax2,vI ax3,vI ax4,vI ax5,as6] .raw) rfl rfl rfl rfl (opv_boxE (v:=.agg #[vI ax1,vI ax2,vI ax3,vI ax4,vI ax5,as6]) rfl rfl rfl (by simp [undef]) rfl) ?_))
 intro H101 f102
 refine newL wt f102 fun n105 w103 l104 => ?_
 refine wo_nil (tq_n (wk ⟨[(0,vP n1 0),(3,vP H.next 0)],20,[],H101⟩ rfl ?_))
 refine w_seq (w_region (mv (vP n1 0) rfl rfl ?_))
 refine sv (v:=vP H.next 0) rfl rfl rfl (opv_fieldAddrE rfl rfl rfl Try.underlying26 rfl sz23 (by decide) rfl) rfl ?_
 refine sv (v:=.agg #[vI ax1,vI ax2]) rfl rfl rfl (opv_loadE rfl rfl rfl ag23 sz23 f102.blk rfl (.inl rfl) rfl) rfl ?_
 refine sc_ (H:=H101) (vs:=[vP n1 0,.agg #[vI ax1,vI ax2]]) (fv:=.func (.func 13) #[] #[]) rfl rfl rfl rfl rfl rfl (.cons rfl rfl neP (.cons rfl rfl (by simp [undef]) .nil)) rfl ?_
 refine WV.mono (wv_f0 Try.call13 (top_putSpan_ok ax1 ax2 n1 _ _ w103 (HB.new hb f102) (by omega))) ?_
 rintro v108 H109 ⟨k110,w106,hb107,rfl⟩
 have n111:=KG.next k110
 have l112:=HB.le (HB.new hb f102) k110
 refine wo_nil (tq_n (wk ⟨[(0,vP n1 0),(3,vP H.next 0)],20,[],H109⟩ rfl ?_))
 refine w_seq (w_region (mv (vP n1 0) rfl rfl ?_))
 refine sv (v:=vP H.next 2) rfl rfl rfl (opv_fieldAddrE rfl rfl rfl Try.underlying26 rfl sz23 (by decide) rfl) rfl ?_
 refine sv (v:=.agg #[vI ax3,vI ax4]) rfl rfl rfl (opv_loadE rfl rfl rfl ag23 sz23 (KG.get k110 f102.blk (by omega) (by omega)) rfl (.inl rfl) rfl) rfl ?_
 refine sc_ (H:=H109) (vs:=[vP n1 0,.agg #[vI ax3,vI ax4]]) (fv:=.func (.func 13) #[] #[]) rfl rfl rfl rfl rfl rfl (.cons rfl rfl neP (.cons rfl rfl (by simp [undef]) .nil)) rfl ?_
 refine WV.mono (wv_f0 Try.call13 (top_putSpan_ok ax3 ax4 n1 _ _ w106 hb107 (by omega))) ?_
 rintro v117 H118 ⟨k119,w115,hb116,rfl⟩
 have n120:=KG.next k119
 have l121:=HB.le hb107 k119
 refine wo_nil (tq_n (wk ⟨[(0,vP n1 0),(3,vP H.next 0)],20,[],H118⟩ rfl ?_))
 refine w_seq (w_region (mv (vP n1 0) rfl rfl ?_))
 refine sv (v:=vP H.next 4) rfl rfl rfl (opv_fieldAddrE rfl rfl rfl Try.underlying26 rfl sz3 (by decide) rfl) rfl ?_
 refine sv (v:=vI ax5) rfl rfl rfl (opv_loadE rfl rfl rfl ag3 sz3 (KG.get k119 (KG.get k110 f102.blk (by omega) (by omega)) (by omega) (by omega)) rfl (.inr rfl) rfl) rfl ?_
 refine sc_ (H:=H118) (vs:=[vP n1 0,vI ax5]) (fv:=.func (.func 8) #[] #[]) rfl rfl rfl rfl rfl rfl (.cons rfl rfl neP (.cons rfl rfl neI .nil)) rfl ?_
 refine WV.mono (wv_f0 Try.call8 (top_putInt_ok ax5 n1 _ _ w115 hb116 (by omega))) ?_
 rintro v126 H127 ⟨k128,w124,hb125,rfl⟩
 have n129:=KG.next k128
 have l130:=HB.le hb116 k128
 refine wo_nil (tq_n (wk ⟨[(0,vP n1 0),(3,vP H.next 0)],20,[],H127⟩ rfl ?_))
 refine w_region (mv (vP n1 0) rfl rfl ?_)
 refine sv (v:=vP H.next 5) rfl rfl rfl (opv_fieldAddrE rfl rfl rfl Try.underlying26 rfl sz24 (by decide) rfl) rfl ?_
 refine sv (v:=as6) rfl rfl rfl (opv_loadE rfl rfl rfl ag24 sz24 (KG.get k128 (KG.get k119 (KG.get k110 f102.blk (by omega) (by omega)) (by omega) (by omega)) (by omega) (by omega)) rfl (.inr rfl) rfl) rfl ?_
 refine sc_ (H:=H127) (vs:=[vP n1 0,as6]) (fv:=.func (.func 55) #[] #[]) rfl rfl rfl rfl rfl rfl (.cons rfl rfl neP (.cons rfl rfl (vt_ne (hvas6.mono (((l104.trans l112).trans l121).trans l130))) .nil)) rfl ?_
 refine WV.mono (wv_f0 Try.call55 (top_putTdTides_ok as6 n1 _ _ w124 (hvas6.mono (((l104.trans l112).trans l121).trans l130)) hb125 (by omega))) ?_
 rintro v135 H136 ⟨k137,w133,hb134,rfl⟩
 have n138:=KG.next k137
 have l139:=HB.le hb125 k137
 refine wo_nil ?_
 exact ⟨.inl rfl,rfl,[],.nil,KG.trans (KG.trans (KG.trans (KG.trans (KG.new KG.refl f102) k110) k119) k128) k137,w133,HB.mono hb134 (by omega),rfl⟩

theorem top_putTdShip_ok (ax1 ax2 ax3:Int) (n1 k:Nat) (H:SH) (wt:WT H) (hb:HB H n1 k) (hk:k + (0 * LIM + 3) ≤ CAP):WC Try.prog 33 [vP n1 0,.agg #[vI ax1,vI ax2,vI ax3]] H (fun v H' => KG n1 H H'∧WT H'∧HB H' n1 (k + (0 * LIM + 3))∧v=(.tuple #[])):=by
 have hlt:=hb.lt
 refine wc_of_body Try.func33 rfl ?_
 refine wk ⟨[(0,vP n1 0),(1,.agg #[vI ax1,vI ax2,vI ax3])],12,[],H⟩ rfl ?_
 refine w_seq (w_region (sv_new (H:=H) (v:=vP H.next 0) (x:=.row #[vI ax1,vI ax2,vI ax3] .raw) rfl rfl rfl rfl (opv_boxE (v:=.agg #[vI ax1,vI ax2,vI ax3]) rfl rfl rfl (by simp [undef]) rfl) ?_))
 intro H101 f102
 refine newL wt f102 fun n105 w103 l104 => ?_
 refine wo_nil (tq_n (wk ⟨[(0,vP n1 0),(3,vP H.next 0)],12,[],H101⟩ rfl ?_))
 refine w_seq (w_region (mv (vP n1 0) rfl rfl ?_))
 refine sv (v:=vP H.next 0) rfl rfl rfl (opv_fieldAddrE rfl rfl rfl Try.underlying28 rfl sz23 (by decide) rfl) rfl ?_
 refine sv (v:=.agg #[vI ax1,vI ax2]) rfl rfl rfl (opv_loadE rfl rfl rfl ag23 sz23 f102.blk rfl (.inl rfl) rfl) rfl ?_
 refine sc_ (H:=H101) (vs:=[vP n1 0,.agg #[vI ax1,vI ax2]]) (fv:=.func (.func 13) #[] #[]) rfl rfl rfl rfl rfl rfl (.cons rfl rfl neP (.cons rfl rfl (by simp [undef]) .nil)) rfl ?_
 refine WV.mono (wv_f0 Try.call13 (top_putSpan_ok ax1 ax2 n1 _ _ w103 (HB.new hb f102) (by omega))) ?_
 rintro v108 H109 ⟨k110,w106,hb107,rfl⟩
 have n111:=KG.next k110
 have l112:=HB.le (HB.new hb f102) k110
 refine wo_nil (tq_n (wk ⟨[(0,vP n1 0),(3,vP H.next 0)],12,[],H109⟩ rfl ?_))
 refine w_region (mv (vP n1 0) rfl rfl ?_)
 refine sv (v:=vP H.next 2) rfl rfl rfl (opv_fieldAddrE rfl rfl rfl Try.underlying28 rfl sz3 (by decide) rfl) rfl ?_
 refine sv (v:=vI ax3) rfl rfl rfl (opv_loadE rfl rfl rfl ag3 sz3 (KG.get k110 f102.blk (by omega) (by omega)) rfl (.inr rfl) rfl) rfl ?_
 refine sc_ (H:=H109) (vs:=[vP n1 0,vI ax3]) (fv:=.func (.func 8) #[] #[]) rfl rfl rfl rfl rfl rfl (.cons rfl rfl neP (.cons rfl rfl neI .nil)) rfl ?_
 refine WV.mono (wv_f0 Try.call8 (top_putInt_ok ax3 n1 _ _ w106 hb107 (by omega))) ?_
 rintro v117 H118 ⟨k119,w115,hb116,rfl⟩
 have n120:=KG.next k119
 have l121:=HB.le hb107 k119
 refine wo_nil ?_
 exact ⟨.inl rfl,rfl,[],.nil,KG.trans (KG.trans (KG.new KG.refl f102) k110) k119,w115,HB.mono hb116 (by omega),rfl⟩

theorem top_putTdPull_ok (ax1 ax2:Int) (n1 k:Nat) (H:SH) (wt:WT H) (hb:HB H n1 k) (hk:k + (0 * LIM + 2) ≤ CAP):WC Try.prog 34 [vP n1 0,.agg #[vI ax1,vI ax2]] H (fun v H' => KG n1 H H'∧WT H'∧HB H' n1 (k + (0 * LIM + 2))∧v=(.tuple #[])):=by
 have hlt:=hb.lt
 refine wc_of_body Try.func34 rfl ?_
 refine wk ⟨[(0,vP n1 0),(1,.agg #[vI ax1,vI ax2])],12,[],H⟩ rfl ?_
 refine w_seq (w_region (sv_new (H:=H) (v:=vP H.next 0) (x:=.row #[vI ax1,vI ax2] .raw) rfl rfl rfl rfl (opv_boxE (v:=.agg #[vI ax1,vI ax2]) rfl rfl rfl (by simp [undef]) rfl) ?_))
 intro H101 f102
 refine newL wt f102 fun n105 w103 l104 => ?_
 refine wo_nil (tq_n (wk ⟨[(0,vP n1 0),(3,vP H.next 0)],12,[],H101⟩ rfl ?_))
 refine w_seq (w_region (mv (vP n1 0) rfl rfl ?_))
 refine sv (v:=vP H.next 0) rfl rfl rfl (opv_fieldAddrE rfl rfl rfl Try.underlying30 rfl sz3 (by decide) rfl) rfl ?_
 refine sv (v:=vI ax1) rfl rfl rfl (opv_loadE rfl rfl rfl ag3 sz3 f102.blk rfl (.inr rfl) rfl) rfl ?_
 refine sc_ (H:=H101) (vs:=[vP n1 0,vI ax1]) (fv:=.func (.func 8) #[] #[]) rfl rfl rfl rfl rfl rfl (.cons rfl rfl neP (.cons rfl rfl neI .nil)) rfl ?_
 refine WV.mono (wv_f0 Try.call8 (top_putInt_ok ax1 n1 _ _ w103 (HB.new hb f102) (by omega))) ?_
 rintro v108 H109 ⟨k110,w106,hb107,rfl⟩
 have n111:=KG.next k110
 have l112:=HB.le (HB.new hb f102) k110
 refine wo_nil (tq_n (wk ⟨[(0,vP n1 0),(3,vP H.next 0)],12,[],H109⟩ rfl ?_))
 refine w_region (mv (vP n1 0) rfl rfl ?_)
 refine sv (v:=vP H.next 1) rfl rfl rfl (opv_fieldAddrE rfl rfl rfl Try.underlying30 rfl sz3 (by decide) rfl) rfl ?_
 refine sv (v:=vI ax2) rfl rfl rfl (opv_loadE rfl rfl rfl ag3 sz3 (KG.get k110 f102.blk (by omega) (by omega)) rfl (.inr rfl) rfl) rfl ?_
 refine sc_ (H:=H109) (vs:=[vP n1 0,vI ax2]) (fv:=.func (.func 8) #[] #[]) rfl rfl rfl rfl rfl rfl (.cons rfl rfl neP (.cons rfl rfl neI .nil)) rfl ?_
 refine WV.mono (wv_f0 Try.call8 (top_putInt_ok ax2 n1 _ _ w106 hb107 (by omega))) ?_
 rintro v117 H118 ⟨k119,w115,hb116,rfl⟩
 have n120:=KG.next k119
 have l121:=HB.le hb107 k119
 refine wo_nil ?_
 exact ⟨.inl rfl,rfl,[],.nil,KG.trans (KG.trans (KG.new KG.refl f102) k110) k119,w115,HB.mono hb116 (by omega),rfl⟩

theorem top_TdPull_34_ok (as1:Value) (n1 k:Nat) (H:SH) (wt:WT H) (hvas1:VT H (.sl false [.int .i64,.int .i64]) as1) (hb:HB H n1 k) (hk:k + (2 * LIM + 1) ≤ CAP):WC Try.prog 56 [vP n1 0,as1,.func (.func 34) #[] #[]] H (fun v H' => KG n1 H H'∧WT H'∧HB H' n1 (k + (2 * LIM + 1))∧v=(.tuple #[])):=by
 have hlt:=hb.lt
 refine wc_of_body Try.func56 rfl ?_
 have hL:slen as1 ≤ LIM:=vt_lim hvas1
 refine wk ⟨[(0,vP n1 0),(1,as1),(2,.func (.func 34) #[] #[])],31,[],H⟩ rfl ?_
 refine w_seq (w_region (mv (vP n1 0) rfl rfl ?_))
 refine mv (vP n1 0) rfl rfl ?_
 refine sv (v:=vP n1 0) rfl rfl rfl (opv_nilCheck_ptr rfl rfl rfl) rfl ?_
 refine sv (v:=vP n1 0) rfl rfl rfl (opv_fieldAddrE rfl rfl rfl Try.underlying37 rfl sz34 (by decide) rfl) rfl ?_
 have hb101:=hb
 obtain ⟨s102,s103,c104,c105,hb106,l107,l108⟩:=id hb101
 refine sv (v:=s102) rfl rfl rfl (opv_loadE rfl rfl rfl ag34 sz34 hb106.blk rfl (.inr rfl) rfl) rfl ?_
 refine mv as1 rfl rfl ?_
 have c109:slen as1 ≤ 1073741824:=vt_lim hvas1
 refine sv (v:=(vI (slen as1:Int))) rfl rfl rfl (t_len hvas1 rfl rfl rfl Try.underlying31) rfl ?_
 refine sv_new (H:=H) (v:=.slice (some ⟨H.next,0,none⟩) 1 1) (x:=(.row #[(vI (slen as1:Int))] .raw)) rfl rfl rfl rfl (opv_buildSliceE (vs:=[(0,(vI (slen as1:Int)))]) rfl (.cons rfl rfl neI .nil) Try.underlying34 sz3 ze3 rfl (by decide) (by decide) rfl rfl rfl) ?_
 intro H110 f111
 refine newL wt f111 fun n114 w112 l113 => ?_
 refine sv_push (H:=H110) (b:=false) (v:=s102) (c:=c104) (n:=H.next) (e:=(vI (slen as1:Int))) (by_:=8) rfl rfl rfl rfl w112 (GV.new hb106.g1 f111) rfl rfl rfl rfl rfl f111.blk ⟨_,rfl⟩ Try.underlying34 Try.underlying34 rfl sz3 tin3 rfl ze3 rfl l107 (by omega) (by decide) (by decide) ?_
 intro s115 H116 g117 w118 l119 k120 n121 ap122
 refine sv (v:=vP n1 0) rfl rfl rfl (opv_nilCheck_ptr rfl rfl rfl) rfl ?_
 refine sv (v:=vP n1 0) rfl rfl rfl (opv_fieldAddrE rfl rfl rfl Try.underlying37 rfl sz34 (by decide) rfl) rfl ?_
 refine sv_put (H:=H116) (n:=n1) (v:=undef) (x:=some (.row #[s115,s103] .raw)) rfl rfl rfl rfl (opv_storeC (u:=s115) rfl rfl rfl rfl rfl (GV.ne g117) sz34 (GV.cells g117) rfl (GV.leafs g117) (push_get k120 (GV.new hb106.g1 f111) ((f111.get n1 (by omega)).trans hb106.blk) (by omega)) rfl rfl) ?_
 intro H123 f124
 refine putL w118 f124 (push_get k120 (GV.new hb106.g1 f111) ((f111.get n1 (by omega)).trans hb106.blk) (by omega)) fun n127 w125 l126 => ?_
 obtain ⟨hb128,k129⟩:=hb_done1 hb106 l107 l108 f111 g117 k120 ap122 f124
 refine wo_nil (tq_n (wk ⟨[(0,vP n1 0),(1,as1),(2,.func (.func 34) #[] #[])],31,[],H123⟩ rfl ?_))
 refine w_seq (w_region (mv (vI 0) rfl rfl ?_))
 refine wo_nil (tq_n (wk ⟨[(0,vP n1 0),(1,as1),(2,.func (.func 34) #[] #[]),(6,vI 0)],31,[],H123⟩ rfl ?_))
 refine w_block (w_loopS (fun m137 s138 => ∃ (x130:Int) (H131:SH),(0 ≤ x130)∧(x130 ≤ (slen as1:Int))∧HB H131 n1 (k + (0 * LIM + 1) + (x130).toNat * 2)∧KG n1 H123 H131∧WT H131∧Le H123 H131∧m137=((slen as1:Int) - x130).toNat∧s138=⟨[(0,vP n1 0),(1,as1),(2,.func (.func 34) #[] #[]),(6,vI x130)],31,[],H131⟩) (n:=((slen as1:Int) - 0).toNat) ⟨⟨[(0,vP n1 0),(1,as1),(2,.func (.func 34) #[] #[]),(6,vI 0)],31,[],H123⟩,subk rfl,0,H123,by omega,by omega,HB.mono hb128 (by omega),KG.refl,w125,Le.refl _,rfl,rfl⟩ ?_)
 rintro m137 s138 ⟨x130,H131,i132,i133,hb139,k136,w134,l135,rfl,rfl⟩
 have n140:=KG.next k136
 refine w_seq (w_seq (w_region (mv (vI x130) rfl rfl ?_)))
 refine mv as1 rfl rfl ?_
 have c141:slen as1 ≤ 1073741824:=vt_lim (hvas1.mono ((HB.le hb101 k129).trans l135))
 refine sv (v:=(vI (slen as1:Int))) rfl rfl rfl (t_len (hvas1.mono ((HB.le hb101 k129).trans l135)) rfl rfl rfl Try.underlying31) rfl ?_
 by_cases c142:x130 < (slen as1:Int)
 ·
  refine sv (v:=.bool true) rfl rfl rfl (opv_bin rfl rfl rfl rfl rfl (cmpT rfl c142)) rfl ?_
  refine wo_nil (tq_n (wk ⟨[(0,vP n1 0),(1,as1),(2,.func (.func 34) #[] #[]),(6,vI x130),(21,.bool true)],31,[],H131⟩ rfl ?_))
  refine w_cond (t:=true) rfl rfl (fun _ => ?_) (fun h => by cases h)
  refine w_skip (tq_n (wk ⟨[(0,vP n1 0),(1,as1),(2,.func (.func 34) #[] #[]),(6,vI x130)],31,[],H131⟩ rfl ?_))
  refine w_seq (w_block (w_region (mv (.func (.func 34) #[] #[]) rfl rfl ?_)))
  refine mv (vP n1 0) rfl rfl ?_
  refine mv as1 rfl rfl ?_
  refine mv (vI x130) rfl rfl ?_
  refine sv (v:=.pointer (some ⟨snm as1,sof as1 + (x130).toNat * 2,none⟩)) rfl rfl rfl (t_index (z:=2) (hvas1.mono ((HB.le hb101 k129).trans l135)) rfl rfl rfl rfl rfl Try.underlying31 sz30 (by omega) (by omega)) rfl ?_
  obtain ⟨vs143,hs144,ho145⟩:=t_load (P:=Try.prog) w134 (hvas1.mono ((HB.le hb101 k129).trans l135)) (i:=(x130).toNat) (off:=0) (w:=2) (by omega) (by decide)
  replace hs144:VTs H131 [.int .i64,.int .i64] vs143:=hs144
  obtain ⟨x148,r146,rfl,hs147⟩:=vts_int hs144
  obtain ⟨x151,r149,rfl,hs150⟩:=vts_int hs147
  obtain rfl:=vts_nil hs150
  refine sv (v:=.agg #[vI x148,vI x151]) rfl rfl rfl (ho145 _ _ _ _ true rfl rfl rfl rfl ag30 sz30 (.inl rfl)) rfl ?_
  refine sc_ (H:=H131) (vs:=[vP n1 0,.agg #[vI x148,vI x151]]) (fv:=.func (.func 34) #[] #[]) rfl rfl rfl rfl rfl rfl (.cons rfl rfl neP (.cons rfl rfl (by simp [undef]) .nil)) rfl ?_
  refine WV.mono (wv_f0 Try.call34 (top_putTdPull_ok x148 x151 n1 _ _ w134 hb139 (by omega))) ?_
  rintro v154 H155 ⟨k156,w152,hb153,rfl⟩
  have n157:=KG.next k156
  have l158:=HB.le hb139 k156
  refine wo_nil ?_
  try refine q_eq (e':=.normal) rfl ?_
  refine tqk ⟨[(0,vP n1 0),(1,as1),(2,.func (.func 34) #[] #[]),(6,vI x130)],31,[],H155⟩ rfl ?_
  refine w_region (mv (vI x130) rfl rfl ?_)
  refine sv_int rfl rfl rfl (opv_bin rfl rfl rfl rfl rfl rfl) ?_
  intro x161 h162
  try replace h162:x161=x130 + 1:=wr_ex h162 (by omega) (by omega)
  refine mv (vI x161) rfl rfl ?_
  refine wo_nil ?_
  refine tq_n ⟨((slen as1:Int) - x161).toNat,by omega,⟨[(0,vP n1 0),(1,as1),(2,.func (.func 34) #[] #[]),(6,vI x161)],31,[],H155⟩,subk rfl,x161,H155,by omega,by omega,HB.mono hb153 (by omega),KG.trans (KG.trans KG.refl k136) k156,w152,l135.trans l158,rfl,rfl⟩
 ·
  refine sv (v:=.bool false) rfl rfl rfl (opv_bin rfl rfl rfl rfl rfl (cmpF rfl c142)) rfl ?_
  refine wo_nil (tq_n (wk ⟨[(0,vP n1 0),(1,as1),(2,.func (.func 34) #[] #[]),(6,vI x130),(21,.bool false)],31,[],H131⟩ rfl ?_))
  refine w_cond (t:=false) rfl rfl (fun h => by cases h) (fun _ => ?_)
  refine w_exit (tq_e (tq_e ?_))
  try refine q_eq (e':=.normal) rfl ?_
  exact ⟨.inl rfl,rfl,[],.nil,KG.trans (KG.trans KG.refl k129) k136,w134,HB.mono hb139 (by omega),rfl⟩

theorem top_putTdPulls_ok (as1:Value) (n1 k:Nat) (H:SH) (wt:WT H) (hvas1:VT H (.sl false [.int .i64,.int .i64]) as1) (hb:HB H n1 k) (hk:k + (2 * LIM + 1) ≤ CAP):WC Try.prog 35 [vP n1 0,as1] H (fun v H' => KG n1 H H'∧WT H'∧HB H' n1 (k + (2 * LIM + 1))∧v=(.tuple #[])):=by
 have hlt:=hb.lt
 refine wc_of_body Try.func35 rfl ?_
 refine wk ⟨[(0,vP n1 0),(1,as1)],7,[],H⟩ rfl ?_
 refine w_region (mv (vP n1 0) rfl rfl ?_)
 refine mv as1 rfl rfl ?_
 refine sc_ (H:=H) (vs:=[vP n1 0,as1,.func (.func 34) #[] #[]]) (fv:=.func (.func 56) #[] #[]) rfl rfl rfl rfl rfl rfl (.cons rfl rfl neP (.cons rfl rfl (vt_ne hvas1) (.cons rfl rfl (by simp [undef]) .nil))) rfl ?_
 refine WV.mono (wv_f0 Try.call56 (top_TdPull_34_ok as1 n1 _ _ wt hvas1 hb (by omega))) ?_
 rintro v103 H104 ⟨k105,w101,hb102,rfl⟩
 have n106:=KG.next k105
 have l107:=HB.le hb k105
 refine wo_nil ?_
 exact ⟨.inl rfl,rfl,[],.nil,KG.trans KG.refl k105,w101,HB.mono hb102 (by omega),rfl⟩

theorem top_putErrno_ok (ax1:Int) (n1 k:Nat) (H:SH) (wt:WT H) (hb:HB H n1 k) (hk:k + (0 * LIM + 1) ≤ CAP):WC Try.prog 9 [vP n1 0,vI ax1] H (fun v H' => KG n1 H H'∧WT H'∧HB H' n1 (k + (0 * LIM + 1))∧v=(.tuple #[])):=by
 have hlt:=hb.lt
 refine wc_of_body Try.func9 rfl ?_
 refine wk ⟨[(0,vP n1 0),(1,vI ax1)],14,[],H⟩ rfl ?_
 refine w_region (mv (vP n1 0) rfl rfl ?_)
 refine mv (vP n1 0) rfl rfl ?_
 refine sv (v:=vP n1 0) rfl rfl rfl (opv_nilCheck_ptr rfl rfl rfl) rfl ?_
 refine sv (v:=vP n1 0) rfl rfl rfl (opv_fieldAddrE rfl rfl rfl Try.underlying37 rfl sz34 (by decide) rfl) rfl ?_
 have hb101:=hb
 obtain ⟨s102,s103,c104,c105,hb106,l107,l108⟩:=id hb101
 refine sv (v:=s102) rfl rfl rfl (opv_loadE rfl rfl rfl ag34 sz34 hb106.blk rfl (.inr rfl) rfl) rfl ?_
 refine mv (vI ax1) rfl rfl ?_
 refine sv_new (H:=H) (v:=.slice (some ⟨H.next,0,none⟩) 1 1) (x:=.row #[vI ax1] .raw) rfl rfl rfl rfl (opv_buildSliceE (vs:=[(0,vI ax1)]) rfl (.cons rfl rfl neI .nil) Try.underlying34 sz3 ze3 rfl (by decide) (by decide) rfl rfl rfl) ?_
 intro H109 f110
 refine newL wt f110 fun n113 w111 l112 => ?_
 refine sv_push (H:=H109) (b:=false) (v:=s102) (c:=c104) (n:=H.next) (e:=vI ax1) (by_:=8) rfl rfl rfl rfl w111 (GV.new hb106.g1 f110) rfl rfl rfl rfl rfl f110.blk ⟨_,rfl⟩ Try.underlying34 Try.underlying34 rfl sz3 tin3 rfl ze3 rfl l107 (by omega) (by decide) (by decide) ?_
 intro s114 H115 g116 w117 l118 k119 n120 ap121
 refine sv (v:=vP n1 0) rfl rfl rfl (opv_nilCheck_ptr rfl rfl rfl) rfl ?_
 refine sv (v:=vP n1 0) rfl rfl rfl (opv_fieldAddrE rfl rfl rfl Try.underlying37 rfl sz34 (by decide) rfl) rfl ?_
 refine sv_put (H:=H115) (n:=n1) (v:=undef) (x:=some (.row #[s114,s103] .raw)) rfl rfl rfl rfl (opv_storeC (u:=s114) rfl rfl rfl rfl rfl (GV.ne g116) sz34 (GV.cells g116) rfl (GV.leafs g116) (push_get k119 (GV.new hb106.g1 f110) ((f110.get n1 (by omega)).trans hb106.blk) (by omega)) rfl rfl) ?_
 intro H122 f123
 refine putL w117 f123 (push_get k119 (GV.new hb106.g1 f110) ((f110.get n1 (by omega)).trans hb106.blk) (by omega)) fun n126 w124 l125 => ?_
 obtain ⟨hb127,k128⟩:=hb_done1 hb106 l107 l108 f110 g116 k119 ap121 f123
 refine wo_nil ?_
 exact ⟨.inl rfl,rfl,[],.nil,KG.trans KG.refl k128,w124,HB.mono hb127 (by omega),rfl⟩

theorem top_puts_int_8_ok (as1:Value) (n1 k:Nat) (H:SH) (wt:WT H) (hvas1:VT H (.sl false [.int .i64]) as1) (hb:HB H n1 k) (hk:k + (1 * LIM + 1) ≤ CAP):WC Try.prog 44 [vP n1 0,as1,.func (.func 8) #[] #[]] H (fun v H' => KG n1 H H'∧WT H'∧HB H' n1 (k + (1 * LIM + 1))∧v=(.tuple #[])):=by
 have hlt:=hb.lt
 refine wc_of_body Try.func44 rfl ?_
 have hL:slen as1 ≤ LIM:=vt_lim hvas1
 refine wk ⟨[(0,vP n1 0),(1,as1),(2,.func (.func 8) #[] #[])],31,[],H⟩ rfl ?_
 refine w_seq (w_region (mv (vP n1 0) rfl rfl ?_))
 refine mv (vP n1 0) rfl rfl ?_
 refine sv (v:=vP n1 0) rfl rfl rfl (opv_nilCheck_ptr rfl rfl rfl) rfl ?_
 refine sv (v:=vP n1 0) rfl rfl rfl (opv_fieldAddrE rfl rfl rfl Try.underlying37 rfl sz34 (by decide) rfl) rfl ?_
 have hb101:=hb
 obtain ⟨s102,s103,c104,c105,hb106,l107,l108⟩:=id hb101
 refine sv (v:=s102) rfl rfl rfl (opv_loadE rfl rfl rfl ag34 sz34 hb106.blk rfl (.inr rfl) rfl) rfl ?_
 refine mv as1 rfl rfl ?_
 have c109:slen as1 ≤ 1073741824:=vt_lim hvas1
 refine sv (v:=(vI (slen as1:Int))) rfl rfl rfl (t_len hvas1 rfl rfl rfl Try.underlying34) rfl ?_
 refine sv_new (H:=H) (v:=.slice (some ⟨H.next,0,none⟩) 1 1) (x:=(.row #[(vI (slen as1:Int))] .raw)) rfl rfl rfl rfl (opv_buildSliceE (vs:=[(0,(vI (slen as1:Int)))]) rfl (.cons rfl rfl neI .nil) Try.underlying34 sz3 ze3 rfl (by decide) (by decide) rfl rfl rfl) ?_
 intro H110 f111
 refine newL wt f111 fun n114 w112 l113 => ?_
 refine sv_push (H:=H110) (b:=false) (v:=s102) (c:=c104) (n:=H.next) (e:=(vI (slen as1:Int))) (by_:=8) rfl rfl rfl rfl w112 (GV.new hb106.g1 f111) rfl rfl rfl rfl rfl f111.blk ⟨_,rfl⟩ Try.underlying34 Try.underlying34 rfl sz3 tin3 rfl ze3 rfl l107 (by omega) (by decide) (by decide) ?_
 intro s115 H116 g117 w118 l119 k120 n121 ap122
 refine sv (v:=vP n1 0) rfl rfl rfl (opv_nilCheck_ptr rfl rfl rfl) rfl ?_
 refine sv (v:=vP n1 0) rfl rfl rfl (opv_fieldAddrE rfl rfl rfl Try.underlying37 rfl sz34 (by decide) rfl) rfl ?_
 refine sv_put (H:=H116) (n:=n1) (v:=undef) (x:=some (.row #[s115,s103] .raw)) rfl rfl rfl rfl (opv_storeC (u:=s115) rfl rfl rfl rfl rfl (GV.ne g117) sz34 (GV.cells g117) rfl (GV.leafs g117) (push_get k120 (GV.new hb106.g1 f111) ((f111.get n1 (by omega)).trans hb106.blk) (by omega)) rfl rfl) ?_
 intro H123 f124
 refine putL w118 f124 (push_get k120 (GV.new hb106.g1 f111) ((f111.get n1 (by omega)).trans hb106.blk) (by omega)) fun n127 w125 l126 => ?_
 obtain ⟨hb128,k129⟩:=hb_done1 hb106 l107 l108 f111 g117 k120 ap122 f124
 refine wo_nil (tq_n (wk ⟨[(0,vP n1 0),(1,as1),(2,.func (.func 8) #[] #[])],31,[],H123⟩ rfl ?_))
 refine w_seq (w_region (mv (vI 0) rfl rfl ?_))
 refine wo_nil (tq_n (wk ⟨[(0,vP n1 0),(1,as1),(2,.func (.func 8) #[] #[]),(6,vI 0)],31,[],H123⟩ rfl ?_))
 refine w_block (w_loopS (fun m137 s138 => ∃ (x130:Int) (H131:SH),(0 ≤ x130)∧(x130 ≤ (slen as1:Int))∧HB H131 n1 (k + (0 * LIM + 1) + (x130).toNat * 1)∧KG n1 H123 H131∧WT H131∧Le H123 H131∧m137=((slen as1:Int) - x130).toNat∧s138=⟨[(0,vP n1 0),(1,as1),(2,.func (.func 8) #[] #[]),(6,vI x130)],31,[],H131⟩) (n:=((slen as1:Int) - 0).toNat) ⟨⟨[(0,vP n1 0),(1,as1),(2,.func (.func 8) #[] #[]),(6,vI 0)],31,[],H123⟩,subk rfl,0,H123,by omega,by omega,HB.mono hb128 (by omega),KG.refl,w125,Le.refl _,rfl,rfl⟩ ?_)
 rintro m137 s138 ⟨x130,H131,i132,i133,hb139,k136,w134,l135,rfl,rfl⟩
 have n140:=KG.next k136
 refine w_seq (w_seq (w_region (mv (vI x130) rfl rfl ?_)))
 refine mv as1 rfl rfl ?_
 have c141:slen as1 ≤ 1073741824:=vt_lim (hvas1.mono ((HB.le hb101 k129).trans l135))
 refine sv (v:=(vI (slen as1:Int))) rfl rfl rfl (t_len (hvas1.mono ((HB.le hb101 k129).trans l135)) rfl rfl rfl Try.underlying34) rfl ?_
 by_cases c142:x130 < (slen as1:Int)
 ·
  refine sv (v:=.bool true) rfl rfl rfl (opv_bin rfl rfl rfl rfl rfl (cmpT rfl c142)) rfl ?_
  refine wo_nil (tq_n (wk ⟨[(0,vP n1 0),(1,as1),(2,.func (.func 8) #[] #[]),(6,vI x130),(21,.bool true)],31,[],H131⟩ rfl ?_))
  refine w_cond (t:=true) rfl rfl (fun _ => ?_) (fun h => by cases h)
  refine w_skip (tq_n (wk ⟨[(0,vP n1 0),(1,as1),(2,.func (.func 8) #[] #[]),(6,vI x130)],31,[],H131⟩ rfl ?_))
  refine w_seq (w_block (w_region (mv (.func (.func 8) #[] #[]) rfl rfl ?_)))
  refine mv (vP n1 0) rfl rfl ?_
  refine mv as1 rfl rfl ?_
  refine mv (vI x130) rfl rfl ?_
  refine sv (v:=.pointer (some ⟨snm as1,sof as1 + (x130).toNat * 1,none⟩)) rfl rfl rfl (t_index (z:=1) (hvas1.mono ((HB.le hb101 k129).trans l135)) rfl rfl rfl rfl rfl Try.underlying34 sz3 (by omega) (by omega)) rfl ?_
  obtain ⟨vs143,hs144,ho145⟩:=t_load (P:=Try.prog) w134 (hvas1.mono ((HB.le hb101 k129).trans l135)) (i:=(x130).toNat) (off:=0) (w:=1) (by omega) (by decide)
  replace hs144:VTs H131 [.int .i64] vs143:=hs144
  obtain ⟨x148,r146,rfl,hs147⟩:=vts_int hs144
  obtain rfl:=vts_nil hs147
  refine sv (v:=vI x148) rfl rfl rfl (ho145 _ _ _ _ false rfl rfl rfl rfl ag3 sz3 (.inr rfl)) rfl ?_
  refine sc_ (H:=H131) (vs:=[vP n1 0,vI x148]) (fv:=.func (.func 8) #[] #[]) rfl rfl rfl rfl rfl rfl (.cons rfl rfl neP (.cons rfl rfl neI .nil)) rfl ?_
  refine WV.mono (wv_f0 Try.call8 (top_putInt_ok x148 n1 _ _ w134 hb139 (by omega))) ?_
  rintro v151 H152 ⟨k153,w149,hb150,rfl⟩
  have n154:=KG.next k153
  have l155:=HB.le hb139 k153
  refine wo_nil ?_
  try refine q_eq (e':=.normal) rfl ?_
  refine tqk ⟨[(0,vP n1 0),(1,as1),(2,.func (.func 8) #[] #[]),(6,vI x130)],31,[],H152⟩ rfl ?_
  refine w_region (mv (vI x130) rfl rfl ?_)
  refine sv_int rfl rfl rfl (opv_bin rfl rfl rfl rfl rfl rfl) ?_
  intro x158 h159
  try replace h159:x158=x130 + 1:=wr_ex h159 (by omega) (by omega)
  refine mv (vI x158) rfl rfl ?_
  refine wo_nil ?_
  refine tq_n ⟨((slen as1:Int) - x158).toNat,by omega,⟨[(0,vP n1 0),(1,as1),(2,.func (.func 8) #[] #[]),(6,vI x158)],31,[],H152⟩,subk rfl,x158,H152,by omega,by omega,HB.mono hb150 (by omega),KG.trans (KG.trans KG.refl k136) k153,w149,l135.trans l155,rfl,rfl⟩
 ·
  refine sv (v:=.bool false) rfl rfl rfl (opv_bin rfl rfl rfl rfl rfl (cmpF rfl c142)) rfl ?_
  refine wo_nil (tq_n (wk ⟨[(0,vP n1 0),(1,as1),(2,.func (.func 8) #[] #[]),(6,vI x130),(21,.bool false)],31,[],H131⟩ rfl ?_))
  refine w_cond (t:=false) rfl rfl (fun h => by cases h) (fun _ => ?_)
  refine w_exit (tq_e (tq_e ?_))
  try refine q_eq (e':=.normal) rfl ?_
  exact ⟨.inl rfl,rfl,[],.nil,KG.trans (KG.trans KG.refl k129) k136,w134,HB.mono hb139 (by omega),rfl⟩

theorem top_putInts_ok (as1:Value) (n1 k:Nat) (H:SH) (wt:WT H) (hvas1:VT H (.sl false [.int .i64]) as1) (hb:HB H n1 k) (hk:k + (1 * LIM + 1) ≤ CAP):WC Try.prog 16 [vP n1 0,as1] H (fun v H' => KG n1 H H'∧WT H'∧HB H' n1 (k + (1 * LIM + 1))∧v=(.tuple #[])):=by
 have hlt:=hb.lt
 refine wc_of_body Try.func16 rfl ?_
 refine wk ⟨[(0,vP n1 0),(1,as1)],7,[],H⟩ rfl ?_
 refine w_region (mv (vP n1 0) rfl rfl ?_)
 refine mv as1 rfl rfl ?_
 refine sc_ (H:=H) (vs:=[vP n1 0,as1,.func (.func 8) #[] #[]]) (fv:=.func (.func 44) #[] #[]) rfl rfl rfl rfl rfl rfl (.cons rfl rfl neP (.cons rfl rfl (vt_ne hvas1) (.cons rfl rfl (by simp [undef]) .nil))) rfl ?_
 refine WV.mono (wv_f0 Try.call44 (top_puts_int_8_ok as1 n1 _ _ wt hvas1 hb (by omega))) ?_
 rintro v103 H104 ⟨k105,w101,hb102,rfl⟩
 have n106:=KG.next k105
 have l107:=HB.le hb k105
 refine wo_nil ?_
 exact ⟨.inl rfl,rfl,[],.nil,KG.trans KG.refl k105,w101,HB.mono hb102 (by omega),rfl⟩

theorem top_putTdTruth_ok (ax1 ax2:Int) (ax3 ax4:Int) (n1 k:Nat) (H:SH) (wt:WT H) (hb:HB H n1 k) (hk:k + (0 * LIM + 4) ≤ CAP):WC Try.prog 25 [vP n1 0,.agg #[vI ax1,vI ax2,vI ax3,vI ax4]] H (fun v H' => KG n1 H H'∧WT H'∧HB H' n1 (k + (0 * LIM + 4))∧v=(.tuple #[])):=by
 have hlt:=hb.lt
 refine wc_of_body Try.func25 rfl ?_
 refine wk ⟨[(0,vP n1 0),(1,.agg #[vI ax1,vI ax2,vI ax3,vI ax4])],20,[],H⟩ rfl ?_
 refine w_seq (w_region (sv_new (H:=H) (v:=vP H.next 0) (x:=.row #[vI ax1,vI ax2,vI ax3,vI ax4] .raw) rfl rfl rfl rfl (opv_boxE (v:=.agg #[vI ax1,vI ax2,vI ax3,vI ax4]) rfl rfl rfl (by simp [undef]) rfl) ?_))
 intro H101 f102
 refine newL wt f102 fun n105 w103 l104 => ?_
 refine wo_nil (tq_n (wk ⟨[(0,vP n1 0),(3,vP H.next 0)],20,[],H101⟩ rfl ?_))
 refine w_seq (w_region (mv (vP n1 0) rfl rfl ?_))
 refine sv (v:=vP H.next 0) rfl rfl rfl (opv_fieldAddrE rfl rfl rfl Try.underlying59 rfl sz3 (by decide) rfl) rfl ?_
 refine sv (v:=vI ax1) rfl rfl rfl (opv_loadE rfl rfl rfl ag3 sz3 f102.blk rfl (.inr rfl) rfl) rfl ?_
 refine sc_ (H:=H101) (vs:=[vP n1 0,vI ax1]) (fv:=.func (.func 8) #[] #[]) rfl rfl rfl rfl rfl rfl (.cons rfl rfl neP (.cons rfl rfl neI .nil)) rfl ?_
 refine WV.mono (wv_f0 Try.call8 (top_putInt_ok ax1 n1 _ _ w103 (HB.new hb f102) (by omega))) ?_
 rintro v108 H109 ⟨k110,w106,hb107,rfl⟩
 have n111:=KG.next k110
 have l112:=HB.le (HB.new hb f102) k110
 refine wo_nil (tq_n (wk ⟨[(0,vP n1 0),(3,vP H.next 0)],20,[],H109⟩ rfl ?_))
 refine w_seq (w_region (mv (vP n1 0) rfl rfl ?_))
 refine sv (v:=vP H.next 1) rfl rfl rfl (opv_fieldAddrE rfl rfl rfl Try.underlying59 rfl sz3 (by decide) rfl) rfl ?_
 refine sv (v:=vI ax2) rfl rfl rfl (opv_loadE rfl rfl rfl ag3 sz3 (KG.get k110 f102.blk (by omega) (by omega)) rfl (.inr rfl) rfl) rfl ?_
 refine sc_ (H:=H109) (vs:=[vP n1 0,vI ax2]) (fv:=.func (.func 8) #[] #[]) rfl rfl rfl rfl rfl rfl (.cons rfl rfl neP (.cons rfl rfl neI .nil)) rfl ?_
 refine WV.mono (wv_f0 Try.call8 (top_putInt_ok ax2 n1 _ _ w106 hb107 (by omega))) ?_
 rintro v117 H118 ⟨k119,w115,hb116,rfl⟩
 have n120:=KG.next k119
 have l121:=HB.le hb107 k119
 refine wo_nil (tq_n (wk ⟨[(0,vP n1 0),(3,vP H.next 0)],20,[],H118⟩ rfl ?_))
 refine w_seq (w_region (mv (vP n1 0) rfl rfl ?_))
 refine sv (v:=vP H.next 2) rfl rfl rfl (opv_fieldAddrE rfl rfl rfl Try.underlying59 rfl sz3 (by decide) rfl) rfl ?_
 refine sv (v:=vI ax3) rfl rfl rfl (opv_loadE rfl rfl rfl ag3 sz3 (KG.get k119 (KG.get k110 f102.blk (by omega) (by omega)) (by omega) (by omega)) rfl (.inr rfl) rfl) rfl ?_
 refine sc_ (H:=H118) (vs:=[vP n1 0,vI ax3]) (fv:=.func (.func 8) #[] #[]) rfl rfl rfl rfl rfl rfl (.cons rfl rfl neP (.cons rfl rfl neI .nil)) rfl ?_
 refine WV.mono (wv_f0 Try.call8 (top_putInt_ok ax3 n1 _ _ w115 hb116 (by omega))) ?_
 rintro v126 H127 ⟨k128,w124,hb125,rfl⟩
 have n129:=KG.next k128
 have l130:=HB.le hb116 k128
 refine wo_nil (tq_n (wk ⟨[(0,vP n1 0),(3,vP H.next 0)],20,[],H127⟩ rfl ?_))
 refine w_region (mv (vP n1 0) rfl rfl ?_)
 refine sv (v:=vP H.next 3) rfl rfl rfl (opv_fieldAddrE rfl rfl rfl Try.underlying59 rfl sz3 (by decide) rfl) rfl ?_
 refine sv (v:=vI ax4) rfl rfl rfl (opv_loadE rfl rfl rfl ag3 sz3 (KG.get k128 (KG.get k119 (KG.get k110 f102.blk (by omega) (by omega)) (by omega) (by omega)) (by omega) (by omega)) rfl (.inr rfl) rfl) rfl ?_
 refine sc_ (H:=H127) (vs:=[vP n1 0,vI ax4]) (fv:=.func (.func 8) #[] #[]) rfl rfl rfl rfl rfl rfl (.cons rfl rfl neP (.cons rfl rfl neI .nil)) rfl ?_
 refine WV.mono (wv_f0 Try.call8 (top_putInt_ok ax4 n1 _ _ w124 hb125 (by omega))) ?_
 rintro v135 H136 ⟨k137,w133,hb134,rfl⟩
 have n138:=KG.next k137
 have l139:=HB.le hb125 k137
 refine wo_nil ?_
 exact ⟨.inl rfl,rfl,[],.nil,KG.trans (KG.trans (KG.trans (KG.trans (KG.new KG.refl f102) k110) k119) k128) k137,w133,HB.mono hb134 (by omega),rfl⟩
end Go.Proofs.Orl

namespace Go.Proofs.Orl
open Go
set_option maxRecDepth 10000
set_option maxHeartbeats 4000000
theorem ag31:aggT Try.prog 31=some false:=by kernel_rfl
theorem sz31:szT Try.prog 31=some 1:=by kernel_rfl
theorem ze34:zeroT Try.prog 34=some (.slice none 0 0):=by kernel_rfl
theorem top_c6_ok (n0:Nat) (ax1 ax2:Int) (ax3 ax4 ax5:Int) (as6:Value) (ax7 ax8:Int) (ax9 ax10:Int) (ax11 ax12:Int) (ax13 ax14:Int) (as15:Value) (ax16:Int) (n1 k:Nat) (H:SH) (wt:WT H) (hvas6:VT H (.sl false [.int .i64,.int .i64,.int .i64,.int .i64,.int .i64]) as6) (hvas15:VT H (.sl false [.int .i64,.int .i64]) as15) (hkn0:H.get n0=some (.row #[vI ax1,vI ax2,vI ax3,vI ax4,vI ax5,as6,vI ax7,vI ax8,vI ax9,vI ax10,vI ax11,vI ax12,vI ax13,vI ax14,as15,vI ax16] .raw)) (hln0:n0 < H.next) (hne:n0 ≠ n1) (hb:HB H n1 k) (hk:k + (0 * LIM + 3) ≤ CAP):WC Try.prog 6 [vP n1 0,vP n0 0] H (fun v H' => KG n1 H H'∧WT H'∧HB H' n1 (k + (0 * LIM + 3))∧v=(.func (.func 10) #[] #[])):=by
 have hlt:=hb.lt
 refine wc_of_body Try.func6 rfl ?_
 refine wk ⟨[(0,vP n1 0),(1,vP n0 0)],25,[],H⟩ rfl ?_
 refine w_seq (w_region (mv .nilFunc rfl rfl ?_))
 refine wo_nil (tq_n (wk ⟨[(0,vP n1 0),(1,vP n0 0)],25,[],H⟩ rfl ?_))
 refine w_seq (w_region (sv (v:=vP n0 0) rfl rfl rfl (opv_fieldAddrE rfl rfl rfl Try.underlying33 rfl sz26 (by decide) rfl) rfl ?_))
 refine sv (v:=.agg #[vI ax1,vI ax2,vI ax3,vI ax4,vI ax5,as6]) rfl rfl rfl (opv_loadE rfl rfl rfl ag26 sz26 hkn0 rfl (.inl rfl) rfl) rfl ?_
 refine sv (v:=vP n0 6) rfl rfl rfl (opv_fieldAddrE rfl rfl rfl Try.underlying33 rfl sz28 (by decide) rfl) rfl ?_
 refine sv (v:=.agg #[vI ax7,vI ax8,vI ax9]) rfl rfl rfl (opv_loadE rfl rfl rfl ag28 sz28 hkn0 rfl (.inl rfl) rfl) rfl ?_
 refine sc_ (H:=H) (vs:=[.agg #[vI ax1,vI ax2,vI ax3,vI ax4,vI ax5,as6],.agg #[vI ax7,vI ax8,vI ax9]]) (fv:=.func (.func 7) #[] #[]) rfl rfl rfl rfl rfl rfl (.cons rfl rfl (by simp [undef]) (.cons rfl rfl (by simp [undef]) .nil)) rfl ?_
 refine WV.mono (wv_f0 Try.call7 (tide_Check_ok ax1 ax2 ax3 ax4 ax5 as6 ax7 ax8 ax9 _ wt hvas6)) ?_
 rintro v107 H108 ⟨k109,w101,rx10102,rx11103,rx12104,rfl,f105,f106⟩
 refine kpL k109 fun n111 l110 => ?_
 have g112:rx12104=0→∀ k:Nat,k < slen as6→-1000000 ≤ elI H as6 (k * 5 + 1)∧elI H as6 (k * 5 + 2) ≤ 1000000∧-1000000 ≤ elI H as6 (k * 5 + 3)∧elI H as6 (k * 5 + 4) ≤ 1000000:=f106
 refine mv (.tuple #[vI rx10102,vI rx11103,vI rx12104]) rfl rfl ?_
 refine sv (v:=vI rx10102) rfl rfl rfl (opv_extract rfl rfl rfl rfl) rfl ?_
 refine sv (v:=vI rx11103) rfl rfl rfl (opv_extract rfl rfl rfl rfl) rfl ?_
 refine sv (v:=vI rx12104) rfl rfl rfl (opv_extract rfl rfl rfl rfl) rfl ?_
 refine mv (vI rx10102) rfl rfl ?_
 refine mv (vI rx11103) rfl rfl ?_
 refine mv (vI rx12104) rfl rfl ?_
 refine wo_nil (tq_n (wk ⟨[(0,vP n1 0),(4,vI rx10102),(5,vI rx11103),(6,vI rx12104)],25,[],H108⟩ rfl ?_))
 refine w_seq (w_region (mv (vP n1 0) rfl rfl ?_))
 refine mv (vI rx10102) rfl rfl ?_
 refine sc_ (H:=H108) (vs:=[vP n1 0,vI rx10102]) (fv:=.func (.func 8) #[] #[]) rfl rfl rfl rfl rfl rfl (.cons rfl rfl neP (.cons rfl rfl neI .nil)) rfl ?_
 refine WV.mono (wv_f0 Try.call8 (top_putInt_ok rx10102 n1 _ _ w101 (HB.keep hb k109) (by omega))) ?_
 rintro v115 H116 ⟨k117,w113,hb114,rfl⟩
 have n118:=KG.next k117
 have l119:=HB.le (HB.keep hb k109) k117
 refine wo_nil (tq_n (wk ⟨[(0,vP n1 0),(5,vI rx11103),(6,vI rx12104)],25,[],H116⟩ rfl ?_))
 refine w_seq (w_region (mv (vP n1 0) rfl rfl ?_))
 refine mv (vI rx11103) rfl rfl ?_
 refine sc_ (H:=H116) (vs:=[vP n1 0,vI rx11103]) (fv:=.func (.func 8) #[] #[]) rfl rfl rfl rfl rfl rfl (.cons rfl rfl neP (.cons rfl rfl neI .nil)) rfl ?_
 refine WV.mono (wv_f0 Try.call8 (top_putInt_ok rx11103 n1 _ _ w113 hb114 (by omega))) ?_
 rintro v124 H125 ⟨k126,w122,hb123,rfl⟩
 have n127:=KG.next k126
 have l128:=HB.le hb114 k126
 refine wo_nil (tq_n (wk ⟨[(0,vP n1 0),(6,vI rx12104)],25,[],H125⟩ rfl ?_))
 refine w_seq (w_region (mv (vP n1 0) rfl rfl ?_))
 refine mv (vI rx12104) rfl rfl ?_
 refine sc_ (H:=H125) (vs:=[vP n1 0,vI rx12104]) (fv:=.func (.func 9) #[] #[]) rfl rfl rfl rfl rfl rfl (.cons rfl rfl neP (.cons rfl rfl neI .nil)) rfl ?_
 refine WV.mono (wv_f0 Try.call9 (top_putErrno_ok rx12104 n1 _ _ w122 hb123 (by omega))) ?_
 rintro v133 H134 ⟨k135,w131,hb132,rfl⟩
 have n136:=KG.next k135
 have l137:=HB.le hb123 k135
 refine wo_nil (tq_n (wk ⟨[],25,[],H134⟩ rfl ?_))
 refine w_seq (w_region (mv (.func (.func 10) #[] #[]) rfl rfl ?_))
 refine wo_nil (tq_n (wk ⟨[(3,.func (.func 10) #[] #[])],25,[],H134⟩ rfl ?_))
 refine w_ret ?_
 exact ⟨.inr rfl,rfl,[.func (.func 10) #[] #[]],.cons (resV_tmp rfl (by simp [undef])) .nil,KG.trans (KG.trans (KG.trans (KG.keep KG.refl k109) k117) k126) k135,w131,HB.mono hb132 (by omega),rfl⟩

theorem top_w10_ok (H:SH) (wt:WT H):WC Try.prog 10 [] H (fun v H' => KW H H'∧WT H'∧Le H H'∧v=(.tuple #[])):=by
 refine wc_of_body Try.func10 rfl ?_
 refine wk ⟨[],0,[],H⟩ rfl ?_
 refine w_skip ?_
 exact ⟨.inl rfl,rfl,[],.nil,KW.refl,wt,Le.refl _,rfl⟩

theorem top_callw6 {old:Array Obj} (ax1 ax2:Int) (ax3 ax4 ax5:Int) (as6:Value) (ax7 ax8:Int) (ax9 ax10:Int) (ax11 ax12:Int) (ax13 ax14:Int) (as15:Value) (ax16:Int) (hvas6:OT old.size old (.sl false [.int .i64,.int .i64,.int .i64,.int .i64,.int .i64]) as6) (hvas15:OT old.size old (.sl false [.int .i64,.int .i64]) as15):CallW Try.prog 6 old #[vI ax1,vI ax2,vI ax3,vI ax4,vI ax5,as6,vI ax7,vI ax8,vI ax9,vI ax10,vI ax11,vI ax12,vI ax13,vI ax14,as15,vI ax16]:=by
  refine callW (K:=0 + (0 * LIM + 3)) (by unfold LIM; omega) ((top_c6_ok old.size ax1 ax2 ax3 ax4 ax5 as6 ax7 ax8 ax9 ax10 ax11 ax12 ax13 ax14 as15 ax16 (old.size + 1) 0 (A0 old _) a0_wt (.old hvas6) (.old hvas15) a0_x (by rw [a0_next]; omega) (by omega) a0_hb (by unfold LIM CAP; omega)).mono ?_)
  rintro v A1 ⟨kg,w,hb,rfl⟩
  exact ⟨kg,hb,10,[],rfl,Try.call10,(top_w10_ok  (rowH A1) (rowH_wt w)  ).mono fun _ _ h => h.1⟩

theorem top_c11_ok (n0:Nat) (ax1 ax2:Int) (ax3 ax4 ax5:Int) (as6:Value) (ax7 ax8:Int) (ax9 ax10:Int) (ax11 ax12:Int) (ax13 ax14:Int) (as15:Value) (ax16:Int) (n1 k:Nat) (H:SH) (wt:WT H) (hvas6:VT H (.sl false [.int .i64,.int .i64,.int .i64,.int .i64,.int .i64]) as6) (hvas15:VT H (.sl false [.int .i64,.int .i64]) as15) (hkn0:H.get n0=some (.row #[vI ax1,vI ax2,vI ax3,vI ax4,vI ax5,as6,vI ax7,vI ax8,vI ax9,vI ax10,vI ax11,vI ax12,vI ax13,vI ax14,as15,vI ax16] .raw)) (hln0:n0 < H.next) (hne:n0 ≠ n1) (hb:HB H n1 k) (hk:k + (0 * LIM + 3) ≤ CAP):WC Try.prog 11 [vP n1 0,vP n0 0] H (fun v H' => KG n1 H H'∧WT H'∧HB H' n1 (k + (0 * LIM + 3))∧v=(.func (.func 10) #[] #[])):=by
 have hlt:=hb.lt
 refine wc_of_body Try.func11 rfl ?_
 refine wk ⟨[(0,vP n1 0),(1,vP n0 0)],24,[],H⟩ rfl ?_
 refine w_seq (w_region (mv .nilFunc rfl rfl ?_))
 refine wo_nil (tq_n (wk ⟨[(0,vP n1 0),(1,vP n0 0)],24,[],H⟩ rfl ?_))
 refine w_seq (w_region (sv (v:=vP n0 0) rfl rfl rfl (opv_fieldAddrE rfl rfl rfl Try.underlying33 rfl sz26 (by decide) rfl) rfl ?_))
 refine sv (v:=.agg #[vI ax1,vI ax2,vI ax3,vI ax4,vI ax5,as6]) rfl rfl rfl (opv_loadE rfl rfl rfl ag26 sz26 hkn0 rfl (.inl rfl) rfl) rfl ?_
 refine sv (v:=vP n0 6) rfl rfl rfl (opv_fieldAddrE rfl rfl rfl Try.underlying33 rfl sz28 (by decide) rfl) rfl ?_
 refine sv (v:=.agg #[vI ax7,vI ax8,vI ax9]) rfl rfl rfl (opv_loadE rfl rfl rfl ag28 sz28 hkn0 rfl (.inl rfl) rfl) rfl ?_
 refine sv (v:=vP n0 9) rfl rfl rfl (opv_fieldAddrE rfl rfl rfl Try.underlying33 rfl sz3 (by decide) rfl) rfl ?_
 refine sv (v:=vI ax10) rfl rfl rfl (opv_loadE rfl rfl rfl ag3 sz3 hkn0 rfl (.inr rfl) rfl) rfl ?_
 refine sv (v:=vP n0 10) rfl rfl rfl (opv_fieldAddrE rfl rfl rfl Try.underlying33 rfl sz3 (by decide) rfl) rfl ?_
 refine sv (v:=vI ax11) rfl rfl rfl (opv_loadE rfl rfl rfl ag3 sz3 hkn0 rfl (.inr rfl) rfl) rfl ?_
 refine sc_ (H:=H) (vs:=[.agg #[vI ax1,vI ax2,vI ax3,vI ax4,vI ax5,as6],.agg #[vI ax7,vI ax8,vI ax9],vI ax10,vI ax11]) (fv:=.func (.func 12) #[] #[]) rfl rfl rfl rfl rfl rfl (.cons rfl rfl (by simp [undef]) (.cons rfl rfl (by simp [undef]) (.cons rfl rfl neI (.cons rfl rfl neI .nil)))) rfl ?_
 refine WV.mono (wv_f0 Try.call12 (tide_Stops_ok ax1 ax2 ax3 ax4 ax5 as6 ax7 ax8 ax9 ax10 ax11 _ wt hvas6)) ?_
 rintro v105 H106 ⟨k107,w101,rx12102,rx13103,rx14104,rfl⟩
 refine kpL k107 fun n109 l108 => ?_
 refine mv (.tuple #[.agg #[vI rx12102,vI rx13103],vI rx14104]) rfl rfl ?_
 refine sv (v:=.agg #[vI rx12102,vI rx13103]) rfl rfl rfl (opv_extract rfl rfl rfl rfl) rfl ?_
 refine sv (v:=vI rx14104) rfl rfl rfl (opv_extract rfl rfl rfl rfl) rfl ?_
 refine sv_new (H:=H106) (v:=vP H106.next 0) (x:=.row #[vI 0,vI 0] .raw) rfl rfl rfl rfl (opv_alloc rfl ze23 rfl) ?_
 intro H110 f111
 refine newL w101 f111 fun n114 w112 l113 => ?_
 refine sv_put (H:=H110) (n:=H106.next) (v:=undef) (x:=some (.row #[vI rx12102,vI rx13103] .raw)) rfl rfl rfl rfl (opv_storeC (u:=.agg #[vI rx12102,vI rx13103]) rfl rfl rfl rfl rfl (by simp [undef]) sz23 rfl rfl rfl f111.blk rfl rfl) ?_
 intro H115 f116
 refine putL w112 f116 f111.blk fun n119 w117 l118 => ?_
 refine mv (vI rx14104) rfl rfl ?_
 refine wo_nil (tq_n (wk ⟨[(0,vP n1 0),(4,vP H106.next 0),(5,vI rx14104)],24,[],H115⟩ rfl ?_))
 refine w_seq (w_region (mv (vP n1 0) rfl rfl ?_))
 refine sv (v:=.agg #[vI rx12102,vI rx13103]) rfl rfl rfl (opv_loadE rfl rfl rfl ag23 sz23 f116.blk rfl (.inl rfl) rfl) rfl ?_
 refine sc_ (H:=H115) (vs:=[vP n1 0,.agg #[vI rx12102,vI rx13103]]) (fv:=.func (.func 13) #[] #[]) rfl rfl rfl rfl rfl rfl (.cons rfl rfl neP (.cons rfl rfl (by simp [undef]) .nil)) rfl ?_
 refine WV.mono (wv_f0 Try.call13 (top_putSpan_ok rx12102 rx13103 n1 _ _ w117 (HB.put (HB.new (HB.keep hb k107) f111) f116 f111.blk (by simp) (by omega)) (by omega))) ?_
 rintro v122 H123 ⟨k124,w120,hb121,rfl⟩
 have n125:=KG.next k124
 have l126:=HB.le (HB.put (HB.new (HB.keep hb k107) f111) f116 f111.blk (by simp) (by omega)) k124
 refine wo_nil (tq_n (wk ⟨[(0,vP n1 0),(5,vI rx14104)],24,[],H123⟩ rfl ?_))
 refine w_seq (w_region (mv (vP n1 0) rfl rfl ?_))
 refine mv (vI rx14104) rfl rfl ?_
 refine sc_ (H:=H123) (vs:=[vP n1 0,vI rx14104]) (fv:=.func (.func 9) #[] #[]) rfl rfl rfl rfl rfl rfl (.cons rfl rfl neP (.cons rfl rfl neI .nil)) rfl ?_
 refine WV.mono (wv_f0 Try.call9 (top_putErrno_ok rx14104 n1 _ _ w120 hb121 (by omega))) ?_
 rintro v131 H132 ⟨k133,w129,hb130,rfl⟩
 have n134:=KG.next k133
 have l135:=HB.le hb121 k133
 refine wo_nil (tq_n (wk ⟨[],24,[],H132⟩ rfl ?_))
 refine w_seq (w_region (mv (.func (.func 10) #[] #[]) rfl rfl ?_))
 refine wo_nil (tq_n (wk ⟨[(3,.func (.func 10) #[] #[])],24,[],H132⟩ rfl ?_))
 refine w_ret ?_
 exact ⟨.inr rfl,rfl,[.func (.func 10) #[] #[]],.cons (resV_tmp rfl (by simp [undef])) .nil,KG.trans (KG.trans (KG.put (KG.new (KG.keep KG.refl k107) f111) f116 (by omega)) k124) k133,w129,HB.mono hb130 (by omega),rfl⟩

theorem top_callw11 {old:Array Obj} (ax1 ax2:Int) (ax3 ax4 ax5:Int) (as6:Value) (ax7 ax8:Int) (ax9 ax10:Int) (ax11 ax12:Int) (ax13 ax14:Int) (as15:Value) (ax16:Int) (hvas6:OT old.size old (.sl false [.int .i64,.int .i64,.int .i64,.int .i64,.int .i64]) as6) (hvas15:OT old.size old (.sl false [.int .i64,.int .i64]) as15):CallW Try.prog 11 old #[vI ax1,vI ax2,vI ax3,vI ax4,vI ax5,as6,vI ax7,vI ax8,vI ax9,vI ax10,vI ax11,vI ax12,vI ax13,vI ax14,as15,vI ax16]:=by
  refine callW (K:=0 + (0 * LIM + 3)) (by unfold LIM; omega) ((top_c11_ok old.size ax1 ax2 ax3 ax4 ax5 as6 ax7 ax8 ax9 ax10 ax11 ax12 ax13 ax14 as15 ax16 (old.size + 1) 0 (A0 old _) a0_wt (.old hvas6) (.old hvas15) a0_x (by rw [a0_next]; omega) (by omega) a0_hb (by unfold LIM CAP; omega)).mono ?_)
  rintro v A1 ⟨kg,w,hb,rfl⟩
  exact ⟨kg,hb,10,[],rfl,Try.call10,(top_w10_ok  (rowH A1) (rowH_wt w)  ).mono fun _ _ h => h.1⟩

theorem top_c14_ok (n0:Nat) (ax1 ax2:Int) (ax3 ax4 ax5:Int) (as6:Value) (ax7 ax8:Int) (ax9 ax10:Int) (ax11 ax12:Int) (ax13 ax14:Int) (as15:Value) (ax16:Int) (n1 k:Nat) (H:SH) (wt:WT H) (hvas6:VT H (.sl false [.int .i64,.int .i64,.int .i64,.int .i64,.int .i64]) as6) (hvas15:VT H (.sl false [.int .i64,.int .i64]) as15) (hkn0:H.get n0=some (.row #[vI ax1,vI ax2,vI ax3,vI ax4,vI ax5,as6,vI ax7,vI ax8,vI ax9,vI ax10,vI ax11,vI ax12,vI ax13,vI ax14,as15,vI ax16] .raw)) (hln0:n0 < H.next) (hne:n0 ≠ n1) (hb:HB H n1 k) (hk:k + (1 * LIM + 2) ≤ CAP):WC Try.prog 14 [vP n1 0,vP n0 0] H (fun v H' => KG n1 H H'∧WT H'∧HB H' n1 (k + (1 * LIM + 2))∧∃ (p17:Nat) (rs18:Value),v=(.func (.func 17) #[] #[vP p17 0])∧VT H' (.sl true [.int .i64]) rs18∧(H'.get p17=some (.row #[rs18] .raw)∧H.next ≤ p17∧p17 < H'.next)):=by
 have hlt:=hb.lt
 refine wc_of_body Try.func14 rfl ?_
 refine wk ⟨[(0,vP n1 0),(1,vP n0 0)],23,[],H⟩ rfl ?_
 refine w_seq (w_region (mv .nilFunc rfl rfl ?_))
 refine wo_nil (tq_n (wk ⟨[(0,vP n1 0),(1,vP n0 0)],23,[],H⟩ rfl ?_))
 refine w_seq (w_region (sv (v:=vP n0 0) rfl rfl rfl (opv_fieldAddrE rfl rfl rfl Try.underlying33 rfl sz26 (by decide) rfl) rfl ?_))
 refine sv (v:=.agg #[vI ax1,vI ax2,vI ax3,vI ax4,vI ax5,as6]) rfl rfl rfl (opv_loadE rfl rfl rfl ag26 sz26 hkn0 rfl (.inl rfl) rfl) rfl ?_
 refine sv (v:=vP n0 6) rfl rfl rfl (opv_fieldAddrE rfl rfl rfl Try.underlying33 rfl sz28 (by decide) rfl) rfl ?_
 refine sv (v:=.agg #[vI ax7,vI ax8,vI ax9]) rfl rfl rfl (opv_loadE rfl rfl rfl ag28 sz28 hkn0 rfl (.inl rfl) rfl) rfl ?_
 refine sv (v:=vP n0 10) rfl rfl rfl (opv_fieldAddrE rfl rfl rfl Try.underlying33 rfl sz3 (by decide) rfl) rfl ?_
 refine sv (v:=vI ax11) rfl rfl rfl (opv_loadE rfl rfl rfl ag3 sz3 hkn0 rfl (.inr rfl) rfl) rfl ?_
 refine sc_ (H:=H) (vs:=[.agg #[vI ax1,vI ax2,vI ax3,vI ax4,vI ax5,as6],.agg #[vI ax7,vI ax8,vI ax9],vI ax11]) (fv:=.func (.func 15) #[] #[]) rfl rfl rfl rfl rfl rfl (.cons rfl rfl (by simp [undef]) (.cons rfl rfl (by simp [undef]) (.cons rfl rfl neI .nil))) rfl ?_
 refine WV.mono (wv_f0 Try.call15 (tide_Ashore_ok ax1 ax2 ax3 ax4 ax5 as6 ax7 ax8 ax9 ax11 _ wt hvas6)) ?_
 rintro v105 H106 ⟨k107,w101,rl102,hv103,rx12104,rfl⟩
 have n108:=k107.next
 have l109:=k107.le
 refine mv (.tuple #[rl102,vI rx12104]) rfl rfl ?_
 refine sv (v:=rl102) rfl rfl rfl (opv_extract rfl rfl rfl rfl) rfl ?_
 refine sv (v:=vI rx12104) rfl rfl rfl (opv_extract rfl rfl rfl rfl) rfl ?_
 refine sv_new (H:=H106) (v:=vP H106.next 0) (x:=.row #[.slice none 0 0] .raw) rfl rfl rfl rfl (opv_alloc rfl ze34 rfl) ?_
 intro H110 f111
 refine newL w101 f111 fun n114 w112 l113 => ?_
 refine sv_put (H:=H110) (n:=H106.next) (v:=undef) (x:=some (.row #[rl102] .raw)) rfl rfl rfl rfl (opv_storeC (u:=rl102) rfl rfl rfl rfl rfl (vt_ne (hv103.mono l113)) sz34 (vt_cells (hv103.mono l113)) rfl (leafs_one (vt_cells (hv103.mono l113)) (vt_one (hv103.mono l113))) f111.blk rfl rfl) ?_
 intro H115 f116
 refine putL w112 f116 f111.blk fun n119 w117 l118 => ?_
 refine mv (vI rx12104) rfl rfl ?_
 refine wo_nil (tq_n (wk ⟨[(0,vP n1 0),(4,vP H106.next 0),(5,vI rx12104)],23,[],H115⟩ rfl ?_))
 refine w_seq (w_region (mv (vP n1 0) rfl rfl ?_))
 refine sv (v:=rl102) rfl rfl rfl (opv_loadE rfl rfl rfl ag34 sz34 f116.blk rfl (.inr rfl) rfl) rfl ?_
 refine sc_ (H:=H115) (vs:=[vP n1 0,rl102]) (fv:=.func (.func 16) #[] #[]) rfl rfl rfl rfl rfl rfl (.cons rfl rfl neP (.cons rfl rfl (vt_ne (hv103.mono (l113.trans l118))) .nil)) rfl ?_
 refine WV.mono (wv_f0 Try.call16 (top_putInts_ok rl102 n1 _ _ w117 (vt_ro (hv103.mono (l113.trans l118))) (HB.put (HB.new (HB.keep hb k107) f111) f116 f111.blk (by simp) (by omega)) (by omega))) ?_
 rintro v122 H123 ⟨k124,w120,hb121,rfl⟩
 have n125:=KG.next k124
 have l126:=HB.le (HB.put (HB.new (HB.keep hb k107) f111) f116 f111.blk (by simp) (by omega)) k124
 refine wo_nil (tq_n (wk ⟨[(0,vP n1 0),(4,vP H106.next 0),(5,vI rx12104)],23,[],H123⟩ rfl ?_))
 refine w_seq (w_region (mv (vP n1 0) rfl rfl ?_))
 refine mv (vI rx12104) rfl rfl ?_
 refine sc_ (H:=H123) (vs:=[vP n1 0,vI rx12104]) (fv:=.func (.func 9) #[] #[]) rfl rfl rfl rfl rfl rfl (.cons rfl rfl neP (.cons rfl rfl neI .nil)) rfl ?_
 refine WV.mono (wv_f0 Try.call9 (top_putErrno_ok rx12104 n1 _ _ w120 hb121 (by omega))) ?_
 rintro v131 H132 ⟨k133,w129,hb130,rfl⟩
 have n134:=KG.next k133
 have l135:=HB.le hb121 k133
 refine wo_nil (tq_n (wk ⟨[(4,vP H106.next 0)],23,[],H132⟩ rfl ?_))
 refine w_seq (w_region (sv (v:=.func (.func 17) #[] #[vP H106.next 0]) rfl rfl rfl (opv_makeFunc (vs:=[]) (us:=[vP H106.next 0]) rfl (.func _) .nil (.cons rfl rfl neP .nil)) rfl ?_))
 refine mv (.func (.func 17) #[] #[vP H106.next 0]) rfl rfl ?_
 refine wo_nil (tq_n (wk ⟨[(3,.func (.func 17) #[] #[vP H106.next 0])],23,[],H132⟩ rfl ?_))
 refine w_ret ?_
 exact ⟨.inr rfl,rfl,[.func (.func 17) #[] #[vP H106.next 0]],.cons (resV_tmp rfl (by simp [undef])) .nil,KG.trans (KG.trans (KG.put (KG.new (KG.keep KG.refl k107) f111) f116 (by omega)) k124) k133,w129,HB.mono hb130 (by omega),H106.next,rl102,rfl,hv103.mono (((l113.trans l118).trans l126).trans l135),⟨KG.get k133 (KG.get k124 f116.blk (by omega) (by omega)) (by omega) (by omega),by (try dsimp only); omega,by (try dsimp only); omega⟩⟩

theorem top_wipeInt_vp_ok (n kk:Nat) (H:SH) (wt:WT H) (hpn:VP H n kk [.int .i64]):WC Try.prog 46 [.pointer (some ⟨n,kk,none⟩)] H (fun v H' => KW H H'∧WT H'∧Le H H'∧v=(.tuple #[])):=by
 refine wc_of_body Try.func46 rfl ?_
 refine wk ⟨[(0,.pointer (some ⟨n,kk,none⟩))],4,[],H⟩ rfl ?_
 refine w_region (mv (.pointer (some ⟨n,kk,none⟩)) rfl rfl ?_)
 refine sv (v:=.pointer (some ⟨n,kk,none⟩)) rfl rfl rfl (opv_nilCheck_ptr rfl rfl rfl) rfl ?_
 refine sv_storeP (H:=H) (u:=vI (-77)) (us:=[vI (-77)]) rfl rfl rfl rfl wt hpn rfl rfl rfl rfl rfl neI sz3 rfl rfl rfl rfl ⟨.int _ _,trivial⟩ ?_
 intro H101 w102 l103 k104 n105
 refine wo_nil ?_
 exact ⟨.inl rfl,rfl,[],.nil,KW.trans KW.refl k104,w102,l103,rfl⟩

theorem top_wipes_int_46_ok (as1:Value) (H:SH) (wt:WT H) (hvas1:VT H (.sl true [.int .i64]) as1):WC Try.prog 45 [as1,.func (.func 46) #[] #[]] H (fun v H' => KW H H'∧WT H'∧Le H H'∧v=(.tuple #[])):=by
 refine wc_of_body Try.func45 rfl ?_
 have hL:slen as1 ≤ 1073741824:=vt_lim hvas1
 refine wk ⟨[(0,as1),(1,.func (.func 46) #[] #[])],16,[],H⟩ rfl ?_
 refine w_seq (w_region (mv (vI 0) rfl rfl ?_))
 refine wo_nil (tq_n (wk ⟨[(0,as1),(1,.func (.func 46) #[] #[]),(4,vI 0)],16,[],H⟩ rfl ?_))
 refine w_block (w_loopS (fun m108 s109 => ∃ (x101:Int) (H102:SH),(0 ≤ x101)∧(x101 ≤ (slen as1:Int))∧KW H H102∧WT H102∧Le H H102∧m108=((slen as1:Int) - x101).toNat∧s109=⟨[(0,as1),(1,.func (.func 46) #[] #[]),(4,vI x101)],16,[],H102⟩) (n:=((slen as1:Int) - 0).toNat) ⟨⟨[(0,as1),(1,.func (.func 46) #[] #[]),(4,vI 0)],16,[],H⟩,subk rfl,0,H,by omega,by omega,KW.refl,wt,Le.refl _,rfl,rfl⟩ ?_)
 rintro m108 s109 ⟨x101,H102,i103,i104,k107,w105,l106,rfl,rfl⟩
 have n111:=KW.next k107
 refine w_seq (w_seq (w_region (mv (vI x101) rfl rfl ?_)))
 refine mv as1 rfl rfl ?_
 have c112:slen as1 ≤ 1073741824:=vt_lim (hvas1.mono l106)
 refine sv (v:=(vI (slen as1:Int))) rfl rfl rfl (t_len (hvas1.mono l106) rfl rfl rfl Try.underlying34) rfl ?_
 by_cases c113:x101 < (slen as1:Int)
 ·
  refine sv (v:=.bool true) rfl rfl rfl (opv_bin rfl rfl rfl rfl rfl (cmpT rfl c113)) rfl ?_
  refine wo_nil (tq_n (wk ⟨[(0,as1),(1,.func (.func 46) #[] #[]),(4,vI x101),(8,.bool true)],16,[],H102⟩ rfl ?_))
  refine w_cond (t:=true) rfl rfl (fun _ => ?_) (fun h => by cases h)
  refine w_skip (tq_n (wk ⟨[(0,as1),(1,.func (.func 46) #[] #[]),(4,vI x101)],16,[],H102⟩ rfl ?_))
  refine w_seq (w_block (w_region (mv (.func (.func 46) #[] #[]) rfl rfl ?_)))
  refine mv as1 rfl rfl ?_
  refine mv (vI x101) rfl rfl ?_
  refine sv (v:=.pointer (some ⟨snm as1,sof as1 + (x101).toNat * 1,none⟩)) rfl rfl rfl (t_index (z:=1) (hvas1.mono l106) rfl rfl rfl rfl rfl Try.underlying34 sz3 (by omega) (by omega)) rfl ?_
  refine sc_ (H:=H102) (vs:=[.pointer (some ⟨snm as1,sof as1 + (x101).toNat * 1,none⟩)]) (fv:=.func (.func 46) #[] #[]) rfl rfl rfl rfl rfl rfl (.cons rfl rfl (by simp [undef]) .nil) rfl ?_
  refine WV.mono (wv_f0 Try.call46 (top_wipeInt_vp_ok (snm as1) (sof as1 + (x101).toNat * 1) _ w105 (vp_el (hvas1.mono l106) (i:=Int.toNat x101) (by omega)))) ?_
  rintro v116 H117 ⟨k118,w114,l115,rfl⟩
  have n119:=KW.next k118
  refine wo_nil ?_
  try refine q_eq (e':=.normal) rfl ?_
  refine tqk ⟨[(0,as1),(1,.func (.func 46) #[] #[]),(4,vI x101)],16,[],H117⟩ rfl ?_
  refine w_region (mv (vI x101) rfl rfl ?_)
  refine sv_int rfl rfl rfl (opv_bin rfl rfl rfl rfl rfl rfl) ?_
  intro x122 h123
  try replace h123:x122=x101 + 1:=wr_ex h123 (by omega) (by omega)
  refine mv (vI x122) rfl rfl ?_
  refine wo_nil ?_
  refine tq_n ⟨((slen as1:Int) - x122).toNat,by omega,⟨[(0,as1),(1,.func (.func 46) #[] #[]),(4,vI x122)],16,[],H117⟩,subk rfl,x122,H117,by omega,by omega,KW.trans (KW.trans KW.refl k107) k118,w114,l106.trans l115,rfl,rfl⟩
 ·
  refine sv (v:=.bool false) rfl rfl rfl (opv_bin rfl rfl rfl rfl rfl (cmpF rfl c113)) rfl ?_
  refine wo_nil (tq_n (wk ⟨[(0,as1),(1,.func (.func 46) #[] #[]),(4,vI x101),(8,.bool false)],16,[],H102⟩ rfl ?_))
  refine w_cond (t:=false) rfl rfl (fun h => by cases h) (fun _ => ?_)
  refine w_exit (tq_e (tq_e ?_))
  try refine q_eq (e':=.normal) rfl ?_
  exact ⟨.inl rfl,rfl,[],.nil,KW.trans KW.refl k107,w105,l106,rfl⟩

theorem top_wipeInts_ok (p:Nat) (as124:Value) (H:SH) (wt:WT H) (hvas124:VT H (.sl true [.int .i64]) as124) (hkp:H.get p=some (.row #[as124] .raw)) (hlp:p < H.next):WC Try.prog 18 [vP p 0] H (fun v H' => KW H H'∧WT H'∧Le H H'∧v=(.tuple #[])):=by
 refine wc_of_body Try.func18 rfl ?_
 refine wk ⟨[(0,vP p 0)],6,[],H⟩ rfl ?_
 refine w_region (mv (vP p 0) rfl rfl ?_)
 refine sv (v:=vP p 0) rfl rfl rfl (opv_nilCheck_ptr rfl rfl rfl) rfl ?_
 refine sv (v:=as124) rfl rfl rfl (opv_loadE rfl rfl rfl ag34 sz34 hkp rfl (.inr rfl) rfl) rfl ?_
 refine sc_ (H:=H) (vs:=[as124,.func (.func 46) #[] #[]]) (fv:=.func (.func 45) #[] #[]) rfl rfl rfl rfl rfl rfl (.cons rfl rfl (vt_ne hvas124) (.cons rfl rfl (by simp [undef]) .nil)) rfl ?_
 refine WV.mono (wv_f0 Try.call45 (top_wipes_int_46_ok as124 _ wt hvas124)) ?_
 rintro v103 H104 ⟨k105,w101,l102,rfl⟩
 have n106:=KW.next k105
 refine wo_nil ?_
 exact ⟨.inl rfl,rfl,[],.nil,KW.trans KW.refl k105,w101,l102,rfl⟩

theorem top_w17_ok (p51:Nat) (a52:Value) (H:SH) (wt:WT H) (hva52:VT H (.sl true [.int .i64]) a52) (hkp51:H.get p51=some (.row #[a52] .raw)) (hlp51:p51 < H.next):WC Try.prog 17 [vP p51 0] H (fun v H' => KW H H'∧WT H'∧Le H H'∧v=(.tuple #[])):=by
 refine wc_of_body Try.func17 rfl ?_
 refine wk ⟨[(0,vP p51 0)],2,[],H⟩ rfl ?_
 refine w_region (sc_ (H:=H) (vs:=[vP p51 0]) (fv:=.func (.func 18) #[] #[]) rfl rfl rfl rfl rfl rfl (.cons rfl rfl neP .nil) rfl ?_)
 refine WV.mono (wv_f0 Try.call18 (top_wipeInts_ok p51 a52 _ wt hva52 hkp51 (by omega))) ?_
 rintro v103 H104 ⟨k105,w101,l102,rfl⟩
 have n106:=KW.next k105
 refine wo_nil ?_
 exact ⟨.inl rfl,rfl,[],.nil,KW.trans KW.refl k105,w101,l102,rfl⟩

theorem top_callw14 {old:Array Obj} (ax1 ax2:Int) (ax3 ax4 ax5:Int) (as6:Value) (ax7 ax8:Int) (ax9 ax10:Int) (ax11 ax12:Int) (ax13 ax14:Int) (as15:Value) (ax16:Int) (hvas6:OT old.size old (.sl false [.int .i64,.int .i64,.int .i64,.int .i64,.int .i64]) as6) (hvas15:OT old.size old (.sl false [.int .i64,.int .i64]) as15):CallW Try.prog 14 old #[vI ax1,vI ax2,vI ax3,vI ax4,vI ax5,as6,vI ax7,vI ax8,vI ax9,vI ax10,vI ax11,vI ax12,vI ax13,vI ax14,as15,vI ax16]:=by
  refine callW (K:=0 + (1 * LIM + 2)) (by unfold LIM; omega) ((top_c14_ok old.size ax1 ax2 ax3 ax4 ax5 as6 ax7 ax8 ax9 ax10 ax11 ax12 ax13 ax14 as15 ax16 (old.size + 1) 0 (A0 old _) a0_wt (.old hvas6) (.old hvas15) a0_x (by rw [a0_next]; omega) (by omega) a0_hb (by unfold LIM CAP; omega)).mono ?_)
  rintro v A1 ⟨kg,w,hb,p17,rs18,rfl,hrrs18,⟨hpp17,_,hlp17⟩⟩
  exact ⟨kg,hb,17,[vP p17 0],rfl,Try.call17,(top_w17_ok p17 rs18 (rowH A1) (rowH_wt w) (hrrs18.mono (rowH_le A1)) (rowH_row hpp17) (by rw [(rowH_sub A1).next]; exact hlp17)).mono fun _ _ h => h.1⟩

theorem top_c19_ok (n0:Nat) (ax1 ax2:Int) (ax3 ax4 ax5:Int) (as6:Value) (ax7 ax8:Int) (ax9 ax10:Int) (ax11 ax12:Int) (ax13 ax14:Int) (as15:Value) (ax16:Int) (n1 k:Nat) (H:SH) (wt:WT H) (hvas6:VT H (.sl false [.int .i64,.int .i64,.int .i64,.int .i64,.int .i64]) as6) (hvas15:VT H (.sl false [.int .i64,.int .i64]) as15) (hkn0:H.get n0=some (.row #[vI ax1,vI ax2,vI ax3,vI ax4,vI ax5,as6,vI ax7,vI ax8,vI ax9,vI ax10,vI ax11,vI ax12,vI ax13,vI ax14,as15,vI ax16] .raw)) (hln0:n0 < H.next) (hne:n0 ≠ n1) (hb:HB H n1 k) (hk:k + (0 * LIM + 2) ≤ CAP):WC Try.prog 19 [vP n1 0,vP n0 0] H (fun v H' => KG n1 H H'∧WT H'∧HB H' n1 (k + (0 * LIM + 2))∧v=(.func (.func 10) #[] #[])):=by
 have hlt:=hb.lt
 refine wc_of_body Try.func19 rfl ?_
 refine wk ⟨[(0,vP n1 0),(1,vP n0 0)],22,[],H⟩ rfl ?_
 refine w_seq (w_region (mv .nilFunc rfl rfl ?_))
 refine wo_nil (tq_n (wk ⟨[(0,vP n1 0),(1,vP n0 0)],22,[],H⟩ rfl ?_))
 refine w_seq (w_region (sv (v:=vP n0 0) rfl rfl rfl (opv_fieldAddrE rfl rfl rfl Try.underlying33 rfl sz26 (by decide) rfl) rfl ?_))
 refine sv (v:=.agg #[vI ax1,vI ax2,vI ax3,vI ax4,vI ax5,as6]) rfl rfl rfl (opv_loadE rfl rfl rfl ag26 sz26 hkn0 rfl (.inl rfl) rfl) rfl ?_
 refine sv (v:=vP n0 6) rfl rfl rfl (opv_fieldAddrE rfl rfl rfl Try.underlying33 rfl sz28 (by decide) rfl) rfl ?_
 refine sv (v:=.agg #[vI ax7,vI ax8,vI ax9]) rfl rfl rfl (opv_loadE rfl rfl rfl ag28 sz28 hkn0 rfl (.inl rfl) rfl) rfl ?_
 refine sv (v:=vP n0 9) rfl rfl rfl (opv_fieldAddrE rfl rfl rfl Try.underlying33 rfl sz3 (by decide) rfl) rfl ?_
 refine sv (v:=vI ax10) rfl rfl rfl (opv_loadE rfl rfl rfl ag3 sz3 hkn0 rfl (.inr rfl) rfl) rfl ?_
 refine sc_ (H:=H) (vs:=[.agg #[vI ax1,vI ax2,vI ax3,vI ax4,vI ax5,as6],.agg #[vI ax7,vI ax8,vI ax9],vI ax10]) (fv:=.func (.func 20) #[] #[]) rfl rfl rfl rfl rfl rfl (.cons rfl rfl (by simp [undef]) (.cons rfl rfl (by simp [undef]) (.cons rfl rfl neI .nil))) rfl ?_
 refine WV.mono (wv_f0 Try.call20 (tide_Least_ok ax1 ax2 ax3 ax4 ax5 as6 ax7 ax8 ax9 ax10 _ wt hvas6)) ?_
 rintro v104 H105 ⟨k106,w101,rx11102,rx12103,rfl⟩
 refine kpL k106 fun n108 l107 => ?_
 refine mv (.tuple #[vI rx11102,vI rx12103]) rfl rfl ?_
 refine sv (v:=vI rx11102) rfl rfl rfl (opv_extract rfl rfl rfl rfl) rfl ?_
 refine sv (v:=vI rx12103) rfl rfl rfl (opv_extract rfl rfl rfl rfl) rfl ?_
 refine mv (vI rx11102) rfl rfl ?_
 refine mv (vI rx12103) rfl rfl ?_
 refine wo_nil (tq_n (wk ⟨[(0,vP n1 0),(4,vI rx11102),(5,vI rx12103)],22,[],H105⟩ rfl ?_))
 refine w_seq (w_region (mv (vP n1 0) rfl rfl ?_))
 refine mv (vI rx11102) rfl rfl ?_
 refine sc_ (H:=H105) (vs:=[vP n1 0,vI rx11102]) (fv:=.func (.func 8) #[] #[]) rfl rfl rfl rfl rfl rfl (.cons rfl rfl neP (.cons rfl rfl neI .nil)) rfl ?_
 refine WV.mono (wv_f0 Try.call8 (top_putInt_ok rx11102 n1 _ _ w101 (HB.keep hb k106) (by omega))) ?_
 rintro v111 H112 ⟨k113,w109,hb110,rfl⟩
 have n114:=KG.next k113
 have l115:=HB.le (HB.keep hb k106) k113
 refine wo_nil (tq_n (wk ⟨[(0,vP n1 0),(5,vI rx12103)],22,[],H112⟩ rfl ?_))
 refine w_seq (w_region (mv (vP n1 0) rfl rfl ?_))
 refine mv (vI rx12103) rfl rfl ?_
 refine sc_ (H:=H112) (vs:=[vP n1 0,vI rx12103]) (fv:=.func (.func 9) #[] #[]) rfl rfl rfl rfl rfl rfl (.cons rfl rfl neP (.cons rfl rfl neI .nil)) rfl ?_
 refine WV.mono (wv_f0 Try.call9 (top_putErrno_ok rx12103 n1 _ _ w109 hb110 (by omega))) ?_
 rintro v120 H121 ⟨k122,w118,hb119,rfl⟩
 have n123:=KG.next k122
 have l124:=HB.le hb110 k122
 refine wo_nil (tq_n (wk ⟨[],22,[],H121⟩ rfl ?_))
 refine w_seq (w_region (mv (.func (.func 10) #[] #[]) rfl rfl ?_))
 refine wo_nil (tq_n (wk ⟨[(3,.func (.func 10) #[] #[])],22,[],H121⟩ rfl ?_))
 refine w_ret ?_
 exact ⟨.inr rfl,rfl,[.func (.func 10) #[] #[]],.cons (resV_tmp rfl (by simp [undef])) .nil,KG.trans (KG.trans (KG.keep KG.refl k106) k113) k122,w118,HB.mono hb119 (by omega),rfl⟩

theorem top_callw19 {old:Array Obj} (ax1 ax2:Int) (ax3 ax4 ax5:Int) (as6:Value) (ax7 ax8:Int) (ax9 ax10:Int) (ax11 ax12:Int) (ax13 ax14:Int) (as15:Value) (ax16:Int) (hvas6:OT old.size old (.sl false [.int .i64,.int .i64,.int .i64,.int .i64,.int .i64]) as6) (hvas15:OT old.size old (.sl false [.int .i64,.int .i64]) as15):CallW Try.prog 19 old #[vI ax1,vI ax2,vI ax3,vI ax4,vI ax5,as6,vI ax7,vI ax8,vI ax9,vI ax10,vI ax11,vI ax12,vI ax13,vI ax14,as15,vI ax16]:=by
  refine callW (K:=0 + (0 * LIM + 2)) (by unfold LIM; omega) ((top_c19_ok old.size ax1 ax2 ax3 ax4 ax5 as6 ax7 ax8 ax9 ax10 ax11 ax12 ax13 ax14 as15 ax16 (old.size + 1) 0 (A0 old _) a0_wt (.old hvas6) (.old hvas15) a0_x (by rw [a0_next]; omega) (by omega) a0_hb (by unfold LIM CAP; omega)).mono ?_)
  rintro v A1 ⟨kg,w,hb,rfl⟩
  exact ⟨kg,hb,10,[],rfl,Try.call10,(top_w10_ok  (rowH A1) (rowH_wt w)  ).mono fun _ _ h => h.1⟩

theorem top_c21_ok (n0:Nat) (ax1 ax2:Int) (ax3 ax4 ax5:Int) (as6:Value) (ax7 ax8:Int) (ax9 ax10:Int) (ax11 ax12:Int) (ax13 ax14:Int) (as15:Value) (ax16:Int) (n1 k:Nat) (H:SH) (wt:WT H) (hvas6:VT H (.sl false [.int .i64,.int .i64,.int .i64,.int .i64,.int .i64]) as6) (hvas15:VT H (.sl false [.int .i64,.int .i64]) as15) (hkn0:H.get n0=some (.row #[vI ax1,vI ax2,vI ax3,vI ax4,vI ax5,as6,vI ax7,vI ax8,vI ax9,vI ax10,vI ax11,vI ax12,vI ax13,vI ax14,as15,vI ax16] .raw)) (hln0:n0 < H.next) (hne:n0 ≠ n1) (hb:HB H n1 k) (hk:k + (0 * LIM + 3) ≤ CAP):WC Try.prog 21 [vP n1 0,vP n0 0] H (fun v H' => KG n1 H H'∧WT H'∧HB H' n1 (k + (0 * LIM + 3))∧v=(.func (.func 10) #[] #[])):=by
 have hlt:=hb.lt
 refine wc_of_body Try.func21 rfl ?_
 refine wk ⟨[(0,vP n1 0),(1,vP n0 0)],27,[],H⟩ rfl ?_
 refine w_seq (w_region (mv .nilFunc rfl rfl ?_))
 refine wo_nil (tq_n (wk ⟨[(0,vP n1 0),(1,vP n0 0)],27,[],H⟩ rfl ?_))
 refine w_seq (w_region (sv (v:=vP n0 0) rfl rfl rfl (opv_fieldAddrE rfl rfl rfl Try.underlying33 rfl sz26 (by decide) rfl) rfl ?_))
 refine sv (v:=.agg #[vI ax1,vI ax2,vI ax3,vI ax4,vI ax5,as6]) rfl rfl rfl (opv_loadE rfl rfl rfl ag26 sz26 hkn0 rfl (.inl rfl) rfl) rfl ?_
 refine sv (v:=vP n0 6) rfl rfl rfl (opv_fieldAddrE rfl rfl rfl Try.underlying33 rfl sz28 (by decide) rfl) rfl ?_
 refine sv (v:=.agg #[vI ax7,vI ax8,vI ax9]) rfl rfl rfl (opv_loadE rfl rfl rfl ag28 sz28 hkn0 rfl (.inl rfl) rfl) rfl ?_
 refine sv (v:=vP n0 11) rfl rfl rfl (opv_fieldAddrE rfl rfl rfl Try.underlying33 rfl sz3 (by decide) rfl) rfl ?_
 refine sv (v:=vI ax12) rfl rfl rfl (opv_loadE rfl rfl rfl ag3 sz3 hkn0 rfl (.inr rfl) rfl) rfl ?_
 refine sc_ (H:=H) (vs:=[.agg #[vI ax1,vI ax2,vI ax3,vI ax4,vI ax5,as6],.agg #[vI ax7,vI ax8,vI ax9],vI ax12]) (fv:=.func (.func 22) #[] #[]) rfl rfl rfl rfl rfl rfl (.cons rfl rfl (by simp [undef]) (.cons rfl rfl (by simp [undef]) (.cons rfl rfl neI .nil))) rfl ?_
 refine WV.mono (wv_f0 Try.call22 (tide_First_ok ax1 ax2 ax3 ax4 ax5 as6 ax7 ax8 ax9 ax12 _ wt hvas6)) ?_
 rintro v105 H106 ⟨k107,w101,rx11102,rx12103,rx13104,rfl⟩
 refine kpL k107 fun n109 l108 => ?_
 refine mv (.tuple #[vI rx11102,vI rx12103,vI rx13104]) rfl rfl ?_
 refine sv (v:=vI rx11102) rfl rfl rfl (opv_extract rfl rfl rfl rfl) rfl ?_
 refine sv (v:=vI rx12103) rfl rfl rfl (opv_extract rfl rfl rfl rfl) rfl ?_
 refine sv (v:=vI rx13104) rfl rfl rfl (opv_extract rfl rfl rfl rfl) rfl ?_
 refine mv (vI rx11102) rfl rfl ?_
 refine mv (vI rx12103) rfl rfl ?_
 refine mv (vI rx13104) rfl rfl ?_
 refine wo_nil (tq_n (wk ⟨[(0,vP n1 0),(4,vI rx11102),(5,vI rx12103),(6,vI rx13104)],27,[],H106⟩ rfl ?_))
 refine w_seq (w_region (mv (vP n1 0) rfl rfl ?_))
 refine mv (vI rx11102) rfl rfl ?_
 refine sc_ (H:=H106) (vs:=[vP n1 0,vI rx11102]) (fv:=.func (.func 8) #[] #[]) rfl rfl rfl rfl rfl rfl (.cons rfl rfl neP (.cons rfl rfl neI .nil)) rfl ?_
 refine WV.mono (wv_f0 Try.call8 (top_putInt_ok rx11102 n1 _ _ w101 (HB.keep hb k107) (by omega))) ?_
 rintro v112 H113 ⟨k114,w110,hb111,rfl⟩
 have n115:=KG.next k114
 have l116:=HB.le (HB.keep hb k107) k114
 refine wo_nil (tq_n (wk ⟨[(0,vP n1 0),(5,vI rx12103),(6,vI rx13104)],27,[],H113⟩ rfl ?_))
 refine w_seq (w_region (mv (vP n1 0) rfl rfl ?_))
 refine mv (vI rx12103) rfl rfl ?_
 refine sc_ (H:=H113) (vs:=[vP n1 0,vI rx12103]) (fv:=.func (.func 8) #[] #[]) rfl rfl rfl rfl rfl rfl (.cons rfl rfl neP (.cons rfl rfl neI .nil)) rfl ?_
 refine WV.mono (wv_f0 Try.call8 (top_putInt_ok rx12103 n1 _ _ w110 hb111 (by omega))) ?_
 rintro v121 H122 ⟨k123,w119,hb120,rfl⟩
 have n124:=KG.next k123
 have l125:=HB.le hb111 k123
 refine wo_nil (tq_n (wk ⟨[(0,vP n1 0),(6,vI rx13104)],27,[],H122⟩ rfl ?_))
 refine w_seq (w_region (mv (vP n1 0) rfl rfl ?_))
 refine mv (vI rx13104) rfl rfl ?_
 refine sc_ (H:=H122) (vs:=[vP n1 0,vI rx13104]) (fv:=.func (.func 9) #[] #[]) rfl rfl rfl rfl rfl rfl (.cons rfl rfl neP (.cons rfl rfl neI .nil)) rfl ?_
 refine WV.mono (wv_f0 Try.call9 (top_putErrno_ok rx13104 n1 _ _ w119 hb120 (by omega))) ?_
 rintro v130 H131 ⟨k132,w128,hb129,rfl⟩
 have n133:=KG.next k132
 have l134:=HB.le hb120 k132
 refine wo_nil (tq_n (wk ⟨[],27,[],H131⟩ rfl ?_))
 refine w_seq (w_region (mv (.func (.func 10) #[] #[]) rfl rfl ?_))
 refine wo_nil (tq_n (wk ⟨[(3,.func (.func 10) #[] #[])],27,[],H131⟩ rfl ?_))
 refine w_ret ?_
 exact ⟨.inr rfl,rfl,[.func (.func 10) #[] #[]],.cons (resV_tmp rfl (by simp [undef])) .nil,KG.trans (KG.trans (KG.trans (KG.keep KG.refl k107) k114) k123) k132,w128,HB.mono hb129 (by omega),rfl⟩

theorem top_callw21 {old:Array Obj} (ax1 ax2:Int) (ax3 ax4 ax5:Int) (as6:Value) (ax7 ax8:Int) (ax9 ax10:Int) (ax11 ax12:Int) (ax13 ax14:Int) (as15:Value) (ax16:Int) (hvas6:OT old.size old (.sl false [.int .i64,.int .i64,.int .i64,.int .i64,.int .i64]) as6) (hvas15:OT old.size old (.sl false [.int .i64,.int .i64]) as15):CallW Try.prog 21 old #[vI ax1,vI ax2,vI ax3,vI ax4,vI ax5,as6,vI ax7,vI ax8,vI ax9,vI ax10,vI ax11,vI ax12,vI ax13,vI ax14,as15,vI ax16]:=by
  refine callW (K:=0 + (0 * LIM + 3)) (by unfold LIM; omega) ((top_c21_ok old.size ax1 ax2 ax3 ax4 ax5 as6 ax7 ax8 ax9 ax10 ax11 ax12 ax13 ax14 as15 ax16 (old.size + 1) 0 (A0 old _) a0_wt (.old hvas6) (.old hvas15) a0_x (by rw [a0_next]; omega) (by omega) a0_hb (by unfold LIM CAP; omega)).mono ?_)
  rintro v A1 ⟨kg,w,hb,rfl⟩
  exact ⟨kg,hb,10,[],rfl,Try.call10,(top_w10_ok  (rowH A1) (rowH_wt w)  ).mono fun _ _ h => h.1⟩

theorem top_c23_ok (n0:Nat) (ax1 ax2:Int) (ax3 ax4 ax5:Int) (as6:Value) (ax7 ax8:Int) (ax9 ax10:Int) (ax11 ax12:Int) (ax13 ax14:Int) (as15:Value) (ax16:Int) (n1 k:Nat) (H:SH) (wt:WT H) (hvas6:VT H (.sl false [.int .i64,.int .i64,.int .i64,.int .i64,.int .i64]) as6) (hvas15:VT H (.sl false [.int .i64,.int .i64]) as15) (hkn0:H.get n0=some (.row #[vI ax1,vI ax2,vI ax3,vI ax4,vI ax5,as6,vI ax7,vI ax8,vI ax9,vI ax10,vI ax11,vI ax12,vI ax13,vI ax14,as15,vI ax16] .raw)) (hln0:n0 < H.next) (hne:n0 ≠ n1) (hb:HB H n1 k) (hk:k + (0 * LIM + 6) ≤ CAP):WC Try.prog 23 [vP n1 0,vP n0 0] H (fun v H' => KG n1 H H'∧WT H'∧HB H' n1 (k + (0 * LIM + 6))∧v=(.func (.func 10) #[] #[])):=by
 have hlt:=hb.lt
 refine wc_of_body Try.func23 rfl ?_
 refine wk ⟨[(0,vP n1 0),(1,vP n0 0)],29,[],H⟩ rfl ?_
 refine w_seq (w_region (mv .nilFunc rfl rfl ?_))
 refine wo_nil (tq_n (wk ⟨[(0,vP n1 0),(1,vP n0 0)],29,[],H⟩ rfl ?_))
 refine w_seq (w_region (sv (v:=vP n0 0) rfl rfl rfl (opv_fieldAddrE rfl rfl rfl Try.underlying33 rfl sz26 (by decide) rfl) rfl ?_))
 refine sv (v:=.agg #[vI ax1,vI ax2,vI ax3,vI ax4,vI ax5,as6]) rfl rfl rfl (opv_loadE rfl rfl rfl ag26 sz26 hkn0 rfl (.inl rfl) rfl) rfl ?_
 refine sv (v:=vP n0 6) rfl rfl rfl (opv_fieldAddrE rfl rfl rfl Try.underlying33 rfl sz28 (by decide) rfl) rfl ?_
 refine sv (v:=.agg #[vI ax7,vI ax8,vI ax9]) rfl rfl rfl (opv_loadE rfl rfl rfl ag28 sz28 hkn0 rfl (.inl rfl) rfl) rfl ?_
 refine sv (v:=vP n0 9) rfl rfl rfl (opv_fieldAddrE rfl rfl rfl Try.underlying33 rfl sz3 (by decide) rfl) rfl ?_
 refine sv (v:=vI ax10) rfl rfl rfl (opv_loadE rfl rfl rfl ag3 sz3 hkn0 rfl (.inr rfl) rfl) rfl ?_
 refine sv (v:=vP n0 10) rfl rfl rfl (opv_fieldAddrE rfl rfl rfl Try.underlying33 rfl sz3 (by decide) rfl) rfl ?_
 refine sv (v:=vI ax11) rfl rfl rfl (opv_loadE rfl rfl rfl ag3 sz3 hkn0 rfl (.inr rfl) rfl) rfl ?_
 refine sc_ (H:=H) (vs:=[.agg #[vI ax1,vI ax2,vI ax3,vI ax4,vI ax5,as6],.agg #[vI ax7,vI ax8,vI ax9],vI ax10,vI ax11]) (fv:=.func (.func 24) #[] #[]) rfl rfl rfl rfl rfl rfl (.cons rfl rfl (by simp [undef]) (.cons rfl rfl (by simp [undef]) (.cons rfl rfl neI (.cons rfl rfl neI .nil)))) rfl ?_
 refine WV.mono (wv_f0 Try.call24 (tide_Misses_ok ax1 ax2 ax3 ax4 ax5 as6 ax7 ax8 ax9 ax10 ax11 _ wt hvas6)) ?_
 rintro v108 H109 ⟨k110,w101,rx12102,rx13103,rx14104,rx15105,rx16106,rx17107,rfl⟩
 refine kpL k110 fun n112 l111 => ?_
 refine mv (.tuple #[.agg #[vI rx12102,vI rx13103,vI rx14104,vI rx15105],vI rx16106,vI rx17107]) rfl rfl ?_
 refine sv (v:=.agg #[vI rx12102,vI rx13103,vI rx14104,vI rx15105]) rfl rfl rfl (opv_extract rfl rfl rfl rfl) rfl ?_
 refine sv (v:=vI rx16106) rfl rfl rfl (opv_extract rfl rfl rfl rfl) rfl ?_
 refine sv (v:=vI rx17107) rfl rfl rfl (opv_extract rfl rfl rfl rfl) rfl ?_
 refine sv_new (H:=H109) (v:=vP H109.next 0) (x:=.row #[vI 0,vI 0,vI 0,vI 0] .raw) rfl rfl rfl rfl (opv_alloc rfl ze59 rfl) ?_
 intro H113 f114
 refine newL w101 f114 fun n117 w115 l116 => ?_
 refine sv_put (H:=H113) (n:=H109.next) (v:=undef) (x:=some (.row #[vI rx12102,vI rx13103,vI rx14104,vI rx15105] .raw)) rfl rfl rfl rfl (opv_storeC (u:=.agg #[vI rx12102,vI rx13103,vI rx14104,vI rx15105]) rfl rfl rfl rfl rfl (by simp [undef]) sz59 rfl rfl rfl f114.blk rfl rfl) ?_
 intro H118 f119
 refine putL w115 f119 f114.blk fun n122 w120 l121 => ?_
 refine mv (vI rx16106) rfl rfl ?_
 refine mv (vI rx17107) rfl rfl ?_
 refine wo_nil (tq_n (wk ⟨[(0,vP n1 0),(4,vP H109.next 0),(5,vI rx16106),(6,vI rx17107)],29,[],H118⟩ rfl ?_))
 refine w_seq (w_region (mv (vP n1 0) rfl rfl ?_))
 refine sv (v:=.agg #[vI rx12102,vI rx13103,vI rx14104,vI rx15105]) rfl rfl rfl (opv_loadE rfl rfl rfl ag59 sz59 f119.blk rfl (.inl rfl) rfl) rfl ?_
 refine sc_ (H:=H118) (vs:=[vP n1 0,.agg #[vI rx12102,vI rx13103,vI rx14104,vI rx15105]]) (fv:=.func (.func 25) #[] #[]) rfl rfl rfl rfl rfl rfl (.cons rfl rfl neP (.cons rfl rfl (by simp [undef]) .nil)) rfl ?_
 refine WV.mono (wv_f0 Try.call25 (top_putTdTruth_ok rx12102 rx13103 rx14104 rx15105 n1 _ _ w120 (HB.put (HB.new (HB.keep hb k110) f114) f119 f114.blk (by simp) (by omega)) (by omega))) ?_
 rintro v125 H126 ⟨k127,w123,hb124,rfl⟩
 have n128:=KG.next k127
 have l129:=HB.le (HB.put (HB.new (HB.keep hb k110) f114) f119 f114.blk (by simp) (by omega)) k127
 refine wo_nil (tq_n (wk ⟨[(0,vP n1 0),(5,vI rx16106),(6,vI rx17107)],29,[],H126⟩ rfl ?_))
 refine w_seq (w_region (mv (vP n1 0) rfl rfl ?_))
 refine mv (vI rx16106) rfl rfl ?_
 refine sc_ (H:=H126) (vs:=[vP n1 0,vI rx16106]) (fv:=.func (.func 8) #[] #[]) rfl rfl rfl rfl rfl rfl (.cons rfl rfl neP (.cons rfl rfl neI .nil)) rfl ?_
 refine WV.mono (wv_f0 Try.call8 (top_putInt_ok rx16106 n1 _ _ w123 hb124 (by omega))) ?_
 rintro v134 H135 ⟨k136,w132,hb133,rfl⟩
 have n137:=KG.next k136
 have l138:=HB.le hb124 k136
 refine wo_nil (tq_n (wk ⟨[(0,vP n1 0),(6,vI rx17107)],29,[],H135⟩ rfl ?_))
 refine w_seq (w_region (mv (vP n1 0) rfl rfl ?_))
 refine mv (vI rx17107) rfl rfl ?_
 refine sc_ (H:=H135) (vs:=[vP n1 0,vI rx17107]) (fv:=.func (.func 9) #[] #[]) rfl rfl rfl rfl rfl rfl (.cons rfl rfl neP (.cons rfl rfl neI .nil)) rfl ?_
 refine WV.mono (wv_f0 Try.call9 (top_putErrno_ok rx17107 n1 _ _ w132 hb133 (by omega))) ?_
 rintro v143 H144 ⟨k145,w141,hb142,rfl⟩
 have n146:=KG.next k145
 have l147:=HB.le hb133 k145
 refine wo_nil (tq_n (wk ⟨[],29,[],H144⟩ rfl ?_))
 refine w_seq (w_region (mv (.func (.func 10) #[] #[]) rfl rfl ?_))
 refine wo_nil (tq_n (wk ⟨[(3,.func (.func 10) #[] #[])],29,[],H144⟩ rfl ?_))
 refine w_ret ?_
 exact ⟨.inr rfl,rfl,[.func (.func 10) #[] #[]],.cons (resV_tmp rfl (by simp [undef])) .nil,KG.trans (KG.trans (KG.trans (KG.put (KG.new (KG.keep KG.refl k110) f114) f119 (by omega)) k127) k136) k145,w141,HB.mono hb142 (by omega),rfl⟩

theorem top_callw23 {old:Array Obj} (ax1 ax2:Int) (ax3 ax4 ax5:Int) (as6:Value) (ax7 ax8:Int) (ax9 ax10:Int) (ax11 ax12:Int) (ax13 ax14:Int) (as15:Value) (ax16:Int) (hvas6:OT old.size old (.sl false [.int .i64,.int .i64,.int .i64,.int .i64,.int .i64]) as6) (hvas15:OT old.size old (.sl false [.int .i64,.int .i64]) as15):CallW Try.prog 23 old #[vI ax1,vI ax2,vI ax3,vI ax4,vI ax5,as6,vI ax7,vI ax8,vI ax9,vI ax10,vI ax11,vI ax12,vI ax13,vI ax14,as15,vI ax16]:=by
  refine callW (K:=0 + (0 * LIM + 6)) (by unfold LIM; omega) ((top_c23_ok old.size ax1 ax2 ax3 ax4 ax5 as6 ax7 ax8 ax9 ax10 ax11 ax12 ax13 ax14 as15 ax16 (old.size + 1) 0 (A0 old _) a0_wt (.old hvas6) (.old hvas15) a0_x (by rw [a0_next]; omega) (by omega) a0_hb (by unfold LIM CAP; omega)).mono ?_)
  rintro v A1 ⟨kg,w,hb,rfl⟩
  exact ⟨kg,hb,10,[],rfl,Try.call10,(top_w10_ok  (rowH A1) (rowH_wt w)  ).mono fun _ _ h => h.1⟩

theorem top_c26_ok (n0:Nat) (ax1 ax2:Int) (ax3 ax4 ax5:Int) (as6:Value) (ax7 ax8:Int) (ax9 ax10:Int) (ax11 ax12:Int) (ax13 ax14:Int) (as15:Value) (ax16:Int) (n1 k:Nat) (H:SH) (wt:WT H) (hvas6:VT H (.sl false [.int .i64,.int .i64,.int .i64,.int .i64,.int .i64]) as6) (hvas15:VT H (.sl false [.int .i64,.int .i64]) as15) (hkn0:H.get n0=some (.row #[vI ax1,vI ax2,vI ax3,vI ax4,vI ax5,as6,vI ax7,vI ax8,vI ax9,vI ax10,vI ax11,vI ax12,vI ax13,vI ax14,as15,vI ax16] .raw)) (hln0:n0 < H.next) (hne:n0 ≠ n1) (hb:HB H n1 k) (hk:k + (0 * LIM + 3) ≤ CAP):WC Try.prog 26 [vP n1 0,vP n0 0] H (fun v H' => KG n1 H H'∧WT H'∧HB H' n1 (k + (0 * LIM + 3))∧v=(.func (.func 10) #[] #[])):=by
 have hlt:=hb.lt
 refine wc_of_body Try.func26 rfl ?_
 refine wk ⟨[(0,vP n1 0),(1,vP n0 0)],24,[],H⟩ rfl ?_
 refine w_seq (w_region (mv .nilFunc rfl rfl ?_))
 refine wo_nil (tq_n (wk ⟨[(0,vP n1 0),(1,vP n0 0)],24,[],H⟩ rfl ?_))
 refine w_seq (w_region (sv (v:=vP n0 0) rfl rfl rfl (opv_fieldAddrE rfl rfl rfl Try.underlying33 rfl sz26 (by decide) rfl) rfl ?_))
 refine sv (v:=.agg #[vI ax1,vI ax2,vI ax3,vI ax4,vI ax5,as6]) rfl rfl rfl (opv_loadE rfl rfl rfl ag26 sz26 hkn0 rfl (.inl rfl) rfl) rfl ?_
 refine sv (v:=vP n0 6) rfl rfl rfl (opv_fieldAddrE rfl rfl rfl Try.underlying33 rfl sz28 (by decide) rfl) rfl ?_
 refine sv (v:=.agg #[vI ax7,vI ax8,vI ax9]) rfl rfl rfl (opv_loadE rfl rfl rfl ag28 sz28 hkn0 rfl (.inl rfl) rfl) rfl ?_
 refine sv (v:=vP n0 12) rfl rfl rfl (opv_fieldAddrE rfl rfl rfl Try.underlying33 rfl sz30 (by decide) rfl) rfl ?_
 refine sv (v:=.agg #[vI ax13,vI ax14]) rfl rfl rfl (opv_loadE rfl rfl rfl ag30 sz30 hkn0 rfl (.inl rfl) rfl) rfl ?_
 refine sv (v:=vP n0 14) rfl rfl rfl (opv_fieldAddrE rfl rfl rfl Try.underlying33 rfl sz31 (by decide) rfl) rfl ?_
 refine sv (v:=as15) rfl rfl rfl (opv_loadE rfl rfl rfl ag31 sz31 hkn0 rfl (.inr rfl) rfl) rfl ?_
 refine sc_ (H:=H) (vs:=[.agg #[vI ax1,vI ax2,vI ax3,vI ax4,vI ax5,as6],.agg #[vI ax7,vI ax8,vI ax9],.agg #[vI ax13,vI ax14],as15]) (fv:=.func (.func 27) #[] #[]) rfl rfl rfl rfl rfl rfl (.cons rfl rfl (by simp [undef]) (.cons rfl rfl (by simp [undef]) (.cons rfl rfl (by simp [undef]) (.cons rfl rfl (vt_ne hvas15) .nil)))) rfl ?_
 refine WV.mono (wv_f0 Try.call27 (tide_Lies_ok ax1 ax2 ax3 ax4 ax5 as6 ax7 ax8 ax9 ax13 ax14 as15 _ wt hvas6 hvas15)) ?_
 rintro v105 H106 ⟨k107,w101,rx13102,rx14103,rx15104,rfl⟩
 refine kpL k107 fun n109 l108 => ?_
 refine mv (.tuple #[.agg #[vI rx13102,vI rx14103],vI rx15104]) rfl rfl ?_
 refine sv (v:=.agg #[vI rx13102,vI rx14103]) rfl rfl rfl (opv_extract rfl rfl rfl rfl) rfl ?_
 refine sv (v:=vI rx15104) rfl rfl rfl (opv_extract rfl rfl rfl rfl) rfl ?_
 refine sv_new (H:=H106) (v:=vP H106.next 0) (x:=.row #[vI 0,vI 0] .raw) rfl rfl rfl rfl (opv_alloc rfl ze23 rfl) ?_
 intro H110 f111
 refine newL w101 f111 fun n114 w112 l113 => ?_
 refine sv_put (H:=H110) (n:=H106.next) (v:=undef) (x:=some (.row #[vI rx13102,vI rx14103] .raw)) rfl rfl rfl rfl (opv_storeC (u:=.agg #[vI rx13102,vI rx14103]) rfl rfl rfl rfl rfl (by simp [undef]) sz23 rfl rfl rfl f111.blk rfl rfl) ?_
 intro H115 f116
 refine putL w112 f116 f111.blk fun n119 w117 l118 => ?_
 refine mv (vI rx15104) rfl rfl ?_
 refine wo_nil (tq_n (wk ⟨[(0,vP n1 0),(4,vP H106.next 0),(5,vI rx15104)],24,[],H115⟩ rfl ?_))
 refine w_seq (w_region (mv (vP n1 0) rfl rfl ?_))
 refine sv (v:=.agg #[vI rx13102,vI rx14103]) rfl rfl rfl (opv_loadE rfl rfl rfl ag23 sz23 f116.blk rfl (.inl rfl) rfl) rfl ?_
 refine sc_ (H:=H115) (vs:=[vP n1 0,.agg #[vI rx13102,vI rx14103]]) (fv:=.func (.func 13) #[] #[]) rfl rfl rfl rfl rfl rfl (.cons rfl rfl neP (.cons rfl rfl (by simp [undef]) .nil)) rfl ?_
 refine WV.mono (wv_f0 Try.call13 (top_putSpan_ok rx13102 rx14103 n1 _ _ w117 (HB.put (HB.new (HB.keep hb k107) f111) f116 f111.blk (by simp) (by omega)) (by omega))) ?_
 rintro v122 H123 ⟨k124,w120,hb121,rfl⟩
 have n125:=KG.next k124
 have l126:=HB.le (HB.put (HB.new (HB.keep hb k107) f111) f116 f111.blk (by simp) (by omega)) k124
 refine wo_nil (tq_n (wk ⟨[(0,vP n1 0),(5,vI rx15104)],24,[],H123⟩ rfl ?_))
 refine w_seq (w_region (mv (vP n1 0) rfl rfl ?_))
 refine mv (vI rx15104) rfl rfl ?_
 refine sc_ (H:=H123) (vs:=[vP n1 0,vI rx15104]) (fv:=.func (.func 9) #[] #[]) rfl rfl rfl rfl rfl rfl (.cons rfl rfl neP (.cons rfl rfl neI .nil)) rfl ?_
 refine WV.mono (wv_f0 Try.call9 (top_putErrno_ok rx15104 n1 _ _ w120 hb121 (by omega))) ?_
 rintro v131 H132 ⟨k133,w129,hb130,rfl⟩
 have n134:=KG.next k133
 have l135:=HB.le hb121 k133
 refine wo_nil (tq_n (wk ⟨[],24,[],H132⟩ rfl ?_))
 refine w_seq (w_region (mv (.func (.func 10) #[] #[]) rfl rfl ?_))
 refine wo_nil (tq_n (wk ⟨[(3,.func (.func 10) #[] #[])],24,[],H132⟩ rfl ?_))
 refine w_ret ?_
 exact ⟨.inr rfl,rfl,[.func (.func 10) #[] #[]],.cons (resV_tmp rfl (by simp [undef])) .nil,KG.trans (KG.trans (KG.put (KG.new (KG.keep KG.refl k107) f111) f116 (by omega)) k124) k133,w129,HB.mono hb130 (by omega),rfl⟩

theorem top_callw26 {old:Array Obj} (ax1 ax2:Int) (ax3 ax4 ax5:Int) (as6:Value) (ax7 ax8:Int) (ax9 ax10:Int) (ax11 ax12:Int) (ax13 ax14:Int) (as15:Value) (ax16:Int) (hvas6:OT old.size old (.sl false [.int .i64,.int .i64,.int .i64,.int .i64,.int .i64]) as6) (hvas15:OT old.size old (.sl false [.int .i64,.int .i64]) as15):CallW Try.prog 26 old #[vI ax1,vI ax2,vI ax3,vI ax4,vI ax5,as6,vI ax7,vI ax8,vI ax9,vI ax10,vI ax11,vI ax12,vI ax13,vI ax14,as15,vI ax16]:=by
  refine callW (K:=0 + (0 * LIM + 3)) (by unfold LIM; omega) ((top_c26_ok old.size ax1 ax2 ax3 ax4 ax5 as6 ax7 ax8 ax9 ax10 ax11 ax12 ax13 ax14 as15 ax16 (old.size + 1) 0 (A0 old _) a0_wt (.old hvas6) (.old hvas15) a0_x (by rw [a0_next]; omega) (by omega) a0_hb (by unfold LIM CAP; omega)).mono ?_)
  rintro v A1 ⟨kg,w,hb,rfl⟩
  exact ⟨kg,hb,10,[],rfl,Try.call10,(top_w10_ok  (rowH A1) (rowH_wt w)  ).mono fun _ _ h => h.1⟩

theorem top_c28_ok (n0:Nat) (ax1 ax2:Int) (ax3 ax4 ax5:Int) (as6:Value) (ax7 ax8:Int) (ax9 ax10:Int) (ax11 ax12:Int) (ax13 ax14:Int) (as15:Value) (ax16:Int) (n1 k:Nat) (H:SH) (wt:WT H) (hvas6:VT H (.sl false [.int .i64,.int .i64,.int .i64,.int .i64,.int .i64]) as6) (hvas15:VT H (.sl false [.int .i64,.int .i64]) as15) (hkn0:H.get n0=some (.row #[vI ax1,vI ax2,vI ax3,vI ax4,vI ax5,as6,vI ax7,vI ax8,vI ax9,vI ax10,vI ax11,vI ax12,vI ax13,vI ax14,as15,vI ax16] .raw)) (hln0:n0 < H.next) (hne:n0 ≠ n1) (hb:HB H n1 k) (hk:k + (0 * LIM + 2) ≤ CAP):WC Try.prog 28 [vP n1 0,vP n0 0] H (fun v H' => KG n1 H H'∧WT H'∧HB H' n1 (k + (0 * LIM + 2))∧v=(.func (.func 10) #[] #[])):=by
 have hlt:=hb.lt
 refine wc_of_body Try.func28 rfl ?_
 refine wk ⟨[(0,vP n1 0),(1,vP n0 0)],24,[],H⟩ rfl ?_
 refine w_seq (w_region (mv .nilFunc rfl rfl ?_))
 refine wo_nil (tq_n (wk ⟨[(0,vP n1 0),(1,vP n0 0)],24,[],H⟩ rfl ?_))
 refine w_seq (w_region (sv (v:=vP n0 0) rfl rfl rfl (opv_fieldAddrE rfl rfl rfl Try.underlying33 rfl sz26 (by decide) rfl) rfl ?_))
 refine sv (v:=.agg #[vI ax1,vI ax2,vI ax3,vI ax4,vI ax5,as6]) rfl rfl rfl (opv_loadE rfl rfl rfl ag26 sz26 hkn0 rfl (.inl rfl) rfl) rfl ?_
 refine sv (v:=vP n0 6) rfl rfl rfl (opv_fieldAddrE rfl rfl rfl Try.underlying33 rfl sz28 (by decide) rfl) rfl ?_
 refine sv (v:=.agg #[vI ax7,vI ax8,vI ax9]) rfl rfl rfl (opv_loadE rfl rfl rfl ag28 sz28 hkn0 rfl (.inl rfl) rfl) rfl ?_
 refine sv (v:=vP n0 12) rfl rfl rfl (opv_fieldAddrE rfl rfl rfl Try.underlying33 rfl sz30 (by decide) rfl) rfl ?_
 refine sv (v:=.agg #[vI ax13,vI ax14]) rfl rfl rfl (opv_loadE rfl rfl rfl ag30 sz30 hkn0 rfl (.inl rfl) rfl) rfl ?_
 refine sv (v:=vP n0 15) rfl rfl rfl (opv_fieldAddrE rfl rfl rfl Try.underlying33 rfl sz3 (by decide) rfl) rfl ?_
 refine sv (v:=vI ax16) rfl rfl rfl (opv_loadE rfl rfl rfl ag3 sz3 hkn0 rfl (.inr rfl) rfl) rfl ?_
 refine sc_ (H:=H) (vs:=[.agg #[vI ax1,vI ax2,vI ax3,vI ax4,vI ax5,as6],.agg #[vI ax7,vI ax8,vI ax9],.agg #[vI ax13,vI ax14],vI ax16]) (fv:=.func (.func 29) #[] #[]) rfl rfl rfl rfl rfl rfl (.cons rfl rfl (by simp [undef]) (.cons rfl rfl (by simp [undef]) (.cons rfl rfl (by simp [undef]) (.cons rfl rfl neI .nil)))) rfl ?_
 refine WV.mono (wv_f0 Try.call29 (tide_Later_ok ax1 ax2 ax3 ax4 ax5 as6 ax7 ax8 ax9 ax13 ax14 ax16 _ wt hvas6)) ?_
 rintro v104 H105 ⟨k106,w101,rx13102,rx14103,rfl⟩
 refine kpL k106 fun n108 l107 => ?_
 refine mv (.tuple #[vI rx13102,vI rx14103]) rfl rfl ?_
 refine sv (v:=vI rx13102) rfl rfl rfl (opv_extract rfl rfl rfl rfl) rfl ?_
 refine sv (v:=vI rx14103) rfl rfl rfl (opv_extract rfl rfl rfl rfl) rfl ?_
 refine mv (vI rx13102) rfl rfl ?_
 refine mv (vI rx14103) rfl rfl ?_
 refine wo_nil (tq_n (wk ⟨[(0,vP n1 0),(4,vI rx13102),(5,vI rx14103)],24,[],H105⟩ rfl ?_))
 refine w_seq (w_region (mv (vP n1 0) rfl rfl ?_))
 refine mv (vI rx13102) rfl rfl ?_
 refine sc_ (H:=H105) (vs:=[vP n1 0,vI rx13102]) (fv:=.func (.func 8) #[] #[]) rfl rfl rfl rfl rfl rfl (.cons rfl rfl neP (.cons rfl rfl neI .nil)) rfl ?_
 refine WV.mono (wv_f0 Try.call8 (top_putInt_ok rx13102 n1 _ _ w101 (HB.keep hb k106) (by omega))) ?_
 rintro v111 H112 ⟨k113,w109,hb110,rfl⟩
 have n114:=KG.next k113
 have l115:=HB.le (HB.keep hb k106) k113
 refine wo_nil (tq_n (wk ⟨[(0,vP n1 0),(5,vI rx14103)],24,[],H112⟩ rfl ?_))
 refine w_seq (w_region (mv (vP n1 0) rfl rfl ?_))
 refine mv (vI rx14103) rfl rfl ?_
 refine sc_ (H:=H112) (vs:=[vP n1 0,vI rx14103]) (fv:=.func (.func 9) #[] #[]) rfl rfl rfl rfl rfl rfl (.cons rfl rfl neP (.cons rfl rfl neI .nil)) rfl ?_
 refine WV.mono (wv_f0 Try.call9 (top_putErrno_ok rx14103 n1 _ _ w109 hb110 (by omega))) ?_
 rintro v120 H121 ⟨k122,w118,hb119,rfl⟩
 have n123:=KG.next k122
 have l124:=HB.le hb110 k122
 refine wo_nil (tq_n (wk ⟨[],24,[],H121⟩ rfl ?_))
 refine w_seq (w_region (mv (.func (.func 10) #[] #[]) rfl rfl ?_))
 refine wo_nil (tq_n (wk ⟨[(3,.func (.func 10) #[] #[])],24,[],H121⟩ rfl ?_))
 refine w_ret ?_
 exact ⟨.inr rfl,rfl,[.func (.func 10) #[] #[]],.cons (resV_tmp rfl (by simp [undef])) .nil,KG.trans (KG.trans (KG.keep KG.refl k106) k113) k122,w118,HB.mono hb119 (by omega),rfl⟩

theorem top_callw28 {old:Array Obj} (ax1 ax2:Int) (ax3 ax4 ax5:Int) (as6:Value) (ax7 ax8:Int) (ax9 ax10:Int) (ax11 ax12:Int) (ax13 ax14:Int) (as15:Value) (ax16:Int) (hvas6:OT old.size old (.sl false [.int .i64,.int .i64,.int .i64,.int .i64,.int .i64]) as6) (hvas15:OT old.size old (.sl false [.int .i64,.int .i64]) as15):CallW Try.prog 28 old #[vI ax1,vI ax2,vI ax3,vI ax4,vI ax5,as6,vI ax7,vI ax8,vI ax9,vI ax10,vI ax11,vI ax12,vI ax13,vI ax14,as15,vI ax16]:=by
  refine callW (K:=0 + (0 * LIM + 2)) (by unfold LIM; omega) ((top_c28_ok old.size ax1 ax2 ax3 ax4 ax5 as6 ax7 ax8 ax9 ax10 ax11 ax12 ax13 ax14 as15 ax16 (old.size + 1) 0 (A0 old _) a0_wt (.old hvas6) (.old hvas15) a0_x (by rw [a0_next]; omega) (by omega) a0_hb (by unfold LIM CAP; omega)).mono ?_)
  rintro v A1 ⟨kg,w,hb,rfl⟩
  exact ⟨kg,hb,10,[],rfl,Try.call10,(top_w10_ok  (rowH A1) (rowH_wt w)  ).mono fun _ _ h => h.1⟩

theorem top_all_ok (ax1 ax2:Int) (ax3 ax4 ax5:Int) (as6:Value) (ax7 ax8:Int) (ax9 ax10:Int) (ax11 ax12:Int) (ax13 ax14:Int) (as15:Value) (ax16:Int) (n1 k:Nat) (H:SH) (wt:WT H) (hvas6:VT H (.sl false [.int .i64,.int .i64,.int .i64,.int .i64,.int .i64]) as6) (hvas15:VT H (.sl false [.int .i64,.int .i64]) as15) (hb:HB H n1 k) (hk:k + (7 * LIM + 16) ≤ CAP):WC Try.prog 4 [.agg #[vI ax1,vI ax2,vI ax3,vI ax4,vI ax5,as6,vI ax7,vI ax8,vI ax9,vI ax10,vI ax11,vI ax12,vI ax13,vI ax14,as15,vI ax16],vP n1 0] H (fun v H' => KG n1 H H'∧WT H'∧HB H' n1 (k + (7 * LIM + 16))∧v=(.tuple #[])):=by
 have hlt:=hb.lt
 refine wc_of_body Try.func4 rfl ?_
 refine wk ⟨[(0,.agg #[vI ax1,vI ax2,vI ax3,vI ax4,vI ax5,as6,vI ax7,vI ax8,vI ax9,vI ax10,vI ax11,vI ax12,vI ax13,vI ax14,as15,vI ax16]),(1,vP n1 0)],36,[],H⟩ rfl ?_
 refine w_seq (w_region (sv_new (H:=H) (v:=vP H.next 0) (x:=.row #[vI ax1,vI ax2,vI ax3,vI ax4,vI ax5,as6,vI ax7,vI ax8,vI ax9,vI ax10,vI ax11,vI ax12,vI ax13,vI ax14,as15,vI ax16] .raw) rfl rfl rfl rfl (opv_boxE (v:=.agg #[vI ax1,vI ax2,vI ax3,vI ax4,vI ax5,as6,vI ax7,vI ax8,vI ax9,vI ax10,vI ax11,vI ax12,vI ax13,vI ax14,as15,vI ax16]) rfl rfl rfl (by simp [undef]) rfl) ?_))
 intro H101 f102
 refine newL wt f102 fun n105 w103 l104 => ?_
 refine wo_nil (tq_n (wk ⟨[(1,vP n1 0),(2,vP H.next 0)],36,[],H101⟩ rfl ?_))
 refine w_seq (w_region (mv (vP n1 0) rfl rfl ?_))
 refine sv (v:=vP H.next 0) rfl rfl rfl (opv_fieldAddrE rfl rfl rfl Try.underlying33 rfl sz26 (by decide) rfl) rfl ?_
 refine sv (v:=.agg #[vI ax1,vI ax2,vI ax3,vI ax4,vI ax5,as6]) rfl rfl rfl (opv_loadE rfl rfl rfl ag26 sz26 f102.blk rfl (.inl rfl) rfl) rfl ?_
 refine sc_ (H:=H101) (vs:=[vP n1 0,.agg #[vI ax1,vI ax2,vI ax3,vI ax4,vI ax5,as6]]) (fv:=.func (.func 32) #[] #[]) rfl rfl rfl rfl rfl rfl (.cons rfl rfl neP (.cons rfl rfl (by simp [undef]) .nil)) rfl ?_
 refine WV.mono (wv_f0 Try.call32 (top_putTdBeach_ok ax1 ax2 ax3 ax4 ax5 as6 n1 _ _ w103 (hvas6.mono l104) (HB.new hb f102) (by omega))) ?_
 rintro v108 H109 ⟨k110,w106,hb107,rfl⟩
 have n111:=KG.next k110
 have l112:=HB.le (HB.new hb f102) k110
 refine wo_nil (tq_n (wk ⟨[(1,vP n1 0),(2,vP H.next 0)],36,[],H109⟩ rfl ?_))
 refine w_seq (w_region (mv (vP n1 0) rfl rfl ?_))
 refine sv (v:=vP H.next 6) rfl rfl rfl (opv_fieldAddrE rfl rfl rfl Try.underlying33 rfl sz28 (by decide) rfl) rfl ?_
 refine sv (v:=.agg #[vI ax7,vI ax8,vI ax9]) rfl rfl rfl (opv_loadE rfl rfl rfl ag28 sz28 (KG.get k110 f102.blk (by omega) (by omega)) rfl (.inl rfl) rfl) rfl ?_
 refine sc_ (H:=H109) (vs:=[vP n1 0,.agg #[vI ax7,vI ax8,vI ax9]]) (fv:=.func (.func 33) #[] #[]) rfl rfl rfl rfl rfl rfl (.cons rfl rfl neP (.cons rfl rfl (by simp [undef]) .nil)) rfl ?_
 refine WV.mono (wv_f0 Try.call33 (top_putTdShip_ok ax7 ax8 ax9 n1 _ _ w106 hb107 (by omega))) ?_
 rintro v117 H118 ⟨k119,w115,hb116,rfl⟩
 have n120:=KG.next k119
 have l121:=HB.le hb107 k119
 refine wo_nil (tq_n (wk ⟨[(1,vP n1 0),(2,vP H.next 0)],36,[],H118⟩ rfl ?_))
 refine w_seq (w_region (mv (vP n1 0) rfl rfl ?_))
 refine sv (v:=vP H.next 9) rfl rfl rfl (opv_fieldAddrE rfl rfl rfl Try.underlying33 rfl sz3 (by decide) rfl) rfl ?_
 refine sv (v:=vI ax10) rfl rfl rfl (opv_loadE rfl rfl rfl ag3 sz3 (KG.get k119 (KG.get k110 f102.blk (by omega) (by omega)) (by omega) (by omega)) rfl (.inr rfl) rfl) rfl ?_
 refine sc_ (H:=H118) (vs:=[vP n1 0,vI ax10]) (fv:=.func (.func 8) #[] #[]) rfl rfl rfl rfl rfl rfl (.cons rfl rfl neP (.cons rfl rfl neI .nil)) rfl ?_
 refine WV.mono (wv_f0 Try.call8 (top_putInt_ok ax10 n1 _ _ w115 hb116 (by omega))) ?_
 rintro v126 H127 ⟨k128,w124,hb125,rfl⟩
 have n129:=KG.next k128
 have l130:=HB.le hb116 k128
 refine wo_nil (tq_n (wk ⟨[(1,vP n1 0),(2,vP H.next 0)],36,[],H127⟩ rfl ?_))
 refine w_seq (w_region (mv (vP n1 0) rfl rfl ?_))
 refine sv (v:=vP H.next 10) rfl rfl rfl (opv_fieldAddrE rfl rfl rfl Try.underlying33 rfl sz3 (by decide) rfl) rfl ?_
 refine sv (v:=vI ax11) rfl rfl rfl (opv_loadE rfl rfl rfl ag3 sz3 (KG.get k128 (KG.get k119 (KG.get k110 f102.blk (by omega) (by omega)) (by omega) (by omega)) (by omega) (by omega)) rfl (.inr rfl) rfl) rfl ?_
 refine sc_ (H:=H127) (vs:=[vP n1 0,vI ax11]) (fv:=.func (.func 8) #[] #[]) rfl rfl rfl rfl rfl rfl (.cons rfl rfl neP (.cons rfl rfl neI .nil)) rfl ?_
 refine WV.mono (wv_f0 Try.call8 (top_putInt_ok ax11 n1 _ _ w124 hb125 (by omega))) ?_
 rintro v135 H136 ⟨k137,w133,hb134,rfl⟩
 have n138:=KG.next k137
 have l139:=HB.le hb125 k137
 refine wo_nil (tq_n (wk ⟨[(1,vP n1 0),(2,vP H.next 0)],36,[],H136⟩ rfl ?_))
 refine w_seq (w_region (mv (vP n1 0) rfl rfl ?_))
 refine sv (v:=vP H.next 11) rfl rfl rfl (opv_fieldAddrE rfl rfl rfl Try.underlying33 rfl sz3 (by decide) rfl) rfl ?_
 refine sv (v:=vI ax12) rfl rfl rfl (opv_loadE rfl rfl rfl ag3 sz3 (KG.get k137 (KG.get k128 (KG.get k119 (KG.get k110 f102.blk (by omega) (by omega)) (by omega) (by omega)) (by omega) (by omega)) (by omega) (by omega)) rfl (.inr rfl) rfl) rfl ?_
 refine sc_ (H:=H136) (vs:=[vP n1 0,vI ax12]) (fv:=.func (.func 8) #[] #[]) rfl rfl rfl rfl rfl rfl (.cons rfl rfl neP (.cons rfl rfl neI .nil)) rfl ?_
 refine WV.mono (wv_f0 Try.call8 (top_putInt_ok ax12 n1 _ _ w133 hb134 (by omega))) ?_
 rintro v144 H145 ⟨k146,w142,hb143,rfl⟩
 have n147:=KG.next k146
 have l148:=HB.le hb134 k146
 refine wo_nil (tq_n (wk ⟨[(1,vP n1 0),(2,vP H.next 0)],36,[],H145⟩ rfl ?_))
 refine w_seq (w_region (mv (vP n1 0) rfl rfl ?_))
 refine sv (v:=vP H.next 12) rfl rfl rfl (opv_fieldAddrE rfl rfl rfl Try.underlying33 rfl sz30 (by decide) rfl) rfl ?_
 refine sv (v:=.agg #[vI ax13,vI ax14]) rfl rfl rfl (opv_loadE rfl rfl rfl ag30 sz30 (KG.get k146 (KG.get k137 (KG.get k128 (KG.get k119 (KG.get k110 f102.blk (by omega) (by omega)) (by omega) (by omega)) (by omega) (by omega)) (by omega) (by omega)) (by omega) (by omega)) rfl (.inl rfl) rfl) rfl ?_
 refine sc_ (H:=H145) (vs:=[vP n1 0,.agg #[vI ax13,vI ax14]]) (fv:=.func (.func 34) #[] #[]) rfl rfl rfl rfl rfl rfl (.cons rfl rfl neP (.cons rfl rfl (by simp [undef]) .nil)) rfl ?_
 refine WV.mono (wv_f0 Try.call34 (top_putTdPull_ok ax13 ax14 n1 _ _ w142 hb143 (by omega))) ?_
 rintro v153 H154 ⟨k155,w151,hb152,rfl⟩
 have n156:=KG.next k155
 have l157:=HB.le hb143 k155
 refine wo_nil (tq_n (wk ⟨[(1,vP n1 0),(2,vP H.next 0)],36,[],H154⟩ rfl ?_))
 refine w_seq (w_region (mv (vP n1 0) rfl rfl ?_))
 refine sv (v:=vP H.next 14) rfl rfl rfl (opv_fieldAddrE rfl rfl rfl Try.underlying33 rfl sz31 (by decide) rfl) rfl ?_
 refine sv (v:=as15) rfl rfl rfl (opv_loadE rfl rfl rfl ag31 sz31 (KG.get k155 (KG.get k146 (KG.get k137 (KG.get k128 (KG.get k119 (KG.get k110 f102.blk (by omega) (by omega)) (by omega) (by omega)) (by omega) (by omega)) (by omega) (by omega)) (by omega) (by omega)) (by omega) (by omega)) rfl (.inr rfl) rfl) rfl ?_
 refine sc_ (H:=H154) (vs:=[vP n1 0,as15]) (fv:=.func (.func 35) #[] #[]) rfl rfl rfl rfl rfl rfl (.cons rfl rfl neP (.cons rfl rfl (vt_ne (hvas15.mono ((((((l104.trans l112).trans l121).trans l130).trans l139).trans l148).trans l157))) .nil)) rfl ?_
 refine WV.mono (wv_f0 Try.call35 (top_putTdPulls_ok as15 n1 _ _ w151 (hvas15.mono ((((((l104.trans l112).trans l121).trans l130).trans l139).trans l148).trans l157)) hb152 (by omega))) ?_
 rintro v162 H163 ⟨k164,w160,hb161,rfl⟩
 have n165:=KG.next k164
 have l166:=HB.le hb152 k164
 refine wo_nil (tq_n (wk ⟨[(1,vP n1 0),(2,vP H.next 0)],36,[],H163⟩ rfl ?_))
 refine w_region (mv (vP n1 0) rfl rfl ?_)
 refine sv (v:=vP H.next 15) rfl rfl rfl (opv_fieldAddrE rfl rfl rfl Try.underlying33 rfl sz3 (by decide) rfl) rfl ?_
 refine sv (v:=vI ax16) rfl rfl rfl (opv_loadE rfl rfl rfl ag3 sz3 (KG.get k164 (KG.get k155 (KG.get k146 (KG.get k137 (KG.get k128 (KG.get k119 (KG.get k110 f102.blk (by omega) (by omega)) (by omega) (by omega)) (by omega) (by omega)) (by omega) (by omega)) (by omega) (by omega)) (by omega) (by omega)) (by omega) (by omega)) rfl (.inr rfl) rfl) rfl ?_
 refine sc_ (H:=H163) (vs:=[vP n1 0,vI ax16]) (fv:=.func (.func 8) #[] #[]) rfl rfl rfl rfl rfl rfl (.cons rfl rfl neP (.cons rfl rfl neI .nil)) rfl ?_
 refine WV.mono (wv_f0 Try.call8 (top_putInt_ok ax16 n1 _ _ w160 hb161 (by omega))) ?_
 rintro v171 H172 ⟨k173,w169,hb170,rfl⟩
 have n174:=KG.next k173
 have l175:=HB.le hb161 k173
 refine wo_nil ?_
 exact ⟨.inl rfl,rfl,[],.nil,KG.trans (KG.trans (KG.trans (KG.trans (KG.trans (KG.trans (KG.trans (KG.trans (KG.new KG.refl f102) k110) k119) k128) k137) k146) k155) k164) k173,w169,HB.mono hb170 (by omega),rfl⟩

theorem top_allw {old:Array Obj} (ax1 ax2:Int) (ax3 ax4 ax5:Int) (as6:Value) (ax7 ax8:Int) (ax9 ax10:Int) (ax11 ax12:Int) (ax13 ax14:Int) (as15:Value) (ax16:Int) (hvas6:OT old.size old (.sl false [.int .i64,.int .i64,.int .i64,.int .i64,.int .i64]) as6) (hvas15:OT old.size old (.sl false [.int .i64,.int .i64]) as15):AllW Try.prog 4 old #[vI ax1,vI ax2,vI ax3,vI ax4,vI ax5,as6,vI ax7,vI ax8,vI ax9,vI ax10,vI ax11,vI ax12,vI ax13,vI ax14,as15,vI ax16]:=by
  exact allW (K:=0 + (7 * LIM + 16)) (by unfold LIM; omega) ((top_all_ok ax1 ax2 ax3 ax4 ax5 as6 ax7 ax8 ax9 ax10 ax11 ax12 ax13 ax14 as15 ax16 (old.size + 1) 0 (A0 old _) a0_wt (.old hvas6) (.old hvas15) a0_hb (by unfold LIM CAP; omega)).mono fun _ _ h => ⟨h.1,h.2.2.1⟩)
end Go.Proofs.Orl

namespace Go.Proofs.Orl
open Go
set_option maxRecDepth 10000
set_option maxHeartbeats 4000000
theorem ag9:aggT Try.prog 9=some false:=by kernel_rfl
theorem ag35:aggT Try.prog 35=some false:=by kernel_rfl
theorem ag37:aggT Try.prog 37=some true:=by kernel_rfl
theorem sz9:szT Try.prog 9=some 1:=by kernel_rfl
theorem sz35:szT Try.prog 35=some 1:=by kernel_rfl
theorem sz37:szT Try.prog 37=some 2:=by kernel_rfl
theorem ze37:zeroT Try.prog 37=some (.agg #[.slice none 0 0,.slice none 0 0]):=by kernel_rfl
theorem top_same_ok (s1 s2:Value) (t1 t2:Value) (c1:Array Value) (c2:Array Value) (H:SH) (wt:WT H) (hcs1:CV H false s1 c1) (hcs2:CV H true s2 c2) (hct1:CV H false t1 c1) (hct2:CV H true t2 c2):WC Try.prog 30 [.agg #[s1,s2],.agg #[t1,t2]] H (fun v H' => Keep H H'∧WT H'∧v=(.bool true)):=by
 refine wc_of_body Try.func30 rfl ?_
 have hsz1:=hcs1.1.1
 have hsz2:=hcs2.1.1
 refine wk ⟨[(0,.agg #[s1,s2]),(1,.agg #[t1,t2])],59,[],H⟩ rfl ?_
 refine w_seq (w_region (sv_new (H:=H) (v:=vP H.next 0) (x:=.row #[s1,s2] .raw) rfl rfl rfl rfl (opv_boxE (v:=.agg #[s1,s2]) rfl rfl rfl (by simp [undef]) rfl) ?_))
 intro H101 f102
 refine newL wt f102 fun n105 w103 l104 => ?_
 refine sv_new (H:=H101) (v:=vP H101.next 0) (x:=.row #[t1,t2] .raw) rfl rfl rfl rfl (opv_boxE (v:=.agg #[t1,t2]) rfl rfl rfl (by simp [undef]) rfl) ?_
 intro H106 f107
 refine newL w103 f107 fun n110 w108 l109 => ?_
 refine mv (.bool false) rfl rfl ?_
 refine wo_nil (tq_n (wk ⟨[(2,vP H.next 0),(3,vP H101.next 0)],59,[],H106⟩ rfl ?_))
 refine w_seq (w_seq (w_region (sv (v:=vP H.next 0) rfl rfl rfl (opv_fieldAddrE rfl rfl rfl Try.underlying37 rfl sz34 (by decide) rfl) rfl ?_)))
 refine sv (v:=s1) rfl rfl rfl (opv_loadE rfl rfl rfl ag34 sz34 ((f107.get H.next (by omega)).trans f102.blk) rfl (.inr rfl) rfl) rfl ?_
 refine sv (v:=(vI (c1.size:Int))) rfl rfl rfl (cv_len (CV.keep hcs1 (f102.keep.trans f107.keep)) rfl rfl rfl Try.underlying34) rfl ?_
 refine sv (v:=vP H101.next 0) rfl rfl rfl (opv_fieldAddrE rfl rfl rfl Try.underlying37 rfl sz34 (by decide) rfl) rfl ?_
 refine sv (v:=t1) rfl rfl rfl (opv_loadE rfl rfl rfl ag34 sz34 f107.blk rfl (.inr rfl) rfl) rfl ?_
 refine sv (v:=(vI (c1.size:Int))) rfl rfl rfl (cv_len (CV.keep hct1 (f102.keep.trans f107.keep)) rfl rfl rfl Try.underlying34) rfl ?_
 refine sv (v:=.bool false) rfl rfl rfl (opv_bin rfl rfl rfl rfl rfl (neF rfl)) rfl ?_
 refine mv (.bool false) rfl rfl ?_
 refine sv (v:=vP H.next 1) rfl (wants_g rfl rfl rfl rfl rfl) rfl (opv_fieldAddrE rfl rfl rfl Try.underlying37 rfl sz35 (by decide) rfl) rfl ?_
 refine sv (v:=s2) rfl (wants_g rfl rfl rfl rfl rfl) rfl (opv_loadE rfl rfl rfl ag35 sz35 ((f107.get H.next (by omega)).trans f102.blk) rfl (.inr rfl) rfl) rfl ?_
 refine sv (v:=(vI (c2.size:Int))) rfl (wants_g rfl rfl rfl rfl rfl) rfl (cv_len (CV.keep hcs2 (f102.keep.trans f107.keep)) rfl rfl rfl Try.underlying35) rfl ?_
 refine sv (v:=vP H101.next 1) rfl (wants_g rfl rfl rfl rfl rfl) rfl (opv_fieldAddrE rfl rfl rfl Try.underlying37 rfl sz35 (by decide) rfl) rfl ?_
 refine sv (v:=t2) rfl (wants_g rfl rfl rfl rfl rfl) rfl (opv_loadE rfl rfl rfl ag35 sz35 f107.blk rfl (.inr rfl) rfl) rfl ?_
 refine sv (v:=(vI (c2.size:Int))) rfl (wants_g rfl rfl rfl rfl rfl) rfl (cv_len (CV.keep hct2 (f102.keep.trans f107.keep)) rfl rfl rfl Try.underlying35) rfl ?_
 refine sv (v:=.bool false) rfl (wants_g rfl rfl rfl rfl rfl) rfl (opv_bin rfl rfl rfl rfl rfl (neF rfl)) rfl ?_
 refine sv (v:=.bool false) rfl rfl rfl (opv_pick (b:=false) rfl rfl rfl rfl rfl rfl) rfl ?_
 refine wo_nil (tq_n (wk ⟨[(2,vP H.next 0),(3,vP H101.next 0),(22,.bool false)],59,[],H106⟩ rfl ?_))
 refine w_cond (t:=false) rfl rfl (fun h => by cases h) (fun _ => ?_)
 refine w_skip (tq_n (wk ⟨[(2,vP H.next 0),(3,vP H101.next 0)],59,[],H106⟩ rfl ?_))
 refine w_seq (w_seq (w_region (mv (vI 0) rfl rfl ?_)))
 refine wo_nil (tq_n (wk ⟨[(2,vP H.next 0),(3,vP H101.next 0),(5,vI 0)],59,[],H106⟩ rfl ?_))
 refine w_block (w_loopS (fun m118 s119 => ∃ (x111:Int) (H112:SH),(0 ≤ x111)∧(x111 ≤ (c1.size:Int))∧WT H112∧Le H106 H112∧KeepX (fun _ => False) H106 H112∧m118=((c1.size:Int) - x111).toNat∧s119=⟨[(2,vP H.next 0),(3,vP H101.next 0),(5,vI x111)],59,[],H112⟩) (n:=((c1.size:Int) - 0).toNat) ⟨⟨[(2,vP H.next 0),(3,vP H101.next 0),(5,vI 0)],59,[],H106⟩,subk rfl,0,H106,by omega,by omega,w108,Le.refl _,KeepX.refl (fun _ => False) H106,rfl,rfl⟩ ?_)
 rintro m118 s119 ⟨x111,H112,i113,i114,w115,l116,k117,rfl,rfl⟩
 have n120:=k117.next
 refine w_seq (w_seq (w_region (mv (vI x111) rfl rfl ?_)))
 refine sv (v:=vP H.next 0) rfl rfl rfl (opv_fieldAddrE rfl rfl rfl Try.underlying37 rfl sz34 (by decide) rfl) rfl ?_
 refine sv (v:=s1) rfl rfl rfl (opv_loadE rfl rfl rfl ag34 sz34 ((k117.get H.next (by omega) id).trans ((f107.get H.next (by omega)).trans f102.blk)) rfl (.inr rfl) rfl) rfl ?_
 refine sv (v:=(vI (c1.size:Int))) rfl rfl rfl (cv_len (CV.keep hcs1 (((((KeepX.refl (fun _ => False) H).new_ f102).new_ f107).trans k117 (fun _ h => h.elim)).k (fun _ h => h.elim))) rfl rfl rfl Try.underlying34) rfl ?_
 by_cases c121:x111 < (c1.size:Int)
 ·
  refine sv (v:=.bool true) rfl rfl rfl (opv_bin rfl rfl rfl rfl rfl (cmpT rfl c121)) rfl ?_
  refine wo_nil (tq_n (wk ⟨[(2,vP H.next 0),(3,vP H101.next 0),(5,vI x111),(27,.bool true)],59,[],H112⟩ rfl ?_))
  refine w_cond (t:=true) rfl rfl (fun _ => ?_) (fun h => by cases h)
  refine w_skip (tq_n (wk ⟨[(2,vP H.next 0),(3,vP H101.next 0),(5,vI x111)],59,[],H112⟩ rfl ?_))
  refine w_seq (w_block (w_seq (w_draw_start ?_)))
  intro C0
  have C122:=ch_val (i:=0) (p:=0) (ks:=[2]) (v:=vP H.next 0) (A:=H112) (H:=H112) C0 rfl rfl rfl rfl rfl rfl (opv_fieldAddrE rfl rfl rfl Try.underlying37 rfl sz34 (by decide) rfl)
  have C123:=ch_val (i:=1) (p:=0) (ks:=[30]) (v:=s1) (A:=H112) (H:=H112) C122 rfl rfl rfl rfl rfl rfl (opv_loadE rfl rfl rfl ag34 sz34 ((k117.get H.next (by omega) id).trans ((f107.get H.next (by omega)).trans f102.blk)) rfl (.inr rfl) rfl)
  have C124:=ch_val (i:=2) (p:=0) (ks:=[5]) (v:=vI x111) (A:=H112) (H:=H112) C123 rfl rfl rfl rfl rfl rfl (opv_move (.inl rfl) rfl rfl)
  have C125:=ch_val (i:=3) (p:=0) (ks:=[31,32]) (v:=.pointer (some ⟨snm s1,Int.toNat x111,none⟩)) (A:=H112) (H:=H112) C124 rfl rfl rfl rfl rfl rfl (cv_index (CV.keep hcs1 (((((KeepX.refl (fun _ => False) H).new_ f102).new_ f107).trans k117 (fun _ h => h.elim)).k (fun _ h => h.elim))) rfl rfl rfl rfl rfl Try.underlying34 sz3 (by omega) (by omega))
  obtain ⟨x126,h127⟩:=lv_int (hcs1.1.2 (Int.toNat x111) (by omega))
  have C128:=ch_val (i:=4) (p:=0) (ks:=[33]) (v:=vI x126) (A:=H112) (H:=H112) C125 rfl rfl rfl rfl rfl rfl (cv_loadE (CV.keep hcs1 (((((KeepX.refl (fun _ => False) H).new_ f102).new_ f107).trans k117 (fun _ h => h.elim)).k (fun _ h => h.elim))) h127 (by omega) rfl rfl rfl rfl ag3 sz3)
  have C129:=ch_val (i:=5) (p:=0) (ks:=[3]) (v:=vP H101.next 0) (A:=H112) (H:=H112) C128 rfl rfl rfl rfl rfl rfl (opv_fieldAddrE rfl rfl rfl Try.underlying37 rfl sz34 (by decide) rfl)
  have C130:=ch_val (i:=6) (p:=0) (ks:=[35]) (v:=t1) (A:=H112) (H:=H112) C129 rfl rfl rfl rfl rfl rfl (opv_loadE rfl rfl rfl ag34 sz34 ((k117.get H101.next (by omega) id).trans f107.blk) rfl (.inr rfl) rfl)
  have C131:=ch_val (i:=7) (p:=0) (ks:=[5]) (v:=vI x111) (A:=H112) (H:=H112) C130 rfl rfl rfl rfl rfl rfl (opv_move (.inl rfl) rfl rfl)
  have C132:=ch_val (i:=8) (p:=0) (ks:=[36,37]) (v:=.pointer (some ⟨snm t1,Int.toNat x111,none⟩)) (A:=H112) (H:=H112) C131 rfl rfl rfl rfl rfl rfl (cv_index (CV.keep hct1 (((((KeepX.refl (fun _ => False) H).new_ f102).new_ f107).trans k117 (fun _ h => h.elim)).k (fun _ h => h.elim))) rfl rfl rfl rfl rfl Try.underlying34 sz3 (by omega) (by omega))
  have C133:=ch_val (i:=9) (p:=0) (ks:=[38]) (v:=vI x126) (A:=H112) (H:=H112) C132 rfl rfl rfl rfl rfl rfl (cv_loadE (CV.keep hct1 (((((KeepX.refl (fun _ => False) H).new_ f102).new_ f107).trans k117 (fun _ h => h.elim)).k (fun _ h => h.elim))) h127 (by omega) rfl rfl rfl rfl ag3 sz3)
  refine w_draw (tl:=[10]) rfl [0,1,0,7,15,0,32,0,224,480,1023] C133 (by kernel_rfl) (by kernel_rfl) ?_
  refine wonorm (g:=[(2,vP H.next 0),(3,vP H101.next 0),(5,vI x111),(34,vI x126),(39,vI x126)]) (n:=59) (ds:=[]) (H:=H112) (lsub_cons rfl (lsub_cons rfl (lsub_cons rfl (lsub_cons rfl (lsub_cons rfl (lsub_nil _)))))) rfl rfl rfl ?_
  refine sv (v:=.bool false) rfl rfl rfl (opv_bin rfl rfl rfl rfl rfl (neF rfl)) rfl ?_
  refine wo_nil (tq_n (wk ⟨[(2,vP H.next 0),(3,vP H101.next 0),(5,vI x111),(40,.bool false)],59,[],H112⟩ rfl ?_))
  refine w_cond (t:=false) rfl rfl (fun h => by cases h) (fun _ => ?_)
  refine w_skip ?_
  try refine q_eq (e':=.normal) rfl ?_
  refine tqk ⟨[(2,vP H.next 0),(3,vP H101.next 0),(5,vI x111)],59,[],H112⟩ rfl ?_
  refine w_region (mv (vI x111) rfl rfl ?_)
  refine sv_int rfl rfl rfl (opv_bin rfl rfl rfl rfl rfl rfl) ?_
  intro x134 h135
  try replace h135:x134=x111 + 1:=wr_ex h135 (by omega) (by omega)
  refine mv (vI x134) rfl rfl ?_
  refine wo_nil ?_
  refine tq_n ⟨((c1.size:Int) - x134).toNat,by omega,⟨[(2,vP H.next 0),(3,vP H101.next 0),(5,vI x134)],59,[],H112⟩,subk rfl,x134,H112,by omega,by omega,w115,l116,(KeepX.refl (fun _ => False) H106).trans k117 (fun _ h => h.elim),rfl,rfl⟩
 ·
  refine sv (v:=.bool false) rfl rfl rfl (opv_bin rfl rfl rfl rfl rfl (cmpF rfl c121)) rfl ?_
  refine wo_nil (tq_n (wk ⟨[(2,vP H.next 0),(3,vP H101.next 0),(5,vI x111),(27,.bool false)],59,[],H112⟩ rfl ?_))
  refine w_cond (t:=false) rfl rfl (fun h => by cases h) (fun _ => ?_)
  refine w_exit (tq_e (tq_e ?_))
  try refine q_eq (e':=.normal) rfl ?_
  refine tqk ⟨[(2,vP H.next 0),(3,vP H101.next 0)],59,[],H112⟩ rfl ?_
  refine w_seq (w_seq (w_region (mv (vI 0) rfl rfl ?_)))
  refine wo_nil (tq_n (wk ⟨[(2,vP H.next 0),(3,vP H101.next 0),(6,vI 0)],59,[],H112⟩ rfl ?_))
  refine w_block (w_loopS (fun m143 s144 => ∃ (x136:Int) (H137:SH),(0 ≤ x136)∧(x136 ≤ (c2.size:Int))∧WT H137∧Le H112 H137∧KeepX (fun _ => False) H112 H137∧m143=((c2.size:Int) - x136).toNat∧s144=⟨[(2,vP H.next 0),(3,vP H101.next 0),(6,vI x136)],59,[],H137⟩) (n:=((c2.size:Int) - 0).toNat) ⟨⟨[(2,vP H.next 0),(3,vP H101.next 0),(6,vI 0)],59,[],H112⟩,subk rfl,0,H112,by omega,by omega,w115,Le.refl _,KeepX.refl (fun _ => False) H112,rfl,rfl⟩ ?_)
  rintro m143 s144 ⟨x136,H137,i138,i139,w140,l141,k142,rfl,rfl⟩
  have n145:=k142.next
  refine w_seq (w_seq (w_region (mv (vI x136) rfl rfl ?_)))
  refine sv (v:=vP H.next 1) rfl rfl rfl (opv_fieldAddrE rfl rfl rfl Try.underlying37 rfl sz35 (by decide) rfl) rfl ?_
  refine sv (v:=s2) rfl rfl rfl (opv_loadE rfl rfl rfl ag35 sz35 ((k142.get H.next (by omega) id).trans ((k117.get H.next (by omega) id).trans ((f107.get H.next (by omega)).trans f102.blk))) rfl (.inr rfl) rfl) rfl ?_
  refine sv (v:=(vI (c2.size:Int))) rfl rfl rfl (cv_len (CV.keep hcs2 ((((((KeepX.refl (fun _ => False) H).new_ f102).new_ f107).trans k117 (fun _ h => h.elim)).trans k142 (fun _ h => h.elim)).k (fun _ h => h.elim))) rfl rfl rfl Try.underlying35) rfl ?_
  by_cases c146:x136 < (c2.size:Int)
  ·
   refine sv (v:=.bool true) rfl rfl rfl (opv_bin rfl rfl rfl rfl rfl (cmpT rfl c146)) rfl ?_
   refine wo_nil (tq_n (wk ⟨[(2,vP H.next 0),(3,vP H101.next 0),(6,vI x136),(45,.bool true)],59,[],H137⟩ rfl ?_))
   refine w_cond (t:=true) rfl rfl (fun _ => ?_) (fun h => by cases h)
   refine w_skip (tq_n (wk ⟨[(2,vP H.next 0),(3,vP H101.next 0),(6,vI x136)],59,[],H137⟩ rfl ?_))
   refine w_seq (w_block (w_seq (w_draw_start ?_)))
   intro C0
   have C147:=ch_val (i:=0) (p:=0) (ks:=[2]) (v:=vP H.next 1) (A:=H137) (H:=H137) C0 rfl rfl rfl rfl rfl rfl (opv_fieldAddrE rfl rfl rfl Try.underlying37 rfl sz35 (by decide) rfl)
   have C148:=ch_val (i:=1) (p:=0) (ks:=[48]) (v:=s2) (A:=H137) (H:=H137) C147 rfl rfl rfl rfl rfl rfl (opv_loadE rfl rfl rfl ag35 sz35 ((k142.get H.next (by omega) id).trans ((k117.get H.next (by omega) id).trans ((f107.get H.next (by omega)).trans f102.blk))) rfl (.inr rfl) rfl)
   have C149:=ch_val (i:=2) (p:=0) (ks:=[6]) (v:=vI x136) (A:=H137) (H:=H137) C148 rfl rfl rfl rfl rfl rfl (opv_move (.inl rfl) rfl rfl)
   have C150:=ch_val (i:=3) (p:=0) (ks:=[49,50]) (v:=.pointer (some ⟨snm s2,Int.toNat x136,none⟩)) (A:=H137) (H:=H137) C149 rfl rfl rfl rfl rfl rfl (cv_index (CV.keep hcs2 ((((((KeepX.refl (fun _ => False) H).new_ f102).new_ f107).trans k117 (fun _ h => h.elim)).trans k142 (fun _ h => h.elim)).k (fun _ h => h.elim))) rfl rfl rfl rfl rfl Try.underlying35 sz9 (by omega) (by omega))
   obtain ⟨t151,h152⟩:=lv_str (hcs2.1.2 (Int.toNat x136) (by omega))
   have C153:=ch_val (i:=4) (p:=0) (ks:=[51]) (v:=.string t151) (A:=H137) (H:=H137) C150 rfl rfl rfl rfl rfl rfl (cv_loadE (CV.keep hcs2 ((((((KeepX.refl (fun _ => False) H).new_ f102).new_ f107).trans k117 (fun _ h => h.elim)).trans k142 (fun _ h => h.elim)).k (fun _ h => h.elim))) h152 (by omega) rfl rfl rfl rfl ag9 sz9)
   have C154:=ch_val (i:=5) (p:=0) (ks:=[3]) (v:=vP H101.next 1) (A:=H137) (H:=H137) C153 rfl rfl rfl rfl rfl rfl (opv_fieldAddrE rfl rfl rfl Try.underlying37 rfl sz35 (by decide) rfl)
   have C155:=ch_val (i:=6) (p:=0) (ks:=[53]) (v:=t2) (A:=H137) (H:=H137) C154 rfl rfl rfl rfl rfl rfl (opv_loadE rfl rfl rfl ag35 sz35 ((k142.get H101.next (by omega) id).trans ((k117.get H101.next (by omega) id).trans f107.blk)) rfl (.inr rfl) rfl)
   have C156:=ch_val (i:=7) (p:=0) (ks:=[6]) (v:=vI x136) (A:=H137) (H:=H137) C155 rfl rfl rfl rfl rfl rfl (opv_move (.inl rfl) rfl rfl)
   have C157:=ch_val (i:=8) (p:=0) (ks:=[54,55]) (v:=.pointer (some ⟨snm t2,Int.toNat x136,none⟩)) (A:=H137) (H:=H137) C156 rfl rfl rfl rfl rfl rfl (cv_index (CV.keep hct2 ((((((KeepX.refl (fun _ => False) H).new_ f102).new_ f107).trans k117 (fun _ h => h.elim)).trans k142 (fun _ h => h.elim)).k (fun _ h => h.elim))) rfl rfl rfl rfl rfl Try.underlying35 sz9 (by omega) (by omega))
   have C158:=ch_val (i:=9) (p:=0) (ks:=[56]) (v:=.string t151) (A:=H137) (H:=H137) C157 rfl rfl rfl rfl rfl rfl (cv_loadE (CV.keep hct2 ((((((KeepX.refl (fun _ => False) H).new_ f102).new_ f107).trans k117 (fun _ h => h.elim)).trans k142 (fun _ h => h.elim)).k (fun _ h => h.elim))) h152 (by omega) rfl rfl rfl rfl ag9 sz9)
   refine w_draw (tl:=[10]) rfl [0,1,0,7,15,0,32,0,224,480,1023] C158 (by kernel_rfl) (by kernel_rfl) ?_
   refine wonorm (g:=[(2,vP H.next 0),(3,vP H101.next 0),(6,vI x136),(52,.string t151),(57,.string t151)]) (n:=59) (ds:=[]) (H:=H137) (lsub_cons rfl (lsub_cons rfl (lsub_cons rfl (lsub_cons rfl (lsub_cons rfl (lsub_nil _)))))) rfl rfl rfl ?_
   refine sv (v:=.bool false) rfl rfl rfl (opv_neStrS rfl rfl rfl rfl rfl) rfl ?_
   refine wo_nil (tq_n (wk ⟨[(2,vP H.next 0),(3,vP H101.next 0),(6,vI x136),(58,.bool false)],59,[],H137⟩ rfl ?_))
   refine w_cond (t:=false) rfl rfl (fun h => by cases h) (fun _ => ?_)
   refine w_skip ?_
   try refine q_eq (e':=.normal) rfl ?_
   refine tqk ⟨[(2,vP H.next 0),(3,vP H101.next 0),(6,vI x136)],59,[],H137⟩ rfl ?_
   refine w_region (mv (vI x136) rfl rfl ?_)
   refine sv_int rfl rfl rfl (opv_bin rfl rfl rfl rfl rfl rfl) ?_
   intro x159 h160
   try replace h160:x159=x136 + 1:=wr_ex h160 (by omega) (by omega)
   refine mv (vI x159) rfl rfl ?_
   refine wo_nil ?_
   refine tq_n ⟨((c2.size:Int) - x159).toNat,by omega,⟨[(2,vP H.next 0),(3,vP H101.next 0),(6,vI x159)],59,[],H137⟩,subk rfl,x159,H137,by omega,by omega,w140,l141,(KeepX.refl (fun _ => False) H112).trans k142 (fun _ h => h.elim),rfl,rfl⟩
  ·
   refine sv (v:=.bool false) rfl rfl rfl (opv_bin rfl rfl rfl rfl rfl (cmpF rfl c146)) rfl ?_
   refine wo_nil (tq_n (wk ⟨[(2,vP H.next 0),(3,vP H101.next 0),(6,vI x136),(45,.bool false)],59,[],H137⟩ rfl ?_))
   refine w_cond (t:=false) rfl rfl (fun h => by cases h) (fun _ => ?_)
   refine w_exit (tq_e (tq_e ?_))
   try refine q_eq (e':=.normal) rfl ?_
   refine tqk ⟨[],59,[],H137⟩ rfl ?_
   refine w_seq (w_region (mv (.bool true) rfl rfl ?_))
   refine wo_nil (tq_n (wk ⟨[(4,.bool true)],59,[],H137⟩ rfl ?_))
   refine w_ret ?_
   refine ⟨.inr rfl,rfl,[.bool true],.cons (resV_tmp rfl (by simp [undef])) .nil,(((((KeepX.refl (fun _ => False) H).new_ f102).new_ f107).trans k117 (fun _ h => h.elim)).trans k142 (fun _ h => h.elim)).k (fun _ h => h.elim),w140,rfl⟩

theorem top_again_ok {old:Array Obj} {xr:Array Value} {kf:Nat} (hkf : ∀ args w,(callFunc kf args).run Try.prog w=.ok (.enter kf args) w) (hx:OldR old xr) (hc:CallW Try.prog kf old xr) (nx:Nat) (H:SH) (wt:WT H) (ho:H.old=old) (h1:H.get nx=some (.row xr .raw)) (b1:old.size ≤ nx) (l1:nx < H.next) (v1:H.live nx):WC Try.prog 5 [.func (.func kf) #[] #[vP nx 0]] H (fun v H' => Keep H H'∧WT H'∧v=(.bool true)):=by
 have hB0:old.size ≤ H.next:=by have:=wt.base; unfold SH.B at this; rw [ho] at this; exact this
 refine wc_of_body Try.func5 rfl ?_
 refine wk ⟨[(0,.func (.func kf) #[] #[vP nx 0])],15,[],H⟩ rfl ?_
 refine w_seq (w_region (mv (.bool false) rfl rfl ?_))
 refine wo_nil (tq_n (wk ⟨[(0,.func (.func kf) #[] #[vP nx 0])],15,[],H⟩ rfl ?_))
 refine w_seq (w_region (sv_new (H:=H) (v:=vP H.next 0) (x:=.row #[.slice none 0 0,.slice none 0 0] .raw) rfl rfl rfl rfl (opv_alloc rfl ze37 rfl) ?_))
 intro H101 f102
 refine newL wt f102 fun n105 w103 l104 => ?_
 refine sv_new (H:=H101) (v:=vP H101.next 0) (x:=.row #[.slice none 0 0,.slice none 0 0] .raw) rfl rfl rfl rfl (opv_alloc rfl ze37 rfl) ?_
 intro H106 f107
 refine newL w103 f107 fun n110 w108 l109 => ?_
 refine wo_nil (tq_n (wk ⟨[(0,.func (.func kf) #[] #[vP nx 0]),(3,vP H.next 0),(4,vP H101.next 0)],15,[],H106⟩ rfl ?_))
 refine w_seq (w_region (mv (.func (.func kf) #[] #[vP nx 0]) rfl rfl ?_))
 have hga:=((f107.get H.next (by omega)).trans f102.blk)
 have hgb:=f107.blk
 obtain ⟨fw,cap,K1,wv,K2,v3,K3,T1,hfw,T2,T3,w3,l3,kx3,s1,s2,t1,t2,c1,c2,ga,gb,cv1,cv2,dv1,dv2⟩:=again_core (nx:=nx) (a:=H.next) (b:=H101.next) hx hc w108 ((l104.trans l109).old.trans ho) ((f107.get nx (by omega)).trans ((f102.get nx (by omega)).trans h1)) hga hgb (by omega) (by omega) (by omega) b1 (by omega) (by omega) (by omega) (by omega) (by omega) ((f107.live _).2 (.inl ((f102.live _).2 (.inl v1)))) ((f107.live _).2 (.inl ((f102.live _).2 (.inr rfl)))) ((f107.live _).2 (.inr rfl))
 refine sc_ (H:=H106) (vs:=[vP H.next 0]) (fv:=.func (.func kf) #[] #[vP nx 0]) rfl rfl rfl rfl rfl rfl (.cons rfl rfl neP .nil) rfl ?_
 refine ⟨_,K1,.func (first:=[]) (cap:=[vP nx 0]) hkf T1,?_⟩
 refine mv (.func (.func fw) #[] (List.toArray cap)) rfl rfl ?_
 refine wo_nil (tq_n (wk ⟨[(0,.func (.func kf) #[] #[vP nx 0]),(3,vP H.next 0),(4,vP H101.next 0),(5,.func (.func fw) #[] (List.toArray cap))],15,[],K1⟩ rfl ?_))
 refine w_seq (w_region (mv (.func (.func fw) #[] (List.toArray cap)) rfl rfl ?_))
 refine sc_ (H:=K1) (vs:=[]) (fv:=.func (.func fw) #[] (List.toArray cap)) rfl rfl rfl rfl rfl rfl .nil rfl ?_
 refine ⟨_,K2,.func (first:=[]) (args:=[]) hfw T2,?_⟩
 refine wo_nil (tq_n (wk ⟨[(0,.func (.func kf) #[] #[vP nx 0]),(3,vP H.next 0),(4,vP H101.next 0)],15,[],K2⟩ rfl ?_))
 refine w_seq (w_region (mv (.func (.func kf) #[] #[vP nx 0]) rfl rfl ?_))
 refine sc_ (H:=K2) (vs:=[vP H101.next 0]) (fv:=.func (.func kf) #[] #[vP nx 0]) rfl rfl rfl rfl rfl rfl (.cons rfl rfl neP .nil) rfl ?_
 refine ⟨_,K3,.func (first:=[]) (cap:=[vP nx 0]) hkf T3,?_⟩
 have n3:=kx3.next
 refine wo_nil (tq_n (wk ⟨[(3,vP H.next 0),(4,vP H101.next 0)],15,[],K3⟩ rfl ?_))
 refine w_seq (w_region (sv (v:=.agg #[s1,s2]) rfl rfl rfl (opv_loadE rfl rfl rfl ag37 sz37 ga rfl (.inl rfl) rfl) rfl ?_))
 refine sv (v:=.agg #[t1,t2]) rfl rfl rfl (opv_loadE rfl rfl rfl ag37 sz37 gb rfl (.inl rfl) rfl) rfl ?_
 refine sc_ (H:=K3) (vs:=[.agg #[s1,s2],.agg #[t1,t2]]) (fv:=.func (.func 30) #[] #[]) rfl rfl rfl rfl rfl rfl (.cons rfl rfl (by simp [undef]) (.cons rfl rfl (by simp [undef]) .nil)) rfl ?_
 refine WV.mono (wv_f0 Try.call30 (top_same_ok s1 s2 t1 t2 c1 c2 _ w3 cv1 cv2 dv1 dv2)) ?_
 rintro v112 H113 ⟨k114,w111,rfl⟩
 refine kpL k114 fun n116 l115 => ?_
 refine mv (.bool true) rfl rfl ?_
 refine wo_nil (tq_n (wk ⟨[(2,.bool true)],15,[],H113⟩ rfl ?_))
 refine w_ret ?_
 refine ⟨.inr rfl,rfl,[.bool true],.cons (resV_tmp rfl (by simp [undef])) .nil,((((((KeepX.refl (fun _ => False) H).new_ f102).new_ f107).trans kx3 (by intro m hm; (try simp only [false_or,or_false] at hm ⊢); (try dsimp only at hm ⊢); first | omega | (right; omega) | (left; left; omega) | (left; right; omega))).keep k114).k (fun _ h => h.elim)),w111,rfl⟩
end Go.Proofs.Orl

namespace Go.Proofs.Orl
open Go
set_option maxRecDepth 10000
set_option maxHeartbeats 4000000
theorem ag33:aggT Try.prog 33=some true:=by kernel_rfl
theorem sz33:szT Try.prog 33=some 16:=by kernel_rfl
theorem top_Awake_ok (H:SH) (wt:WT H):WC Try.prog 31 [] H (fun v H' => Keep H H'∧WT H'∧v=(.bool true)):=awake_run wt

theorem top_main_ok (ax1 ax2:Int) (ax3 ax4 ax5:Int) (as6:Value) (ax7 ax8:Int) (ax9 ax10:Int) (ax11 ax12:Int) (ax13 ax14:Int) (as15:Value) (ax16:Int) (H:SH) (wt:WT H) (hvas6:VT H (.sl false [.int .i64,.int .i64,.int .i64,.int .i64,.int .i64]) as6) (hvas15:VT H (.sl false [.int .i64,.int .i64]) as15) (otas6:OT H.old.size H.old (.sl false [.int .i64,.int .i64,.int .i64,.int .i64,.int .i64]) as6) (otas15:OT H.old.size H.old (.sl false [.int .i64,.int .i64]) as15):WC Try.prog 3 [.agg #[vI ax1,vI ax2,vI ax3,vI ax4,vI ax5,as6,vI ax7,vI ax8,vI ax9,vI ax10,vI ax11,vI ax12,vI ax13,vI ax14,as15,vI ax16]] H (fun v H' => Keep H H'∧WT H'∧v=(.bool true)):=by
 have hx:OldR H.old #[vI ax1,vI ax2,vI ax3,vI ax4,vI ax5,as6,vI ax7,vI ax8,vI ax9,vI ax10,vI ax11,vI ax12,vI ax13,vI ax14,as15,vI ax16]:=oldR_ofL ⟨old_int _ _,⟨old_int _ _,⟨old_int _ _,⟨old_int _ _,⟨old_int _ _,⟨otas6.oldV,⟨old_int _ _,⟨old_int _ _,⟨old_int _ _,⟨old_int _ _,⟨old_int _ _,⟨old_int _ _,⟨old_int _ _,⟨old_int _ _,⟨otas15.oldV,⟨old_int _ _,trivial⟩⟩⟩⟩⟩⟩⟩⟩⟩⟩⟩⟩⟩⟩⟩⟩
 obtain ⟨C1,C2,hall⟩:=all_core hx (top_allw ax1 ax2 ax3 ax4 ax5 as6 ax7 ax8 ax9 ax10 ax11 ax12 ax13 ax14 as15 ax16 otas6 otas15)
 have hw6:=top_callw6 ax1 ax2 ax3 ax4 ax5 as6 ax7 ax8 ax9 ax10 ax11 ax12 ax13 ax14 as15 ax16 otas6 otas15
 have hw11:=top_callw11 ax1 ax2 ax3 ax4 ax5 as6 ax7 ax8 ax9 ax10 ax11 ax12 ax13 ax14 as15 ax16 otas6 otas15
 have hw14:=top_callw14 ax1 ax2 ax3 ax4 ax5 as6 ax7 ax8 ax9 ax10 ax11 ax12 ax13 ax14 as15 ax16 otas6 otas15
 have hw19:=top_callw19 ax1 ax2 ax3 ax4 ax5 as6 ax7 ax8 ax9 ax10 ax11 ax12 ax13 ax14 as15 ax16 otas6 otas15
 have hw21:=top_callw21 ax1 ax2 ax3 ax4 ax5 as6 ax7 ax8 ax9 ax10 ax11 ax12 ax13 ax14 as15 ax16 otas6 otas15
 have hw23:=top_callw23 ax1 ax2 ax3 ax4 ax5 as6 ax7 ax8 ax9 ax10 ax11 ax12 ax13 ax14 as15 ax16 otas6 otas15
 have hw26:=top_callw26 ax1 ax2 ax3 ax4 ax5 as6 ax7 ax8 ax9 ax10 ax11 ax12 ax13 ax14 as15 ax16 otas6 otas15
 have hw28:=top_callw28 ax1 ax2 ax3 ax4 ax5 as6 ax7 ax8 ax9 ax10 ax11 ax12 ax13 ax14 as15 ax16 otas6 otas15
 have hB0:H.old.size ≤ H.next:=wt.base
 refine wc_of_body Try.func3 rfl ?_
 refine wk ⟨[(0,.agg #[vI ax1,vI ax2,vI ax3,vI ax4,vI ax5,as6,vI ax7,vI ax8,vI ax9,vI ax10,vI ax11,vI ax12,vI ax13,vI ax14,as15,vI ax16])],49,[],H⟩ rfl ?_
 refine w_seq (w_region (sv_new (H:=H) (v:=vP H.next 0) (x:=.row #[vI ax1,vI ax2,vI ax3,vI ax4,vI ax5,as6,vI ax7,vI ax8,vI ax9,vI ax10,vI ax11,vI ax12,vI ax13,vI ax14,as15,vI ax16] .raw) rfl rfl rfl rfl (opv_boxE (v:=.agg #[vI ax1,vI ax2,vI ax3,vI ax4,vI ax5,as6,vI ax7,vI ax8,vI ax9,vI ax10,vI ax11,vI ax12,vI ax13,vI ax14,as15,vI ax16]) rfl rfl rfl (by simp [undef]) rfl) ?_))
 intro H101 f102
 refine newL wt f102 fun n105 w103 l104 => ?_
 refine mv (.bool false) rfl rfl ?_
 refine wo_nil (tq_n (wk ⟨[(1,vP H.next 0)],49,[],H101⟩ rfl ?_))
 refine w_seq (w_region (sv_new (H:=H101) (v:=vP H101.next 0) (x:=.row #[.slice none 0 0,.slice none 0 0] .raw) rfl rfl rfl rfl (opv_alloc rfl ze37 rfl) ?_))
 intro H106 f107
 refine newL w103 f107 fun n110 w108 l109 => ?_
 refine sv_new (H:=H106) (v:=vP H106.next 0) (x:=.row #[.slice none 0 0,.slice none 0 0] .raw) rfl rfl rfl rfl (opv_alloc rfl ze37 rfl) ?_
 intro H111 f112
 refine newL w108 f112 fun n115 w113 l114 => ?_
 refine wo_nil (tq_n (wk ⟨[(1,vP H.next 0),(3,vP H101.next 0),(4,vP H106.next 0)],49,[],H111⟩ rfl ?_))
 refine w_seq (w_region (sv (v:=.agg #[vI ax1,vI ax2,vI ax3,vI ax4,vI ax5,as6,vI ax7,vI ax8,vI ax9,vI ax10,vI ax11,vI ax12,vI ax13,vI ax14,as15,vI ax16]) rfl rfl rfl (opv_loadE rfl rfl rfl ag33 sz33 ((f112.get H.next (by omega)).trans ((f107.get H.next (by omega)).trans f102.blk)) rfl (.inl rfl) rfl) rfl ?_))
 refine sc_ (H:=H111) (vs:=[.agg #[vI ax1,vI ax2,vI ax3,vI ax4,vI ax5,as6,vI ax7,vI ax8,vI ax9,vI ax10,vI ax11,vI ax12,vI ax13,vI ax14,as15,vI ax16],vP H101.next 0]) (fv:=.func (.func 4) #[] #[]) rfl rfl rfl rfl rfl rfl (.cons rfl rfl (by simp [undef]) (.cons rfl rfl neP .nil)) rfl ?_
 refine WV.mono (wv_f0 Try.call4 (hall _ H.next H101.next w113 (((l104.trans l109).trans l114).old) ((f112.get H.next (by omega)).trans ((f107.get H.next (by omega)).trans f102.blk)) ((f112.get H101.next (by omega)).trans f107.blk) (by omega) (by omega) (by omega) (by omega) (by omega) ((f112.live _).2 (.inl ((f107.live _).2 (.inl ((f102.live _).2 (.inr rfl)))))) ((f112.live _).2 (.inl ((f107.live _).2 (.inr rfl)))))) ?_
 rintro v123 H124 ⟨k125,l116,k117,s118,s119,g120,cv121,cv122⟩
 have n126:=k117.next
 refine wo_nil (tq_n (wk ⟨[(1,vP H.next 0),(3,vP H101.next 0),(4,vP H106.next 0)],49,[],H124⟩ rfl ?_))
 refine w_seq (w_region (sv (v:=.func (.func 6) #[] #[vP H.next 0]) rfl rfl rfl (opv_makeFunc (vs:=[]) (us:=[vP H.next 0]) rfl (.func _) .nil (.cons rfl rfl neP .nil)) rfl ?_))
 refine sc_ (H:=H124) (vs:=[.func (.func 6) #[] #[vP H.next 0]]) (fv:=.func (.func 5) #[] #[]) rfl rfl rfl rfl rfl rfl (.cons rfl rfl (by simp [undef]) .nil) rfl ?_
 refine WV.mono (wv_f0 Try.call5 (top_again_ok Try.call6 hx hw6 H.next _ k125 ((((l104.trans l109).trans l114).trans l116).old) ((k117.get H.next (by omega) (by (try dsimp only); omega)).trans ((f112.get H.next (by omega)).trans ((f107.get H.next (by omega)).trans f102.blk))) (by omega) (by omega) (KeepX.live k117 _ ((f112.live _).2 (.inl ((f107.live _).2 (.inl ((f102.live _).2 (.inr rfl))))))))) ?_
 rintro v128 H129 ⟨k130,w127,rfl⟩
 have n131:=k130.next
 have l132:=k130.le
 refine mv (.bool true) rfl rfl ?_
 refine sv (v:=.func (.func 11) #[] #[vP H.next 0]) rfl (wants_g rfl rfl rfl rfl rfl) rfl (opv_makeFunc (vs:=[]) (us:=[vP H.next 0]) rfl (.func _) .nil (.cons rfl rfl neP .nil)) rfl ?_
 refine sc_ (H:=H129) (vs:=[.func (.func 11) #[] #[vP H.next 0]]) (fv:=.func (.func 5) #[] #[]) rfl (wants_g rfl rfl rfl rfl rfl) rfl rfl rfl rfl (.cons rfl rfl (by simp [undef]) .nil) rfl ?_
 refine WV.mono (wv_f0 Try.call5 (top_again_ok Try.call11 hx hw11 H.next _ w127 (((((l104.trans l109).trans l114).trans l116).trans l132).old) ((k130.get H.next (by omega)).trans ((k117.get H.next (by omega) (by (try dsimp only); omega)).trans ((f112.get H.next (by omega)).trans ((f107.get H.next (by omega)).trans f102.blk)))) (by omega) (by omega) (k130.live _ (KeepX.live k117 _ ((f112.live _).2 (.inl ((f107.live _).2 (.inl ((f102.live _).2 (.inr rfl)))))))))) ?_
 rintro v134 H135 ⟨k136,w133,rfl⟩
 have n137:=k136.next
 have l138:=k136.le
 refine sv (v:=.bool true) rfl rfl rfl (opv_pick (b:=true) rfl rfl rfl rfl rfl rfl) rfl ?_
 refine mv (.bool true) rfl rfl ?_
 refine sv (v:=.func (.func 14) #[] #[vP H.next 0]) rfl (wants_g rfl rfl rfl rfl rfl) rfl (opv_makeFunc (vs:=[]) (us:=[vP H.next 0]) rfl (.func _) .nil (.cons rfl rfl neP .nil)) rfl ?_
 refine sc_ (H:=H135) (vs:=[.func (.func 14) #[] #[vP H.next 0]]) (fv:=.func (.func 5) #[] #[]) rfl (wants_g rfl rfl rfl rfl rfl) rfl rfl rfl rfl (.cons rfl rfl (by simp [undef]) .nil) rfl ?_
 refine WV.mono (wv_f0 Try.call5 (top_again_ok Try.call14 hx hw14 H.next _ w133 ((((((l104.trans l109).trans l114).trans l116).trans l132).trans l138).old) ((k136.get H.next (by omega)).trans ((k130.get H.next (by omega)).trans ((k117.get H.next (by omega) (by (try dsimp only); omega)).trans ((f112.get H.next (by omega)).trans ((f107.get H.next (by omega)).trans f102.blk))))) (by omega) (by omega) (k136.live _ (k130.live _ (KeepX.live k117 _ ((f112.live _).2 (.inl ((f107.live _).2 (.inl ((f102.live _).2 (.inr rfl))))))))))) ?_
 rintro v140 H141 ⟨k142,w139,rfl⟩
 have n143:=k142.next
 have l144:=k142.le
 refine sv (v:=.bool true) rfl rfl rfl (opv_pick (b:=true) rfl rfl rfl rfl rfl rfl) rfl ?_
 refine mv (.bool true) rfl rfl ?_
 refine sv (v:=.func (.func 19) #[] #[vP H.next 0]) rfl (wants_g rfl rfl rfl rfl rfl) rfl (opv_makeFunc (vs:=[]) (us:=[vP H.next 0]) rfl (.func _) .nil (.cons rfl rfl neP .nil)) rfl ?_
 refine sc_ (H:=H141) (vs:=[.func (.func 19) #[] #[vP H.next 0]]) (fv:=.func (.func 5) #[] #[]) rfl (wants_g rfl rfl rfl rfl rfl) rfl rfl rfl rfl (.cons rfl rfl (by simp [undef]) .nil) rfl ?_
 refine WV.mono (wv_f0 Try.call5 (top_again_ok Try.call19 hx hw19 H.next _ w139 (((((((l104.trans l109).trans l114).trans l116).trans l132).trans l138).trans l144).old) ((k142.get H.next (by omega)).trans ((k136.get H.next (by omega)).trans ((k130.get H.next (by omega)).trans ((k117.get H.next (by omega) (by (try dsimp only); omega)).trans ((f112.get H.next (by omega)).trans ((f107.get H.next (by omega)).trans f102.blk)))))) (by omega) (by omega) (k142.live _ (k136.live _ (k130.live _ (KeepX.live k117 _ ((f112.live _).2 (.inl ((f107.live _).2 (.inl ((f102.live _).2 (.inr rfl)))))))))))) ?_
 rintro v146 H147 ⟨k148,w145,rfl⟩
 have n149:=k148.next
 have l150:=k148.le
 refine sv (v:=.bool true) rfl rfl rfl (opv_pick (b:=true) rfl rfl rfl rfl rfl rfl) rfl ?_
 refine mv (.bool true) rfl rfl ?_
 refine sv (v:=.func (.func 21) #[] #[vP H.next 0]) rfl (wants_g rfl rfl rfl rfl rfl) rfl (opv_makeFunc (vs:=[]) (us:=[vP H.next 0]) rfl (.func _) .nil (.cons rfl rfl neP .nil)) rfl ?_
 refine sc_ (H:=H147) (vs:=[.func (.func 21) #[] #[vP H.next 0]]) (fv:=.func (.func 5) #[] #[]) rfl (wants_g rfl rfl rfl rfl rfl) rfl rfl rfl rfl (.cons rfl rfl (by simp [undef]) .nil) rfl ?_
 refine WV.mono (wv_f0 Try.call5 (top_again_ok Try.call21 hx hw21 H.next _ w145 ((((((((l104.trans l109).trans l114).trans l116).trans l132).trans l138).trans l144).trans l150).old) ((k148.get H.next (by omega)).trans ((k142.get H.next (by omega)).trans ((k136.get H.next (by omega)).trans ((k130.get H.next (by omega)).trans ((k117.get H.next (by omega) (by (try dsimp only); omega)).trans ((f112.get H.next (by omega)).trans ((f107.get H.next (by omega)).trans f102.blk))))))) (by omega) (by omega) (k148.live _ (k142.live _ (k136.live _ (k130.live _ (KeepX.live k117 _ ((f112.live _).2 (.inl ((f107.live _).2 (.inl ((f102.live _).2 (.inr rfl))))))))))))) ?_
 rintro v152 H153 ⟨k154,w151,rfl⟩
 have n155:=k154.next
 have l156:=k154.le
 refine sv (v:=.bool true) rfl rfl rfl (opv_pick (b:=true) rfl rfl rfl rfl rfl rfl) rfl ?_
 refine mv (.bool true) rfl rfl ?_
 refine sv (v:=.func (.func 23) #[] #[vP H.next 0]) rfl (wants_g rfl rfl rfl rfl rfl) rfl (opv_makeFunc (vs:=[]) (us:=[vP H.next 0]) rfl (.func _) .nil (.cons rfl rfl neP .nil)) rfl ?_
 refine sc_ (H:=H153) (vs:=[.func (.func 23) #[] #[vP H.next 0]]) (fv:=.func (.func 5) #[] #[]) rfl (wants_g rfl rfl rfl rfl rfl) rfl rfl rfl rfl (.cons rfl rfl (by simp [undef]) .nil) rfl ?_
 refine WV.mono (wv_f0 Try.call5 (top_again_ok Try.call23 hx hw23 H.next _ w151 (((((((((l104.trans l109).trans l114).trans l116).trans l132).trans l138).trans l144).trans l150).trans l156).old) ((k154.get H.next (by omega)).trans ((k148.get H.next (by omega)).trans ((k142.get H.next (by omega)).trans ((k136.get H.next (by omega)).trans ((k130.get H.next (by omega)).trans ((k117.get H.next (by omega) (by (try dsimp only); omega)).trans ((f112.get H.next (by omega)).trans ((f107.get H.next (by omega)).trans f102.blk)))))))) (by omega) (by omega) (k154.live _ (k148.live _ (k142.live _ (k136.live _ (k130.live _ (KeepX.live k117 _ ((f112.live _).2 (.inl ((f107.live _).2 (.inl ((f102.live _).2 (.inr rfl)))))))))))))) ?_
 rintro v158 H159 ⟨k160,w157,rfl⟩
 have n161:=k160.next
 have l162:=k160.le
 refine sv (v:=.bool true) rfl rfl rfl (opv_pick (b:=true) rfl rfl rfl rfl rfl rfl) rfl ?_
 refine mv (.bool true) rfl rfl ?_
 refine sv (v:=.func (.func 26) #[] #[vP H.next 0]) rfl (wants_g rfl rfl rfl rfl rfl) rfl (opv_makeFunc (vs:=[]) (us:=[vP H.next 0]) rfl (.func _) .nil (.cons rfl rfl neP .nil)) rfl ?_
 refine sc_ (H:=H159) (vs:=[.func (.func 26) #[] #[vP H.next 0]]) (fv:=.func (.func 5) #[] #[]) rfl (wants_g rfl rfl rfl rfl rfl) rfl rfl rfl rfl (.cons rfl rfl (by simp [undef]) .nil) rfl ?_
 refine WV.mono (wv_f0 Try.call5 (top_again_ok Try.call26 hx hw26 H.next _ w157 ((((((((((l104.trans l109).trans l114).trans l116).trans l132).trans l138).trans l144).trans l150).trans l156).trans l162).old) ((k160.get H.next (by omega)).trans ((k154.get H.next (by omega)).trans ((k148.get H.next (by omega)).trans ((k142.get H.next (by omega)).trans ((k136.get H.next (by omega)).trans ((k130.get H.next (by omega)).trans ((k117.get H.next (by omega) (by (try dsimp only); omega)).trans ((f112.get H.next (by omega)).trans ((f107.get H.next (by omega)).trans f102.blk))))))))) (by omega) (by omega) (k160.live _ (k154.live _ (k148.live _ (k142.live _ (k136.live _ (k130.live _ (KeepX.live k117 _ ((f112.live _).2 (.inl ((f107.live _).2 (.inl ((f102.live _).2 (.inr rfl))))))))))))))) ?_
 rintro v164 H165 ⟨k166,w163,rfl⟩
 have n167:=k166.next
 have l168:=k166.le
 refine sv (v:=.bool true) rfl rfl rfl (opv_pick (b:=true) rfl rfl rfl rfl rfl rfl) rfl ?_
 refine mv (.bool true) rfl rfl ?_
 refine sv (v:=.func (.func 28) #[] #[vP H.next 0]) rfl (wants_g rfl rfl rfl rfl rfl) rfl (opv_makeFunc (vs:=[]) (us:=[vP H.next 0]) rfl (.func _) .nil (.cons rfl rfl neP .nil)) rfl ?_
 refine sc_ (H:=H165) (vs:=[.func (.func 28) #[] #[vP H.next 0]]) (fv:=.func (.func 5) #[] #[]) rfl (wants_g rfl rfl rfl rfl rfl) rfl rfl rfl rfl (.cons rfl rfl (by simp [undef]) .nil) rfl ?_
 refine WV.mono (wv_f0 Try.call5 (top_again_ok Try.call28 hx hw28 H.next _ w163 (((((((((((l104.trans l109).trans l114).trans l116).trans l132).trans l138).trans l144).trans l150).trans l156).trans l162).trans l168).old) ((k166.get H.next (by omega)).trans ((k160.get H.next (by omega)).trans ((k154.get H.next (by omega)).trans ((k148.get H.next (by omega)).trans ((k142.get H.next (by omega)).trans ((k136.get H.next (by omega)).trans ((k130.get H.next (by omega)).trans ((k117.get H.next (by omega) (by (try dsimp only); omega)).trans ((f112.get H.next (by omega)).trans ((f107.get H.next (by omega)).trans f102.blk)))))))))) (by omega) (by omega) (k166.live _ (k160.live _ (k154.live _ (k148.live _ (k142.live _ (k136.live _ (k130.live _ (KeepX.live k117 _ ((f112.live _).2 (.inl ((f107.live _).2 (.inl ((f102.live _).2 (.inr rfl)))))))))))))))) ?_
 rintro v170 H171 ⟨k172,w169,rfl⟩
 have n173:=k172.next
 have l174:=k172.le
 refine sv (v:=.bool true) rfl rfl rfl (opv_pick (b:=true) rfl rfl rfl rfl rfl rfl) rfl ?_
 refine mv (.bool true) rfl rfl ?_
 refine wo_nil (tq_n (wk ⟨[(1,vP H.next 0),(3,vP H101.next 0),(4,vP H106.next 0),(5,.bool true)],49,[],H171⟩ rfl ?_))
 refine w_seq (w_region (sv (v:=.agg #[vI ax1,vI ax2,vI ax3,vI ax4,vI ax5,as6,vI ax7,vI ax8,vI ax9,vI ax10,vI ax11,vI ax12,vI ax13,vI ax14,as15,vI ax16]) rfl rfl rfl (opv_loadE rfl rfl rfl ag33 sz33 ((k172.get H.next (by omega)).trans ((k166.get H.next (by omega)).trans ((k160.get H.next (by omega)).trans ((k154.get H.next (by omega)).trans ((k148.get H.next (by omega)).trans ((k142.get H.next (by omega)).trans ((k136.get H.next (by omega)).trans ((k130.get H.next (by omega)).trans ((k117.get H.next (by omega) (by (try dsimp only); omega)).trans ((f112.get H.next (by omega)).trans ((f107.get H.next (by omega)).trans f102.blk))))))))))) rfl (.inl rfl) rfl) rfl ?_))
 refine sc_ (H:=H171) (vs:=[.agg #[vI ax1,vI ax2,vI ax3,vI ax4,vI ax5,as6,vI ax7,vI ax8,vI ax9,vI ax10,vI ax11,vI ax12,vI ax13,vI ax14,as15,vI ax16],vP H106.next 0]) (fv:=.func (.func 4) #[] #[]) rfl rfl rfl rfl rfl rfl (.cons rfl rfl (by simp [undef]) (.cons rfl rfl neP .nil)) rfl ?_
 refine WV.mono (wv_f0 Try.call4 (hall _ H.next H106.next w169 ((((((((((((l104.trans l109).trans l114).trans l116).trans l132).trans l138).trans l144).trans l150).trans l156).trans l162).trans l168).trans l174).old) ((k172.get H.next (by omega)).trans ((k166.get H.next (by omega)).trans ((k160.get H.next (by omega)).trans ((k154.get H.next (by omega)).trans ((k148.get H.next (by omega)).trans ((k142.get H.next (by omega)).trans ((k136.get H.next (by omega)).trans ((k130.get H.next (by omega)).trans ((k117.get H.next (by omega) (by (try dsimp only); omega)).trans ((f112.get H.next (by omega)).trans ((f107.get H.next (by omega)).trans f102.blk))))))))))) ((k172.get H106.next (by omega)).trans ((k166.get H106.next (by omega)).trans ((k160.get H106.next (by omega)).trans ((k154.get H106.next (by omega)).trans ((k148.get H106.next (by omega)).trans ((k142.get H106.next (by omega)).trans ((k136.get H106.next (by omega)).trans ((k130.get H106.next (by omega)).trans ((k117.get H106.next (by omega) (by (try dsimp only); omega)).trans f112.blk))))))))) (by omega) (by omega) (by omega) (by omega) (by omega) (k172.live _ (k166.live _ (k160.live _ (k154.live _ (k148.live _ (k142.live _ (k136.live _ (k130.live _ (KeepX.live k117 _ ((f112.live _).2 (.inl ((f107.live _).2 (.inl ((f102.live _).2 (.inr rfl))))))))))))))) (k172.live _ (k166.live _ (k160.live _ (k154.live _ (k148.live _ (k142.live _ (k136.live _ (k130.live _ (KeepX.live k117 _ ((f112.live _).2 (.inr rfl))))))))))))) ?_
 rintro v182 H183 ⟨k184,l175,k176,s177,s178,g179,cv180,cv181⟩
 have n185:=k176.next
 refine wo_nil (tq_n (wk ⟨[(3,vP H101.next 0),(4,vP H106.next 0),(5,.bool true)],49,[],H183⟩ rfl ?_))
 refine w_seq (w_region (mv (.bool true) rfl rfl ?_))
 refine mv (.bool true) rfl rfl ?_
 refine sv (v:=.agg #[s118,s119]) rfl (wants_g rfl rfl rfl rfl rfl) rfl (opv_loadE rfl rfl rfl ag37 sz37 ((k176.get H101.next (by omega) (by (try dsimp only); omega)).trans ((k172.get H101.next (by omega)).trans ((k166.get H101.next (by omega)).trans ((k160.get H101.next (by omega)).trans ((k154.get H101.next (by omega)).trans ((k148.get H101.next (by omega)).trans ((k142.get H101.next (by omega)).trans ((k136.get H101.next (by omega)).trans ((k130.get H101.next (by omega)).trans g120))))))))) rfl (.inl rfl) rfl) rfl ?_
 refine sv (v:=.agg #[s177,s178]) rfl (wants_g rfl rfl rfl rfl rfl) rfl (opv_loadE rfl rfl rfl ag37 sz37 g179 rfl (.inl rfl) rfl) rfl ?_
 refine sc_ (H:=H183) (vs:=[.agg #[s118,s119],.agg #[s177,s178]]) (fv:=.func (.func 30) #[] #[]) rfl (wants_g rfl rfl rfl rfl rfl) rfl rfl rfl rfl (.cons rfl rfl (by simp [undef]) (.cons rfl rfl (by simp [undef]) .nil)) rfl ?_
 refine WV.mono (wv_f0 Try.call30 (top_same_ok s118 s119 s177 s178 C1 C2 _ k184 (CV.boxX (CV.keep cv121 (((((((k130.trans k136).trans k142).trans k148).trans k154).trans k160).trans k166).trans k172)) k176 ((k172.get H106.next (by omega)).trans ((k166.get H106.next (by omega)).trans ((k160.get H106.next (by omega)).trans ((k154.get H106.next (by omega)).trans ((k148.get H106.next (by omega)).trans ((k142.get H106.next (by omega)).trans ((k136.get H106.next (by omega)).trans ((k130.get H106.next (by omega)).trans ((k117.get H106.next (by omega) (by (try dsimp only); omega)).trans f112.blk)))))))))) (CV.boxX (CV.keep cv122 (((((((k130.trans k136).trans k142).trans k148).trans k154).trans k160).trans k166).trans k172)) k176 ((k172.get H106.next (by omega)).trans ((k166.get H106.next (by omega)).trans ((k160.get H106.next (by omega)).trans ((k154.get H106.next (by omega)).trans ((k148.get H106.next (by omega)).trans ((k142.get H106.next (by omega)).trans ((k136.get H106.next (by omega)).trans ((k130.get H106.next (by omega)).trans ((k117.get H106.next (by omega) (by (try dsimp only); omega)).trans f112.blk)))))))))) cv180 cv181)) ?_
 rintro v187 H188 ⟨k189,w186,rfl⟩
 refine kpL k189 fun n191 l190 => ?_
 refine sv (v:=.bool true) rfl rfl rfl (opv_pick (b:=true) rfl rfl rfl rfl rfl rfl) rfl ?_
 refine mv (.bool true) rfl rfl ?_
 refine sc_ (H:=H188) (vs:=[]) (fv:=.func (.func 31) #[] #[]) rfl (wants_g rfl rfl rfl rfl rfl) rfl rfl rfl rfl .nil rfl ?_
 refine WV.mono (wv_f0 Try.call31 (top_Awake_ok _ w186)) ?_
 rintro v193 H194 ⟨k195,w192,rfl⟩
 refine kpL k195 fun n197 l196 => ?_
 refine sv (v:=.bool true) rfl rfl rfl (opv_pick (b:=true) rfl rfl rfl rfl rfl rfl) rfl ?_
 refine mv (.bool true) rfl rfl ?_
 refine wo_nil (tq_n (wk ⟨[(2,.bool true)],49,[],H194⟩ rfl ?_))
 refine w_ret ?_
 refine ⟨.inr rfl,rfl,[.bool true],.cons (resV_tmp rfl (by simp [undef])) .nil,(((((((((((((((((KeepX.refl (fun _ => False) H).new_ f102).new_ f107).new_ f112).trans k117 (by intro m hm; (try simp only [false_or,or_false] at hm ⊢); (try dsimp only at hm ⊢); first | omega | (right; omega) | (left; left; omega) | (left; right; omega))).keep k130).keep k136).keep k142).keep k148).keep k154).keep k160).keep k166).keep k172).trans k176 (by intro m hm; (try simp only [false_or,or_false] at hm ⊢); (try dsimp only at hm ⊢); first | omega | (right; omega) | (left; left; omega) | (left; right; omega))).keep k189).keep k195).k (fun _ h => h.elim)),w192,rfl⟩
end Go.Proofs.Orl

namespace Go.Proofs.Ytiddlegbgnaidaa.topAnewTide
open Go Go.ChangeShapes Go.WideShapes Go.ChangeAt Go.RowKit Go.Proofs.Orl
set_option maxRecDepth 100000
theorem own:ownKnob Try.prog.godebug=none:=by kernel_rfl
theorem laid:laidOutB Try.prog=true:=by kernel_rfl
theorem readable:Try.prog.readableRec 33=true:=by kernel_rfl
theorem inside:33 < Try.prog.types.size:=of_decide_eq_true (by kernel_rfl)
theorem tys:tyF Try.prog 60 33=some [.int .i64,.int .i64,.int .i64,.int .i64,.int .i64,.sl false [.int .i64,.int .i64,.int .i64,.int .i64,.int .i64],.int .i64,.int .i64,.int .i64,.int .i64,.int .i64,.int .i64,.int .i64,.int .i64,.sl false [.int .i64,.int .i64],.int .i64]:=by kernel_rfl
theorem cts:Try.prog.cellTypes Try.prog.depth 33=some [3,3,3,3,3,24,3,3,3,3,3,3,3,3,31,3]:=by kernel_rfl
theorem bulk1 {H:Type} (d:DataW H):1 ≤ Rows.uptoBulk d:=by
  cases d with
  | lit l => cases l <;> simp [Rows.uptoBulk]
  | _ => simp [Rows.uptoBulk]
theorem bk (H:Type):Bk H Rows.uptoBulk Rows.uptoBulkAll:=by
  refine ⟨fun l => ?_,fun d l hd => ?_,fun a b => by simp [Rows.uptoBulk],fun a => by simp [Rows.uptoBulk]⟩
  · induction l with
    | nil => simp
    | cons d l ih => have:=bulk1 d; simp only [Rows.uptoBulkAll,List.length_cons]; omega
  · induction l with
    | nil => cases hd
    | cons e l ih =>
      simp only [Rows.uptoBulkAll]
      rcases List.mem_cons.1 hd with rfl | hd
      · omega
      · have:=ih hd; omega
theorem split {cs:Array Value} (h:cs.toList.length=16) : ∃ c0 c1 c2 c3 c4 c5 c6 c7 c8 c9 c10 c11 c12 c13 c14 c15,cs=#[c0,c1,c2,c3,c4,c5,c6,c7,c8,c9,c10,c11,c12,c13,c14,c15]:=by
  obtain ⟨l⟩:=cs
  match l,h with
  | [c0,c1,c2,c3,c4,c5,c6,c7,c8,c9,c10,c11,c12,c13,c14,c15],_ => exact ⟨c0,c1,c2,c3,c4,c5,c6,c7,c8,c9,c10,c11,c12,c13,c14,c15,rfl⟩
theorem walk (W:World) (ax1:Int) (ax2:Int) (ax3:Int) (ax4:Int) (ax5:Int) (as6:Value) (ax7:Int) (ax8:Int) (ax9:Int) (ax10:Int) (ax11:Int) (ax12:Int) (ax13:Int) (ax14:Int) (as15:Value) (ax16:Int) (otas6:OT W.heap.size W.heap (.sl false [.int .i64,.int .i64,.int .i64,.int .i64,.int .i64]) as6) (otas15:OT W.heap.size W.heap (.sl false [.int .i64,.int .i64]) as15):Calls Try.prog 3 #[.agg #[vI ax1,vI ax2,vI ax3,vI ax4,vI ax5,as6,vI ax7,vI ax8,vI ax9,vI ax10,vI ax11,vI ax12,vI ax13,vI ax14,as15,vI ax16]] W fun e W' => e=.returned (.bool true)∧W'.os=W.os∧W'.output=W.output∧∀ b,b < W.heap.size→W'.heap[b]? = W.heap[b]?:=by
  obtain ⟨v,H',hT,_,_,rfl⟩:=top_main_ok ax1 ax2 ax3 ax4 ax5 as6 ax7 ax8 ax9 ax10 ax11 ax12 ax13 ax14 as15 ax16 (E0 W.heap) e0_wt (.old otas6) (.old otas15) otas6 otas15
  exact calls_true hT (fun v hv => by
    rw [List.mem_singleton.1 hv]
    exact oldV_agg (oldR_ofL ⟨old_int _ _,⟨old_int _ _,⟨old_int _ _,⟨old_int _ _,⟨old_int _ _,⟨otas6.oldV,⟨old_int _ _,⟨old_int _ _,⟨old_int _ _,⟨old_int _ _,⟨old_int _ _,⟨old_int _ _,⟨old_int _ _,⟨old_int _ _,⟨otas15.oldV,⟨old_int _ _,trivial⟩⟩⟩⟩⟩⟩⟩⟩⟩⟩⟩⟩⟩⟩⟩⟩))
theorem contract (H:Type) (enc:TypeId × Value→H) (W:World) (base:Nat) (args:Array Value) (ds gs:List (DataW H)) (before:List MemPlace)
    (hval : ∀ (j:Nat) t v,Try.f3.params[j]? = some t→args[j]? = some v→Value.okWide Try.prog W .any base t v)
    (hW:DataW.Whole enc Try.prog Try.f3.params.toList Rows.topAnewTideSpec.vars false W args.toList ds gs before) (hk:Rows.uptoSmall H (ds++gs) = true) :
    Calls Try.prog 3 args W fun e W' => ∃ v,e=.returned v∧Rows.topAnewTideSpec.post enc Try.prog Try.f3 false true false false W args v W':=by
  have hW':=hW
  obtain ⟨p,q,hA0,hV,rfl,hfz,hnd⟩:=hW
  have hA:DataW.TrodAll enc Try.prog W 0 (fun _ => true) true Try.f3.params.toList args.toList ds p:=hA0
  rw [Try.params3] at hA hval
  obtain ⟨v0,vs0,d0,ds0,p0,q0,hargs,rfl,rfl,h0,r0⟩:=trodAll_cons hA
  obtain ⟨rfl,rfl,rfl⟩:=trodAll_nil r0
  obtain rfl:args=#[v0]:=by cases args; simp_all
  obtain ⟨rfl,rfl⟩:=trodVars_none hV
  have hv:=hval 0 33 v0 rfl rfl
  simp only [Value.okWide,Try.underlying33] at hv
  obtain ⟨cs,rfl,hsz,hrow⟩:=hv
  have h0k:=h0
  obtain ⟨fuel,h0⟩:=h0
  have hb:Rows.uptoBulk d0 ≤ LIM:=by
    have h1:Rows.uptoBulkAll ([d0]++[]) ≤ 1048576:=of_decide_eq_true hk
    simp only [List.append_nil,Rows.uptoBulkAll] at h1
    unfold LIM; omega
  obtain ⟨hlen,hP⟩:=(tyF_spec (bk H) 60).1 33 _ tys fuel cs.toList (d0,p0) h0 hb
  obtain ⟨c0,c1,c2,c3,c4,c5,c6,c7,c8,c9,c10,c11,c12,c13,c14,c15,rfl⟩:=split (by simpa using hlen)
  have q0:PT W (.int .i64) c0:=hP 0 (by decide)
  obtain ⟨x0,rfl⟩:=pt_int q0
  have q1:PT W (.int .i64) c1:=hP 1 (by decide)
  obtain ⟨x1,rfl⟩:=pt_int q1
  have q2:PT W (.int .i64) c2:=hP 2 (by decide)
  obtain ⟨x2,rfl⟩:=pt_int q2
  have q3:PT W (.int .i64) c3:=hP 3 (by decide)
  obtain ⟨x3,rfl⟩:=pt_int q3
  have q4:PT W (.int .i64) c4:=hP 4 (by decide)
  obtain ⟨x4,rfl⟩:=pt_int q4
  have q5:PT W (.sl false [.int .i64,.int .i64,.int .i64,.int .i64,.int .i64]) c5:=hP 5 (by decide)
  have o5:=pt_sl q5 Try.underlying24 (cell_ok hrow cts (i:=5) rfl rfl)
  have q6:PT W (.int .i64) c6:=hP 6 (by decide)
  obtain ⟨x6,rfl⟩:=pt_int q6
  have q7:PT W (.int .i64) c7:=hP 7 (by decide)
  obtain ⟨x7,rfl⟩:=pt_int q7
  have q8:PT W (.int .i64) c8:=hP 8 (by decide)
  obtain ⟨x8,rfl⟩:=pt_int q8
  have q9:PT W (.int .i64) c9:=hP 9 (by decide)
  obtain ⟨x9,rfl⟩:=pt_int q9
  have q10:PT W (.int .i64) c10:=hP 10 (by decide)
  obtain ⟨x10,rfl⟩:=pt_int q10
  have q11:PT W (.int .i64) c11:=hP 11 (by decide)
  obtain ⟨x11,rfl⟩:=pt_int q11
  have q12:PT W (.int .i64) c12:=hP 12 (by decide)
  obtain ⟨x12,rfl⟩:=pt_int q12
  have q13:PT W (.int .i64) c13:=hP 13 (by decide)
  obtain ⟨x13,rfl⟩:=pt_int q13
  have q14:PT W (.sl false [.int .i64,.int .i64]) c14:=hP 14 (by decide)
  have o14:=pt_sl q14 Try.underlying31 (cell_ok hrow cts (i:=14) rfl rfl)
  have q15:PT W (.int .i64) c15:=hP 15 (by decide)
  obtain ⟨x15,rfl⟩:=pt_int q15
  refine (walk W x0 x1 x2 x3 x4 c5 x6 x7 x8 x9 x10 x11 x12 x13 c14 x15 o5 o14).mono fun e W' ⟨he,h1,h2,h3⟩ => ?_
  subst he
  exact ⟨_,rfl,post_true (t:=33) (tb:=4) (p0:=p0) Try.params3 rfl Try.underlying4 rfl rfl hW' h0k rfl rfl (by simp) laid readable inside h1 h2 h3⟩
theorem lifted (os:Os) (started:os.Started) (H:Type) (enc:TypeId × Value→H) (F:Stop.Interp) :
    ReturnsInHanded {} Try.checked os 3 .any ((Rows.OpenSpec.upto Rows.topAnewTideSpec).pre6 enc Try.prog Try.f3 Rows.topAnewTideUptoRow.domain false) (((Rows.OpenSpec.upto Rows.topAnewTideSpec).at F).post enc Try.prog Try.f3 false true false false):=by
  refine returnsInHanded_of_cond (C:=Try.checked) (s:=Rows.OpenSpec.upto Rows.topAnewTideSpec) (k:=Rows.uptoSmall) rfl own started (by kernel_rfl) Try.func3
    (OpenSpec.witness (enc:=enc) (C:=Try.checked) (s:=Rows.OpenSpec.upto Rows.topAnewTideSpec) (k:=Rows.uptoSmall) rfl false ⟨#[],#[.agg #[.int .i64 0,.int .i64 0,.int .i64 0,.int .i64 0,.int .i64 0,.slice none 0 0,.int .i64 0,.int .i64 0,.int .i64 0,.int .i64 0,.int .i64 0,.int .i64 0,.int .i64 0,.int .i64 0,.slice none 0 0,.int .i64 0]],[]⟩ 12 (by kernel_rfl) (by kernel_rfl) (by kernel_rfl)
      (x:=([.agg [.agg [.agg [.lit (.int .i64 0),.lit (.int .i64 0)],.agg [.lit (.int .i64 0),.lit (.int .i64 0)],.lit (.int .i64 0),.nil],.agg [.agg [.lit (.int .i64 0),.lit (.int .i64 0)],.lit (.int .i64 0)],.lit (.int .i64 0),.lit (.int .i64 0),.lit (.int .i64 0),.agg [.lit (.int .i64 0),.lit (.int .i64 0)],.nil,.lit (.int .i64 0)]],[],[])) (by kernel_rfl) rfl (by kernel_rfl)) ?_
  intro W base args ds gs before hval hW _ hk _
  exact contract H enc W base args ds gs before hval hW hk

theorem proved:Rows.TopAnewTideUptoSaid :=
  OpenClaim.holds_of_cond 3 Try.f3 rfl rfl rfl rfl rfl rfl rfl ⟨rfl,rfl,rfl,rfl,rfl⟩ rfl rfl rfl rfl rfl (by kernel_rfl) Try.func3 (by kernel_rfl)
    (of_decide_eq_true (by kernel_rfl)) (by unfold Func.isWrapper; first | (rw [if_pos (by decide +kernel)]; kernel_rfl) | (rw [if_neg (by decide +kernel)]; exact ⟨rfl,rfl⟩))
    (fun os started H enc _ F => lifted os started H enc F)
end Go.Proofs.Ytiddlegbgnaidaa.topAnewTide
