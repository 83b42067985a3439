/- Part 4 of the proof of TopAnewGas: every call of the package puts the same twice, and changes no argument. Conditions: those of the statement, and no others. -/
import Derived.Test.YtodffkejfmhiaaaP3
namespace Go.Proofs.Orl
open Go Go.MapKept
set_option maxRecDepth 10000
set_option maxHeartbeats 4000000
theorem ag27:aggT Try.prog 27=some true:=by kernel_rfl
theorem ag68:aggT Try.prog 68=some true:=by kernel_rfl
theorem ag88:aggT Try.prog 88=some true:=by kernel_rfl
theorem pl68:placesT Try.prog 68=some [(0,9),(9,1)]:=by kernel_rfl
theorem sz68:szT Try.prog 68=some 10:=by kernel_rfl
theorem sz88:szT Try.prog 88=some 3:=by kernel_rfl
theorem tin68:Try.prog.info? 68=some Try.t68:=by kernel_rfl
theorem ze68:zeroT Try.prog 68=some (.agg #[vI 0,vI 0,vI 0,vI 0,vI 0,vI 0,vI 0,.slice none 0 0,.slice none 0 0,.map none]):=by kernel_rfl
theorem ze88:zeroT Try.prog 88=some (.agg #[vI 0,vI 0,vI 0]):=by kernel_rfl
theorem gas_open (ax1 ax2:Int) (ax3 ax4:Int) (ax5 ax6 ax7:Int) (as8 as9 as10:Value) (ax11:Int) (H:SH) (wt:WT H) (hvas8:VT H (.sl false [.int .i64,.int .i64]) as8) (hvas9:VT H (.sl false [.str,.int .i64]) as9) (hvas10:VT H (.sl false [.int .i64,.int .i64,.int .i64]) as10):WC Try.prog 59 [.agg #[vI ax1,vI ax2,vI ax3,vI ax4,vI ax5,vI ax6,vI ax7,as8,as9],as10,vI ax11] H (fun v H' => Keep H H'∧WT H'∧∃ (rx12 rx13:Int) (rx14 rx15:Int) (rx16 rx17 rx18:Int) (rs19 rs20 rm:Value) (re:Int),v=(.tuple #[.agg #[vI rx12,vI rx13,vI rx14,vI rx15,vI rx16,vI rx17,vI rx18,rs19,rs20,rm],vI re])∧VT H' (.sl false [.int .i64,.int .i64]) rs19∧VT H' (.sl false [.str,.int .i64]) rs20∧(re=0→0 ≤ ax11∧ax11 ≤ 60∧rs20=as9)∧(MV rm)∧(re=0→∃ (n:Nat) (es:Array MapEntry) (c:Nat),rm=.map (some n)∧H.next ≤ n∧n < H'.next∧H'.get n=some (.obj (.map es c))∧MapI (.int .i64) SpQ es)):=by
 refine wc_of_body Try.func59 rfl ?_
 refine wk ⟨[(0,.agg #[vI ax1,vI ax2,vI ax3,vI ax4,vI ax5,vI ax6,vI ax7,as8,as9]),(1,as10),(2,vI ax11)],87,[],H⟩ rfl ?_
 refine w_seq (w_region (sv_new (H:=H) (v:=vP H.next 0) (x:=.row #[vI ax1,vI ax2,vI ax3,vI ax4,vI ax5,vI ax6,vI ax7,as8,as9] .raw) rfl rfl rfl rfl (opv_boxE (v:=.agg #[vI ax1,vI ax2,vI ax3,vI ax4,vI ax5,vI ax6,vI ax7,as8,as9]) rfl rfl rfl (by simp [undef]) rfl) ?_))
 intro H101 f102
 refine newL wt f102 fun n105 w103 l104 => ?_
 refine sv_new (H:=H101) (v:=vP H101.next 0) (x:=.row #[vI 0,vI 0,vI 0,vI 0,vI 0,vI 0,vI 0,.slice none 0 0,.slice none 0 0,.map none] .raw) rfl rfl rfl rfl (opv_alloc rfl ze68 rfl) ?_
 intro H106 f107
 refine newL w103 f107 fun n110 w108 l109 => ?_
 refine mv (vI 0) rfl rfl ?_
 refine wo_nil (tq_n (wk ⟨[(1,as10),(2,vI ax11),(3,vP H.next 0),(6,vP H101.next 0)],87,[],H106⟩ rfl ?_))
 refine w_seq (w_seq (w_region (sv (v:=.agg #[vI ax1,vI ax2,vI ax3,vI ax4,vI ax5,vI ax6,vI ax7,as8,as9]) rfl rfl rfl (opv_loadE rfl rfl rfl ag27 sz27 ((f107.get H.next (by omega)).trans f102.blk) rfl (.inl rfl) rfl) rfl ?_)))
 refine sc_ (H:=H106) (vs:=[.agg #[vI ax1,vI ax2,vI ax3,vI ax4,vI ax5,vI ax6,vI ax7,as8,as9]]) (fv:=.func (.func 7) #[] #[]) rfl rfl rfl rfl rfl rfl (.cons rfl rfl (by simp [undef]) .nil) rfl ?_
 refine WV.mono (wv_f0 Try.call7 (gas_Check ax1 ax2 ax3 ax4 ax5 ax6 ax7 as8 as9 _ w108 (hvas8.mono (l104.trans l109)) (hvas9.mono (l104.trans l109)))) ?_
 rintro v115 H116 ⟨k117,w111,rx10112,rx11113,rx12114,rfl⟩
 refine kpL k117 fun n119 l118 => ?_
 refine mv (.tuple #[vI rx10112,vI rx11113,vI rx12114]) rfl rfl ?_
 refine sv (v:=vI rx10112) rfl rfl rfl (opv_extract rfl rfl rfl rfl) rfl ?_
 refine sv (v:=vI rx11113) rfl rfl rfl (opv_extract rfl rfl rfl rfl) rfl ?_
 refine sv (v:=vI rx12114) rfl rfl rfl (opv_extract rfl rfl rfl rfl) rfl ?_
 refine mv (vI rx12114) rfl rfl ?_
 refine wo_nil (tq_n (wk ⟨[(1,as10),(2,vI ax11),(3,vP H.next 0),(6,vP H101.next 0),(7,vI rx12114)],87,[],H116⟩ rfl ?_))
 refine w_seq (w_region (mv (vI rx12114) rfl rfl ?_))
 by_cases c120:rx12114=0
 ·
  refine sv (v:=.bool false) rfl rfl rfl (opv_bin rfl rfl rfl rfl rfl (neF c120)) rfl ?_
  refine wo_nil (tq_n (wk ⟨[(1,as10),(2,vI ax11),(3,vP H.next 0),(6,vP H101.next 0),(7,vI rx12114),(18,.bool false)],87,[],H116⟩ rfl ?_))
  refine w_cond (t:=false) rfl rfl (fun h => by cases h) (fun _ => ?_)
  refine w_skip (tq_n (wk ⟨[(1,as10),(2,vI ax11),(3,vP H.next 0),(6,vP H101.next 0)],87,[],H116⟩ rfl ?_))
  refine w_seq (w_seq (w_region (mv as10 rfl rfl ?_)))
  have c121:slen as10 ≤ 1073741824:=vt_lim (hvas10.mono ((l104.trans l109).trans l118))
  refine sv (v:=(vI (slen as10:Int))) rfl rfl rfl (t_len (hvas10.mono ((l104.trans l109).trans l118)) rfl rfl rfl Try.underlying28) rfl ?_
  by_cases c122 : (slen as10:Int) > 12
  ·
   refine sv (v:=.bool true) rfl rfl rfl (opv_bin rfl rfl rfl rfl rfl (cmpT rfl c122)) rfl ?_
   refine wo_nil (tq_n (wk ⟨[(1,as10),(2,vI ax11),(3,vP H.next 0),(6,vP H101.next 0),(23,.bool true)],87,[],H116⟩ rfl ?_))
   refine w_cond (t:=true) rfl rfl (fun _ => ?_) (fun h => by cases h)
   refine w_seq (w_region (sv (v:=.agg #[vI 0,vI 0,vI 0,vI 0,vI 0,vI 0,vI 0,.slice none 0 0,.slice none 0 0,.map none]) rfl rfl rfl (opv_loadE rfl rfl rfl ag68 sz68 ((k117.get H101.next (by omega)).trans f107.blk) rfl (.inl rfl) rfl) rfl ?_))
   refine sv_put (H:=H116) (n:=H101.next) (v:=undef) (x:=some (.row #[vI 0,vI 0,vI 0,vI 0,vI 0,vI 0,vI 0,.slice none 0 0,.slice none 0 0,.map none] .raw)) rfl rfl rfl rfl (opv_storeC (u:=.agg #[vI 0,vI 0,vI 0,vI 0,vI 0,vI 0,vI 0,.slice none 0 0,.slice none 0 0,.map none]) rfl rfl rfl rfl rfl (by simp [undef]) sz68 rfl rfl rfl ((k117.get H101.next (by omega)).trans f107.blk) rfl rfl) ?_
   intro H123 f124
   refine putL w111 f124 ((k117.get H101.next (by omega)).trans f107.blk) fun n127 w125 l126 => ?_
   refine mv (vI 3) rfl rfl ?_
   refine wo_nil (tq_n (wk ⟨[(6,vP H101.next 0),(7,vI 3)],87,[],H123⟩ rfl ?_))
   refine w_ret (tq_r ?_)
   refine ⟨.inr rfl,rfl,[.agg #[vI 0,vI 0,vI 0,vI 0,vI 0,vI 0,vI 0,.slice none 0 0,.slice none 0 0,.map none],vI 3],.cons (resV_cellE rfl ag68 sz68 f124.blk rfl (.inl rfl) rfl) (.cons (resV_tmp rfl neI) .nil),((((((KeepX.refl (fun _ => False) H).new_ f102).new_ f107).keep k117).put f124 (by first | (right; omega) | (left; (try dsimp only) <;> omega))).k (fun _ h => h.elim)),w125,0,0,0,0,0,0,0,.slice none 0 0,.slice none 0 0,.map none,3,rfl,.nil _ _,.nil _ _,?_,?_,?_⟩
   · intro h; first | (exfalso; revert h; first | decide | omega) | exact ⟨by omega,by omega,rfl⟩
   · exact MV.nil
   · intro h; exfalso; revert h; first | decide | omega
  ·
   refine sv (v:=.bool false) rfl rfl rfl (opv_bin rfl rfl rfl rfl rfl (cmpF rfl c122)) rfl ?_
   refine wo_nil (tq_n (wk ⟨[(1,as10),(2,vI ax11),(3,vP H.next 0),(6,vP H101.next 0),(23,.bool false)],87,[],H116⟩ rfl ?_))
   refine w_cond (t:=false) rfl rfl (fun h => by cases h) (fun _ => ?_)
   refine w_skip (tq_n (wk ⟨[(1,as10),(2,vI ax11),(3,vP H.next 0),(6,vP H101.next 0)],87,[],H116⟩ rfl ?_))
   refine w_seq (w_region (sv (v:=.agg #[vI ax1,vI ax2,vI ax3,vI ax4,vI ax5,vI ax6,vI ax7,as8,as9]) rfl rfl rfl (opv_loadE rfl rfl rfl ag27 sz27 ((k117.get H.next (by omega)).trans ((f107.get H.next (by omega)).trans f102.blk)) rfl (.inl rfl) rfl) rfl ?_))
   refine sv_new (H:=H116) (v:=.map (some H116.next)) (x:=.obj (.map (#[]) 0)) rfl rfl rfl rfl (opv_makeMap rfl) ?_
   intro H128 f129
   refine newO w111 f129 fun n130 w131 l132 => ?_
   refine sv (v:=.agg #[vI ax1,vI ax2,vI ax3,vI ax4,vI ax5,vI ax6,vI ax7,as8,as9,.map (some H116.next)]) rfl rfl rfl (opv_buildStE (vs:=[(0,.agg #[vI ax1,vI ax2,vI ax3,vI ax4,vI ax5,vI ax6,vI ax7,as8,as9]),(1,.map (some H116.next))]) rfl (.cons rfl rfl (by simp [undef]) (.cons rfl rfl (by simp [undef]) .nil)) ze68 rfl tin68 Try.underlying68 pl68 rfl rfl) rfl ?_
   refine sv_put (H:=H128) (n:=H101.next) (v:=undef) (x:=some (.row #[vI ax1,vI ax2,vI ax3,vI ax4,vI ax5,vI ax6,vI ax7,as8,as9,.map (some H116.next)] .raw)) rfl rfl rfl rfl (opv_storeC (u:=.agg #[vI ax1,vI ax2,vI ax3,vI ax4,vI ax5,vI ax6,vI ax7,as8,as9,.map (some H116.next)]) rfl rfl rfl rfl rfl (by simp [undef]) sz68 rfl rfl (leafs_of (l:=[vI ax1,vI ax2,vI ax3,vI ax4,vI ax5,vI ax6,vI ax7,as8,as9,.map (some H116.next)]) ⟨rfl,rfl,rfl,rfl,rfl,rfl,rfl,vt_one (hvas8.mono (((l104.trans l109).trans l118).trans l132)),vt_one (hvas9.mono (((l104.trans l109).trans l118).trans l132)),rfl,trivial⟩) ((f129.get H101.next (by omega)).trans ((k117.get H101.next (by omega)).trans f107.blk)) rfl rfl) ?_
   intro H133 f134
   refine putL w131 f134 ((f129.get H101.next (by omega)).trans ((k117.get H101.next (by omega)).trans f107.blk)) fun n137 w135 l136 => ?_
   refine wo_nil (tq_n (wk ⟨[(1,as10),(2,vI ax11),(3,vP H.next 0),(6,vP H101.next 0)],87,[],H133⟩ rfl ?_))
   refine w_seq (w_seq (w_region (mv as10 rfl rfl ?_)))
   have c138:slen as10 ≤ 1073741824:=vt_lim (hvas10.mono ((((l104.trans l109).trans l118).trans l132).trans l136))
   refine sv (v:=(vI (slen as10:Int))) rfl rfl rfl (t_len (hvas10.mono ((((l104.trans l109).trans l118).trans l132).trans l136)) rfl rfl rfl Try.underlying28) rfl ?_
   refine mv (vI 0) rfl rfl ?_
   refine wo_nil (tq_n (wk ⟨[(2,vI ax11),(3,vP H.next 0),(6,vP H101.next 0),(28,as10),(29,(vI (slen as10:Int))),(30,vI 0)],87,[],H133⟩ rfl ?_))
   refine w_block (w_loopS (fun m151 s152 => ∃ (x139:Int) (es140:Array MapEntry) (ck141:Nat) (H143:SH),(0 ≤ x139)∧(x139 ≤ (slen as10:Int))∧H143.get H101.next=some (.row #[vI ax1,vI ax2,vI ax3,vI ax4,vI ax5,vI ax6,vI ax7,as8,as9,.map (some H116.next)] .raw)∧H143.get H116.next=some (.obj (.map es140 ck141))∧MapI (.int .i64) SpQ es140∧WT H143∧Le H133 H143∧KeepX (fun m => m=H101.next∨m=H116.next) H133 H143∧m151=(((slen as10:Int):Int) - x139).toNat∧s152=⟨[(2,vI ax11),(3,vP H.next 0),(6,vP H101.next 0),(28,as10),(29,(vI (slen as10:Int))),(30,vI x139)],87,[],H143⟩) (n:=(((slen as10:Int):Int) - 0).toNat) ⟨⟨[(2,vI ax11),(3,vP H.next 0),(6,vP H101.next 0),(28,as10),(29,(vI (slen as10:Int))),(30,vI 0)],87,[],H133⟩,subk rfl,0,#[],0,H133,by omega,by omega,f134.blk,(f134.get H116.next (by omega)).trans f129.blk,mapI_nil _ _,w135,Le.refl _,KeepX.refl (fun m => m=H101.next∨m=H116.next) H133,rfl,rfl⟩ ?_)
   rintro m151 s152 ⟨x139,es140,ck141,H143,i144,i145,hb146,hb147,hM142,w148,l149,k150,rfl,rfl⟩
   have n153:=k150.next
   refine w_seq (w_region ?_)
   by_cases c154:x139 < (slen as10:Int)
   ·
    refine sv (v:=.bool true) rfl rfl rfl (opv_bin rfl rfl rfl rfl rfl (cmpT rfl c154)) rfl ?_
    refine wo_nil (tq_n (wk ⟨[(2,vI ax11),(3,vP H.next 0),(6,vP H101.next 0),(28,as10),(29,(vI (slen as10:Int))),(30,vI x139),(31,.bool true)],87,[],H143⟩ rfl ?_))
    refine w_seq (w_cond (t:=true) rfl rfl (fun _ => ?_) (fun h => by cases h))
    refine w_skip (tq_n (wk ⟨[(2,vI ax11),(3,vP H.next 0),(6,vP H101.next 0),(28,as10),(29,(vI (slen as10:Int))),(30,vI x139)],87,[],H143⟩ rfl ?_))
    refine w_seq (w_block (w_seq (w_region (sv (v:=.pointer (some ⟨snm as10,sof as10 + (x139).toNat * 3,none⟩)) rfl rfl rfl (t_index (z:=3) (hvas10.mono (((((l104.trans l109).trans l118).trans l132).trans l136).trans l149)) rfl rfl rfl rfl rfl Try.underlying28 sz88 (by omega) (by omega)) rfl ?_))))
    obtain ⟨vs155,hs156,ho157⟩:=t_load (P:=Try.prog) w148 (hvas10.mono (((((l104.trans l109).trans l118).trans l132).trans l136).trans l149)) (i:=(x139).toNat) (off:=0) (w:=3) (by omega) (by decide)
    replace hs156:VTs H143 [.int .i64,.int .i64,.int .i64] vs155:=hs156
    obtain ⟨x160,r158,rfl,hs159⟩:=vts_int hs156
    obtain ⟨x163,r161,rfl,hs162⟩:=vts_int hs159
    obtain ⟨x166,r164,rfl,hs165⟩:=vts_int hs162
    obtain rfl:=vts_nil hs165
    refine sv (v:=.agg #[vI x160,vI x163,vI x166]) rfl rfl rfl (ho157 _ _ _ _ true rfl rfl rfl rfl ag88 sz88 (.inl rfl)) rfl ?_
    refine sv_new (H:=H143) (v:=vP H143.next 0) (x:=.row #[vI 0,vI 0,vI 0] .raw) rfl rfl rfl rfl (opv_alloc rfl ze88 rfl) ?_
    intro H167 f168
    refine newL w148 f168 fun n171 w169 l170 => ?_
    refine sv_put (H:=H167) (n:=H143.next) (v:=undef) (x:=some (.row #[vI x160,vI x163,vI x166] .raw)) rfl rfl rfl rfl (opv_storeC (u:=.agg #[vI x160,vI x163,vI x166]) rfl rfl rfl rfl rfl (by simp [undef]) sz88 rfl rfl rfl f168.blk rfl rfl) ?_
    intro H172 f173
    refine putL w169 f173 f168.blk fun n176 w174 l175 => ?_
    refine wo_nil (tq_n (wk ⟨[(2,vI ax11),(3,vP H.next 0),(6,vP H101.next 0),(9,vP H143.next 0),(28,as10),(29,(vI (slen as10:Int))),(30,vI x139)],87,[],H172⟩ rfl ?_))
    refine w_seq (w_block (w_seq (w_region (sv (v:=vP H.next 8) rfl rfl rfl (opv_fieldAddrE rfl rfl rfl Try.underlying27 rfl sz25 (by decide) rfl) rfl ?_))))
    refine sv (v:=as9) rfl rfl rfl (opv_loadE rfl rfl rfl ag25 sz25 ((f173.get H.next (by omega)).trans ((f168.get H.next (by omega)).trans ((k150.get H.next (by omega) (by (try dsimp only); omega)).trans ((f134.get H.next (by omega)).trans ((f129.get H.next (by omega)).trans ((k117.get H.next (by omega)).trans ((f107.get H.next (by omega)).trans f102.blk))))))) rfl (.inr rfl) rfl) rfl ?_
    have c177:slen as9 ≤ 1073741824:=vt_lim (hvas9.mono (((((((l104.trans l109).trans l118).trans l132).trans l136).trans l149).trans l170).trans l175))
    refine sv (v:=(vI (slen as9:Int))) rfl rfl rfl (t_len (hvas9.mono (((((((l104.trans l109).trans l118).trans l132).trans l136).trans l149).trans l170).trans l175)) rfl rfl rfl Try.underlying25) rfl ?_
    refine sv_int rfl rfl rfl (opv_bin rfl rfl rfl rfl rfl rfl) ?_
    intro x178 h179
    try replace h179:x178=(slen as9:Int) - 1:=wr_ex h179 (by omega) (by omega)
    refine sv (v:=vP H143.next 1) rfl rfl rfl (opv_fieldAddrE rfl rfl rfl Try.underlying88 rfl sz3 (by decide) rfl) rfl ?_
    refine sv (v:=vI x163) rfl rfl rfl (opv_loadE rfl rfl rfl ag3 sz3 f173.blk rfl (.inr rfl) rfl) rfl ?_
    refine sv_new (H:=H172) (v:=.slice (some ⟨H172.next,0,none⟩) 1 1) (x:=.row #[vI x163] .raw) rfl rfl rfl rfl (opv_buildSliceE (vs:=[(0,vI x163)]) rfl (.cons rfl rfl neI .nil) Try.underlying31 sz3 ze3 rfl (by decide) (by decide) rfl rfl rfl) ?_
    intro H180 f181
    refine newL w174 f181 fun n184 w182 l183 => ?_
    refine sc_ (H:=H180) (vs:=[vI 0,vI x178,.slice (some ⟨H172.next,0,none⟩) 1 1]) (fv:=.func (.func 30) #[] #[]) rfl rfl rfl rfl rfl rfl (.cons rfl rfl neI (.cons rfl rfl neI (.cons rfl rfl (by simp [undef]) .nil))) rfl ?_
    refine WV.mono (wv_f0 Try.call30 (gas_out_1 x163 0 x178 H172.next _ w182 f181.blk (by omega))) ?_
    rintro v188 H189 ⟨k190,w185,rb186,rfl,f187⟩
    refine kpL k190 fun n192 l191 => ?_
    refine mv (.bool rb186) rfl rfl ?_
    refine wo_nil (tq_n (wk ⟨[(2,vI ax11),(3,vP H.next 0),(6,vP H101.next 0),(9,vP H143.next 0),(28,as10),(29,(vI (slen as10:Int))),(30,vI x139),(34,.bool rb186)],87,[],H189⟩ rfl ?_))
    rcases f187 with ⟨rfl,f187⟩ | ⟨rfl,f187⟩
    ·
     refine w_cond (t:=true) rfl rfl (fun _ => ?_) (fun h => by cases h)
     refine w_seq (w_region (sv (v:=.agg #[vI ax1,vI ax2,vI ax3,vI ax4,vI ax5,vI ax6,vI ax7,as8,as9,.map (some H116.next)]) rfl rfl rfl (opv_loadE rfl rfl rfl ag68 sz68 ((k190.get H101.next (by omega)).trans ((f181.get H101.next (by omega)).trans ((f173.get H101.next (by omega)).trans ((f168.get H101.next (by omega)).trans hb146)))) rfl (.inl rfl) rfl) rfl ?_))
     refine sv_put (H:=H189) (n:=H101.next) (v:=undef) (x:=some (.row #[vI ax1,vI ax2,vI ax3,vI ax4,vI ax5,vI ax6,vI ax7,as8,as9,.map (some H116.next)] .raw)) rfl rfl rfl rfl (opv_storeC (u:=.agg #[vI ax1,vI ax2,vI ax3,vI ax4,vI ax5,vI ax6,vI ax7,as8,as9,.map (some H116.next)]) rfl rfl rfl rfl rfl (by simp [undef]) sz68 rfl rfl (leafs_of (l:=[vI ax1,vI ax2,vI ax3,vI ax4,vI ax5,vI ax6,vI ax7,as8,as9,.map (some H116.next)]) ⟨rfl,rfl,rfl,rfl,rfl,rfl,rfl,vt_one (hvas8.mono (((((((((l104.trans l109).trans l118).trans l132).trans l136).trans l149).trans l170).trans l175).trans l183).trans l191)),vt_one (hvas9.mono (((((((((l104.trans l109).trans l118).trans l132).trans l136).trans l149).trans l170).trans l175).trans l183).trans l191)),rfl,trivial⟩) ((k190.get H101.next (by omega)).trans ((f181.get H101.next (by omega)).trans ((f173.get H101.next (by omega)).trans ((f168.get H101.next (by omega)).trans hb146)))) rfl rfl) ?_
     intro H193 f194
     refine putL w185 f194 ((k190.get H101.next (by omega)).trans ((f181.get H101.next (by omega)).trans ((f173.get H101.next (by omega)).trans ((f168.get H101.next (by omega)).trans hb146)))) fun n197 w195 l196 => ?_
     refine mv (vI 4) rfl rfl ?_
     refine wo_nil (tq_n (wk ⟨[(6,vP H101.next 0),(7,vI 4)],87,[],H193⟩ rfl ?_))
     refine w_ret ?_
     try refine q_eq (e':=.ret) rfl ?_
     refine tq_r ?_
     try refine q_eq (e':=.ret) rfl ?_
     refine tq_r (tq_r ?_)
     try refine q_eq (e':=.ret) rfl ?_
     refine tq_r ?_
     refine ⟨.inr rfl,rfl,[.agg #[vI ax1,vI ax2,vI ax3,vI ax4,vI ax5,vI ax6,vI ax7,as8,as9,.map (some H116.next)],vI 4],.cons (resV_cellE rfl ag68 sz68 f194.blk rfl (.inl rfl) rfl) (.cons (resV_tmp rfl neI) .nil),(((((((((((((KeepX.refl (fun _ => False) H).new_ f102).new_ f107).keep k117).new_ f129).put f134 (by first | (right; omega) | (left; (try dsimp only) <;> omega))).trans k150 (by intro m hm; (try simp only [false_or,or_false] at hm ⊢); (try dsimp only at hm ⊢); first | omega | (right; omega) | (left; left; omega) | (left; right; omega))).new_ f168).put f173 (by first | (right; omega) | (left; (try dsimp only) <;> omega))).new_ f181).keep k190).put f194 (by first | (right; omega) | (left; (try dsimp only) <;> omega))).k (fun _ h => h.elim)),w195,ax1,ax2,ax3,ax4,ax5,ax6,ax7,as8,as9,.map (some H116.next),4,rfl,hvas8.mono ((((((((((l104.trans l109).trans l118).trans l132).trans l136).trans l149).trans l170).trans l175).trans l183).trans l191).trans l196),hvas9.mono ((((((((((l104.trans l109).trans l118).trans l132).trans l136).trans l149).trans l170).trans l175).trans l183).trans l191).trans l196),?_,?_,?_⟩
     · intro h; first | (exfalso; revert h; first | decide | omega) | exact ⟨by omega,by omega,rfl⟩
     · exact MV.some
     · exact fun _ => ⟨_,_,_,rfl,by (try dsimp only); omega,by (try dsimp only); omega,(f194.get H116.next (by omega)).trans ((k190.get H116.next (by omega)).trans ((f181.get H116.next (by omega)).trans ((f173.get H116.next (by omega)).trans ((f168.get H116.next (by omega)).trans hb147)))),hM142⟩
    ·
     refine w_cond (t:=false) rfl rfl (fun h => by cases h) (fun _ => ?_)
     refine w_seq (w_region (sv (v:=vP H143.next 0) rfl rfl rfl (opv_fieldAddrE rfl rfl rfl Try.underlying88 rfl sz3 (by decide) rfl) rfl ?_))
     refine sv (v:=vI x160) rfl rfl rfl (opv_loadE rfl rfl rfl ag3 sz3 ((k190.get H143.next (by omega)).trans ((f181.get H143.next (by omega)).trans f173.blk)) rfl (.inr rfl) rfl) rfl ?_
     refine sv_new (H:=H189) (v:=.slice (some ⟨H189.next,0,none⟩) 1 1) (x:=.row #[vI x160] .raw) rfl rfl rfl rfl (opv_buildSliceE (vs:=[(0,vI x160)]) rfl (.cons rfl rfl neI .nil) Try.underlying31 sz3 ze3 rfl (by decide) (by decide) rfl rfl rfl) ?_
     intro H198 f199
     refine newL w185 f199 fun n202 w200 l201 => ?_
     refine sc_ (H:=H198) (vs:=[vI 0,vI 60,.slice (some ⟨H189.next,0,none⟩) 1 1]) (fv:=.func (.func 30) #[] #[]) rfl rfl rfl rfl rfl rfl (.cons rfl rfl neI (.cons rfl rfl neI (.cons rfl rfl (by simp [undef]) .nil))) rfl ?_
     refine WV.mono (wv_f0 Try.call30 (gas_out_1 x160 0 60 H189.next _ w200 f199.blk (by omega))) ?_
     rintro v206 H207 ⟨k208,w203,rb204,rfl,f205⟩
     refine kpL k208 fun n210 l209 => ?_
     refine mv (.bool rb204) rfl rfl ?_
     rcases f205 with ⟨rfl,f205⟩ | ⟨rfl,f205⟩
     ·
      refine ss rfl (wants_g rfl rfl rfl rfl rfl) rfl rfl ?_
      refine ss rfl (wants_g rfl rfl rfl rfl rfl) rfl rfl ?_
      refine ss rfl (wants_g rfl rfl rfl rfl rfl) rfl rfl ?_
      refine ss rfl (wants_g rfl rfl rfl rfl rfl) rfl rfl ?_
      refine sv (v:=.bool true) rfl rfl rfl (opv_pick (b:=true) rfl rfl rfl rfl rfl rfl) rfl ?_
      refine mv (.bool true) rfl rfl ?_
      refine wo_nil (tq_n (wk ⟨[(2,vI ax11),(3,vP H.next 0),(6,vP H101.next 0),(9,vP H143.next 0),(28,as10),(29,(vI (slen as10:Int))),(30,vI x139),(44,.bool true)],87,[],H207⟩ rfl ?_))
      refine w_cond (t:=true) rfl rfl (fun _ => ?_) (fun h => by cases h)
      refine w_seq (w_region (sv (v:=.agg #[vI ax1,vI ax2,vI ax3,vI ax4,vI ax5,vI ax6,vI ax7,as8,as9,.map (some H116.next)]) rfl rfl rfl (opv_loadE rfl rfl rfl ag68 sz68 ((k208.get H101.next (by omega)).trans ((f199.get H101.next (by omega)).trans ((k190.get H101.next (by omega)).trans ((f181.get H101.next (by omega)).trans ((f173.get H101.next (by omega)).trans ((f168.get H101.next (by omega)).trans hb146)))))) rfl (.inl rfl) rfl) rfl ?_))
      refine sv_put (H:=H207) (n:=H101.next) (v:=undef) (x:=some (.row #[vI ax1,vI ax2,vI ax3,vI ax4,vI ax5,vI ax6,vI ax7,as8,as9,.map (some H116.next)] .raw)) rfl rfl rfl rfl (opv_storeC (u:=.agg #[vI ax1,vI ax2,vI ax3,vI ax4,vI ax5,vI ax6,vI ax7,as8,as9,.map (some H116.next)]) rfl rfl rfl rfl rfl (by simp [undef]) sz68 rfl rfl (leafs_of (l:=[vI ax1,vI ax2,vI ax3,vI ax4,vI ax5,vI ax6,vI ax7,as8,as9,.map (some H116.next)]) ⟨rfl,rfl,rfl,rfl,rfl,rfl,rfl,vt_one (hvas8.mono (((((((((((l104.trans l109).trans l118).trans l132).trans l136).trans l149).trans l170).trans l175).trans l183).trans l191).trans l201).trans l209)),vt_one (hvas9.mono (((((((((((l104.trans l109).trans l118).trans l132).trans l136).trans l149).trans l170).trans l175).trans l183).trans l191).trans l201).trans l209)),rfl,trivial⟩) ((k208.get H101.next (by omega)).trans ((f199.get H101.next (by omega)).trans ((k190.get H101.next (by omega)).trans ((f181.get H101.next (by omega)).trans ((f173.get H101.next (by omega)).trans ((f168.get H101.next (by omega)).trans hb146)))))) rfl rfl) ?_
      intro H211 f212
      refine putL w203 f212 ((k208.get H101.next (by omega)).trans ((f199.get H101.next (by omega)).trans ((k190.get H101.next (by omega)).trans ((f181.get H101.next (by omega)).trans ((f173.get H101.next (by omega)).trans ((f168.get H101.next (by omega)).trans hb146)))))) fun n215 w213 l214 => ?_
      refine mv (vI 7) rfl rfl ?_
      refine wo_nil (tq_n (wk ⟨[(6,vP H101.next 0),(7,vI 7)],87,[],H211⟩ rfl ?_))
      refine w_ret ?_
      try refine q_eq (e':=.ret) rfl ?_
      refine tq_r ?_
      try refine q_eq (e':=.ret) rfl ?_
      refine tq_r (tq_r ?_)
      try refine q_eq (e':=.ret) rfl ?_
      refine tq_r ?_
      refine ⟨.inr rfl,rfl,[.agg #[vI ax1,vI ax2,vI ax3,vI ax4,vI ax5,vI ax6,vI ax7,as8,as9,.map (some H116.next)],vI 7],.cons (resV_cellE rfl ag68 sz68 f212.blk rfl (.inl rfl) rfl) (.cons (resV_tmp rfl neI) .nil),(((((((((((((((KeepX.refl (fun _ => False) H).new_ f102).new_ f107).keep k117).new_ f129).put f134 (by first | (right; omega) | (left; (try dsimp only) <;> omega))).trans k150 (by intro m hm; (try simp only [false_or,or_false] at hm ⊢); (try dsimp only at hm ⊢); first | omega | (right; omega) | (left; left; omega) | (left; right; omega))).new_ f168).put f173 (by first | (right; omega) | (left; (try dsimp only) <;> omega))).new_ f181).keep k190).new_ f199).keep k208).put f212 (by first | (right; omega) | (left; (try dsimp only) <;> omega))).k (fun _ h => h.elim)),w213,ax1,ax2,ax3,ax4,ax5,ax6,ax7,as8,as9,.map (some H116.next),7,rfl,hvas8.mono ((((((((((((l104.trans l109).trans l118).trans l132).trans l136).trans l149).trans l170).trans l175).trans l183).trans l191).trans l201).trans l209).trans l214),hvas9.mono ((((((((((((l104.trans l109).trans l118).trans l132).trans l136).trans l149).trans l170).trans l175).trans l183).trans l191).trans l201).trans l209).trans l214),?_,?_,?_⟩
      · intro h; first | (exfalso; revert h; first | decide | omega) | exact ⟨by omega,by omega,rfl⟩
      · exact MV.some
      · exact fun _ => ⟨_,_,_,rfl,by (try dsimp only); omega,by (try dsimp only); omega,(f212.get H116.next (by omega)).trans ((k208.get H116.next (by omega)).trans ((f199.get H116.next (by omega)).trans ((k190.get H116.next (by omega)).trans ((f181.get H116.next (by omega)).trans ((f173.get H116.next (by omega)).trans ((f168.get H116.next (by omega)).trans hb147)))))),hM142⟩
     ·
      refine sv (v:=vP H143.next 2) rfl (wants_g rfl rfl rfl rfl rfl) rfl (opv_fieldAddrE rfl rfl rfl Try.underlying88 rfl sz3 (by decide) rfl) rfl ?_
      refine sv (v:=vI x166) rfl (wants_g rfl rfl rfl rfl rfl) rfl (opv_loadE rfl rfl rfl ag3 sz3 ((k208.get H143.next (by omega)).trans ((f199.get H143.next (by omega)).trans ((k190.get H143.next (by omega)).trans ((f181.get H143.next (by omega)).trans f173.blk)))) rfl (.inr rfl) rfl) rfl ?_
      refine sv_new (H:=H207) (v:=.slice (some ⟨H207.next,0,none⟩) 1 1) (x:=.row #[vI x166] .raw) rfl (wants_g rfl rfl rfl rfl rfl) rfl rfl (opv_buildSliceE (vs:=[(0,vI x166)]) rfl (.cons rfl rfl neI .nil) Try.underlying31 sz3 ze3 rfl (by decide) (by decide) rfl rfl rfl) ?_
      intro H216 f217
      refine newL w203 f217 fun n220 w218 l219 => ?_
      refine sc_ (H:=H216) (vs:=[vI (-50),vI 250,.slice (some ⟨H207.next,0,none⟩) 1 1]) (fv:=.func (.func 30) #[] #[]) rfl (wants_g rfl rfl rfl rfl rfl) rfl rfl rfl rfl (.cons rfl rfl neI (.cons rfl rfl neI (.cons rfl rfl (by simp [undef]) .nil))) rfl ?_
      refine WV.mono (wv_f0 Try.call30 (gas_out_1 x166 (-50) 250 H207.next _ w218 f217.blk (by omega))) ?_
      rintro v224 H225 ⟨k226,w221,rb222,rfl,f223⟩
      refine kpL k226 fun n228 l227 => ?_
      refine sv (v:=.bool rb222) rfl rfl rfl (opv_pick (b:=false) rfl rfl rfl rfl rfl rfl) rfl ?_
      refine mv (.bool rb222) rfl rfl ?_
      refine wo_nil (tq_n (wk ⟨[(2,vI ax11),(3,vP H.next 0),(6,vP H101.next 0),(9,vP H143.next 0),(28,as10),(29,(vI (slen as10:Int))),(30,vI x139),(44,.bool rb222)],87,[],H225⟩ rfl ?_))
      rcases f223 with ⟨rfl,f223⟩ | ⟨rfl,f223⟩
      ·
       refine w_cond (t:=true) rfl rfl (fun _ => ?_) (fun h => by cases h)
       refine w_seq (w_region (sv (v:=.agg #[vI ax1,vI ax2,vI ax3,vI ax4,vI ax5,vI ax6,vI ax7,as8,as9,.map (some H116.next)]) rfl rfl rfl (opv_loadE rfl rfl rfl ag68 sz68 ((k226.get H101.next (by omega)).trans ((f217.get H101.next (by omega)).trans ((k208.get H101.next (by omega)).trans ((f199.get H101.next (by omega)).trans ((k190.get H101.next (by omega)).trans ((f181.get H101.next (by omega)).trans ((f173.get H101.next (by omega)).trans ((f168.get H101.next (by omega)).trans hb146)))))))) rfl (.inl rfl) rfl) rfl ?_))
       refine sv_put (H:=H225) (n:=H101.next) (v:=undef) (x:=some (.row #[vI ax1,vI ax2,vI ax3,vI ax4,vI ax5,vI ax6,vI ax7,as8,as9,.map (some H116.next)] .raw)) rfl rfl rfl rfl (opv_storeC (u:=.agg #[vI ax1,vI ax2,vI ax3,vI ax4,vI ax5,vI ax6,vI ax7,as8,as9,.map (some H116.next)]) rfl rfl rfl rfl rfl (by simp [undef]) sz68 rfl rfl (leafs_of (l:=[vI ax1,vI ax2,vI ax3,vI ax4,vI ax5,vI ax6,vI ax7,as8,as9,.map (some H116.next)]) ⟨rfl,rfl,rfl,rfl,rfl,rfl,rfl,vt_one (hvas8.mono (((((((((((((l104.trans l109).trans l118).trans l132).trans l136).trans l149).trans l170).trans l175).trans l183).trans l191).trans l201).trans l209).trans l219).trans l227)),vt_one (hvas9.mono (((((((((((((l104.trans l109).trans l118).trans l132).trans l136).trans l149).trans l170).trans l175).trans l183).trans l191).trans l201).trans l209).trans l219).trans l227)),rfl,trivial⟩) ((k226.get H101.next (by omega)).trans ((f217.get H101.next (by omega)).trans ((k208.get H101.next (by omega)).trans ((f199.get H101.next (by omega)).trans ((k190.get H101.next (by omega)).trans ((f181.get H101.next (by omega)).trans ((f173.get H101.next (by omega)).trans ((f168.get H101.next (by omega)).trans hb146)))))))) rfl rfl) ?_
       intro H229 f230
       refine putL w221 f230 ((k226.get H101.next (by omega)).trans ((f217.get H101.next (by omega)).trans ((k208.get H101.next (by omega)).trans ((f199.get H101.next (by omega)).trans ((k190.get H101.next (by omega)).trans ((f181.get H101.next (by omega)).trans ((f173.get H101.next (by omega)).trans ((f168.get H101.next (by omega)).trans hb146)))))))) fun n233 w231 l232 => ?_
       refine mv (vI 7) rfl rfl ?_
       refine wo_nil (tq_n (wk ⟨[(6,vP H101.next 0),(7,vI 7)],87,[],H229⟩ rfl ?_))
       refine w_ret ?_
       try refine q_eq (e':=.ret) rfl ?_
       refine tq_r ?_
       try refine q_eq (e':=.ret) rfl ?_
       refine tq_r (tq_r ?_)
       try refine q_eq (e':=.ret) rfl ?_
       refine tq_r ?_
       refine ⟨.inr rfl,rfl,[.agg #[vI ax1,vI ax2,vI ax3,vI ax4,vI ax5,vI ax6,vI ax7,as8,as9,.map (some H116.next)],vI 7],.cons (resV_cellE rfl ag68 sz68 f230.blk rfl (.inl rfl) rfl) (.cons (resV_tmp rfl neI) .nil),(((((((((((((((((KeepX.refl (fun _ => False) H).new_ f102).new_ f107).keep k117).new_ f129).put f134 (by first | (right; omega) | (left; (try dsimp only) <;> omega))).trans k150 (by intro m hm; (try simp only [false_or,or_false] at hm ⊢); (try dsimp only at hm ⊢); first | omega | (right; omega) | (left; left; omega) | (left; right; omega))).new_ f168).put f173 (by first | (right; omega) | (left; (try dsimp only) <;> omega))).new_ f181).keep k190).new_ f199).keep k208).new_ f217).keep k226).put f230 (by first | (right; omega) | (left; (try dsimp only) <;> omega))).k (fun _ h => h.elim)),w231,ax1,ax2,ax3,ax4,ax5,ax6,ax7,as8,as9,.map (some H116.next),7,rfl,hvas8.mono ((((((((((((((l104.trans l109).trans l118).trans l132).trans l136).trans l149).trans l170).trans l175).trans l183).trans l191).trans l201).trans l209).trans l219).trans l227).trans l232),hvas9.mono ((((((((((((((l104.trans l109).trans l118).trans l132).trans l136).trans l149).trans l170).trans l175).trans l183).trans l191).trans l201).trans l209).trans l219).trans l227).trans l232),?_,?_,?_⟩
       · intro h; first | (exfalso; revert h; first | decide | omega) | exact ⟨by omega,by omega,rfl⟩
       · exact MV.some
       · exact fun _ => ⟨_,_,_,rfl,by (try dsimp only); omega,by (try dsimp only); omega,(f230.get H116.next (by omega)).trans ((k226.get H116.next (by omega)).trans ((f217.get H116.next (by omega)).trans ((k208.get H116.next (by omega)).trans ((f199.get H116.next (by omega)).trans ((k190.get H116.next (by omega)).trans ((f181.get H116.next (by omega)).trans ((f173.get H116.next (by omega)).trans ((f168.get H116.next (by omega)).trans hb147)))))))),hM142⟩
      ·
       refine w_cond (t:=false) rfl rfl (fun h => by cases h) (fun _ => ?_)
       refine w_skip ?_
       try refine q_eq (e':=.normal) rfl ?_
       refine tqk ⟨[(2,vI ax11),(3,vP H.next 0),(6,vP H101.next 0),(9,vP H143.next 0),(28,as10),(29,(vI (slen as10:Int))),(30,vI x139)],87,[],H225⟩ rfl ?_
       refine w_seq (w_region (sv (v:=vP H.next 8) rfl rfl rfl (opv_fieldAddrE rfl rfl rfl Try.underlying27 rfl sz25 (by decide) rfl) rfl ?_))
       refine sv (v:=as9) rfl rfl rfl (opv_loadE rfl rfl rfl ag25 sz25 ((k226.get H.next (by omega)).trans ((f217.get H.next (by omega)).trans ((k208.get H.next (by omega)).trans ((f199.get H.next (by omega)).trans ((k190.get H.next (by omega)).trans ((f181.get H.next (by omega)).trans ((f173.get H.next (by omega)).trans ((f168.get H.next (by omega)).trans ((k150.get H.next (by omega) (by (try dsimp only); omega)).trans ((f134.get H.next (by omega)).trans ((f129.get H.next (by omega)).trans ((k117.get H.next (by omega)).trans ((f107.get H.next (by omega)).trans f102.blk))))))))))))) rfl (.inr rfl) rfl) rfl ?_
       refine sv (v:=vP H143.next 1) rfl rfl rfl (opv_fieldAddrE rfl rfl rfl Try.underlying88 rfl sz3 (by decide) rfl) rfl ?_
       refine sv (v:=vI x163) rfl rfl rfl (opv_loadE rfl rfl rfl ag3 sz3 ((k226.get H143.next (by omega)).trans ((f217.get H143.next (by omega)).trans ((k208.get H143.next (by omega)).trans ((f199.get H143.next (by omega)).trans ((k190.get H143.next (by omega)).trans ((f181.get H143.next (by omega)).trans f173.blk)))))) rfl (.inr rfl) rfl) rfl ?_
       refine sv (v:=.pointer (some ⟨snm as9,sof as9 + (x163).toNat * 2,none⟩)) rfl rfl rfl (t_index (z:=2) (hvas9.mono (((((((((((((l104.trans l109).trans l118).trans l132).trans l136).trans l149).trans l170).trans l175).trans l183).trans l191).trans l201).trans l209).trans l219).trans l227)) rfl rfl rfl rfl rfl Try.underlying25 sz63 (by omega) (by omega)) rfl ?_
       refine sv (v:=.pointer (some ⟨snm as9,sof as9 + (x163).toNat * 2 + 1,none⟩)) rfl rfl rfl (opv_fieldAddrE rfl rfl rfl Try.underlying63 rfl sz3 (by decide) rfl) rfl ?_
       obtain ⟨vs234,hs235,ho236⟩:=t_load (P:=Try.prog) w221 (hvas9.mono (((((((((((((l104.trans l109).trans l118).trans l132).trans l136).trans l149).trans l170).trans l175).trans l183).trans l191).trans l201).trans l209).trans l219).trans l227)) (i:=(x163).toNat) (off:=1) (w:=1) (by omega) (by decide)
       replace hs235:VTs H225 [.int .i64] vs234:=hs235
       obtain ⟨x239,r237,rfl,hs238⟩:=vts_int hs235
       obtain rfl:=vts_nil hs238
       refine sv (v:=vI x239) rfl rfl rfl (ho236 _ _ _ _ false rfl rfl rfl rfl ag3 sz3 (.inr rfl)) rfl ?_
       refine mv (vI x239) rfl rfl ?_
       refine wo_nil (tq_n (wk ⟨[(2,vI ax11),(3,vP H.next 0),(6,vP H101.next 0),(9,vP H143.next 0),(10,vI x239),(28,as10),(29,(vI (slen as10:Int))),(30,vI x139)],87,[],H225⟩ rfl ?_))
       refine w_draw_start ?_
       intro C0
       have C240:=ch_val (i:=4) (p:=0) (ks:=[6]) (v:=.agg #[vI ax1,vI ax2,vI ax3,vI ax4,vI ax5,vI ax6,vI ax7,as8,as9,.map (some H116.next)]) (A:=H225) (H:=H225) C0 rfl rfl rfl rfl rfl rfl (opv_loadE rfl rfl rfl ag68 sz68 ((k226.get H101.next (by omega)).trans ((f217.get H101.next (by omega)).trans ((k208.get H101.next (by omega)).trans ((f199.get H101.next (by omega)).trans ((k190.get H101.next (by omega)).trans ((f181.get H101.next (by omega)).trans ((f173.get H101.next (by omega)).trans ((f168.get H101.next (by omega)).trans hb146)))))))) rfl (.inl rfl) rfl)
       have C241:=ch_val (i:=5) (p:=0) (ks:=[9]) (v:=vP H143.next 0) (A:=H225) (H:=H225) C240 rfl rfl rfl rfl rfl rfl (opv_fieldAddrE rfl rfl rfl Try.underlying88 rfl sz3 (by decide) rfl)
       have C242:=ch_val (i:=6) (p:=0) (ks:=[68]) (v:=vI x160) (A:=H225) (H:=H225) C241 rfl rfl rfl rfl rfl rfl (opv_loadE rfl rfl rfl ag3 sz3 ((k226.get H143.next (by omega)).trans ((f217.get H143.next (by omega)).trans ((k208.get H143.next (by omega)).trans ((f199.get H143.next (by omega)).trans ((k190.get H143.next (by omega)).trans ((f181.get H143.next (by omega)).trans f173.blk)))))) rfl (.inr rfl) rfl)
       obtain ⟨_,H247,k248,⟨w244,rx1245,rx2246,rfl⟩,C243⟩:=ch_call (i:=7) (p:=3) (ks:=[67,69]) (vs:=[.agg #[vI ax1,vI ax2,vI ax3,vI ax4,vI ax5,vI ax6,vI ax7,as8,as9,.map (some H116.next)],vI x160]) (fv:=.func (.func 38) #[] #[]) (H:=H225) C242 rfl rfl rfl rfl rfl rfl rfl (.cons rfl rfl (by simp [undef]) (.cons rfl rfl neI .nil)) rfl (wv_f0 Try.call38 (gas_left ax1 ax2 ax3 ax4 ax5 ax6 ax7 as8 as9 x160 H116.next es140 ck141 _ w221 (hvas8.mono (((((((((((((l104.trans l109).trans l118).trans l132).trans l136).trans l149).trans l170).trans l175).trans l183).trans l191).trans l201).trans l209).trans l219).trans l227)) (hvas9.mono (((((((((((((l104.trans l109).trans l118).trans l132).trans l136).trans l149).trans l170).trans l175).trans l183).trans l191).trans l201).trans l209).trans l219).trans l227)) ((k226.get H116.next (by omega)).trans ((f217.get H116.next (by omega)).trans ((k208.get H116.next (by omega)).trans ((f199.get H116.next (by omega)).trans ((k190.get H116.next (by omega)).trans ((f181.get H116.next (by omega)).trans ((f173.get H116.next (by omega)).trans ((f168.get H116.next (by omega)).trans hb147)))))))) (by omega) hM142))
       refine kpL k248 fun n250 l249 => ?_
       have C251:=ch_val (i:=8) (p:=0) (ks:=[9]) (v:=vP H143.next 2) (A:=H225) (H:=H247) C243 rfl rfl rfl rfl rfl rfl (opv_fieldAddrE rfl rfl rfl Try.underlying88 rfl sz3 (by decide) rfl)
       have C252:=ch_val (i:=9) (p:=0) (ks:=[71]) (v:=vI x166) (A:=H225) (H:=H247) C251 rfl rfl rfl rfl rfl rfl (opv_loadE rfl rfl rfl ag3 sz3 ((k226.get H143.next (by omega)).trans ((f217.get H143.next (by omega)).trans ((k208.get H143.next (by omega)).trans ((f199.get H143.next (by omega)).trans ((k190.get H143.next (by omega)).trans ((f181.get H143.next (by omega)).trans f173.blk)))))) rfl (.inr rfl) rfl)
       have C253:=ch_val (i:=10) (p:=0) (ks:=[10]) (v:=vI x239) (A:=H225) (H:=H247) C252 rfl rfl rfl rfl rfl rfl (opv_move (.inl rfl) rfl rfl)
       obtain ⟨x255,h256⟩ : ∃ x:Int,x=wr (x166 - x239):=⟨_,rfl⟩
       have C254:=ch_val (i:=11) (p:=0) (ks:=[72,73]) (v:=.int .i64 x255) (A:=H225) (H:=H247) C253 rfl rfl rfl rfl rfl rfl (by rw [h256]; exact (opv_bin rfl rfl rfl rfl rfl rfl))
       try replace h256:x255=x166 - x239:=wr_ex h256 (by omega) (by omega)
       have C257:=ch_val (i:=12) (p:=0) (ks:=[9]) (v:=vP H143.next 2) (A:=H225) (H:=H247) C254 rfl rfl rfl rfl rfl rfl (opv_fieldAddrE rfl rfl rfl Try.underlying88 rfl sz3 (by decide) rfl)
       have C258:=ch_val (i:=13) (p:=0) (ks:=[75]) (v:=vI x166) (A:=H225) (H:=H247) C257 rfl rfl rfl rfl rfl rfl (opv_loadE rfl rfl rfl ag3 sz3 ((k226.get H143.next (by omega)).trans ((f217.get H143.next (by omega)).trans ((k208.get H143.next (by omega)).trans ((f199.get H143.next (by omega)).trans ((k190.get H143.next (by omega)).trans ((f181.get H143.next (by omega)).trans f173.blk)))))) rfl (.inr rfl) rfl)
       have C259:=ch_val (i:=14) (p:=0) (ks:=[10]) (v:=vI x239) (A:=H225) (H:=H247) C258 rfl rfl rfl rfl rfl rfl (opv_move (.inl rfl) rfl rfl)
       obtain ⟨x261,h262⟩ : ∃ x:Int,x=wr (x166 + x239):=⟨_,rfl⟩
       have C260:=ch_val (i:=15) (p:=0) (ks:=[76,77]) (v:=.int .i64 x261) (A:=H225) (H:=H247) C259 rfl rfl rfl rfl rfl rfl (by rw [h262]; exact (opv_bin rfl rfl rfl rfl rfl rfl))
       try replace h262:x261=x166 + x239:=wr_ex h262 (by omega) (by omega)
       have C263:=ch_val (i:=16) (p:=0) (ks:=[74,78]) (v:=.agg #[vI x255,vI x261]) (A:=H225) (H:=H247) C260 rfl rfl rfl rfl rfl rfl (opv_buildStE (vs:=[(0,vI x255),(1,vI x261)]) rfl (.cons rfl rfl neI (.cons rfl rfl neI .nil)) ze23 rfl tin23 Try.underlying23 pl23 rfl rfl)
       obtain ⟨_,H268,k269,⟨w265,rx1266,rx2267,rfl⟩,C264⟩:=ch_call (i:=17) (p:=13) (ks:=[70,79]) (vs:=[.agg #[vI rx1245,vI rx2246],.agg #[vI x255,vI x261]]) (fv:=.func (.func 37) #[] #[]) (H:=H247) C263 rfl rfl rfl rfl rfl rfl rfl (.cons rfl rfl (by simp [undef]) (.cons rfl rfl (by simp [undef]) .nil)) rfl (wv_f0 Try.call37 (gas_both rx1245 rx2246 x255 x261 _ w244))
       refine kpL k269 fun n271 l270 => ?_
       have C272:=ch_val (i:=0) (p:=0) (ks:=[6]) (v:=vP H101.next 9) (A:=H225) (H:=H268) C264 rfl rfl rfl rfl rfl rfl (opv_fieldAddrE rfl rfl rfl Try.underlying68 rfl sz66 (by decide) rfl)
       have C273:=ch_val (i:=1) (p:=0) (ks:=[63]) (v:=.map (some H116.next)) (A:=H225) (H:=H268) C272 rfl rfl rfl rfl rfl rfl (opv_loadE rfl rfl rfl ag66 sz66 ((k226.get H101.next (by omega)).trans ((f217.get H101.next (by omega)).trans ((k208.get H101.next (by omega)).trans ((f199.get H101.next (by omega)).trans ((k190.get H101.next (by omega)).trans ((f181.get H101.next (by omega)).trans ((f173.get H101.next (by omega)).trans ((f168.get H101.next (by omega)).trans hb146)))))))) rfl (.inr rfl) rfl)
       have C274:=ch_val (i:=2) (p:=0) (ks:=[9]) (v:=vP H143.next 0) (A:=H225) (H:=H268) C273 rfl rfl rfl rfl rfl rfl (opv_fieldAddrE rfl rfl rfl Try.underlying88 rfl sz3 (by decide) rfl)
       have C275:=ch_val (i:=3) (p:=0) (ks:=[65]) (v:=vI x160) (A:=H225) (H:=H268) C274 rfl rfl rfl rfl rfl rfl (opv_loadE rfl rfl rfl ag3 sz3 ((k226.get H143.next (by omega)).trans ((f217.get H143.next (by omega)).trans ((k208.get H143.next (by omega)).trans ((f199.get H143.next (by omega)).trans ((k190.get H143.next (by omega)).trans ((f181.get H143.next (by omega)).trans f173.blk)))))) rfl (.inr rfl) rfl)
       refine w_draw (tl:=[18]) rfl [0,1,0,4,0,0,32,112,0,256,0,1792,0,4096,0,28672,65280,131056,262143] C275 (by kernel_rfl) (by kernel_rfl) ?_
       refine wonorm (g:=[(2,vI ax11),(3,vP H.next 0),(6,vP H101.next 0),(28,as10),(29,(vI (slen as10:Int))),(30,vI x139),(64,.map (some H116.next)),(66,vI x160),(80,.agg #[vI rx1266,vI rx2267])]) (n:=87) (ds:=[]) (H:=H268) (lsub_cons rfl (lsub_cons rfl (lsub_cons rfl (lsub_cons rfl (lsub_cons rfl (lsub_cons rfl (lsub_cons rfl (lsub_cons rfl (lsub_cons rfl (lsub_nil _)))))))))) rfl rfl rfl ?_
       obtain ⟨es276,c277,hs278⟩ : ∃ es1 c1,mset (.int .i64) (vI x160) (.agg #[vI rx1266,vI rx2267]) es140 ck141=(es1,c1):=⟨_,_,rfl⟩
       have hM279:MapI (.int .i64) SpQ es276:=(by have h:=mapI_set (d:=.int .i64) (c:=ck141) (k:=vI x160) (v:=.agg #[vI rx1266,vI rx2267]) rfl ⟨_,_,rfl⟩ hM142; rw [hs278] at h; exact h)
       refine sv_put (H:=H268) (n:=H116.next) (v:=undef) (x:=some (.obj (.map es276 c277))) rfl rfl rfl rfl (opv_mapUpdate (d:=.int .i64) (k:=vI x160) (v:=.agg #[vI rx1266,vI rx2267]) (.inl rfl) rfl rfl rfl rfl rfl rfl (by simp [undef]) Try.underlying66 Try.underlying3 rfl ((k269.get H116.next (by omega)).trans ((k248.get H116.next (by omega)).trans ((k226.get H116.next (by omega)).trans ((f217.get H116.next (by omega)).trans ((k208.get H116.next (by omega)).trans ((f199.get H116.next (by omega)).trans ((k190.get H116.next (by omega)).trans ((f181.get H116.next (by omega)).trans ((f173.get H116.next (by omega)).trans ((f168.get H116.next (by omega)).trans hb147)))))))))) hM142 hs278) ?_
       intro H280 f281
       refine putO w265 f281 ((k269.get H116.next (by omega)).trans ((k248.get H116.next (by omega)).trans ((k226.get H116.next (by omega)).trans ((f217.get H116.next (by omega)).trans ((k208.get H116.next (by omega)).trans ((f199.get H116.next (by omega)).trans ((k190.get H116.next (by omega)).trans ((f181.get H116.next (by omega)).trans ((f173.get H116.next (by omega)).trans ((f168.get H116.next (by omega)).trans hb147)))))))))) fun n282 w283 l284 => ?_
       refine wo_nil ?_
       try refine q_eq (e':=.normal) rfl ?_
       refine tqk ⟨[(2,vI ax11),(3,vP H.next 0),(6,vP H101.next 0),(28,as10),(29,(vI (slen as10:Int))),(30,vI x139)],87,[],H280⟩ rfl ?_
       refine w_region (sv_int rfl rfl rfl (opv_bin rfl rfl rfl rfl rfl rfl) ?_)
       intro x285 h286
       try replace h286:x285=x139 + 1:=wr_ex h286 (by omega) (by omega)
       refine mv (vI x285) rfl rfl ?_
       refine wo_nil ?_
       refine tq_n ⟨(((slen as10:Int):Int) - x285).toNat,by omega,⟨[(2,vI ax11),(3,vP H.next 0),(6,vP H101.next 0),(28,as10),(29,(vI (slen as10:Int))),(30,vI x285)],87,[],H280⟩,subk rfl,x285,es276,c277,H280,by omega,by omega,(f281.get H101.next (by omega)).trans ((k269.get H101.next (by omega)).trans ((k248.get H101.next (by omega)).trans ((k226.get H101.next (by omega)).trans ((f217.get H101.next (by omega)).trans ((k208.get H101.next (by omega)).trans ((f199.get H101.next (by omega)).trans ((k190.get H101.next (by omega)).trans ((f181.get H101.next (by omega)).trans ((f173.get H101.next (by omega)).trans ((f168.get H101.next (by omega)).trans hb146)))))))))),f281.blk,hM279,w283,((((((((((l149.trans l170).trans l175).trans l183).trans l191).trans l201).trans l209).trans l219).trans l227).trans l249).trans l270).trans l284,(((((((((((((KeepX.refl (fun m => m=H101.next∨m=H116.next) H133).trans k150 (by intro m hm; (try simp only [false_or,or_false] at hm ⊢); (try dsimp only at hm ⊢); first | omega | (right; omega) | (left; left; omega) | (left; right; omega))).new_ f168).put f173 (by first | (right; omega) | (left; (try dsimp only) <;> omega))).new_ f181).keep k190).new_ f199).keep k208).new_ f217).keep k226).keep k248).keep k269).put f281 (by first | (right; omega) | (left; (try dsimp only) <;> omega))),rfl,rfl⟩
   ·
    refine sv (v:=.bool false) rfl rfl rfl (opv_bin rfl rfl rfl rfl rfl (cmpF rfl c154)) rfl ?_
    refine wo_nil (tq_n (wk ⟨[(2,vI ax11),(3,vP H.next 0),(6,vP H101.next 0),(28,as10),(29,(vI (slen as10:Int))),(30,vI x139),(31,.bool false)],87,[],H143⟩ rfl ?_))
    refine w_seq (w_cond (t:=false) rfl rfl (fun h => by cases h) (fun _ => ?_))
    refine w_exit (tq_e (tq_e ?_))
    try refine q_eq (e':=.normal) rfl ?_
    refine tqk ⟨[(2,vI ax11),(6,vP H101.next 0)],87,[],H143⟩ rfl ?_
    refine w_seq (w_seq (w_region (mv (vI ax11) rfl rfl ?_)))
    refine sv_new (H:=H143) (v:=.slice (some ⟨H143.next,0,none⟩) 1 1) (x:=.row #[vI ax11] .raw) rfl rfl rfl rfl (opv_buildSliceE (vs:=[(0,vI ax11)]) rfl (.cons rfl rfl neI .nil) Try.underlying31 sz3 ze3 rfl (by decide) (by decide) rfl rfl rfl) ?_
    intro H287 f288
    refine newL w148 f288 fun n291 w289 l290 => ?_
    refine sc_ (H:=H287) (vs:=[vI 0,vI 60,.slice (some ⟨H143.next,0,none⟩) 1 1]) (fv:=.func (.func 30) #[] #[]) rfl rfl rfl rfl rfl rfl (.cons rfl rfl neI (.cons rfl rfl neI (.cons rfl rfl (by simp [undef]) .nil))) rfl ?_
    refine WV.mono (wv_f0 Try.call30 (gas_out_1 ax11 0 60 H143.next _ w289 f288.blk (by omega))) ?_
    rintro v295 H296 ⟨k297,w292,rb293,rfl,f294⟩
    refine kpL k297 fun n299 l298 => ?_
    refine wo_nil (tq_n (wk ⟨[(6,vP H101.next 0),(84,.bool rb293)],87,[],H296⟩ rfl ?_))
    rcases f294 with ⟨rfl,f294⟩ | ⟨rfl,f294⟩
    ·
     refine w_cond (t:=true) rfl rfl (fun _ => ?_) (fun h => by cases h)
     refine w_seq (w_region (sv (v:=.agg #[vI ax1,vI ax2,vI ax3,vI ax4,vI ax5,vI ax6,vI ax7,as8,as9,.map (some H116.next)]) rfl rfl rfl (opv_loadE rfl rfl rfl ag68 sz68 ((k297.get H101.next (by omega)).trans ((f288.get H101.next (by omega)).trans hb146)) rfl (.inl rfl) rfl) rfl ?_))
     refine sv_put (H:=H296) (n:=H101.next) (v:=undef) (x:=some (.row #[vI ax1,vI ax2,vI ax3,vI ax4,vI ax5,vI ax6,vI ax7,as8,as9,.map (some H116.next)] .raw)) rfl rfl rfl rfl (opv_storeC (u:=.agg #[vI ax1,vI ax2,vI ax3,vI ax4,vI ax5,vI ax6,vI ax7,as8,as9,.map (some H116.next)]) rfl rfl rfl rfl rfl (by simp [undef]) sz68 rfl rfl (leafs_of (l:=[vI ax1,vI ax2,vI ax3,vI ax4,vI ax5,vI ax6,vI ax7,as8,as9,.map (some H116.next)]) ⟨rfl,rfl,rfl,rfl,rfl,rfl,rfl,vt_one (hvas8.mono (((((((l104.trans l109).trans l118).trans l132).trans l136).trans l149).trans l290).trans l298)),vt_one (hvas9.mono (((((((l104.trans l109).trans l118).trans l132).trans l136).trans l149).trans l290).trans l298)),rfl,trivial⟩) ((k297.get H101.next (by omega)).trans ((f288.get H101.next (by omega)).trans hb146)) rfl rfl) ?_
     intro H300 f301
     refine putL w292 f301 ((k297.get H101.next (by omega)).trans ((f288.get H101.next (by omega)).trans hb146)) fun n304 w302 l303 => ?_
     refine mv (vI 7) rfl rfl ?_
     refine wo_nil (tq_n (wk ⟨[(6,vP H101.next 0),(7,vI 7)],87,[],H300⟩ rfl ?_))
     refine w_ret (tq_r ?_)
     refine ⟨.inr rfl,rfl,[.agg #[vI ax1,vI ax2,vI ax3,vI ax4,vI ax5,vI ax6,vI ax7,as8,as9,.map (some H116.next)],vI 7],.cons (resV_cellE rfl ag68 sz68 f301.blk rfl (.inl rfl) rfl) (.cons (resV_tmp rfl neI) .nil),(((((((((((KeepX.refl (fun _ => False) H).new_ f102).new_ f107).keep k117).new_ f129).put f134 (by first | (right; omega) | (left; (try dsimp only) <;> omega))).trans k150 (by intro m hm; (try simp only [false_or,or_false] at hm ⊢); (try dsimp only at hm ⊢); first | omega | (right; omega) | (left; left; omega) | (left; right; omega))).new_ f288).keep k297).put f301 (by first | (right; omega) | (left; (try dsimp only) <;> omega))).k (fun _ h => h.elim)),w302,ax1,ax2,ax3,ax4,ax5,ax6,ax7,as8,as9,.map (some H116.next),7,rfl,hvas8.mono ((((((((l104.trans l109).trans l118).trans l132).trans l136).trans l149).trans l290).trans l298).trans l303),hvas9.mono ((((((((l104.trans l109).trans l118).trans l132).trans l136).trans l149).trans l290).trans l298).trans l303),?_,?_,?_⟩
     · intro h; first | (exfalso; revert h; first | decide | omega) | exact ⟨by omega,by omega,rfl⟩
     · exact MV.some
     · exact fun _ => ⟨_,_,_,rfl,by (try dsimp only); omega,by (try dsimp only); omega,(f301.get H116.next (by omega)).trans ((k297.get H116.next (by omega)).trans ((f288.get H116.next (by omega)).trans hb147)),hM142⟩
    ·
     refine w_cond (t:=false) rfl rfl (fun h => by cases h) (fun _ => ?_)
     refine w_skip (tq_n (wk ⟨[(6,vP H101.next 0)],87,[],H296⟩ rfl ?_))
     refine w_seq (w_region (sv (v:=.agg #[vI ax1,vI ax2,vI ax3,vI ax4,vI ax5,vI ax6,vI ax7,as8,as9,.map (some H116.next)]) rfl rfl rfl (opv_loadE rfl rfl rfl ag68 sz68 ((k297.get H101.next (by omega)).trans ((f288.get H101.next (by omega)).trans hb146)) rfl (.inl rfl) rfl) rfl ?_))
     refine sv_put (H:=H296) (n:=H101.next) (v:=undef) (x:=some (.row #[vI ax1,vI ax2,vI ax3,vI ax4,vI ax5,vI ax6,vI ax7,as8,as9,.map (some H116.next)] .raw)) rfl rfl rfl rfl (opv_storeC (u:=.agg #[vI ax1,vI ax2,vI ax3,vI ax4,vI ax5,vI ax6,vI ax7,as8,as9,.map (some H116.next)]) rfl rfl rfl rfl rfl (by simp [undef]) sz68 rfl rfl (leafs_of (l:=[vI ax1,vI ax2,vI ax3,vI ax4,vI ax5,vI ax6,vI ax7,as8,as9,.map (some H116.next)]) ⟨rfl,rfl,rfl,rfl,rfl,rfl,rfl,vt_one (hvas8.mono (((((((l104.trans l109).trans l118).trans l132).trans l136).trans l149).trans l290).trans l298)),vt_one (hvas9.mono (((((((l104.trans l109).trans l118).trans l132).trans l136).trans l149).trans l290).trans l298)),rfl,trivial⟩) ((k297.get H101.next (by omega)).trans ((f288.get H101.next (by omega)).trans hb146)) rfl rfl) ?_
     intro H305 f306
     refine putL w292 f306 ((k297.get H101.next (by omega)).trans ((f288.get H101.next (by omega)).trans hb146)) fun n309 w307 l308 => ?_
     refine mv (vI 0) rfl rfl ?_
     refine wo_nil (tq_n (wk ⟨[(6,vP H101.next 0),(7,vI 0)],87,[],H305⟩ rfl ?_))
     refine w_ret ?_
     refine ⟨.inr rfl,rfl,[.agg #[vI ax1,vI ax2,vI ax3,vI ax4,vI ax5,vI ax6,vI ax7,as8,as9,.map (some H116.next)],vI 0],.cons (resV_cellE rfl ag68 sz68 f306.blk rfl (.inl rfl) rfl) (.cons (resV_tmp rfl neI) .nil),(((((((((((KeepX.refl (fun _ => False) H).new_ f102).new_ f107).keep k117).new_ f129).put f134 (by first | (right; omega) | (left; (try dsimp only) <;> omega))).trans k150 (by intro m hm; (try simp only [false_or,or_false] at hm ⊢); (try dsimp only at hm ⊢); first | omega | (right; omega) | (left; left; omega) | (left; right; omega))).new_ f288).keep k297).put f306 (by first | (right; omega) | (left; (try dsimp only) <;> omega))).k (fun _ h => h.elim)),w307,ax1,ax2,ax3,ax4,ax5,ax6,ax7,as8,as9,.map (some H116.next),0,rfl,hvas8.mono ((((((((l104.trans l109).trans l118).trans l132).trans l136).trans l149).trans l290).trans l298).trans l308),hvas9.mono ((((((((l104.trans l109).trans l118).trans l132).trans l136).trans l149).trans l290).trans l298).trans l308),?_,?_,?_⟩
     · intro h; first | (exfalso; revert h; first | decide | omega) | exact ⟨by omega,by omega,rfl⟩
     · exact MV.some
     · exact fun _ => ⟨_,_,_,rfl,by (try dsimp only); omega,by (try dsimp only); omega,(f306.get H116.next (by omega)).trans ((k297.get H116.next (by omega)).trans ((f288.get H116.next (by omega)).trans hb147)),hM142⟩
 ·
  refine sv (v:=.bool true) rfl rfl rfl (opv_bin rfl rfl rfl rfl rfl (neT c120)) rfl ?_
  refine wo_nil (tq_n (wk ⟨[(1,as10),(2,vI ax11),(3,vP H.next 0),(6,vP H101.next 0),(7,vI rx12114),(18,.bool true)],87,[],H116⟩ rfl ?_))
  refine w_cond (t:=true) rfl rfl (fun _ => ?_) (fun h => by cases h)
  refine w_seq (w_region (sv (v:=.agg #[vI 0,vI 0,vI 0,vI 0,vI 0,vI 0,vI 0,.slice none 0 0,.slice none 0 0,.map none]) rfl rfl rfl (opv_loadE rfl rfl rfl ag68 sz68 ((k117.get H101.next (by omega)).trans f107.blk) rfl (.inl rfl) rfl) rfl ?_))
  refine mv (vI rx12114) rfl rfl ?_
  refine sv_put (H:=H116) (n:=H101.next) (v:=undef) (x:=some (.row #[vI 0,vI 0,vI 0,vI 0,vI 0,vI 0,vI 0,.slice none 0 0,.slice none 0 0,.map none] .raw)) rfl rfl rfl rfl (opv_storeC (u:=.agg #[vI 0,vI 0,vI 0,vI 0,vI 0,vI 0,vI 0,.slice none 0 0,.slice none 0 0,.map none]) rfl rfl rfl rfl rfl (by simp [undef]) sz68 rfl rfl rfl ((k117.get H101.next (by omega)).trans f107.blk) rfl rfl) ?_
  intro H310 f311
  refine putL w111 f311 ((k117.get H101.next (by omega)).trans f107.blk) fun n314 w312 l313 => ?_
  refine mv (vI rx12114) rfl rfl ?_
  refine wo_nil (tq_n (wk ⟨[(6,vP H101.next 0),(7,vI rx12114)],87,[],H310⟩ rfl ?_))
  refine w_ret (tq_r ?_)
  refine ⟨.inr rfl,rfl,[.agg #[vI 0,vI 0,vI 0,vI 0,vI 0,vI 0,vI 0,.slice none 0 0,.slice none 0 0,.map none],vI rx12114],.cons (resV_cellE rfl ag68 sz68 f311.blk rfl (.inl rfl) rfl) (.cons (resV_tmp rfl neI) .nil),((((((KeepX.refl (fun _ => False) H).new_ f102).new_ f107).keep k117).put f311 (by first | (right; omega) | (left; (try dsimp only) <;> omega))).k (fun _ h => h.elim)),w312,0,0,0,0,0,0,0,.slice none 0 0,.slice none 0 0,.map none,rx12114,rfl,.nil _ _,.nil _ _,?_,?_,?_⟩
  · intro h; first | (exfalso; revert h; first | decide | omega) | exact ⟨by omega,by omega,rfl⟩
  · exact MV.nil
  · intro h; exfalso; revert h; first | decide | omega

theorem gas_follow (ax1 ax2:Int) (ax3 ax4:Int) (ax5 ax6 ax7:Int) (as8 as9:Value) (fr l0:Int) (l1 kn:Int) (mm:Value) (H:SH) (wt:WT H) (hvas8:VT H (.sl false [.int .i64,.int .i64]) as8) (hvas9:VT H (.sl false [.str,.int .i64]) as9) (hmmm:MV mm):WC Try.prog 34 [.agg #[vI ax1,vI ax2,vI ax3,vI ax4,vI ax5,vI ax6,vI ax7,as8,as9,mm],vI fr,.agg #[vI l0,vI l1],vI kn] H (fun v H' => Keep H H'∧WT H'∧∃ (r1 r2:Nat) (r3 r4:Nat),v=(.func (.func 61) #[] #[vP r1 0,vP r2 0,vP r3 0,vP r4 0])∧(H'.get r1=some (.row #[vI fr] .raw)∧H.next ≤ r1∧r1 < H'.next)∧(H'.get r2=some (.row #[vI kn] .raw)∧H.next ≤ r2∧r2 < H'.next)∧(H'.get r3=some (.row #[vI l0,vI l1] .raw)∧H.next ≤ r3∧r3 < H'.next)∧(H'.get r4=some (.row #[vI ax1,vI ax2,vI ax3,vI ax4,vI ax5,vI ax6,vI ax7,as8,as9,mm] .raw)∧H.next ≤ r4∧r4 < H'.next)):=by
 refine wc_of_body Try.func34 rfl ?_
 refine wk ⟨[(0,.agg #[vI ax1,vI ax2,vI ax3,vI ax4,vI ax5,vI ax6,vI ax7,as8,as9,mm]),(1,vI fr),(2,.agg #[vI l0,vI l1]),(3,vI kn)],10,[],H⟩ rfl ?_
 refine w_seq (w_region (sv_new (H:=H) (v:=vP H.next 0) (x:=.row #[vI ax1,vI ax2,vI ax3,vI ax4,vI ax5,vI ax6,vI ax7,as8,as9,mm] .raw) rfl rfl rfl rfl (opv_boxE (v:=.agg #[vI ax1,vI ax2,vI ax3,vI ax4,vI ax5,vI ax6,vI ax7,as8,as9,mm]) rfl rfl rfl (by simp [undef]) rfl) ?_))
 intro H101 f102
 refine newL wt f102 fun n105 w103 l104 => ?_
 refine sv_new (H:=H101) (v:=vP H101.next 0) (x:=.row #[vI fr] .raw) rfl rfl rfl rfl (opv_boxE (v:=vI fr) rfl rfl rfl neI rfl) ?_
 intro H106 f107
 refine newL w103 f107 fun n110 w108 l109 => ?_
 refine sv_new (H:=H106) (v:=vP H106.next 0) (x:=.row #[vI l0,vI l1] .raw) rfl rfl rfl rfl (opv_boxE (v:=.agg #[vI l0,vI l1]) rfl rfl rfl (by simp [undef]) rfl) ?_
 intro H111 f112
 refine newL w108 f112 fun n115 w113 l114 => ?_
 refine sv_new (H:=H111) (v:=vP H111.next 0) (x:=.row #[vI kn] .raw) rfl rfl rfl rfl (opv_boxE (v:=vI kn) rfl rfl rfl neI rfl) ?_
 intro H116 f117
 refine newL w113 f117 fun n120 w118 l119 => ?_
 refine mv .nilFunc rfl rfl ?_
 refine wo_nil (tq_n (wk ⟨[(4,vP H.next 0),(5,vP H101.next 0),(6,vP H106.next 0),(7,vP H111.next 0)],10,[],H116⟩ rfl ?_))
 refine w_seq (w_region (sv (v:=.func (.func 61) #[] #[vP H101.next 0,vP H111.next 0,vP H106.next 0,vP H.next 0]) rfl rfl rfl (opv_makeFunc (vs:=[]) (us:=[vP H101.next 0,vP H111.next 0,vP H106.next 0,vP H.next 0]) rfl (.func _) .nil (.cons rfl rfl neP (.cons rfl rfl neP (.cons rfl rfl neP (.cons rfl rfl neP .nil))))) rfl ?_))
 refine mv (.func (.func 61) #[] #[vP H101.next 0,vP H111.next 0,vP H106.next 0,vP H.next 0]) rfl rfl ?_
 refine wo_nil (tq_n (wk ⟨[(8,.func (.func 61) #[] #[vP H101.next 0,vP H111.next 0,vP H106.next 0,vP H.next 0])],10,[],H116⟩ rfl ?_))
 refine w_ret ?_
 refine ⟨.inr rfl,rfl,[.func (.func 61) #[] #[vP H101.next 0,vP H111.next 0,vP H106.next 0,vP H.next 0]],.cons (resV_tmp rfl (by simp [undef])) .nil,(((((KeepX.refl (fun _ => False) H).new_ f102).new_ f107).new_ f112).new_ f117).k (fun _ h => h.elim),w118,H101.next,H111.next,H106.next,H.next,rfl,⟨(f117.get H101.next (by omega)).trans ((f112.get H101.next (by omega)).trans f107.blk),by (try dsimp only); omega,by (try dsimp only); omega⟩,⟨f117.blk,by (try dsimp only); omega,by (try dsimp only); omega⟩,⟨(f117.get H106.next (by omega)).trans f112.blk,by (try dsimp only); omega,by (try dsimp only); omega⟩,⟨(f117.get H.next (by omega)).trans ((f112.get H.next (by omega)).trans ((f107.get H.next (by omega)).trans f102.blk)),by (try dsimp only); omega,by (try dsimp only); omega⟩⟩

theorem gas_follow_seq (n1 n2:Nat) (n3 n4 nm:Nat) (es:Array MapEntry) (ck:Nat) (fr kn:Int) (l0 l1:Int) (ax1 ax2:Int) (ax3 ax4:Int) (ax5 ax6 ax7:Int) (as8 as9:Value) (H:SH) (wt:WT H) (hvas8:VT H (.sl false [.int .i64,.int .i64]) as8) (hvas9:VT H (.sl false [.str,.int .i64]) as9) (hkn1:H.get n1=some (.row #[vI fr] .raw)) (hln1:n1 < H.next) (hkn2:H.get n2=some (.row #[vI kn] .raw)) (hln2:n2 < H.next) (hkn3:H.get n3=some (.row #[vI l0,vI l1] .raw)) (hln3:n3 < H.next) (hkn4:H.get n4=some (.row #[vI ax1,vI ax2,vI ax3,vI ax4,vI ax5,vI ax6,vI ax7,as8,as9,.map (some nm)] .raw)) (hln4:n4 < H.next) (hknm:H.get nm=some (.obj (.map es ck))) (hlnm:nm < H.next) (h0:0 ≤ fr) (hM:MapI (.int .i64) SpQ es):SeqOK Try.prog (.func (.func 61) #[] #[vP n1 0,vP n2 0,vP n3 0,vP n4 0]) [(false,[.int .i64]),(true,[.int .i64,.int .i64])] (fun l => 0 ≤ argI l 0 0∧argI l 0 0 ≤ 60) (fun m => m=n1∨m=n2∨m=n3∨m=n4∨m=nm) (fun m => m=n3) H:=by
 refine ⟨fun m hm => by (try dsimp only at hm); omega,fun m h => (by (try dsimp only at h ⊢); omega),61,[],[vP n1 0,vP n2 0,vP n3 0,vP n4 0],rfl,Try.call61,?_⟩
 intro H1 k0 le0 wt1 X J D y hX hJs hDs hJ hy
 have n0:=k0.next
 have hqn1:H1.get n1=some (.row #[vI fr] .raw):=(k0.get n1 hln1 (by simp)).trans hkn1
 have hqn2:H1.get n2=some (.row #[vI kn] .raw):=(k0.get n2 hln2 (by simp)).trans hkn2
 have hqn3:H1.get n3=some (.row #[vI l0,vI l1] .raw):=(k0.get n3 hln3 (by simp)).trans hkn3
 have hqn4:H1.get n4=some (.row #[vI ax1,vI ax2,vI ax3,vI ax4,vI ax5,vI ax6,vI ax7,as8,as9,.map (some nm)] .raw):=(k0.get n4 hln4 (by simp)).trans hkn4
 have hqnm:H1.get nm=some (.obj (.map es ck)):=(k0.get nm hlnm (by simp)).trans hknm
 have hwas8:=hvas8.mono le0
 have hwas9:=hvas9.mono le0
 have dn1n3:n1 ≠ n3:=(by intro h; subst h; rw [hqn1] at hqn3; cases hqn3)
 have dn2n3:n2 ≠ n3:=(by intro h; subst h; rw [hqn2] at hqn3; cases hqn3)
 have dn4n3:n4 ≠ n3:=(by intro h; subst h; rw [hqn4] at hqn3; cases hqn3)
 have dnmn3:nm ≠ n3:=(by intro h; subst h; rw [hqnm] at hqn3; cases hqn3)
 refine wc_of_body Try.func61 rfl ?_
 refine wk ⟨[(0,y),(1,vP n1 0),(2,vP n2 0),(3,vP n3 0),(4,vP n4 0)],45,[],H1⟩ rfl ?_
 refine w_seq (w_region (sv (v:=vI fr) rfl rfl rfl (opv_loadE rfl rfl rfl ag3 sz3 hqn1 rfl (.inr rfl) rfl) rfl ?_))
 refine mv (vI fr) rfl rfl ?_
 refine wo_nil (tq_n (wk ⟨[(0,y),(2,vP n2 0),(3,vP n3 0),(4,vP n4 0),(6,vI fr)],45,[],H1⟩ rfl ?_))
 refine w_block (w_loopS (fun m110 s111 => ∃ (x101 x102 x103:Int) (H104:SH),(0 ≤ x101)∧H104.get n3=some (.row #[vI x102,vI x103] .raw)∧WT H104∧Le H1 H104∧KeepX (fun m => X m∨m=n3) H1 H104∧J H104∧m110=(61 - x101).toNat∧s111=⟨[(0,y),(2,vP n2 0),(3,vP n3 0),(4,vP n4 0),(6,vI x101)],45,[],H104⟩) (n:=(61 - fr).toNat) ⟨⟨[(0,y),(2,vP n2 0),(3,vP n3 0),(4,vP n4 0),(6,vI fr)],45,[],H1⟩,subk rfl,fr,l0,l1,H1,by omega,hqn3,wt1,Le.refl _,KeepX.refl (fun m => X m∨m=n3) H1,hJ,rfl,rfl⟩ ?_)
 rintro m110 s111 ⟨x101,x102,x103,H104,i105,hb106,w107,l108,k109,hj112,rfl,rfl⟩
 have n113:=k109.next
 refine w_seq (w_seq (w_region (mv (vI x101) rfl rfl ?_)))
 by_cases c114:x101 ≤ 60
 ·
  refine sv (v:=.bool true) rfl rfl rfl (opv_bin rfl rfl rfl rfl rfl (cmpT rfl c114)) rfl ?_
  refine wo_nil (tq_n (wk ⟨[(0,y),(2,vP n2 0),(3,vP n3 0),(4,vP n4 0),(6,vI x101),(10,.bool true)],45,[],H104⟩ rfl ?_))
  refine w_cond (t:=true) rfl rfl (fun _ => ?_) (fun h => by cases h)
  refine w_skip (tq_n (wk ⟨[(0,y),(2,vP n2 0),(3,vP n3 0),(4,vP n4 0),(6,vI x101)],45,[],H104⟩ rfl ?_))
  refine w_seq (w_block (w_seq (w_seq (w_region (mv (vI x101) rfl rfl ?_)))))
  refine sv (v:=vI kn) rfl rfl rfl (opv_loadE rfl rfl rfl ag3 sz3 ((k109.get n2 (by omega) (fun h => h.elim (yieldX hX (by first | (right; omega) | (left; rfl) | (left; simp))) (by omega))).trans hqn2) rfl (.inr rfl) rfl) rfl ?_
  by_cases c115:x101 ≤ kn
  ·
   refine sv (v:=.bool true) rfl rfl rfl (opv_bin rfl rfl rfl rfl rfl (cmpT rfl c115)) rfl ?_
   refine wo_nil (tq_n (wk ⟨[(0,y),(2,vP n2 0),(3,vP n3 0),(4,vP n4 0),(6,vI x101),(15,.bool true)],45,[],H104⟩ rfl ?_))
   refine w_cond (t:=true) rfl rfl (fun _ => ?_) (fun h => by cases h)
   refine w_draw_start ?_
   intro C0
   have C116:=ch_val (i:=1) (p:=0) (ks:=[4]) (v:=.agg #[vI ax1,vI ax2,vI ax3,vI ax4,vI ax5,vI ax6,vI ax7,as8,as9,.map (some nm)]) (A:=H104) (H:=H104) C0 rfl rfl rfl rfl rfl rfl (opv_loadE rfl rfl rfl ag68 sz68 ((k109.get n4 (by omega) (fun h => h.elim (yieldX hX (by first | (right; omega) | (left; rfl) | (left; simp))) (by omega))).trans hqn4) rfl (.inl rfl) rfl)
   have C117:=ch_val (i:=2) (p:=0) (ks:=[6]) (v:=vI x101) (A:=H104) (H:=H104) C116 rfl rfl rfl rfl rfl rfl (opv_move (.inl rfl) rfl rfl)
   obtain ⟨_,H122,k123,⟨w119,rx1120,rx2121,rfl⟩,C118⟩:=ch_call (i:=3) (p:=2) (ks:=[17,18]) (vs:=[.agg #[vI ax1,vI ax2,vI ax3,vI ax4,vI ax5,vI ax6,vI ax7,as8,as9,.map (some nm)],vI x101]) (fv:=.func (.func 38) #[] #[]) (H:=H104) C117 rfl rfl rfl rfl rfl rfl rfl (.cons rfl rfl (by simp [undef]) (.cons rfl rfl neI .nil)) rfl (wv_f0 Try.call38 (gas_left ax1 ax2 ax3 ax4 ax5 ax6 ax7 as8 as9 x101 nm es ck _ w107 (hwas8.mono l108) (hwas9.mono l108) ((k109.get nm (by omega) (fun h => h.elim (yieldX hX (by first | (right; omega) | (left; rfl) | (left; simp))) (by omega))).trans hqnm) (by omega) hM))
   refine kpL k123 fun n125 l124 => ?_
   have C126:=ch_val (i:=0) (p:=0) (ks:=[3]) (v:=.agg #[vI x102,vI x103]) (A:=H104) (H:=H122) C118 rfl rfl rfl rfl rfl rfl (opv_loadE rfl rfl rfl ag23 sz23 hb106 rfl (.inl rfl) rfl)
   refine w_draw (tl:=[4,5]) rfl [0,0,0,6,15,31] C126 (by kernel_rfl) (by kernel_rfl) ?_
   refine wonorm (g:=[(0,y),(2,vP n2 0),(3,vP n3 0),(4,vP n4 0),(6,vI x101),(16,.agg #[vI x102,vI x103]),(19,.agg #[vI rx1120,vI rx2121])]) (n:=45) (ds:=[]) (H:=H122) (lsub_cons rfl (lsub_cons rfl (lsub_cons rfl (lsub_cons rfl (lsub_cons rfl (lsub_cons rfl (lsub_cons rfl (lsub_nil _)))))))) rfl rfl rfl ?_
   refine sc_ (H:=H122) (vs:=[.agg #[vI x102,vI x103],.agg #[vI rx1120,vI rx2121]]) (fv:=.func (.func 37) #[] #[]) rfl rfl rfl rfl rfl rfl (.cons rfl rfl (by simp [undef]) (.cons rfl rfl (by simp [undef]) .nil)) rfl ?_
   refine WV.mono (wv_f0 Try.call37 (gas_both x102 x103 rx1120 rx2121 _ w119)) ?_
   rintro v130 H131 ⟨k132,w127,rx1128,rx2129,rfl⟩
   refine kpL k132 fun n134 l133 => ?_
   refine sv_put (H:=H131) (n:=n3) (v:=undef) (x:=some (.row #[vI rx1128,vI rx2129] .raw)) rfl rfl rfl rfl (opv_storeC (u:=.agg #[vI rx1128,vI rx2129]) rfl rfl rfl rfl rfl (by simp [undef]) sz23 rfl rfl rfl ((k132.get n3 (by omega)).trans ((k123.get n3 (by omega)).trans hb106)) rfl rfl) ?_
   intro H135 f136
   refine putL w127 f136 ((k132.get n3 (by omega)).trans ((k123.get n3 (by omega)).trans hb106)) fun n139 w137 l138 => ?_
   refine wo_nil (tq_n (wk ⟨[(0,y),(2,vP n2 0),(3,vP n3 0),(4,vP n4 0),(6,vI x101)],45,[],H135⟩ rfl ?_))
   refine w_seq (w_seq (w_region (mv y rfl rfl ?_)))
   refine mv (vI x101) rfl rfl ?_
   refine sv (v:=.agg #[vI rx1128,vI rx2129]) rfl rfl rfl (opv_loadE rfl rfl rfl ag23 sz23 f136.blk rfl (.inl rfl) rfl) rfl ?_
   refine sc_ (H:=H135) (vs:=[vI x101,.agg #[vI rx1128,vI rx2129]]) (fv:=y) rfl rfl rfl rfl rfl rfl (.cons rfl rfl neI (.cons rfl rfl (by simp [undef]) .nil)) rfl ?_
   refine WV.mono (hy _ _ (hJs _ _ hj112 (by omega) ((((KeepX.refl (fun m => H1.next ≤ m∨m=n3) H104).keep k123).keep k132).put f136 (by first | (left; left; omega) | (left; right; (try dsimp only) <;> omega))) ((l124.trans l133).trans l138)) w137 (by omega) ⟨_,_,rfl,⟨[vI x101],⟨_,_,rfl,.int _ _,rfl⟩,rfl⟩,⟨_,_,rfl,⟨[vI rx1128,vI rx2129],⟨_,_,rfl,.int _ _,⟨_,_,rfl,.int _ _,rfl⟩⟩,rfl⟩,rfl⟩⟩ (show 0 ≤ x101∧x101 ≤ 60 by omega)) ?_
   rintro v146 H147 ⟨b145,rfl,w140,l141,k142,h143,h144⟩
   have n148:=k142.next
   rcases b145 with _ | _
   ·
    refine sv (v:=.bool true) rfl rfl rfl (opv_not (b:=false) rfl rfl rfl) rfl ?_
    refine wo_nil (tq_n (wk ⟨[(0,y),(2,vP n2 0),(3,vP n3 0),(4,vP n4 0),(6,vI x101),(25,.bool true)],45,[],H147⟩ rfl ?_))
    refine w_cond (t:=true) rfl rfl (fun _ => ?_) (fun h => by cases h)
    refine w_ret (tq_r ?_)
    try refine q_eq (e':=.ret) rfl ?_
    refine tq_r (tq_r ?_)
    try refine q_eq (e':=.ret) rfl ?_
    exact ⟨.inr rfl,rfl,[],.nil,w140,(((l108.trans l124).trans l133).trans l138).trans l141,((((((KeepX.refl (fun m => X m∨m=n3) H1).trans k109 (fun m hm => hm.elim (fun h => .inl (.inl h)) (by intro h; first | (right; omega) | (left; right; omega) | (left; (try dsimp only) <;> omega)))).keep k123).keep k132).put f136 (by first | (right; omega) | (left; right; omega) | (left; (try dsimp only) <;> omega))).trans k142 (fun m hm => .inl (.inl hm))),.inr (h144 rfl)⟩
   ·
    refine sv (v:=.bool false) rfl rfl rfl (opv_not (b:=true) rfl rfl rfl) rfl ?_
    refine wo_nil (tq_n (wk ⟨[(0,y),(2,vP n2 0),(3,vP n3 0),(4,vP n4 0),(6,vI x101),(25,.bool false)],45,[],H147⟩ rfl ?_))
    refine w_cond (t:=false) rfl rfl (fun h => by cases h) (fun _ => ?_)
    refine w_skip (tq_n (wk ⟨[(0,y),(2,vP n2 0),(3,vP n3 0),(4,vP n4 0),(6,vI x101)],45,[],H147⟩ rfl ?_))
    refine w_seq (w_region (sv (v:=.agg #[vI ax1,vI ax2,vI ax3,vI ax4,vI ax5,vI ax6,vI ax7,as8,as9,.map (some nm)]) rfl rfl rfl (opv_loadE rfl rfl rfl ag68 sz68 ((k142.get n4 (by omega) (yieldX hX (by first | (right; omega) | (left; rfl) | (left; simp)))).trans ((f136.get n4 (by omega)).trans ((k132.get n4 (by omega)).trans ((k123.get n4 (by omega)).trans ((k109.get n4 (by omega) (fun h => h.elim (yieldX hX (by first | (right; omega) | (left; rfl) | (left; simp))) (by omega))).trans hqn4))))) rfl (.inl rfl) rfl) rfl ?_))
    refine mv (vI x101) rfl rfl ?_
    refine sc_ (H:=H147) (vs:=[.agg #[vI ax1,vI ax2,vI ax3,vI ax4,vI ax5,vI ax6,vI ax7,as8,as9,.map (some nm)],vI x101]) (fv:=.func (.func 36) #[] #[]) rfl rfl rfl rfl rfl rfl (.cons rfl rfl (by simp [undef]) (.cons rfl rfl neI .nil)) rfl ?_
    refine WV.mono (wv_f0 Try.call36 (gas_rise ax1 ax2 ax3 ax4 ax5 ax6 ax7 as8 as9 x101 (.map (some nm)) _ w140 (hwas8.mono ((((l108.trans l124).trans l133).trans l138).trans l141)) (hwas9.mono ((((l108.trans l124).trans l133).trans l138).trans l141)) MV.some)) ?_
    rintro v152 H153 ⟨k154,w149,rx1150,rx2151,rfl⟩
    refine kpL k154 fun n156 l155 => ?_
    refine sv_new (H:=H153) (v:=vP H153.next 0) (x:=.row #[vI 0,vI 0] .raw) rfl rfl rfl rfl (opv_alloc rfl ze23 rfl) ?_
    intro H157 f158
    refine newL w149 f158 fun n161 w159 l160 => ?_
    refine sv_put (H:=H157) (n:=H153.next) (v:=undef) (x:=some (.row #[vI rx1150,vI rx2151] .raw)) rfl rfl rfl rfl (opv_storeC (u:=.agg #[vI rx1150,vI rx2151]) rfl rfl rfl rfl rfl (by simp [undef]) sz23 rfl rfl rfl f158.blk rfl rfl) ?_
    intro H162 f163
    refine putL w159 f163 f158.blk fun n166 w164 l165 => ?_
    refine wo_nil (tq_n (wk ⟨[(0,y),(2,vP n2 0),(3,vP n3 0),(4,vP n4 0),(6,vI x101),(7,vP H153.next 0)],45,[],H162⟩ rfl ?_))
    refine w_seq (w_draw_start ?_)
    intro C0
    obtain ⟨_,H169,k170,⟨w168,rfl⟩,C167⟩:=ch_call (i:=1) (p:=0) (ks:=[]) (vs:=[]) (fv:=.func (.func 62) #[] #[]) (H:=H162) C0 rfl rfl rfl rfl rfl rfl rfl .nil rfl (wv_f0 Try.call62 (gas_none _ w164))
    refine kpL k170 fun n172 l171 => ?_
    have C173:=ch_val (i:=0) (p:=0) (ks:=[3]) (v:=.agg #[vI rx1128,vI rx2129]) (A:=H162) (H:=H169) C167 rfl rfl rfl rfl rfl rfl (opv_loadE rfl rfl rfl ag23 sz23 ((f163.get n3 (by omega)).trans ((f158.get n3 (by omega)).trans ((k154.get n3 (by omega)).trans ((k142.get n3 (by omega) (yieldX hX (by first | (right; omega) | (left; rfl) | (left; simp)))).trans f136.blk)))) rfl (.inl rfl) rfl)
    refine w_draw (tl:=[2]) rfl [0,0,3] C173 (by kernel_rfl) (by kernel_rfl) ?_
    refine wonorm (g:=[(0,y),(2,vP n2 0),(3,vP n3 0),(4,vP n4 0),(6,vI x101),(7,vP H153.next 0),(29,.agg #[vI rx1128,vI rx2129]),(30,.agg #[vI 1,vI 0])]) (n:=45) (ds:=[]) (H:=H169) (lsub_cons rfl (lsub_cons rfl (lsub_cons rfl (lsub_cons rfl (lsub_cons rfl (lsub_cons rfl (lsub_cons rfl (lsub_cons rfl (lsub_nil _))))))))) rfl rfl rfl ?_
    obtain ⟨r174,hr175⟩:=eqT23 rx1128 rx2129 1 0
    obtain ⟨b176,h177⟩ : ∃ b:Bool,flipB .neq r174=b:=⟨_,rfl⟩
    refine sv (v:=.bool b176) rfl rfl rfl (by rw [← h177]; exact opv_eqAgg rfl rfl rfl rfl rfl rfl rfl eg23 hr175 (.inr rfl)) rfl ?_
    refine wo_nil (tq_n (wk ⟨[(0,y),(2,vP n2 0),(3,vP n3 0),(4,vP n4 0),(6,vI x101),(7,vP H153.next 0),(31,.bool b176)],45,[],H169⟩ rfl ?_))
    rcases b176 with _ | _
    ·
     refine w_cond (t:=false) rfl rfl (fun h => by cases h) (fun _ => ?_)
     refine w_skip ?_
     try refine q_eq (e':=.normal) rfl ?_
     refine tqk ⟨[(0,y),(2,vP n2 0),(3,vP n3 0),(4,vP n4 0),(6,vI x101)],45,[],H169⟩ rfl ?_
     refine w_region (mv (vI x101) rfl rfl ?_)
     refine sv_int rfl rfl rfl (opv_bin rfl rfl rfl rfl rfl rfl) ?_
     intro x178 h179
     try replace h179:x178=x101 + 1:=wr_ex h179 (by omega) (by omega)
     refine mv (vI x178) rfl rfl ?_
     refine wo_nil ?_
     refine tq_n ⟨(61 - x178).toNat,by omega,⟨[(0,y),(2,vP n2 0),(3,vP n3 0),(4,vP n4 0),(6,vI x178)],45,[],H169⟩,subk rfl,x178,rx1128,rx2129,H169,by omega,((k170.get n3 (by omega)).trans ((f163.get n3 (by omega)).trans ((f158.get n3 (by omega)).trans ((k154.get n3 (by omega)).trans ((k142.get n3 (by omega) (yieldX hX (by first | (right; omega) | (left; rfl) | (left; simp)))).trans f136.blk))))),w168,(((((((l108.trans l124).trans l133).trans l138).trans l141).trans l155).trans l160).trans l165).trans l171,((((((((((KeepX.refl (fun m => X m∨m=n3) H1).trans k109 (fun m hm => hm.elim (fun h => .inl (.inl h)) (by intro h; first | (right; omega) | (left; right; omega) | (left; (try dsimp only) <;> omega)))).keep k123).keep k132).put f136 (by first | (right; omega) | (left; right; omega) | (left; (try dsimp only) <;> omega))).trans k142 (fun m hm => .inl (.inl hm))).keep k154).new_ f158).put f163 (by first | (right; omega) | (left; right; omega) | (left; (try dsimp only) <;> omega))).keep k170),(hJs _ _ (h143 rfl) (by omega) (((((KeepX.refl (fun m => H1.next ≤ m∨m=n3) H147).keep k154).new_ f158).put f163 (by first | (left; left; omega) | (left; right; (try dsimp only) <;> omega))).keep k170) (((l155.trans l160).trans l165).trans l171)),rfl,rfl⟩
    ·
     refine w_cond (t:=true) rfl rfl (fun _ => ?_) (fun h => by cases h)
     refine w_draw_start ?_
     intro C0
     have C180:=ch_val (i:=0) (p:=0) (ks:=[3]) (v:=vP n3 0) (A:=H169) (H:=H169) C0 rfl rfl rfl rfl rfl rfl (opv_fieldAddrE rfl rfl rfl Try.underlying23 rfl sz3 (by decide) rfl)
     have C181:=ch_val (i:=1) (p:=0) (ks:=[32]) (v:=vI rx1128) (A:=H169) (H:=H169) C180 rfl rfl rfl rfl rfl rfl (opv_loadE rfl rfl rfl ag3 sz3 ((k170.get n3 (by omega)).trans ((f163.get n3 (by omega)).trans ((f158.get n3 (by omega)).trans ((k154.get n3 (by omega)).trans ((k142.get n3 (by omega) (yieldX hX (by first | (right; omega) | (left; rfl) | (left; simp)))).trans f136.blk))))) rfl (.inr rfl) rfl)
     have C182:=ch_val (i:=2) (p:=0) (ks:=[7]) (v:=vP H153.next 0) (A:=H169) (H:=H169) C181 rfl rfl rfl rfl rfl rfl (opv_fieldAddrE rfl rfl rfl Try.underlying23 rfl sz3 (by decide) rfl)
     have C183:=ch_val (i:=3) (p:=0) (ks:=[34]) (v:=vI rx1150) (A:=H169) (H:=H169) C182 rfl rfl rfl rfl rfl rfl (opv_loadE rfl rfl rfl ag3 sz3 ((k170.get H153.next (by omega)).trans f163.blk) rfl (.inr rfl) rfl)
     obtain ⟨x185,h186⟩ : ∃ x:Int,x=wr (rx1128 + rx1150):=⟨_,rfl⟩
     have C184:=ch_val (i:=4) (p:=0) (ks:=[33,35]) (v:=.int .i64 x185) (A:=H169) (H:=H169) C183 rfl rfl rfl rfl rfl rfl (by rw [h186]; exact (opv_bin rfl rfl rfl rfl rfl rfl))
     try replace h186:x185=rx1128 + rx1150:=wr_ex h186 (by omega) (by omega)
     obtain ⟨_,H190,k191,⟨w188,rx2189,rfl⟩,C187⟩:=ch_call (i:=5) (p:=5) (ks:=[36]) (vs:=[vI x185]) (fv:=.func (.func 39) #[] #[]) (H:=H169) C184 rfl rfl rfl rfl rfl rfl rfl (.cons rfl rfl neI .nil) rfl (wv_f0 Try.call39 (gas_limited x185 _ w168))
     refine kpL k191 fun n193 l192 => ?_
     have C194:=ch_val (i:=6) (p:=0) (ks:=[3]) (v:=vP n3 1) (A:=H169) (H:=H190) C187 rfl rfl rfl rfl rfl rfl (opv_fieldAddrE rfl rfl rfl Try.underlying23 rfl sz3 (by decide) rfl)
     have C195:=ch_val (i:=7) (p:=0) (ks:=[38]) (v:=vI rx2129) (A:=H169) (H:=H190) C194 rfl rfl rfl rfl rfl rfl (opv_loadE rfl rfl rfl ag3 sz3 ((k170.get n3 (by omega)).trans ((f163.get n3 (by omega)).trans ((f158.get n3 (by omega)).trans ((k154.get n3 (by omega)).trans ((k142.get n3 (by omega) (yieldX hX (by first | (right; omega) | (left; rfl) | (left; simp)))).trans f136.blk))))) rfl (.inr rfl) rfl)
     have C196:=ch_val (i:=8) (p:=0) (ks:=[7]) (v:=vP H153.next 1) (A:=H169) (H:=H190) C195 rfl rfl rfl rfl rfl rfl (opv_fieldAddrE rfl rfl rfl Try.underlying23 rfl sz3 (by decide) rfl)
     have C197:=ch_val (i:=9) (p:=0) (ks:=[40]) (v:=vI rx2151) (A:=H169) (H:=H190) C196 rfl rfl rfl rfl rfl rfl (opv_loadE rfl rfl rfl ag3 sz3 ((k170.get H153.next (by omega)).trans f163.blk) rfl (.inr rfl) rfl)
     obtain ⟨x199,h200⟩ : ∃ x:Int,x=wr (rx2129 + rx2151):=⟨_,rfl⟩
     have C198:=ch_val (i:=10) (p:=0) (ks:=[39,41]) (v:=.int .i64 x199) (A:=H169) (H:=H190) C197 rfl rfl rfl rfl rfl rfl (by rw [h200]; exact (opv_bin rfl rfl rfl rfl rfl rfl))
     try replace h200:x199=rx2129 + rx2151:=wr_ex h200 (by omega) (by omega)
     refine w_draw (tl:=[11,12,13]) rfl [0,1,0,4,15,31,0,64,0,256,960,2047,4095,8191] C198 (by kernel_rfl) (by kernel_rfl) ?_
     refine wonorm (g:=[(0,y),(2,vP n2 0),(3,vP n3 0),(4,vP n4 0),(6,vI x101),(37,vI rx2189),(42,vI x199)]) (n:=45) (ds:=[]) (H:=H190) (lsub_cons rfl (lsub_cons rfl (lsub_cons rfl (lsub_cons rfl (lsub_cons rfl (lsub_cons rfl (lsub_cons rfl (lsub_nil _)))))))) rfl rfl rfl ?_
     refine sc_ (H:=H190) (vs:=[vI x199]) (fv:=.func (.func 39) #[] #[]) rfl rfl rfl rfl rfl rfl (.cons rfl rfl neI .nil) rfl ?_
     refine WV.mono (wv_f0 Try.call39 (gas_limited x199 _ w188)) ?_
     rintro v203 H204 ⟨k205,w201,rx2202,rfl⟩
     refine kpL k205 fun n207 l206 => ?_
     refine sv (v:=.agg #[vI rx2189,vI rx2202]) rfl rfl rfl (opv_buildStE (vs:=[(0,vI rx2189),(1,vI rx2202)]) rfl (.cons rfl rfl neI (.cons rfl rfl neI .nil)) ze23 rfl tin23 Try.underlying23 pl23 rfl rfl) rfl ?_
     refine sv_put (H:=H204) (n:=n3) (v:=undef) (x:=some (.row #[vI rx2189,vI rx2202] .raw)) rfl rfl rfl rfl (opv_storeC (u:=.agg #[vI rx2189,vI rx2202]) rfl rfl rfl rfl rfl (by simp [undef]) sz23 rfl rfl rfl ((k205.get n3 (by omega)).trans ((k191.get n3 (by omega)).trans ((k170.get n3 (by omega)).trans ((f163.get n3 (by omega)).trans ((f158.get n3 (by omega)).trans ((k154.get n3 (by omega)).trans ((k142.get n3 (by omega) (yieldX hX (by first | (right; omega) | (left; rfl) | (left; simp)))).trans f136.blk))))))) rfl rfl) ?_
     intro H208 f209
     refine putL w201 f209 ((k205.get n3 (by omega)).trans ((k191.get n3 (by omega)).trans ((k170.get n3 (by omega)).trans ((f163.get n3 (by omega)).trans ((f158.get n3 (by omega)).trans ((k154.get n3 (by omega)).trans ((k142.get n3 (by omega) (yieldX hX (by first | (right; omega) | (left; rfl) | (left; simp)))).trans f136.blk))))))) fun n212 w210 l211 => ?_
     refine wo_nil ?_
     try refine q_eq (e':=.normal) rfl ?_
     refine tqk ⟨[(0,y),(2,vP n2 0),(3,vP n3 0),(4,vP n4 0),(6,vI x101)],45,[],H208⟩ rfl ?_
     refine w_region (mv (vI x101) rfl rfl ?_)
     refine sv_int rfl rfl rfl (opv_bin rfl rfl rfl rfl rfl rfl) ?_
     intro x213 h214
     try replace h214:x213=x101 + 1:=wr_ex h214 (by omega) (by omega)
     refine mv (vI x213) rfl rfl ?_
     refine wo_nil ?_
     refine tq_n ⟨(61 - x213).toNat,by omega,⟨[(0,y),(2,vP n2 0),(3,vP n3 0),(4,vP n4 0),(6,vI x213)],45,[],H208⟩,subk rfl,x213,rx2189,rx2202,H208,by omega,f209.blk,w210,((((((((((l108.trans l124).trans l133).trans l138).trans l141).trans l155).trans l160).trans l165).trans l171).trans l192).trans l206).trans l211,(((((((((((((KeepX.refl (fun m => X m∨m=n3) H1).trans k109 (fun m hm => hm.elim (fun h => .inl (.inl h)) (by intro h; first | (right; omega) | (left; right; omega) | (left; (try dsimp only) <;> omega)))).keep k123).keep k132).put f136 (by first | (right; omega) | (left; right; omega) | (left; (try dsimp only) <;> omega))).trans k142 (fun m hm => .inl (.inl hm))).keep k154).new_ f158).put f163 (by first | (right; omega) | (left; right; omega) | (left; (try dsimp only) <;> omega))).keep k170).keep k191).keep k205).put f209 (by first | (right; omega) | (left; right; omega) | (left; (try dsimp only) <;> omega))),(hJs _ _ (h143 rfl) (by omega) ((((((((KeepX.refl (fun m => H1.next ≤ m∨m=n3) H147).keep k154).new_ f158).put f163 (by first | (left; left; omega) | (left; right; (try dsimp only) <;> omega))).keep k170).keep k191).keep k205).put f209 (by first | (left; left; omega) | (left; right; (try dsimp only) <;> omega))) ((((((l155.trans l160).trans l165).trans l171).trans l192).trans l206).trans l211)),rfl,rfl⟩
  ·
   refine sv (v:=.bool false) rfl rfl rfl (opv_bin rfl rfl rfl rfl rfl (cmpF rfl c115)) rfl ?_
   refine wo_nil (tq_n (wk ⟨[(0,y),(2,vP n2 0),(3,vP n3 0),(4,vP n4 0),(6,vI x101),(15,.bool false)],45,[],H104⟩ rfl ?_))
   refine w_cond (t:=false) rfl rfl (fun h => by cases h) (fun _ => ?_)
   refine w_skip (tq_n (wk ⟨[(0,y),(2,vP n2 0),(3,vP n3 0),(4,vP n4 0),(6,vI x101)],45,[],H104⟩ rfl ?_))
   refine w_seq (w_seq (w_region (mv y rfl rfl ?_)))
   refine mv (vI x101) rfl rfl ?_
   refine sv (v:=.agg #[vI x102,vI x103]) rfl rfl rfl (opv_loadE rfl rfl rfl ag23 sz23 hb106 rfl (.inl rfl) rfl) rfl ?_
   refine sc_ (H:=H104) (vs:=[vI x101,.agg #[vI x102,vI x103]]) (fv:=y) rfl rfl rfl rfl rfl rfl (.cons rfl rfl neI (.cons rfl rfl (by simp [undef]) .nil)) rfl ?_
   refine WV.mono (hy _ _ hj112 w107 (by omega) ⟨_,_,rfl,⟨[vI x101],⟨_,_,rfl,.int _ _,rfl⟩,rfl⟩,⟨_,_,rfl,⟨[vI x102,vI x103],⟨_,_,rfl,.int _ _,⟨_,_,rfl,.int _ _,rfl⟩⟩,rfl⟩,rfl⟩⟩ (show 0 ≤ x101∧x101 ≤ 60 by omega)) ?_
   rintro v221 H222 ⟨b220,rfl,w215,l216,k217,h218,h219⟩
   have n223:=k217.next
   rcases b220 with _ | _
   ·
    refine sv (v:=.bool true) rfl rfl rfl (opv_not (b:=false) rfl rfl rfl) rfl ?_
    refine wo_nil (tq_n (wk ⟨[(0,y),(2,vP n2 0),(3,vP n3 0),(4,vP n4 0),(6,vI x101),(25,.bool true)],45,[],H222⟩ rfl ?_))
    refine w_cond (t:=true) rfl rfl (fun _ => ?_) (fun h => by cases h)
    refine w_ret (tq_r ?_)
    try refine q_eq (e':=.ret) rfl ?_
    refine tq_r (tq_r ?_)
    try refine q_eq (e':=.ret) rfl ?_
    exact ⟨.inr rfl,rfl,[],.nil,w215,l108.trans l216,(((KeepX.refl (fun m => X m∨m=n3) H1).trans k109 (fun m hm => hm.elim (fun h => .inl (.inl h)) (by intro h; first | (right; omega) | (left; right; omega) | (left; (try dsimp only) <;> omega)))).trans k217 (fun m hm => .inl (.inl hm))),.inr (h219 rfl)⟩
   ·
    refine sv (v:=.bool false) rfl rfl rfl (opv_not (b:=true) rfl rfl rfl) rfl ?_
    refine wo_nil (tq_n (wk ⟨[(0,y),(2,vP n2 0),(3,vP n3 0),(4,vP n4 0),(6,vI x101),(25,.bool false)],45,[],H222⟩ rfl ?_))
    refine w_cond (t:=false) rfl rfl (fun h => by cases h) (fun _ => ?_)
    refine w_skip (tq_n (wk ⟨[(0,y),(2,vP n2 0),(3,vP n3 0),(4,vP n4 0),(6,vI x101)],45,[],H222⟩ rfl ?_))
    refine w_seq (w_region (sv (v:=.agg #[vI ax1,vI ax2,vI ax3,vI ax4,vI ax5,vI ax6,vI ax7,as8,as9,.map (some nm)]) rfl rfl rfl (opv_loadE rfl rfl rfl ag68 sz68 ((k217.get n4 (by omega) (yieldX hX (by first | (right; omega) | (left; rfl) | (left; simp)))).trans ((k109.get n4 (by omega) (fun h => h.elim (yieldX hX (by first | (right; omega) | (left; rfl) | (left; simp))) (by omega))).trans hqn4)) rfl (.inl rfl) rfl) rfl ?_))
    refine mv (vI x101) rfl rfl ?_
    refine sc_ (H:=H222) (vs:=[.agg #[vI ax1,vI ax2,vI ax3,vI ax4,vI ax5,vI ax6,vI ax7,as8,as9,.map (some nm)],vI x101]) (fv:=.func (.func 36) #[] #[]) rfl rfl rfl rfl rfl rfl (.cons rfl rfl (by simp [undef]) (.cons rfl rfl neI .nil)) rfl ?_
    refine WV.mono (wv_f0 Try.call36 (gas_rise ax1 ax2 ax3 ax4 ax5 ax6 ax7 as8 as9 x101 (.map (some nm)) _ w215 (hwas8.mono (l108.trans l216)) (hwas9.mono (l108.trans l216)) MV.some)) ?_
    rintro v227 H228 ⟨k229,w224,rx1225,rx2226,rfl⟩
    refine kpL k229 fun n231 l230 => ?_
    refine sv_new (H:=H228) (v:=vP H228.next 0) (x:=.row #[vI 0,vI 0] .raw) rfl rfl rfl rfl (opv_alloc rfl ze23 rfl) ?_
    intro H232 f233
    refine newL w224 f233 fun n236 w234 l235 => ?_
    refine sv_put (H:=H232) (n:=H228.next) (v:=undef) (x:=some (.row #[vI rx1225,vI rx2226] .raw)) rfl rfl rfl rfl (opv_storeC (u:=.agg #[vI rx1225,vI rx2226]) rfl rfl rfl rfl rfl (by simp [undef]) sz23 rfl rfl rfl f233.blk rfl rfl) ?_
    intro H237 f238
    refine putL w234 f238 f233.blk fun n241 w239 l240 => ?_
    refine wo_nil (tq_n (wk ⟨[(0,y),(2,vP n2 0),(3,vP n3 0),(4,vP n4 0),(6,vI x101),(7,vP H228.next 0)],45,[],H237⟩ rfl ?_))
    refine w_seq (w_draw_start ?_)
    intro C0
    obtain ⟨_,H244,k245,⟨w243,rfl⟩,C242⟩:=ch_call (i:=1) (p:=0) (ks:=[]) (vs:=[]) (fv:=.func (.func 62) #[] #[]) (H:=H237) C0 rfl rfl rfl rfl rfl rfl rfl .nil rfl (wv_f0 Try.call62 (gas_none _ w239))
    refine kpL k245 fun n247 l246 => ?_
    have C248:=ch_val (i:=0) (p:=0) (ks:=[3]) (v:=.agg #[vI x102,vI x103]) (A:=H237) (H:=H244) C242 rfl rfl rfl rfl rfl rfl (opv_loadE rfl rfl rfl ag23 sz23 ((f238.get n3 (by omega)).trans ((f233.get n3 (by omega)).trans ((k229.get n3 (by omega)).trans ((k217.get n3 (by omega) (yieldX hX (by first | (right; omega) | (left; rfl) | (left; simp)))).trans hb106)))) rfl (.inl rfl) rfl)
    refine w_draw (tl:=[2]) rfl [0,0,3] C248 (by kernel_rfl) (by kernel_rfl) ?_
    refine wonorm (g:=[(0,y),(2,vP n2 0),(3,vP n3 0),(4,vP n4 0),(6,vI x101),(7,vP H228.next 0),(29,.agg #[vI x102,vI x103]),(30,.agg #[vI 1,vI 0])]) (n:=45) (ds:=[]) (H:=H244) (lsub_cons rfl (lsub_cons rfl (lsub_cons rfl (lsub_cons rfl (lsub_cons rfl (lsub_cons rfl (lsub_cons rfl (lsub_cons rfl (lsub_nil _))))))))) rfl rfl rfl ?_
    obtain ⟨r249,hr250⟩:=eqT23 x102 x103 1 0
    obtain ⟨b251,h252⟩ : ∃ b:Bool,flipB .neq r249=b:=⟨_,rfl⟩
    refine sv (v:=.bool b251) rfl rfl rfl (by rw [← h252]; exact opv_eqAgg rfl rfl rfl rfl rfl rfl rfl eg23 hr250 (.inr rfl)) rfl ?_
    refine wo_nil (tq_n (wk ⟨[(0,y),(2,vP n2 0),(3,vP n3 0),(4,vP n4 0),(6,vI x101),(7,vP H228.next 0),(31,.bool b251)],45,[],H244⟩ rfl ?_))
    rcases b251 with _ | _
    ·
     refine w_cond (t:=false) rfl rfl (fun h => by cases h) (fun _ => ?_)
     refine w_skip ?_
     try refine q_eq (e':=.normal) rfl ?_
     refine tqk ⟨[(0,y),(2,vP n2 0),(3,vP n3 0),(4,vP n4 0),(6,vI x101)],45,[],H244⟩ rfl ?_
     refine w_region (mv (vI x101) rfl rfl ?_)
     refine sv_int rfl rfl rfl (opv_bin rfl rfl rfl rfl rfl rfl) ?_
     intro x253 h254
     try replace h254:x253=x101 + 1:=wr_ex h254 (by omega) (by omega)
     refine mv (vI x253) rfl rfl ?_
     refine wo_nil ?_
     refine tq_n ⟨(61 - x253).toNat,by omega,⟨[(0,y),(2,vP n2 0),(3,vP n3 0),(4,vP n4 0),(6,vI x253)],45,[],H244⟩,subk rfl,x253,x102,x103,H244,by omega,((k245.get n3 (by omega)).trans ((f238.get n3 (by omega)).trans ((f233.get n3 (by omega)).trans ((k229.get n3 (by omega)).trans ((k217.get n3 (by omega) (yieldX hX (by first | (right; omega) | (left; rfl) | (left; simp)))).trans hb106))))),w243,((((l108.trans l216).trans l230).trans l235).trans l240).trans l246,(((((((KeepX.refl (fun m => X m∨m=n3) H1).trans k109 (fun m hm => hm.elim (fun h => .inl (.inl h)) (by intro h; first | (right; omega) | (left; right; omega) | (left; (try dsimp only) <;> omega)))).trans k217 (fun m hm => .inl (.inl hm))).keep k229).new_ f233).put f238 (by first | (right; omega) | (left; right; omega) | (left; (try dsimp only) <;> omega))).keep k245),(hJs _ _ (h218 rfl) (by omega) (((((KeepX.refl (fun m => H1.next ≤ m∨m=n3) H222).keep k229).new_ f233).put f238 (by first | (left; left; omega) | (left; right; (try dsimp only) <;> omega))).keep k245) (((l230.trans l235).trans l240).trans l246)),rfl,rfl⟩
    ·
     refine w_cond (t:=true) rfl rfl (fun _ => ?_) (fun h => by cases h)
     refine w_draw_start ?_
     intro C0
     have C255:=ch_val (i:=0) (p:=0) (ks:=[3]) (v:=vP n3 0) (A:=H244) (H:=H244) C0 rfl rfl rfl rfl rfl rfl (opv_fieldAddrE rfl rfl rfl Try.underlying23 rfl sz3 (by decide) rfl)
     have C256:=ch_val (i:=1) (p:=0) (ks:=[32]) (v:=vI x102) (A:=H244) (H:=H244) C255 rfl rfl rfl rfl rfl rfl (opv_loadE rfl rfl rfl ag3 sz3 ((k245.get n3 (by omega)).trans ((f238.get n3 (by omega)).trans ((f233.get n3 (by omega)).trans ((k229.get n3 (by omega)).trans ((k217.get n3 (by omega) (yieldX hX (by first | (right; omega) | (left; rfl) | (left; simp)))).trans hb106))))) rfl (.inr rfl) rfl)
     have C257:=ch_val (i:=2) (p:=0) (ks:=[7]) (v:=vP H228.next 0) (A:=H244) (H:=H244) C256 rfl rfl rfl rfl rfl rfl (opv_fieldAddrE rfl rfl rfl Try.underlying23 rfl sz3 (by decide) rfl)
     have C258:=ch_val (i:=3) (p:=0) (ks:=[34]) (v:=vI rx1225) (A:=H244) (H:=H244) C257 rfl rfl rfl rfl rfl rfl (opv_loadE rfl rfl rfl ag3 sz3 ((k245.get H228.next (by omega)).trans f238.blk) rfl (.inr rfl) rfl)
     obtain ⟨x260,h261⟩ : ∃ x:Int,x=wr (x102 + rx1225):=⟨_,rfl⟩
     have C259:=ch_val (i:=4) (p:=0) (ks:=[33,35]) (v:=.int .i64 x260) (A:=H244) (H:=H244) C258 rfl rfl rfl rfl rfl rfl (by rw [h261]; exact (opv_bin rfl rfl rfl rfl rfl rfl))
     try replace h261:x260=x102 + rx1225:=wr_ex h261 (by omega) (by omega)
     obtain ⟨_,H265,k266,⟨w263,rx2264,rfl⟩,C262⟩:=ch_call (i:=5) (p:=5) (ks:=[36]) (vs:=[vI x260]) (fv:=.func (.func 39) #[] #[]) (H:=H244) C259 rfl rfl rfl rfl rfl rfl rfl (.cons rfl rfl neI .nil) rfl (wv_f0 Try.call39 (gas_limited x260 _ w243))
     refine kpL k266 fun n268 l267 => ?_
     have C269:=ch_val (i:=6) (p:=0) (ks:=[3]) (v:=vP n3 1) (A:=H244) (H:=H265) C262 rfl rfl rfl rfl rfl rfl (opv_fieldAddrE rfl rfl rfl Try.underlying23 rfl sz3 (by decide) rfl)
     have C270:=ch_val (i:=7) (p:=0) (ks:=[38]) (v:=vI x103) (A:=H244) (H:=H265) C269 rfl rfl rfl rfl rfl rfl (opv_loadE rfl rfl rfl ag3 sz3 ((k245.get n3 (by omega)).trans ((f238.get n3 (by omega)).trans ((f233.get n3 (by omega)).trans ((k229.get n3 (by omega)).trans ((k217.get n3 (by omega) (yieldX hX (by first | (right; omega) | (left; rfl) | (left; simp)))).trans hb106))))) rfl (.inr rfl) rfl)
     have C271:=ch_val (i:=8) (p:=0) (ks:=[7]) (v:=vP H228.next 1) (A:=H244) (H:=H265) C270 rfl rfl rfl rfl rfl rfl (opv_fieldAddrE rfl rfl rfl Try.underlying23 rfl sz3 (by decide) rfl)
     have C272:=ch_val (i:=9) (p:=0) (ks:=[40]) (v:=vI rx2226) (A:=H244) (H:=H265) C271 rfl rfl rfl rfl rfl rfl (opv_loadE rfl rfl rfl ag3 sz3 ((k245.get H228.next (by omega)).trans f238.blk) rfl (.inr rfl) rfl)
     obtain ⟨x274,h275⟩ : ∃ x:Int,x=wr (x103 + rx2226):=⟨_,rfl⟩
     have C273:=ch_val (i:=10) (p:=0) (ks:=[39,41]) (v:=.int .i64 x274) (A:=H244) (H:=H265) C272 rfl rfl rfl rfl rfl rfl (by rw [h275]; exact (opv_bin rfl rfl rfl rfl rfl rfl))
     try replace h275:x274=x103 + rx2226:=wr_ex h275 (by omega) (by omega)
     refine w_draw (tl:=[11,12,13]) rfl [0,1,0,4,15,31,0,64,0,256,960,2047,4095,8191] C273 (by kernel_rfl) (by kernel_rfl) ?_
     refine wonorm (g:=[(0,y),(2,vP n2 0),(3,vP n3 0),(4,vP n4 0),(6,vI x101),(37,vI rx2264),(42,vI x274)]) (n:=45) (ds:=[]) (H:=H265) (lsub_cons rfl (lsub_cons rfl (lsub_cons rfl (lsub_cons rfl (lsub_cons rfl (lsub_cons rfl (lsub_cons rfl (lsub_nil _)))))))) rfl rfl rfl ?_
     refine sc_ (H:=H265) (vs:=[vI x274]) (fv:=.func (.func 39) #[] #[]) rfl rfl rfl rfl rfl rfl (.cons rfl rfl neI .nil) rfl ?_
     refine WV.mono (wv_f0 Try.call39 (gas_limited x274 _ w263)) ?_
     rintro v278 H279 ⟨k280,w276,rx2277,rfl⟩
     refine kpL k280 fun n282 l281 => ?_
     refine sv (v:=.agg #[vI rx2264,vI rx2277]) rfl rfl rfl (opv_buildStE (vs:=[(0,vI rx2264),(1,vI rx2277)]) rfl (.cons rfl rfl neI (.cons rfl rfl neI .nil)) ze23 rfl tin23 Try.underlying23 pl23 rfl rfl) rfl ?_
     refine sv_put (H:=H279) (n:=n3) (v:=undef) (x:=some (.row #[vI rx2264,vI rx2277] .raw)) rfl rfl rfl rfl (opv_storeC (u:=.agg #[vI rx2264,vI rx2277]) rfl rfl rfl rfl rfl (by simp [undef]) sz23 rfl rfl rfl ((k280.get n3 (by omega)).trans ((k266.get n3 (by omega)).trans ((k245.get n3 (by omega)).trans ((f238.get n3 (by omega)).trans ((f233.get n3 (by omega)).trans ((k229.get n3 (by omega)).trans ((k217.get n3 (by omega) (yieldX hX (by first | (right; omega) | (left; rfl) | (left; simp)))).trans hb106))))))) rfl rfl) ?_
     intro H283 f284
     refine putL w276 f284 ((k280.get n3 (by omega)).trans ((k266.get n3 (by omega)).trans ((k245.get n3 (by omega)).trans ((f238.get n3 (by omega)).trans ((f233.get n3 (by omega)).trans ((k229.get n3 (by omega)).trans ((k217.get n3 (by omega) (yieldX hX (by first | (right; omega) | (left; rfl) | (left; simp)))).trans hb106))))))) fun n287 w285 l286 => ?_
     refine wo_nil ?_
     try refine q_eq (e':=.normal) rfl ?_
     refine tqk ⟨[(0,y),(2,vP n2 0),(3,vP n3 0),(4,vP n4 0),(6,vI x101)],45,[],H283⟩ rfl ?_
     refine w_region (mv (vI x101) rfl rfl ?_)
     refine sv_int rfl rfl rfl (opv_bin rfl rfl rfl rfl rfl rfl) ?_
     intro x288 h289
     try replace h289:x288=x101 + 1:=wr_ex h289 (by omega) (by omega)
     refine mv (vI x288) rfl rfl ?_
     refine wo_nil ?_
     refine tq_n ⟨(61 - x288).toNat,by omega,⟨[(0,y),(2,vP n2 0),(3,vP n3 0),(4,vP n4 0),(6,vI x288)],45,[],H283⟩,subk rfl,x288,rx2264,rx2277,H283,by omega,f284.blk,w285,(((((((l108.trans l216).trans l230).trans l235).trans l240).trans l246).trans l267).trans l281).trans l286,((((((((((KeepX.refl (fun m => X m∨m=n3) H1).trans k109 (fun m hm => hm.elim (fun h => .inl (.inl h)) (by intro h; first | (right; omega) | (left; right; omega) | (left; (try dsimp only) <;> omega)))).trans k217 (fun m hm => .inl (.inl hm))).keep k229).new_ f233).put f238 (by first | (right; omega) | (left; right; omega) | (left; (try dsimp only) <;> omega))).keep k245).keep k266).keep k280).put f284 (by first | (right; omega) | (left; right; omega) | (left; (try dsimp only) <;> omega))),(hJs _ _ (h218 rfl) (by omega) ((((((((KeepX.refl (fun m => H1.next ≤ m∨m=n3) H222).keep k229).new_ f233).put f238 (by first | (left; left; omega) | (left; right; (try dsimp only) <;> omega))).keep k245).keep k266).keep k280).put f284 (by first | (left; left; omega) | (left; right; (try dsimp only) <;> omega))) ((((((l230.trans l235).trans l240).trans l246).trans l267).trans l281).trans l286)),rfl,rfl⟩
 ·
  refine sv (v:=.bool false) rfl rfl rfl (opv_bin rfl rfl rfl rfl rfl (cmpF rfl c114)) rfl ?_
  refine wo_nil (tq_n (wk ⟨[(0,y),(2,vP n2 0),(3,vP n3 0),(4,vP n4 0),(6,vI x101),(10,.bool false)],45,[],H104⟩ rfl ?_))
  refine w_cond (t:=false) rfl rfl (fun h => by cases h) (fun _ => ?_)
  refine w_exit (tq_e (tq_e ?_))
  try refine q_eq (e':=.normal) rfl ?_
  exact ⟨.inl rfl,rfl,[],.nil,w107,l108,((KeepX.refl (fun m => X m∨m=n3) H1).trans k109 (fun m hm => hm.elim (fun h => .inl (.inl h)) (by intro h; first | (right; omega) | (left; right; omega) | (left; (try dsimp only) <;> omega)))),.inl hj112⟩
end Go.Proofs.Orl

namespace Go.Proofs.Orl
open Go Go.MapKept
set_option maxRecDepth 10000
set_option maxHeartbeats 4000000

theorem gas_at (ax1 ax2:Int) (ax3 ax4:Int) (ax5 ax6 ax7:Int) (as8 as9:Value) (mi:Int) (nm:Nat) (es:Array MapEntry) (ck:Nat) (H:SH) (wt:WT H) (hvas8:VT H (.sl false [.int .i64,.int .i64]) as8) (hvas9:VT H (.sl false [.str,.int .i64]) as9) (hknm:H.get nm=some (.obj (.map es ck))) (hlnm:nm < H.next) (hM:MapI (.int .i64) SpQ es):WC Try.prog 60 [.agg #[vI ax1,vI ax2,vI ax3,vI ax4,vI ax5,vI ax6,vI ax7,as8,as9,.map (some nm)],vI mi] H (fun v H' => Keep H H'∧WT H'∧∃ (rx1 rx2 rx3:Int),v=(.tuple #[.agg #[vI rx1,vI rx2],vI rx3])):=by
 refine wc_of_body_marks Try.func60 rfl ?_
 refine wk ⟨[(0,.agg #[vI ax1,vI ax2,vI ax3,vI ax4,vI ax5,vI ax6,vI ax7,as8,as9,.map (some nm)]),(1,vI mi)],25,[],H⟩ rfl ?_
 refine w_seq (w_region (sv_new (H:=H) (v:=vP H.next 0) (x:=.row #[vI ax1,vI ax2,vI ax3,vI ax4,vI ax5,vI ax6,vI ax7,as8,as9,.map (some nm)] .raw) rfl rfl rfl rfl (opv_boxE (v:=.agg #[vI ax1,vI ax2,vI ax3,vI ax4,vI ax5,vI ax6,vI ax7,as8,as9,.map (some nm)]) rfl rfl rfl (by simp [undef]) rfl) ?_))
 intro H101 f102
 refine newL wt f102 fun n105 w103 l104 => ?_
 refine sv_new (H:=H101) (v:=vP H101.next 0) (x:=.row #[vI mi] .raw) rfl rfl rfl rfl (opv_boxE (v:=vI mi) rfl rfl rfl neI rfl) ?_
 intro H106 f107
 refine newL w103 f107 fun n110 w108 l109 => ?_
 refine sv_new (H:=H106) (v:=vP H106.next 0) (x:=.row #[vI 0,vI 0] .raw) rfl rfl rfl rfl (opv_alloc rfl ze23 rfl) ?_
 intro H111 f112
 refine newL w108 f112 fun n115 w113 l114 => ?_
 refine mv (vI 0) rfl rfl ?_
 refine wo_nil (tq_n (wk ⟨[(2,vP H.next 0),(3,vP H101.next 0),(4,vP H106.next 0)],25,[],H111⟩ rfl ?_))
 refine w_seq (w_seq (w_region (sv (v:=.agg #[vI ax1,vI ax2,vI ax3,vI ax4,vI ax5,vI ax6,vI ax7,as8,as9,.map (some nm)]) rfl rfl rfl (opv_loadE rfl rfl rfl ag68 sz68 ((f112.get H.next (by omega)).trans ((f107.get H.next (by omega)).trans f102.blk)) rfl (.inl rfl) rfl) rfl ?_)))
 refine sv (v:=vP H.next 0) rfl rfl rfl (opv_fieldAddrE rfl rfl rfl Try.underlying68 rfl sz27 (by decide) rfl) rfl ?_
 refine sv (v:=vP H.next 0) rfl rfl rfl (opv_fieldAddrE rfl rfl rfl Try.underlying27 rfl sz23 (by decide) rfl) rfl ?_
 refine sv (v:=.agg #[vI ax1,vI ax2]) rfl rfl rfl (opv_loadE rfl rfl rfl ag23 sz23 ((f112.get H.next (by omega)).trans ((f107.get H.next (by omega)).trans f102.blk)) rfl (.inl rfl) rfl) rfl ?_
 refine sv (v:=vI mi) rfl rfl rfl (opv_loadE rfl rfl rfl ag3 sz3 ((f112.get H101.next (by omega)).trans f107.blk) rfl (.inr rfl) rfl) rfl ?_
 refine sc_ (H:=H111) (vs:=[.agg #[vI ax1,vI ax2,vI ax3,vI ax4,vI ax5,vI ax6,vI ax7,as8,as9,.map (some nm)],vI 0,.agg #[vI ax1,vI ax2],vI mi]) (fv:=.func (.func 34) #[] #[]) rfl rfl rfl rfl rfl rfl (.cons rfl rfl (by simp [undef]) (.cons rfl rfl neI (.cons rfl rfl (by simp [undef]) (.cons rfl rfl neI .nil)))) rfl ?_
 refine WV.mono (wv_f0 Try.call34 (gas_follow ax1 ax2 ax3 ax4 ax5 ax6 ax7 as8 as9 0 ax1 ax2 mi (.map (some nm)) _ w113 (hvas8.mono ((l104.trans l109).trans l114)) (hvas9.mono ((l104.trans l109).trans l114)) MV.some)) ?_
 rintro v125 H126 ⟨k127,w116,r1117,r2118,r3119,r4120,rfl,⟨hb121,_,_⟩,⟨hb122,_,_⟩,⟨hb123,_,_⟩,⟨hb124,_,_⟩⟩
 refine kpL k127 fun n129 l128 => ?_
 refine wo_nil (tq_n (wk ⟨[(3,vP H101.next 0),(4,vP H106.next 0),(13,.func (.func 61) #[] #[vP r1117 0,vP r2118 0,vP r3119 0,vP r4120 0])],25,[],H126⟩ rfl ?_))
 refine w_block ?_
 refine w_range' (e:=[(false,[.int .i64]),(true,[.int .i64,.int .i64])]) (Y:=(fun l => 0 ≤ argI l 0 0∧argI l 0 0 ≤ 60)) (C:=fun m => m=r1117∨m=r2118∨m=r3119∨m=r4120∨m=nm) (M:=fun m => m=r3119) (Hq:=H126) rfl rfl (gas_follow_seq r1117 r2118 r3119 r4120 nm es ck 0 mi ax1 ax2 ax1 ax2 ax3 ax4 ax5 ax6 ax7 as8 as9 _ w116 (hvas8.mono (((l104.trans l109).trans l114).trans l128)) (hvas9.mono (((l104.trans l109).trans l114).trans l128)) hb121 (by omega) hb122 (by omega) hb123 (by omega) hb124 (by omega) ((k127.get nm (by omega)).trans ((f112.get nm (by omega)).trans ((f107.get nm (by omega)).trans ((f102.get nm (by omega)).trans hknm)))) (by omega) (by omega) hM) (KeepX.refl _ _) (Le.refl _) w116 rfl (by simp) (fun m => m=H106.next) (fun A => ∃ (x130 x131:Int),A.get H106.next=some (.row #[vI x130,vI x131] .raw)) (fun x A => (x=(.exit 0)∧∃ (x130 x131:Int),A.get H106.next=some (.row #[vI x130,vI x131] .raw))) (fun m hm => ⟨by (try dsimp only at hm); intro h; omega,by (try dsimp only at hm); omega⟩) ?_ ?_ ?_ ?_ ?_ ?_
 ·
  intro H133 _ k134 w135
  have n136:=k134.next
  have l137:=k134.le
  exact ⟨0,0,(k134.get H106.next (by omega)).trans ((k127.get H106.next (by omega)).trans f112.blk)⟩
 ·
  rintro A138 A139 ⟨x130,x131,hb132⟩ n140 k141 l142
  exact ⟨x130,x131,((k141.get _ (by omega) (by intro h; (try dsimp only at h); omega)).trans hb132)⟩
 ·
  rintro x A143 A144 h148 n145 k146 l147
  obtain ⟨rfl,⟨x130,x131,hb132⟩⟩:=h148
  exact ⟨rfl,⟨x130,x131,((k146.get _ (by omega) (by intro h; (try dsimp only at h); omega)).trans hb132)⟩⟩
 ·
  rintro A149 as150 w151 l152 k153 n154 hr155 ⟨x130,x131,hb132⟩ ha156 hY157
  replace k153:=k153.weak (Y:=fun m => m=H106.next∨m=r3119) (fun m h => by (try dsimp only at h ⊢); omega)
  obtain ⟨v158,r159,rfl,⟨us160,hu161,rfl⟩,ha156⟩:=ha156
  replace hu161:VTs A149 [.int .i64] us160:=hu161
  obtain ⟨x164,r162,rfl,hs163⟩:=vts_int hu161
  obtain rfl:=vts_nil hs163
  obtain ⟨v165,r166,rfl,⟨us167,hu168,rfl⟩,ha156⟩:=ha156
  replace hu168:VTs A149 [.int .i64,.int .i64] us167:=hu168
  obtain ⟨x171,r169,rfl,hs170⟩:=vts_int hu168
  obtain ⟨x174,r172,rfl,hs173⟩:=vts_int hs170
  obtain rfl:=vts_nil hs173
  obtain rfl:r166=[]:=ha156
  replace hY157:0 ≤ x164∧x164 ≤ 60:=hY157
  refine round_start ?_
  refine wk ⟨[(3,vP H101.next 0),(4,vP H106.next 0),(14,vI x164),(15,.agg #[vI x171,vI x174])],25,[],A149⟩ rfl ?_
  refine w_seq (w_region (mv (vI x164) rfl rfl ?_))
  refine wo_nil (tq_n (wk ⟨[(3,vP H101.next 0),(4,vP H106.next 0),(6,vI x164),(15,.agg #[vI x171,vI x174])],25,[],A149⟩ rfl ?_))
  refine w_region (sv_new (H:=A149) (v:=vP A149.next 0) (x:=.row #[vI 0,vI 0] .raw) rfl rfl rfl rfl (opv_alloc rfl ze23 rfl) ?_)
  intro H175 f176
  refine newL w151 f176 fun n179 w177 l178 => ?_
  refine sv_put (H:=H175) (n:=A149.next) (v:=undef) (x:=some (.row #[vI x171,vI x174] .raw)) rfl rfl rfl rfl (opv_storeC (u:=.agg #[vI x171,vI x174]) rfl rfl rfl rfl rfl (by simp [undef]) sz23 rfl rfl rfl f176.blk rfl rfl) ?_
  intro H180 f181
  refine putL w177 f181 f176.blk fun n184 w182 l183 => ?_
  refine wo_nil (⟨rfl,(f181.get (H126.next + 1) (by omega)).trans ((f176.get (H126.next + 1) (by omega)).trans hr155),?_⟩)
  intro H185 f186
  replace f186:PutF H180 (H126.next + 1) _ H185:=f186
  have n189:=f186.next
  have w187:=w182.putO f186 ((f181.get (H126.next + 1) (by omega)).trans ((f176.get (H126.next + 1) (by omega)).trans hr155)) (by simp) (by simp)
  have l188:=Le.putO f186 ((f181.get (H126.next + 1) (by omega)).trans ((f176.get (H126.next + 1) (by omega)).trans hr155)) (by simp)
  refine wk ⟨[(3,vP H101.next 0),(4,vP H106.next 0),(6,vI x164),(7,vP A149.next 0)],25,[],H185⟩ rfl ?_
  refine w_block (w_seq (w_region (sv (v:=.agg #[vI x171,vI x174]) rfl rfl rfl (opv_loadE rfl rfl rfl ag23 sz23 ((f186.get A149.next (by omega)).trans f181.blk) rfl (.inl rfl) rfl) rfl ?_)))
  refine sv_put (H:=H185) (n:=H106.next) (v:=undef) (x:=some (.row #[vI x171,vI x174] .raw)) rfl rfl rfl rfl (opv_storeC (u:=.agg #[vI x171,vI x174]) rfl rfl rfl rfl rfl (by simp [undef]) sz23 rfl rfl rfl ((f186.get H106.next (by omega)).trans ((f181.get H106.next (by omega)).trans ((f176.get H106.next (by omega)).trans hb132))) rfl rfl) ?_
  intro H190 f191
  refine putL w187 f191 ((f186.get H106.next (by omega)).trans ((f181.get H106.next (by omega)).trans ((f176.get H106.next (by omega)).trans hb132))) fun n194 w192 l193 => ?_
  refine wo_nil (tq_n (wk ⟨[(3,vP H101.next 0),(6,vI x164)],25,[],H190⟩ rfl ?_))
  refine w_seq (w_region (mv (vI x164) rfl rfl ?_))
  refine sv (v:=vI mi) rfl rfl rfl (opv_loadE rfl rfl rfl ag3 sz3 ((f191.get H101.next (by omega)).trans ((f186.get H101.next (by omega)).trans ((f181.get H101.next (by omega)).trans ((f176.get H101.next (by omega)).trans ((k153.get H101.next (by omega) (by (try dsimp only); omega)).trans ((k127.get H101.next (by omega)).trans ((f112.get H101.next (by omega)).trans f107.blk))))))) rfl (.inr rfl) rfl) rfl ?_
  by_cases c195:x164=mi
  ·
   refine sv (v:=.bool true) rfl rfl rfl (opv_bin rfl rfl rfl rfl rfl (eqT c195)) rfl ?_
   refine wo_nil (tq_n (wk ⟨[(19,.bool true)],25,[],H190⟩ rfl ?_))
   refine w_cond (t:=true) rfl rfl (fun _ => ?_) (fun h => by cases h)
   refine w_exit ?_
   try refine q_eq (e':=.exit 0) rfl ?_
   refine ⟨(f191.get (H126.next + 1) (by omega)).trans f186.blk,fun H196 => ⟨fun h => (by cases h),fun _ => ⟨_,rfl,fun f197 => ?_⟩⟩⟩
   replace f197:PutF H190 (H126.next + 1) _ H196:=f197
   have n200:=f197.next
   have w198:=w192.putO f197 ((f191.get (H126.next + 1) (by omega)).trans f186.blk) (by simp) (by simp)
   have l199:=Le.putO f197 ((f191.get (H126.next + 1) (by omega)).trans f186.blk) (by simp)
   exact ⟨w198,(((l178.trans l183).trans l188).trans l193).trans l199,((((((KeepX.refl (fun m => m=H106.next∨m=(H126.next + 1)) A149).new_ f176).put f181 (by first | (right; omega) | (left; (try dsimp only) <;> omega))).put f186 (by first | (right; omega) | (left; (try dsimp only) <;> omega))).put f191 (by first | (right; omega) | (left; (try dsimp only) <;> omega))).put f197 (by first | (right; omega) | (left; (try dsimp only) <;> omega))).weak (fun m h => by (try dsimp only at h ⊢); omega),⟨rfl,⟨x171,x174,(f197.get H106.next (by omega)).trans f191.blk⟩⟩⟩
  ·
   refine sv (v:=.bool false) rfl rfl rfl (opv_bin rfl rfl rfl rfl rfl (eqF c195)) rfl ?_
   refine wo_nil (tq_n (wk ⟨[(19,.bool false)],25,[],H190⟩ rfl ?_))
   refine w_cond (t:=false) rfl rfl (fun h => by cases h) (fun _ => ?_)
   refine w_skip ?_
   try refine q_eq (e':=.normal) rfl ?_
   refine ⟨(f191.get (H126.next + 1) (by omega)).trans f186.blk,fun H201 => ⟨fun _ f202 => ?_,fun h => absurd rfl h⟩⟩
   replace f202:PutF H190 (H126.next + 1) _ H201:=f202
   have n205:=f202.next
   have w203:=w192.putO f202 ((f191.get (H126.next + 1) (by omega)).trans f186.blk) (by simp) (by simp)
   have l204:=Le.putO f202 ((f191.get (H126.next + 1) (by omega)).trans f186.blk) (by simp)
   exact ⟨w203,(((l178.trans l183).trans l188).trans l193).trans l204,((((((KeepX.refl (fun m => m=H106.next∨m=(H126.next + 1)) A149).new_ f176).put f181 (by first | (right; omega) | (left; (try dsimp only) <;> omega))).put f186 (by first | (right; omega) | (left; (try dsimp only) <;> omega))).put f191 (by first | (right; omega) | (left; (try dsimp only) <;> omega))).put f202 (by first | (right; omega) | (left; (try dsimp only) <;> omega))).weak (fun m h => by (try dsimp only at h ⊢); omega),⟨x171,x174,(f202.get H106.next (by omega)).trans f191.blk⟩⟩
 ·
  rintro H211 w206 l207 k208 n209 hd210 ⟨x130,x131,hb132⟩
  replace k208:=k208.weak (Y:=fun m => m=H106.next∨m=r3119) (fun m h => by (try dsimp only at h ⊢); omega)
  try refine q_eq (e':=.normal) rfl ?_
  refine tqk ⟨[(4,vP H106.next 0)],25,[mark H126.next],H211⟩ rfl ?_
  refine w_seq (w_seq (w_draw_start ?_))
  intro C0
  obtain ⟨_,H214,k215,⟨w213,rfl⟩,C212⟩:=ch_call (i:=1) (p:=0) (ks:=[]) (vs:=[]) (fv:=.func (.func 62) #[] #[]) (H:=H211) C0 rfl rfl rfl rfl rfl rfl rfl .nil rfl (wv_f0 Try.call62 (gas_none _ w206))
  refine kpL k215 fun n217 l216 => ?_
  have C218:=ch_val (i:=0) (p:=0) (ks:=[4]) (v:=.agg #[vI x130,vI x131]) (A:=H211) (H:=H214) C212 rfl rfl rfl rfl rfl rfl (opv_loadE rfl rfl rfl ag23 sz23 hb132 rfl (.inl rfl) rfl)
  refine w_draw (tl:=[2]) rfl [0,0,3] C218 (by kernel_rfl) (by kernel_rfl) ?_
  refine wonorm (g:=[(4,vP H106.next 0),(20,.agg #[vI x130,vI x131]),(21,.agg #[vI 1,vI 0])]) (n:=25) (ds:=[mark H126.next]) (H:=H214) (lsub_cons rfl (lsub_cons rfl (lsub_cons rfl (lsub_nil _)))) rfl rfl rfl ?_
  obtain ⟨r219,hr220⟩:=eqT23 x130 x131 1 0
  obtain ⟨b221,h222⟩ : ∃ b:Bool,flipB .eql r219=b:=⟨_,rfl⟩
  refine sv (v:=.bool b221) rfl rfl rfl (by rw [← h222]; exact opv_eqAgg rfl rfl rfl rfl rfl rfl rfl eg23 hr220 (.inl rfl)) rfl ?_
  refine wo_nil (tq_n (wk ⟨[(4,vP H106.next 0),(22,.bool b221)],25,[mark H126.next],H214⟩ rfl ?_))
  rcases b221 with _ | _
  ·
   refine w_cond (t:=false) rfl rfl (fun h => by cases h) (fun _ => ?_)
   refine w_skip (tq_n (wk ⟨[(4,vP H106.next 0)],25,[mark H126.next],H214⟩ rfl ?_))
   refine w_seq (w_region (sv (v:=.agg #[vI x130,vI x131]) rfl rfl rfl (opv_loadE rfl rfl rfl ag23 sz23 ((k215.get H106.next (by omega)).trans hb132) rfl (.inl rfl) rfl) rfl ?_))
   refine sv_put (H:=H214) (n:=H106.next) (v:=undef) (x:=some (.row #[vI x130,vI x131] .raw)) rfl rfl rfl rfl (opv_storeC (u:=.agg #[vI x130,vI x131]) rfl rfl rfl rfl rfl (by simp [undef]) sz23 rfl rfl rfl ((k215.get H106.next (by omega)).trans hb132) rfl rfl) ?_
   intro H223 f224
   refine putL w213 f224 ((k215.get H106.next (by omega)).trans hb132) fun n227 w225 l226 => ?_
   refine mv (vI 0) rfl rfl ?_
   refine wo_nil (tq_n (wk ⟨[(4,vP H106.next 0),(5,vI 0)],25,[mark H126.next],H223⟩ rfl ?_))
   refine w_ret ?_
   obtain ⟨H228,f229,m230⟩:=marks1 ((f224.get H126.next (by omega)).trans ((k215.get H126.next (by omega)).trans hd210))
   have n233:=f229.next
   have w231:=w225.putO f229 ((f224.get H126.next (by omega)).trans ((k215.get H126.next (by omega)).trans hd210)) (by simp) (by simp)
   have l232:=Le.putO f229 ((f224.get H126.next (by omega)).trans ((k215.get H126.next (by omega)).trans hd210)) (by simp)
   refine ⟨.inr rfl,H228,[.agg #[vI x130,vI x131],vI 0],m230 _ _ .nil,.cons (resV_cellE rfl ag23 sz23 ((f229.get H106.next (by omega)).trans f224.blk) rfl (.inl rfl) rfl) (.cons (resV_tmp rfl neI) .nil),((((((((((KeepX.refl (fun _ => False) H).new_ f102).new_ f107).new_ f112).keep k127).trans k208 (by intro m hm; (try simp only [false_or,or_false] at hm ⊢); (try dsimp only at hm ⊢); first | omega | (right; omega) | (left; left; omega) | (left; right; omega))).keep k215).put f224 (by first | (right; omega) | (left; (try dsimp only) <;> omega))).put f229 (by first | (right; omega) | (left; (try dsimp only) <;> omega))).k (fun _ h => h.elim)),w231,x130,x131,0,rfl⟩
  ·
   refine w_cond (t:=true) rfl rfl (fun _ => ?_) (fun h => by cases h)
   refine w_seq (w_region (sv (v:=.agg #[vI 0,vI 0]) rfl rfl rfl (opv_buildStE (vs:=[]) rfl .nil ze23 rfl tin23 Try.underlying23 pl23 rfl rfl) rfl ?_))
   refine sv_put (H:=H214) (n:=H106.next) (v:=undef) (x:=some (.row #[vI 0,vI 0] .raw)) rfl rfl rfl rfl (opv_storeC (u:=.agg #[vI 0,vI 0]) rfl rfl rfl rfl rfl (by simp [undef]) sz23 rfl rfl rfl ((k215.get H106.next (by omega)).trans hb132) rfl rfl) ?_
   intro H234 f235
   refine putL w213 f235 ((k215.get H106.next (by omega)).trans hb132) fun n238 w236 l237 => ?_
   refine mv (vI 9) rfl rfl ?_
   refine wo_nil (tq_n (wk ⟨[(4,vP H106.next 0),(5,vI 9)],25,[mark H126.next],H234⟩ rfl ?_))
   refine w_ret (tq_r ?_)
   obtain ⟨H239,f240,m241⟩:=marks1 ((f235.get H126.next (by omega)).trans ((k215.get H126.next (by omega)).trans hd210))
   have n244:=f240.next
   have w242:=w236.putO f240 ((f235.get H126.next (by omega)).trans ((k215.get H126.next (by omega)).trans hd210)) (by simp) (by simp)
   have l243:=Le.putO f240 ((f235.get H126.next (by omega)).trans ((k215.get H126.next (by omega)).trans hd210)) (by simp)
   refine ⟨.inr rfl,H239,[.agg #[vI 0,vI 0],vI 9],m241 _ _ .nil,.cons (resV_cellE rfl ag23 sz23 ((f240.get H106.next (by omega)).trans f235.blk) rfl (.inl rfl) rfl) (.cons (resV_tmp rfl neI) .nil),((((((((((KeepX.refl (fun _ => False) H).new_ f102).new_ f107).new_ f112).keep k127).trans k208 (by intro m hm; (try simp only [false_or,or_false] at hm ⊢); (try dsimp only at hm ⊢); first | omega | (right; omega) | (left; left; omega) | (left; right; omega))).keep k215).put f235 (by first | (right; omega) | (left; (try dsimp only) <;> omega))).put f240 (by first | (right; omega) | (left; (try dsimp only) <;> omega))).k (fun _ h => h.elim)),w242,0,0,9,rfl⟩
 ·
  rintro x H250 w245 l246 k247 n248 hd249 h251
  obtain ⟨rfl,⟨x130,x131,hb132⟩⟩:=h251
  replace k247:=k247.weak (Y:=fun m => m=H106.next∨m=r3119) (fun m h => by (try dsimp only at h ⊢); omega)
  try refine q_eq (e':=.normal) rfl ?_
  refine tqk ⟨[(4,vP H106.next 0)],25,[mark H126.next],H250⟩ rfl ?_
  refine w_seq (w_seq (w_draw_start ?_))
  intro C0
  obtain ⟨_,H254,k255,⟨w253,rfl⟩,C252⟩:=ch_call (i:=1) (p:=0) (ks:=[]) (vs:=[]) (fv:=.func (.func 62) #[] #[]) (H:=H250) C0 rfl rfl rfl rfl rfl rfl rfl .nil rfl (wv_f0 Try.call62 (gas_none _ w245))
  refine kpL k255 fun n257 l256 => ?_
  have C258:=ch_val (i:=0) (p:=0) (ks:=[4]) (v:=.agg #[vI x130,vI x131]) (A:=H250) (H:=H254) C252 rfl rfl rfl rfl rfl rfl (opv_loadE rfl rfl rfl ag23 sz23 hb132 rfl (.inl rfl) rfl)
  refine w_draw (tl:=[2]) rfl [0,0,3] C258 (by kernel_rfl) (by kernel_rfl) ?_
  refine wonorm (g:=[(4,vP H106.next 0),(20,.agg #[vI x130,vI x131]),(21,.agg #[vI 1,vI 0])]) (n:=25) (ds:=[mark H126.next]) (H:=H254) (lsub_cons rfl (lsub_cons rfl (lsub_cons rfl (lsub_nil _)))) rfl rfl rfl ?_
  obtain ⟨r259,hr260⟩:=eqT23 x130 x131 1 0
  obtain ⟨b261,h262⟩ : ∃ b:Bool,flipB .eql r259=b:=⟨_,rfl⟩
  refine sv (v:=.bool b261) rfl rfl rfl (by rw [← h262]; exact opv_eqAgg rfl rfl rfl rfl rfl rfl rfl eg23 hr260 (.inl rfl)) rfl ?_
  refine wo_nil (tq_n (wk ⟨[(4,vP H106.next 0),(22,.bool b261)],25,[mark H126.next],H254⟩ rfl ?_))
  rcases b261 with _ | _
  ·
   refine w_cond (t:=false) rfl rfl (fun h => by cases h) (fun _ => ?_)
   refine w_skip (tq_n (wk ⟨[(4,vP H106.next 0)],25,[mark H126.next],H254⟩ rfl ?_))
   refine w_seq (w_region (sv (v:=.agg #[vI x130,vI x131]) rfl rfl rfl (opv_loadE rfl rfl rfl ag23 sz23 ((k255.get H106.next (by omega)).trans hb132) rfl (.inl rfl) rfl) rfl ?_))
   refine sv_put (H:=H254) (n:=H106.next) (v:=undef) (x:=some (.row #[vI x130,vI x131] .raw)) rfl rfl rfl rfl (opv_storeC (u:=.agg #[vI x130,vI x131]) rfl rfl rfl rfl rfl (by simp [undef]) sz23 rfl rfl rfl ((k255.get H106.next (by omega)).trans hb132) rfl rfl) ?_
   intro H263 f264
   refine putL w253 f264 ((k255.get H106.next (by omega)).trans hb132) fun n267 w265 l266 => ?_
   refine mv (vI 0) rfl rfl ?_
   refine wo_nil (tq_n (wk ⟨[(4,vP H106.next 0),(5,vI 0)],25,[mark H126.next],H263⟩ rfl ?_))
   refine w_ret ?_
   obtain ⟨H268,f269,m270⟩:=marks1 ((f264.get H126.next (by omega)).trans ((k255.get H126.next (by omega)).trans hd249))
   have n273:=f269.next
   have w271:=w265.putO f269 ((f264.get H126.next (by omega)).trans ((k255.get H126.next (by omega)).trans hd249)) (by simp) (by simp)
   have l272:=Le.putO f269 ((f264.get H126.next (by omega)).trans ((k255.get H126.next (by omega)).trans hd249)) (by simp)
   refine ⟨.inr rfl,H268,[.agg #[vI x130,vI x131],vI 0],m270 _ _ .nil,.cons (resV_cellE rfl ag23 sz23 ((f269.get H106.next (by omega)).trans f264.blk) rfl (.inl rfl) rfl) (.cons (resV_tmp rfl neI) .nil),((((((((((KeepX.refl (fun _ => False) H).new_ f102).new_ f107).new_ f112).keep k127).trans k247 (by intro m hm; (try simp only [false_or,or_false] at hm ⊢); (try dsimp only at hm ⊢); first | omega | (right; omega) | (left; left; omega) | (left; right; omega))).keep k255).put f264 (by first | (right; omega) | (left; (try dsimp only) <;> omega))).put f269 (by first | (right; omega) | (left; (try dsimp only) <;> omega))).k (fun _ h => h.elim)),w271,x130,x131,0,rfl⟩
  ·
   refine w_cond (t:=true) rfl rfl (fun _ => ?_) (fun h => by cases h)
   refine w_seq (w_region (sv (v:=.agg #[vI 0,vI 0]) rfl rfl rfl (opv_buildStE (vs:=[]) rfl .nil ze23 rfl tin23 Try.underlying23 pl23 rfl rfl) rfl ?_))
   refine sv_put (H:=H254) (n:=H106.next) (v:=undef) (x:=some (.row #[vI 0,vI 0] .raw)) rfl rfl rfl rfl (opv_storeC (u:=.agg #[vI 0,vI 0]) rfl rfl rfl rfl rfl (by simp [undef]) sz23 rfl rfl rfl ((k255.get H106.next (by omega)).trans hb132) rfl rfl) ?_
   intro H274 f275
   refine putL w253 f275 ((k255.get H106.next (by omega)).trans hb132) fun n278 w276 l277 => ?_
   refine mv (vI 9) rfl rfl ?_
   refine wo_nil (tq_n (wk ⟨[(4,vP H106.next 0),(5,vI 9)],25,[mark H126.next],H274⟩ rfl ?_))
   refine w_ret (tq_r ?_)
   obtain ⟨H279,f280,m281⟩:=marks1 ((f275.get H126.next (by omega)).trans ((k255.get H126.next (by omega)).trans hd249))
   have n284:=f280.next
   have w282:=w276.putO f280 ((f275.get H126.next (by omega)).trans ((k255.get H126.next (by omega)).trans hd249)) (by simp) (by simp)
   have l283:=Le.putO f280 ((f275.get H126.next (by omega)).trans ((k255.get H126.next (by omega)).trans hd249)) (by simp)
   refine ⟨.inr rfl,H279,[.agg #[vI 0,vI 0],vI 9],m281 _ _ .nil,.cons (resV_cellE rfl ag23 sz23 ((f280.get H106.next (by omega)).trans f275.blk) rfl (.inl rfl) rfl) (.cons (resV_tmp rfl neI) .nil),((((((((((KeepX.refl (fun _ => False) H).new_ f102).new_ f107).new_ f112).keep k127).trans k247 (by intro m hm; (try simp only [false_or,or_false] at hm ⊢); (try dsimp only at hm ⊢); first | omega | (right; omega) | (left; left; omega) | (left; right; omega))).keep k255).put f275 (by first | (right; omega) | (left; (try dsimp only) <;> omega))).put f280 (by first | (right; omega) | (left; (try dsimp only) <;> omega))).k (fun _ h => h.elim)),w282,0,0,9,rfl⟩

theorem gas_enter (ax1 ax2:Int) (ax3 ax4:Int) (ax5 ax6 ax7:Int) (as8 as9 as10:Value) (ax11:Int) (H:SH) (wt:WT H) (hvas8:VT H (.sl false [.int .i64,.int .i64]) as8) (hvas9:VT H (.sl false [.str,.int .i64]) as9) (hvas10:VT H (.sl false [.int .i64,.int .i64,.int .i64]) as10):WC Try.prog 33 [.agg #[vI ax1,vI ax2,vI ax3,vI ax4,vI ax5,vI ax6,vI ax7,as8,as9],as10,vI ax11] H (fun v H' => Keep H H'∧WT H'∧∃ (rx12 rx13:Int) (rx14 rx15:Int) (rx16 rx17 rx18:Int) (rs19 rs20:Value) (rx21 rx22:Int) (rm:Value) (re:Int),v=(.tuple #[.agg #[vI rx12,vI rx13,vI rx14,vI rx15,vI rx16,vI rx17,vI rx18,rs19,rs20,rm],.agg #[vI rx21,vI rx22],vI re])∧VT H' (.sl false [.int .i64,.int .i64]) rs19∧VT H' (.sl false [.str,.int .i64]) rs20∧(re=0→0 ≤ ax11∧ax11 ≤ 60)∧(MV rm)∧(re=0→∃ (n:Nat) (es:Array MapEntry) (c:Nat),rm=.map (some n)∧H.next ≤ n∧n < H'.next∧H'.get n=some (.obj (.map es c))∧MapI (.int .i64) SpQ es)):=by
 refine wc_of_body Try.func33 rfl ?_
 refine wk ⟨[(0,.agg #[vI ax1,vI ax2,vI ax3,vI ax4,vI ax5,vI ax6,vI ax7,as8,as9]),(1,as10),(2,vI ax11)],27,[],H⟩ rfl ?_
 refine w_seq (w_region (sv_new (H:=H) (v:=vP H.next 0) (x:=.row #[vI ax1,vI ax2,vI ax3,vI ax4,vI ax5,vI ax6,vI ax7,as8,as9] .raw) rfl rfl rfl rfl (opv_boxE (v:=.agg #[vI ax1,vI ax2,vI ax3,vI ax4,vI ax5,vI ax6,vI ax7,as8,as9]) rfl rfl rfl (by simp [undef]) rfl) ?_))
 intro H101 f102
 refine newL wt f102 fun n105 w103 l104 => ?_
 refine sv_new (H:=H101) (v:=vP H101.next 0) (x:=.row #[vI 0,vI 0,vI 0,vI 0,vI 0,vI 0,vI 0,.slice none 0 0,.slice none 0 0,.map none] .raw) rfl rfl rfl rfl (opv_alloc rfl ze68 rfl) ?_
 intro H106 f107
 refine newL w103 f107 fun n110 w108 l109 => ?_
 refine sv_new (H:=H106) (v:=vP H106.next 0) (x:=.row #[vI 0,vI 0] .raw) rfl rfl rfl rfl (opv_alloc rfl ze23 rfl) ?_
 intro H111 f112
 refine newL w108 f112 fun n115 w113 l114 => ?_
 refine mv (vI 0) rfl rfl ?_
 refine wo_nil (tq_n (wk ⟨[(1,as10),(2,vI ax11),(3,vP H.next 0),(6,vP H101.next 0),(7,vP H106.next 0)],27,[],H111⟩ rfl ?_))
 refine w_seq (w_seq (w_region (sv (v:=.agg #[vI ax1,vI ax2,vI ax3,vI ax4,vI ax5,vI ax6,vI ax7,as8,as9]) rfl rfl rfl (opv_loadE rfl rfl rfl ag27 sz27 ((f112.get H.next (by omega)).trans ((f107.get H.next (by omega)).trans f102.blk)) rfl (.inl rfl) rfl) rfl ?_)))
 refine mv as10 rfl rfl ?_
 refine mv (vI ax11) rfl rfl ?_
 refine sc_ (H:=H111) (vs:=[.agg #[vI ax1,vI ax2,vI ax3,vI ax4,vI ax5,vI ax6,vI ax7,as8,as9],as10,vI ax11]) (fv:=.func (.func 59) #[] #[]) rfl rfl rfl rfl rfl rfl (.cons rfl rfl (by simp [undef]) (.cons rfl rfl (vt_ne (hvas10.mono ((l104.trans l109).trans l114))) (.cons rfl rfl neI .nil))) rfl ?_
 refine WV.mono (wv_f0 Try.call59 (gas_open ax1 ax2 ax3 ax4 ax5 ax6 ax7 as8 as9 as10 ax11 _ w113 (hvas8.mono ((l104.trans l109).trans l114)) (hvas9.mono ((l104.trans l109).trans l114)) (hvas10.mono ((l104.trans l109).trans l114)))) ?_
 rintro v133 H134 ⟨k135,w116,rx12117,rx13118,rx14119,rx15120,rx16121,rx17122,rx18123,rs19124,rs20125,rm126,re127,rfl,hv128,hv129,f130,f131,f132⟩
 refine kpL k135 fun n137 l136 => ?_
 by_cases he138:re127=0
 ·
  obtain ⟨nm139,es140,ck141,rfl,g142,g143,g144,hM145⟩:=f132 he138
  obtain rfl:=he138
  refine mv (.tuple #[.agg #[vI rx12117,vI rx13118,vI rx14119,vI rx15120,vI rx16121,vI rx17122,vI rx18123,rs19124,rs20125,.map (some nm139)],vI 0]) rfl rfl ?_
  refine sv (v:=.agg #[vI rx12117,vI rx13118,vI rx14119,vI rx15120,vI rx16121,vI rx17122,vI rx18123,rs19124,rs20125,.map (some nm139)]) rfl rfl rfl (opv_extract rfl rfl rfl rfl) rfl ?_
  refine sv (v:=vI 0) rfl rfl rfl (opv_extract rfl rfl rfl rfl) rfl ?_
  refine sv_put (H:=H134) (n:=H101.next) (v:=undef) (x:=some (.row #[vI rx12117,vI rx13118,vI rx14119,vI rx15120,vI rx16121,vI rx17122,vI rx18123,rs19124,rs20125,.map (some nm139)] .raw)) rfl rfl rfl rfl (opv_storeC (u:=.agg #[vI rx12117,vI rx13118,vI rx14119,vI rx15120,vI rx16121,vI rx17122,vI rx18123,rs19124,rs20125,.map (some nm139)]) rfl rfl rfl rfl rfl (by simp [undef]) sz68 rfl rfl (leafs_of (l:=[vI rx12117,vI rx13118,vI rx14119,vI rx15120,vI rx16121,vI rx17122,vI rx18123,rs19124,rs20125,.map (some nm139)]) ⟨rfl,rfl,rfl,rfl,rfl,rfl,rfl,vt_one hv128,vt_one hv129,rfl,trivial⟩) ((k135.get H101.next (by omega)).trans ((f112.get H101.next (by omega)).trans f107.blk)) rfl rfl) ?_
  intro H146 f147
  refine putL w116 f147 ((k135.get H101.next (by omega)).trans ((f112.get H101.next (by omega)).trans f107.blk)) fun n150 w148 l149 => ?_
  refine mv (vI 0) rfl rfl ?_
  refine wo_nil (tq_n (wk ⟨[(2,vI ax11),(6,vP H101.next 0),(7,vP H106.next 0),(8,vI 0)],27,[],H146⟩ rfl ?_))
  refine w_seq (w_region (mv (vI 0) rfl rfl ?_))
  refine sv (v:=.bool true) rfl rfl rfl (opv_bin rfl rfl rfl rfl rfl (eqT (by decide))) rfl ?_
  refine wo_nil (tq_n (wk ⟨[(2,vI ax11),(6,vP H101.next 0),(7,vP H106.next 0),(8,vI 0),(17,.bool true)],27,[],H146⟩ rfl ?_))
  refine w_cond (t:=true) rfl rfl (fun _ => ?_) (fun h => by cases h)
  refine w_region (sv (v:=.agg #[vI rx12117,vI rx13118,vI rx14119,vI rx15120,vI rx16121,vI rx17122,vI rx18123,rs19124,rs20125,.map (some nm139)]) rfl rfl rfl (opv_loadE rfl rfl rfl ag68 sz68 f147.blk rfl (.inl rfl) rfl) rfl ?_)
  refine mv (vI ax11) rfl rfl ?_
  refine sc_ (H:=H146) (vs:=[.agg #[vI rx12117,vI rx13118,vI rx14119,vI rx15120,vI rx16121,vI rx17122,vI rx18123,rs19124,rs20125,.map (some nm139)],vI ax11]) (fv:=.func (.func 60) #[] #[]) rfl rfl rfl rfl rfl rfl (.cons rfl rfl (by simp [undef]) (.cons rfl rfl neI .nil)) rfl ?_
  refine WV.mono (wv_f0 Try.call60 (gas_at rx12117 rx13118 rx14119 rx15120 rx16121 rx17122 rx18123 rs19124 rs20125 ax11 nm139 es140 ck141 _ w148 (hv128.mono l149) (hv129.mono l149) ((f147.get nm139 (by omega)).trans g144) (by omega) hM145)) ?_
  rintro v155 H156 ⟨k157,w151,rx1152,rx2153,rx3154,rfl⟩
  refine kpL k157 fun n159 l158 => ?_
  refine mv (.tuple #[.agg #[vI rx1152,vI rx2153],vI rx3154]) rfl rfl ?_
  refine sv (v:=.agg #[vI rx1152,vI rx2153]) rfl rfl rfl (opv_extract rfl rfl rfl rfl) rfl ?_
  refine sv (v:=vI rx3154) rfl rfl rfl (opv_extract rfl rfl rfl rfl) rfl ?_
  refine sv_put (H:=H156) (n:=H106.next) (v:=undef) (x:=some (.row #[vI rx1152,vI rx2153] .raw)) rfl rfl rfl rfl (opv_storeC (u:=.agg #[vI rx1152,vI rx2153]) rfl rfl rfl rfl rfl (by simp [undef]) sz23 rfl rfl rfl ((k157.get H106.next (by omega)).trans ((f147.get H106.next (by omega)).trans ((k135.get H106.next (by omega)).trans f112.blk))) rfl rfl) ?_
  intro H160 f161
  refine putL w151 f161 ((k157.get H106.next (by omega)).trans ((f147.get H106.next (by omega)).trans ((k135.get H106.next (by omega)).trans f112.blk))) fun n164 w162 l163 => ?_
  refine mv (vI rx3154) rfl rfl ?_
  refine wo_nil (tq_n (wk ⟨[(6,vP H101.next 0),(7,vP H106.next 0),(8,vI rx3154)],27,[],H160⟩ rfl ?_))
  refine w_seq (w_draw_start ?_)
  intro C0
  have C165:=ch_val (i:=0) (p:=0) (ks:=[6]) (v:=.agg #[vI rx12117,vI rx13118,vI rx14119,vI rx15120,vI rx16121,vI rx17122,vI rx18123,rs19124,rs20125,.map (some nm139)]) (A:=H160) (H:=H160) C0 rfl rfl rfl rfl rfl rfl (opv_loadE rfl rfl rfl ag68 sz68 ((f161.get H101.next (by omega)).trans ((k157.get H101.next (by omega)).trans f147.blk)) rfl (.inl rfl) rfl)
  have C166:=ch_val (i:=1) (p:=0) (ks:=[7]) (v:=.agg #[vI rx1152,vI rx2153]) (A:=H160) (H:=H160) C165 rfl rfl rfl rfl rfl rfl (opv_loadE rfl rfl rfl ag23 sz23 f161.blk rfl (.inl rfl) rfl)
  have C167:=ch_val (i:=2) (p:=0) (ks:=[8]) (v:=vI rx3154) (A:=H160) (H:=H160) C166 rfl rfl rfl rfl rfl rfl (opv_move (.inl rfl) rfl rfl)
  have C168:=ch_val (i:=3) (p:=0) (ks:=[6,24]) (v:=undef) (A:=H160) (H:=H160) C167 rfl rfl rfl rfl rfl rfl (opv_undo (t:=.raw) (n:=H101.next) (c:=#[vI rx12117,vI rx13118,vI rx14119,vI rx15120,vI rx16121,vI rx17122,vI rx18123,rs19124,rs20125,.map (some nm139)]) (opv_storeC (u:=.agg #[vI rx12117,vI rx13118,vI rx14119,vI rx15120,vI rx16121,vI rx17122,vI rx18123,rs19124,rs20125,.map (some nm139)]) rfl rfl rfl rfl rfl (by simp [undef]) sz68 rfl rfl (leafs_of (l:=[vI rx12117,vI rx13118,vI rx14119,vI rx15120,vI rx16121,vI rx17122,vI rx18123,rs19124,rs20125,.map (some nm139)]) ⟨rfl,rfl,rfl,rfl,rfl,rfl,rfl,vt_one (hv128.mono ((l149.trans l158).trans l163)),vt_one (hv129.mono ((l149.trans l158).trans l163)),rfl,trivial⟩) ((f161.get H101.next (by omega)).trans ((k157.get H101.next (by omega)).trans f147.blk)) rfl rfl) ((f161.get H101.next (by omega)).trans ((k157.get H101.next (by omega)).trans f147.blk)))
  have C169:=ch_val (i:=4) (p:=0) (ks:=[7,25]) (v:=undef) (A:=H160) (H:=H160) C168 rfl rfl rfl rfl rfl rfl (opv_undo (t:=.raw) (n:=H106.next) (c:=#[vI rx1152,vI rx2153]) (opv_storeC (u:=.agg #[vI rx1152,vI rx2153]) rfl rfl rfl rfl rfl (by simp [undef]) sz23 rfl rfl rfl f161.blk rfl rfl) f161.blk)
  refine w_draw (tl:=[5]) rfl [0,0,0,1,11,31] C169 (by kernel_rfl) (by kernel_rfl) ?_
  refine wonorm (g:=[(6,vP H101.next 0),(7,vP H106.next 0),(26,vI rx3154)]) (n:=27) (ds:=[]) (H:=H160) (lsub_cons rfl (lsub_cons rfl (lsub_cons rfl (lsub_nil _)))) rfl rfl rfl ?_
  refine mv (vI rx3154) rfl rfl ?_
  refine wo_nil (tq_n (wk ⟨[(6,vP H101.next 0),(7,vP H106.next 0),(8,vI rx3154)],27,[],H160⟩ rfl ?_))
  refine w_ret ?_
  refine ⟨.inr rfl,rfl,[.agg #[vI rx12117,vI rx13118,vI rx14119,vI rx15120,vI rx16121,vI rx17122,vI rx18123,rs19124,rs20125,.map (some nm139)],.agg #[vI rx1152,vI rx2153],vI rx3154],.cons (resV_cellE rfl ag68 sz68 ((f161.get H101.next (by omega)).trans ((k157.get H101.next (by omega)).trans f147.blk)) rfl (.inl rfl) rfl) (.cons (resV_cellE rfl ag23 sz23 f161.blk rfl (.inl rfl) rfl) (.cons (resV_tmp rfl neI) .nil)),(((((((((KeepX.refl (fun _ => False) H).new_ f102).new_ f107).new_ f112).keep k135).put f147 (by first | (right; omega) | (left; (try dsimp only) <;> omega))).keep k157).put f161 (by first | (right; omega) | (left; (try dsimp only) <;> omega))).k (fun _ h => h.elim)),w162,rx12117,rx13118,rx14119,rx15120,rx16121,rx17122,rx18123,rs19124,rs20125,rx1152,rx2153,.map (some nm139),rx3154,rfl,hv128.mono ((l149.trans l158).trans l163),hv129.mono ((l149.trans l158).trans l163),?_,?_,?_⟩
  · intro h; first | (exfalso; revert h; first | decide | omega) | exact ⟨by omega,by omega⟩
  · exact MV.some
  · exact fun _ => ⟨_,_,_,rfl,by (try dsimp only); omega,by (try dsimp only); omega,(f161.get nm139 (by omega)).trans ((k157.get nm139 (by omega)).trans ((f147.get nm139 (by omega)).trans g144)),hM145⟩
 ·
  refine mv (.tuple #[.agg #[vI rx12117,vI rx13118,vI rx14119,vI rx15120,vI rx16121,vI rx17122,vI rx18123,rs19124,rs20125,rm126],vI re127]) rfl rfl ?_
  refine sv (v:=.agg #[vI rx12117,vI rx13118,vI rx14119,vI rx15120,vI rx16121,vI rx17122,vI rx18123,rs19124,rs20125,rm126]) rfl rfl rfl (opv_extract rfl rfl rfl rfl) rfl ?_
  refine sv (v:=vI re127) rfl rfl rfl (opv_extract rfl rfl rfl rfl) rfl ?_
  refine sv_put (H:=H134) (n:=H101.next) (v:=undef) (x:=some (.row #[vI rx12117,vI rx13118,vI rx14119,vI rx15120,vI rx16121,vI rx17122,vI rx18123,rs19124,rs20125,rm126] .raw)) rfl rfl rfl rfl (opv_storeC (u:=.agg #[vI rx12117,vI rx13118,vI rx14119,vI rx15120,vI rx16121,vI rx17122,vI rx18123,rs19124,rs20125,rm126]) rfl rfl rfl rfl rfl (by simp [undef]) sz68 rfl rfl (leafs_of (l:=[vI rx12117,vI rx13118,vI rx14119,vI rx15120,vI rx16121,vI rx17122,vI rx18123,rs19124,rs20125,rm126]) ⟨rfl,rfl,rfl,rfl,rfl,rfl,rfl,vt_one hv128,vt_one hv129,MV.one f131,trivial⟩) ((k135.get H101.next (by omega)).trans ((f112.get H101.next (by omega)).trans f107.blk)) rfl rfl) ?_
  intro H170 f171
  refine putL w116 f171 ((k135.get H101.next (by omega)).trans ((f112.get H101.next (by omega)).trans f107.blk)) fun n174 w172 l173 => ?_
  refine mv (vI re127) rfl rfl ?_
  refine wo_nil (tq_n (wk ⟨[(2,vI ax11),(6,vP H101.next 0),(7,vP H106.next 0),(8,vI re127)],27,[],H170⟩ rfl ?_))
  refine w_seq (w_region (mv (vI re127) rfl rfl ?_))
  by_cases c175:re127=0
  ·
   exfalso; omega -- no contract for 60 (orlop/gas.space).at (match map mv)
  ·
   refine sv (v:=.bool false) rfl rfl rfl (opv_bin rfl rfl rfl rfl rfl (eqF c175)) rfl ?_
   refine wo_nil (tq_n (wk ⟨[(2,vI ax11),(6,vP H101.next 0),(7,vP H106.next 0),(8,vI re127),(17,.bool false)],27,[],H170⟩ rfl ?_))
   refine w_cond (t:=false) rfl rfl (fun h => by cases h) (fun _ => ?_)
   refine w_skip (tq_n (wk ⟨[(6,vP H101.next 0),(7,vP H106.next 0),(8,vI re127)],27,[],H170⟩ rfl ?_))
   refine w_seq (w_draw_start ?_)
   intro C0
   have C176:=ch_val (i:=0) (p:=0) (ks:=[6]) (v:=.agg #[vI rx12117,vI rx13118,vI rx14119,vI rx15120,vI rx16121,vI rx17122,vI rx18123,rs19124,rs20125,rm126]) (A:=H170) (H:=H170) C0 rfl rfl rfl rfl rfl rfl (opv_loadE rfl rfl rfl ag68 sz68 f171.blk rfl (.inl rfl) rfl)
   have C177:=ch_val (i:=1) (p:=0) (ks:=[7]) (v:=.agg #[vI 0,vI 0]) (A:=H170) (H:=H170) C176 rfl rfl rfl rfl rfl rfl (opv_loadE rfl rfl rfl ag23 sz23 ((f171.get H106.next (by omega)).trans ((k135.get H106.next (by omega)).trans f112.blk)) rfl (.inl rfl) rfl)
   have C178:=ch_val (i:=2) (p:=0) (ks:=[8]) (v:=vI re127) (A:=H170) (H:=H170) C177 rfl rfl rfl rfl rfl rfl (opv_move (.inl rfl) rfl rfl)
   have C179:=ch_val (i:=3) (p:=0) (ks:=[6,24]) (v:=undef) (A:=H170) (H:=H170) C178 rfl rfl rfl rfl rfl rfl (opv_undo (t:=.raw) (n:=H101.next) (c:=#[vI rx12117,vI rx13118,vI rx14119,vI rx15120,vI rx16121,vI rx17122,vI rx18123,rs19124,rs20125,rm126]) (opv_storeC (u:=.agg #[vI rx12117,vI rx13118,vI rx14119,vI rx15120,vI rx16121,vI rx17122,vI rx18123,rs19124,rs20125,rm126]) rfl rfl rfl rfl rfl (by simp [undef]) sz68 rfl rfl (leafs_of (l:=[vI rx12117,vI rx13118,vI rx14119,vI rx15120,vI rx16121,vI rx17122,vI rx18123,rs19124,rs20125,rm126]) ⟨rfl,rfl,rfl,rfl,rfl,rfl,rfl,vt_one (hv128.mono l173),vt_one (hv129.mono l173),MV.one f131,trivial⟩) f171.blk rfl rfl) f171.blk)
   have C180:=ch_val (i:=4) (p:=0) (ks:=[7,25]) (v:=undef) (A:=H170) (H:=H170) C179 rfl rfl rfl rfl rfl rfl (opv_undo (t:=.raw) (n:=H106.next) (c:=#[vI 0,vI 0]) (opv_storeC (u:=.agg #[vI 0,vI 0]) rfl rfl rfl rfl rfl (by simp [undef]) sz23 rfl rfl rfl ((f171.get H106.next (by omega)).trans ((k135.get H106.next (by omega)).trans f112.blk)) rfl rfl) ((f171.get H106.next (by omega)).trans ((k135.get H106.next (by omega)).trans f112.blk)))
   refine w_draw (tl:=[5]) rfl [0,0,0,1,11,31] C180 (by kernel_rfl) (by kernel_rfl) ?_
   refine wonorm (g:=[(6,vP H101.next 0),(7,vP H106.next 0),(26,vI re127)]) (n:=27) (ds:=[]) (H:=H170) (lsub_cons rfl (lsub_cons rfl (lsub_cons rfl (lsub_nil _)))) rfl rfl rfl ?_
   refine mv (vI re127) rfl rfl ?_
   refine wo_nil (tq_n (wk ⟨[(6,vP H101.next 0),(7,vP H106.next 0),(8,vI re127)],27,[],H170⟩ rfl ?_))
   refine w_ret ?_
   refine ⟨.inr rfl,rfl,[.agg #[vI rx12117,vI rx13118,vI rx14119,vI rx15120,vI rx16121,vI rx17122,vI rx18123,rs19124,rs20125,rm126],.agg #[vI 0,vI 0],vI re127],.cons (resV_cellE rfl ag68 sz68 f171.blk rfl (.inl rfl) rfl) (.cons (resV_cellE rfl ag23 sz23 ((f171.get H106.next (by omega)).trans ((k135.get H106.next (by omega)).trans f112.blk)) rfl (.inl rfl) rfl) (.cons (resV_tmp rfl neI) .nil)),(((((((KeepX.refl (fun _ => False) H).new_ f102).new_ f107).new_ f112).keep k135).put f171 (by first | (right; omega) | (left; (try dsimp only) <;> omega))).k (fun _ h => h.elim)),w172,rx12117,rx13118,rx14119,rx15120,rx16121,rx17122,rx18123,rs19124,rs20125,0,0,rm126,re127,rfl,hv128.mono l173,hv129.mono l173,?_,?_,?_⟩
   · intro h; first | (exfalso; revert h; first | decide | omega) | exact ⟨by omega,by omega⟩
   · exact f131
   · intro h; exfalso; revert h; first | decide | omega

theorem gas_Level (ax1 ax2:Int) (ax3 ax4:Int) (ax5 ax6 ax7:Int) (as8 as9 as10:Value) (ax11:Int) (H:SH) (wt:WT H) (hvas8:VT H (.sl false [.int .i64,.int .i64]) as8) (hvas9:VT H (.sl false [.str,.int .i64]) as9) (hvas10:VT H (.sl false [.int .i64,.int .i64,.int .i64]) as10):WC Try.prog 12 [.agg #[vI ax1,vI ax2,vI ax3,vI ax4,vI ax5,vI ax6,vI ax7,as8,as9],as10,vI ax11] H (fun v H' => Keep H H'∧WT H'∧∃ (rx12 rx13 rx14:Int),v=(.tuple #[.agg #[vI rx12,vI rx13],vI rx14])):=by
 refine wc_of_body Try.func12 rfl ?_
 refine wk ⟨[(0,.agg #[vI ax1,vI ax2,vI ax3,vI ax4,vI ax5,vI ax6,vI ax7,as8,as9]),(1,as10),(2,vI ax11)],21,[],H⟩ rfl ?_
 refine w_seq (w_region (sv_new (H:=H) (v:=vP H.next 0) (x:=.row #[vI ax1,vI ax2,vI ax3,vI ax4,vI ax5,vI ax6,vI ax7,as8,as9] .raw) rfl rfl rfl rfl (opv_boxE (v:=.agg #[vI ax1,vI ax2,vI ax3,vI ax4,vI ax5,vI ax6,vI ax7,as8,as9]) rfl rfl rfl (by simp [undef]) rfl) ?_))
 intro H101 f102
 refine newL wt f102 fun n105 w103 l104 => ?_
 refine sv_new (H:=H101) (v:=vP H101.next 0) (x:=.row #[vI 0,vI 0] .raw) rfl rfl rfl rfl (opv_alloc rfl ze23 rfl) ?_
 intro H106 f107
 refine newL w103 f107 fun n110 w108 l109 => ?_
 refine mv (vI 0) rfl rfl ?_
 refine wo_nil (tq_n (wk ⟨[(1,as10),(2,vI ax11),(3,vP H.next 0),(6,vP H101.next 0)],21,[],H106⟩ rfl ?_))
 refine w_seq (w_region (sv (v:=.agg #[vI ax1,vI ax2,vI ax3,vI ax4,vI ax5,vI ax6,vI ax7,as8,as9]) rfl rfl rfl (opv_loadE rfl rfl rfl ag27 sz27 ((f107.get H.next (by omega)).trans f102.blk) rfl (.inl rfl) rfl) rfl ?_))
 refine mv as10 rfl rfl ?_
 refine mv (vI ax11) rfl rfl ?_
 refine sc_ (H:=H106) (vs:=[.agg #[vI ax1,vI ax2,vI ax3,vI ax4,vI ax5,vI ax6,vI ax7,as8,as9],as10,vI ax11]) (fv:=.func (.func 33) #[] #[]) rfl rfl rfl rfl rfl rfl (.cons rfl rfl (by simp [undef]) (.cons rfl rfl (vt_ne (hvas10.mono (l104.trans l109))) (.cons rfl rfl neI .nil))) rfl ?_
 refine WV.mono (wv_f0 Try.call33 (gas_enter ax1 ax2 ax3 ax4 ax5 ax6 ax7 as8 as9 as10 ax11 _ w108 (hvas8.mono (l104.trans l109)) (hvas9.mono (l104.trans l109)) (hvas10.mono (l104.trans l109)))) ?_
 rintro v130 H131 ⟨k132,w111,rx12112,rx13113,rx14114,rx15115,rx16116,rx17117,rx18118,rs19119,rs20120,rx21121,rx22122,rm123,re124,rfl,hv125,hv126,f127,f128,f129⟩
 refine kpL k132 fun n134 l133 => ?_
 by_cases he135:re124=0
 ·
  obtain ⟨nm136,es137,ck138,rfl,g139,g140,g141,hM142⟩:=f129 he135
  obtain rfl:=he135
  refine mv (.tuple #[.agg #[vI rx12112,vI rx13113,vI rx14114,vI rx15115,vI rx16116,vI rx17117,vI rx18118,rs19119,rs20120,.map (some nm136)],.agg #[vI rx21121,vI rx22122],vI 0]) rfl rfl ?_
  refine sv (v:=.agg #[vI rx12112,vI rx13113,vI rx14114,vI rx15115,vI rx16116,vI rx17117,vI rx18118,rs19119,rs20120,.map (some nm136)]) rfl rfl rfl (opv_extract rfl rfl rfl rfl) rfl ?_
  refine sv (v:=.agg #[vI rx21121,vI rx22122]) rfl rfl rfl (opv_extract rfl rfl rfl rfl) rfl ?_
  refine sv (v:=vI 0) rfl rfl rfl (opv_extract rfl rfl rfl rfl) rfl ?_
  refine sv_new (H:=H131) (v:=vP H131.next 0) (x:=.row #[vI 0,vI 0,vI 0,vI 0,vI 0,vI 0,vI 0,.slice none 0 0,.slice none 0 0,.map none] .raw) rfl rfl rfl rfl (opv_alloc rfl ze68 rfl) ?_
  intro H143 f144
  refine newL w111 f144 fun n147 w145 l146 => ?_
  refine sv_new (H:=H143) (v:=vP H143.next 0) (x:=.row #[vI 0,vI 0] .raw) rfl rfl rfl rfl (opv_alloc rfl ze23 rfl) ?_
  intro H148 f149
  refine newL w145 f149 fun n152 w150 l151 => ?_
  refine sv_put (H:=H148) (n:=H131.next) (v:=undef) (x:=some (.row #[vI rx12112,vI rx13113,vI rx14114,vI rx15115,vI rx16116,vI rx17117,vI rx18118,rs19119,rs20120,.map (some nm136)] .raw)) rfl rfl rfl rfl (opv_storeC (u:=.agg #[vI rx12112,vI rx13113,vI rx14114,vI rx15115,vI rx16116,vI rx17117,vI rx18118,rs19119,rs20120,.map (some nm136)]) rfl rfl rfl rfl rfl (by simp [undef]) sz68 rfl rfl (leafs_of (l:=[vI rx12112,vI rx13113,vI rx14114,vI rx15115,vI rx16116,vI rx17117,vI rx18118,rs19119,rs20120,.map (some nm136)]) ⟨rfl,rfl,rfl,rfl,rfl,rfl,rfl,vt_one (hv125.mono (l146.trans l151)),vt_one (hv126.mono (l146.trans l151)),rfl,trivial⟩) ((f149.get H131.next (by omega)).trans f144.blk) rfl rfl) ?_
  intro H153 f154
  refine putL w150 f154 ((f149.get H131.next (by omega)).trans f144.blk) fun n157 w155 l156 => ?_
  refine sv_put (H:=H153) (n:=H143.next) (v:=undef) (x:=some (.row #[vI rx21121,vI rx22122] .raw)) rfl rfl rfl rfl (opv_storeC (u:=.agg #[vI rx21121,vI rx22122]) rfl rfl rfl rfl rfl (by simp [undef]) sz23 rfl rfl rfl ((f154.get H143.next (by omega)).trans f149.blk) rfl rfl) ?_
  intro H158 f159
  refine putL w155 f159 ((f154.get H143.next (by omega)).trans f149.blk) fun n162 w160 l161 => ?_
  refine mv (vI 0) rfl rfl ?_
  refine wo_nil (tq_n (wk ⟨[(6,vP H101.next 0),(9,vP H143.next 0),(10,vI 0)],21,[],H158⟩ rfl ?_))
  refine w_seq (w_region (sv (v:=.agg #[vI rx21121,vI rx22122]) rfl rfl rfl (opv_loadE rfl rfl rfl ag23 sz23 f159.blk rfl (.inl rfl) rfl) rfl ?_))
  refine mv (vI 0) rfl rfl ?_
  refine sv_put (H:=H158) (n:=H101.next) (v:=undef) (x:=some (.row #[vI rx21121,vI rx22122] .raw)) rfl rfl rfl rfl (opv_storeC (u:=.agg #[vI rx21121,vI rx22122]) rfl rfl rfl rfl rfl (by simp [undef]) sz23 rfl rfl rfl ((f159.get H101.next (by omega)).trans ((f154.get H101.next (by omega)).trans ((f149.get H101.next (by omega)).trans ((f144.get H101.next (by omega)).trans ((k132.get H101.next (by omega)).trans f107.blk))))) rfl rfl) ?_
  intro H163 f164
  refine putL w160 f164 ((f159.get H101.next (by omega)).trans ((f154.get H101.next (by omega)).trans ((f149.get H101.next (by omega)).trans ((f144.get H101.next (by omega)).trans ((k132.get H101.next (by omega)).trans f107.blk))))) fun n167 w165 l166 => ?_
  refine mv (vI 0) rfl rfl ?_
  refine wo_nil (tq_n (wk ⟨[(6,vP H101.next 0),(7,vI 0)],21,[],H163⟩ rfl ?_))
  refine w_ret ?_
  refine ⟨.inr rfl,rfl,[.agg #[vI rx21121,vI rx22122],vI 0],.cons (resV_cellE rfl ag23 sz23 f164.blk rfl (.inl rfl) rfl) (.cons (resV_tmp rfl neI) .nil),((((((((((KeepX.refl (fun _ => False) H).new_ f102).new_ f107).keep k132).new_ f144).new_ f149).put f154 (by first | (right; omega) | (left; (try dsimp only) <;> omega))).put f159 (by first | (right; omega) | (left; (try dsimp only) <;> omega))).put f164 (by first | (right; omega) | (left; (try dsimp only) <;> omega))).k (fun _ h => h.elim)),w165,rx21121,rx22122,0,rfl⟩
 ·
  refine mv (.tuple #[.agg #[vI rx12112,vI rx13113,vI rx14114,vI rx15115,vI rx16116,vI rx17117,vI rx18118,rs19119,rs20120,rm123],.agg #[vI rx21121,vI rx22122],vI re124]) rfl rfl ?_
  refine sv (v:=.agg #[vI rx12112,vI rx13113,vI rx14114,vI rx15115,vI rx16116,vI rx17117,vI rx18118,rs19119,rs20120,rm123]) rfl rfl rfl (opv_extract rfl rfl rfl rfl) rfl ?_
  refine sv (v:=.agg #[vI rx21121,vI rx22122]) rfl rfl rfl (opv_extract rfl rfl rfl rfl) rfl ?_
  refine sv (v:=vI re124) rfl rfl rfl (opv_extract rfl rfl rfl rfl) rfl ?_
  refine sv_new (H:=H131) (v:=vP H131.next 0) (x:=.row #[vI 0,vI 0,vI 0,vI 0,vI 0,vI 0,vI 0,.slice none 0 0,.slice none 0 0,.map none] .raw) rfl rfl rfl rfl (opv_alloc rfl ze68 rfl) ?_
  intro H168 f169
  refine newL w111 f169 fun n172 w170 l171 => ?_
  refine sv_new (H:=H168) (v:=vP H168.next 0) (x:=.row #[vI 0,vI 0] .raw) rfl rfl rfl rfl (opv_alloc rfl ze23 rfl) ?_
  intro H173 f174
  refine newL w170 f174 fun n177 w175 l176 => ?_
  refine sv_put (H:=H173) (n:=H131.next) (v:=undef) (x:=some (.row #[vI rx12112,vI rx13113,vI rx14114,vI rx15115,vI rx16116,vI rx17117,vI rx18118,rs19119,rs20120,rm123] .raw)) rfl rfl rfl rfl (opv_storeC (u:=.agg #[vI rx12112,vI rx13113,vI rx14114,vI rx15115,vI rx16116,vI rx17117,vI rx18118,rs19119,rs20120,rm123]) rfl rfl rfl rfl rfl (by simp [undef]) sz68 rfl rfl (leafs_of (l:=[vI rx12112,vI rx13113,vI rx14114,vI rx15115,vI rx16116,vI rx17117,vI rx18118,rs19119,rs20120,rm123]) ⟨rfl,rfl,rfl,rfl,rfl,rfl,rfl,vt_one (hv125.mono (l171.trans l176)),vt_one (hv126.mono (l171.trans l176)),MV.one f128,trivial⟩) ((f174.get H131.next (by omega)).trans f169.blk) rfl rfl) ?_
  intro H178 f179
  refine putL w175 f179 ((f174.get H131.next (by omega)).trans f169.blk) fun n182 w180 l181 => ?_
  refine sv_put (H:=H178) (n:=H168.next) (v:=undef) (x:=some (.row #[vI rx21121,vI rx22122] .raw)) rfl rfl rfl rfl (opv_storeC (u:=.agg #[vI rx21121,vI rx22122]) rfl rfl rfl rfl rfl (by simp [undef]) sz23 rfl rfl rfl ((f179.get H168.next (by omega)).trans f174.blk) rfl rfl) ?_
  intro H183 f184
  refine putL w180 f184 ((f179.get H168.next (by omega)).trans f174.blk) fun n187 w185 l186 => ?_
  refine mv (vI re124) rfl rfl ?_
  refine wo_nil (tq_n (wk ⟨[(6,vP H101.next 0),(9,vP H168.next 0),(10,vI re124)],21,[],H183⟩ rfl ?_))
  refine w_seq (w_region (sv (v:=.agg #[vI rx21121,vI rx22122]) rfl rfl rfl (opv_loadE rfl rfl rfl ag23 sz23 f184.blk rfl (.inl rfl) rfl) rfl ?_))
  refine mv (vI re124) rfl rfl ?_
  refine sv_put (H:=H183) (n:=H101.next) (v:=undef) (x:=some (.row #[vI rx21121,vI rx22122] .raw)) rfl rfl rfl rfl (opv_storeC (u:=.agg #[vI rx21121,vI rx22122]) rfl rfl rfl rfl rfl (by simp [undef]) sz23 rfl rfl rfl ((f184.get H101.next (by omega)).trans ((f179.get H101.next (by omega)).trans ((f174.get H101.next (by omega)).trans ((f169.get H101.next (by omega)).trans ((k132.get H101.next (by omega)).trans f107.blk))))) rfl rfl) ?_
  intro H188 f189
  refine putL w185 f189 ((f184.get H101.next (by omega)).trans ((f179.get H101.next (by omega)).trans ((f174.get H101.next (by omega)).trans ((f169.get H101.next (by omega)).trans ((k132.get H101.next (by omega)).trans f107.blk))))) fun n192 w190 l191 => ?_
  refine mv (vI re124) rfl rfl ?_
  refine wo_nil (tq_n (wk ⟨[(6,vP H101.next 0),(7,vI re124)],21,[],H188⟩ rfl ?_))
  refine w_ret ?_
  refine ⟨.inr rfl,rfl,[.agg #[vI rx21121,vI rx22122],vI re124],.cons (resV_cellE rfl ag23 sz23 f189.blk rfl (.inl rfl) rfl) (.cons (resV_tmp rfl neI) .nil),((((((((((KeepX.refl (fun _ => False) H).new_ f102).new_ f107).keep k132).new_ f169).new_ f174).put f179 (by first | (right; omega) | (left; (try dsimp only) <;> omega))).put f184 (by first | (right; omega) | (left; (try dsimp only) <;> omega))).put f189 (by first | (right; omega) | (left; (try dsimp only) <;> omega))).k (fun _ h => h.elim)),w190,rx21121,rx22122,re124,rfl⟩

theorem gas_Until (ax1 ax2:Int) (ax3 ax4:Int) (ax5 ax6 ax7:Int) (as8 as9 as10:Value) (ax11:Int) (H:SH) (wt:WT H) (hvas8:VT H (.sl false [.int .i64,.int .i64]) as8) (hvas9:VT H (.sl false [.str,.int .i64]) as9) (hvas10:VT H (.sl false [.int .i64,.int .i64,.int .i64]) as10):WC Try.prog 15 [.agg #[vI ax1,vI ax2,vI ax3,vI ax4,vI ax5,vI ax6,vI ax7,as8,as9],as10,vI ax11] H (fun v H' => Keep H H'∧WT H'∧∃ (rx12 rx13:Int),v=(.tuple #[vI rx12,vI rx13])):=by
 refine wc_of_body_marks Try.func15 rfl ?_
 refine wk ⟨[(0,.agg #[vI ax1,vI ax2,vI ax3,vI ax4,vI ax5,vI ax6,vI ax7,as8,as9]),(1,as10),(2,vI ax11)],38,[],H⟩ rfl ?_
 refine w_seq (w_region (sv_new (H:=H) (v:=vP H.next 0) (x:=.row #[vI ax1,vI ax2,vI ax3,vI ax4,vI ax5,vI ax6,vI ax7,as8,as9] .raw) rfl rfl rfl rfl (opv_boxE (v:=.agg #[vI ax1,vI ax2,vI ax3,vI ax4,vI ax5,vI ax6,vI ax7,as8,as9]) rfl rfl rfl (by simp [undef]) rfl) ?_))
 intro H101 f102
 refine newL wt f102 fun n105 w103 l104 => ?_
 refine sv_new (H:=H101) (v:=vP H101.next 0) (x:=.row #[vI 0] .raw) rfl rfl rfl rfl (opv_alloc rfl ze3 rfl) ?_
 intro H106 f107
 refine newL w103 f107 fun n110 w108 l109 => ?_
 refine mv (vI 0) rfl rfl ?_
 refine wo_nil (tq_n (wk ⟨[(1,as10),(2,vI ax11),(3,vP H.next 0),(6,vP H101.next 0)],38,[],H106⟩ rfl ?_))
 refine w_seq (w_region (sv (v:=.agg #[vI ax1,vI ax2,vI ax3,vI ax4,vI ax5,vI ax6,vI ax7,as8,as9]) rfl rfl rfl (opv_loadE rfl rfl rfl ag27 sz27 ((f107.get H.next (by omega)).trans f102.blk) rfl (.inl rfl) rfl) rfl ?_))
 refine mv as10 rfl rfl ?_
 refine mv (vI ax11) rfl rfl ?_
 refine sc_ (H:=H106) (vs:=[.agg #[vI ax1,vI ax2,vI ax3,vI ax4,vI ax5,vI ax6,vI ax7,as8,as9],as10,vI ax11]) (fv:=.func (.func 33) #[] #[]) rfl rfl rfl rfl rfl rfl (.cons rfl rfl (by simp [undef]) (.cons rfl rfl (vt_ne (hvas10.mono (l104.trans l109))) (.cons rfl rfl neI .nil))) rfl ?_
 refine WV.mono (wv_f0 Try.call33 (gas_enter ax1 ax2 ax3 ax4 ax5 ax6 ax7 as8 as9 as10 ax11 _ w108 (hvas8.mono (l104.trans l109)) (hvas9.mono (l104.trans l109)) (hvas10.mono (l104.trans l109)))) ?_
 rintro v130 H131 ⟨k132,w111,rx12112,rx13113,rx14114,rx15115,rx16116,rx17117,rx18118,rs19119,rs20120,rx21121,rx22122,rm123,re124,rfl,hv125,hv126,f127,f128,f129⟩
 refine kpL k132 fun n134 l133 => ?_
 by_cases he135:re124=0
 ·
  obtain ⟨nm136,es137,ck138,rfl,g139,g140,g141,hM142⟩:=f129 he135
  obtain rfl:=he135
  refine mv (.tuple #[.agg #[vI rx12112,vI rx13113,vI rx14114,vI rx15115,vI rx16116,vI rx17117,vI rx18118,rs19119,rs20120,.map (some nm136)],.agg #[vI rx21121,vI rx22122],vI 0]) rfl rfl ?_
  refine sv (v:=.agg #[vI rx12112,vI rx13113,vI rx14114,vI rx15115,vI rx16116,vI rx17117,vI rx18118,rs19119,rs20120,.map (some nm136)]) rfl rfl rfl (opv_extract rfl rfl rfl rfl) rfl ?_
  refine sv (v:=.agg #[vI rx21121,vI rx22122]) rfl rfl rfl (opv_extract rfl rfl rfl rfl) rfl ?_
  refine sv (v:=vI 0) rfl rfl rfl (opv_extract rfl rfl rfl rfl) rfl ?_
  refine sv_new (H:=H131) (v:=vP H131.next 0) (x:=.row #[vI 0,vI 0,vI 0,vI 0,vI 0,vI 0,vI 0,.slice none 0 0,.slice none 0 0,.map none] .raw) rfl rfl rfl rfl (opv_alloc rfl ze68 rfl) ?_
  intro H143 f144
  refine newL w111 f144 fun n147 w145 l146 => ?_
  refine sv_new (H:=H143) (v:=vP H143.next 0) (x:=.row #[vI 0,vI 0] .raw) rfl rfl rfl rfl (opv_alloc rfl ze23 rfl) ?_
  intro H148 f149
  refine newL w145 f149 fun n152 w150 l151 => ?_
  refine sv_put (H:=H148) (n:=H131.next) (v:=undef) (x:=some (.row #[vI rx12112,vI rx13113,vI rx14114,vI rx15115,vI rx16116,vI rx17117,vI rx18118,rs19119,rs20120,.map (some nm136)] .raw)) rfl rfl rfl rfl (opv_storeC (u:=.agg #[vI rx12112,vI rx13113,vI rx14114,vI rx15115,vI rx16116,vI rx17117,vI rx18118,rs19119,rs20120,.map (some nm136)]) rfl rfl rfl rfl rfl (by simp [undef]) sz68 rfl rfl (leafs_of (l:=[vI rx12112,vI rx13113,vI rx14114,vI rx15115,vI rx16116,vI rx17117,vI rx18118,rs19119,rs20120,.map (some nm136)]) ⟨rfl,rfl,rfl,rfl,rfl,rfl,rfl,vt_one (hv125.mono (l146.trans l151)),vt_one (hv126.mono (l146.trans l151)),rfl,trivial⟩) ((f149.get H131.next (by omega)).trans f144.blk) rfl rfl) ?_
  intro H153 f154
  refine putL w150 f154 ((f149.get H131.next (by omega)).trans f144.blk) fun n157 w155 l156 => ?_
  refine sv_put (H:=H153) (n:=H143.next) (v:=undef) (x:=some (.row #[vI rx21121,vI rx22122] .raw)) rfl rfl rfl rfl (opv_storeC (u:=.agg #[vI rx21121,vI rx22122]) rfl rfl rfl rfl rfl (by simp [undef]) sz23 rfl rfl rfl ((f154.get H143.next (by omega)).trans f149.blk) rfl rfl) ?_
  intro H158 f159
  refine putL w155 f159 ((f154.get H143.next (by omega)).trans f149.blk) fun n162 w160 l161 => ?_
  refine mv (vI 0) rfl rfl ?_
  refine wo_nil (tq_n (wk ⟨[(2,vI ax11),(6,vP H101.next 0),(7,vI 0),(8,vP H131.next 0),(9,vP H143.next 0)],38,[],H158⟩ rfl ?_))
  refine w_seq (w_seq (w_region (mv (vI 0) rfl rfl ?_)))
  refine sv (v:=.bool false) rfl rfl rfl (opv_bin rfl rfl rfl rfl rfl (neF (by decide))) rfl ?_
  refine wo_nil (tq_n (wk ⟨[(2,vI ax11),(6,vP H101.next 0),(7,vI 0),(8,vP H131.next 0),(9,vP H143.next 0),(21,.bool false)],38,[],H158⟩ rfl ?_))
  refine w_cond (t:=false) rfl rfl (fun h => by cases h) (fun _ => ?_)
  refine w_skip (tq_n (wk ⟨[(2,vI ax11),(6,vP H101.next 0),(8,vP H131.next 0),(9,vP H143.next 0)],38,[],H158⟩ rfl ?_))
  refine w_seq (w_region (sv_put (H:=H158) (n:=H101.next) (v:=undef) (x:=some (.row #[vI (-1)] .raw)) rfl rfl rfl rfl (opv_storeC (u:=vI (-1)) rfl rfl rfl rfl rfl neI sz3 rfl rfl rfl ((f159.get H101.next (by omega)).trans ((f154.get H101.next (by omega)).trans ((f149.get H101.next (by omega)).trans ((f144.get H101.next (by omega)).trans ((k132.get H101.next (by omega)).trans f107.blk))))) rfl rfl) ?_))
  intro H163 f164
  refine putL w160 f164 ((f159.get H101.next (by omega)).trans ((f154.get H101.next (by omega)).trans ((f149.get H101.next (by omega)).trans ((f144.get H101.next (by omega)).trans ((k132.get H101.next (by omega)).trans f107.blk))))) fun n167 w165 l166 => ?_
  refine wo_nil (tq_n (wk ⟨[(2,vI ax11),(6,vP H101.next 0),(8,vP H131.next 0),(9,vP H143.next 0)],38,[],H163⟩ rfl ?_))
  refine w_seq (w_seq (w_region (sv (v:=.agg #[vI rx12112,vI rx13113,vI rx14114,vI rx15115,vI rx16116,vI rx17117,vI rx18118,rs19119,rs20120,.map (some nm136)]) rfl rfl rfl (opv_loadE rfl rfl rfl ag68 sz68 ((f164.get H131.next (by omega)).trans ((f159.get H131.next (by omega)).trans f154.blk)) rfl (.inl rfl) rfl) rfl ?_)))
  refine mv (vI ax11) rfl rfl ?_
  refine sv (v:=.agg #[vI rx21121,vI rx22122]) rfl rfl rfl (opv_loadE rfl rfl rfl ag23 sz23 ((f164.get H143.next (by omega)).trans f159.blk) rfl (.inl rfl) rfl) rfl ?_
  refine mv (vI ax11) rfl rfl ?_
  refine sc_ (H:=H163) (vs:=[.agg #[vI rx12112,vI rx13113,vI rx14114,vI rx15115,vI rx16116,vI rx17117,vI rx18118,rs19119,rs20120,.map (some nm136)],vI ax11,.agg #[vI rx21121,vI rx22122],vI ax11]) (fv:=.func (.func 34) #[] #[]) rfl rfl rfl rfl rfl rfl (.cons rfl rfl (by simp [undef]) (.cons rfl rfl neI (.cons rfl rfl (by simp [undef]) (.cons rfl rfl neI .nil)))) rfl ?_
  refine WV.mono (wv_f0 Try.call34 (gas_follow rx12112 rx13113 rx14114 rx15115 rx16116 rx17117 rx18118 rs19119 rs20120 ax11 rx21121 rx22122 ax11 (.map (some nm136)) _ w165 (hv125.mono ((((l146.trans l151).trans l156).trans l161).trans l166)) (hv126.mono ((((l146.trans l151).trans l156).trans l161).trans l166)) MV.some)) ?_
  rintro v177 H178 ⟨k179,w168,r1169,r2170,r3171,r4172,rfl,⟨hb173,_,_⟩,⟨hb174,_,_⟩,⟨hb175,_,_⟩,⟨hb176,_,_⟩⟩
  refine kpL k179 fun n181 l180 => ?_
  refine wo_nil (tq_n (wk ⟨[(6,vP H101.next 0),(8,vP H131.next 0),(27,.func (.func 61) #[] #[vP r1169 0,vP r2170 0,vP r3171 0,vP r4172 0])],38,[],H178⟩ rfl ?_))
  refine w_block ?_
  refine w_range' (e:=[(false,[.int .i64]),(true,[.int .i64,.int .i64])]) (Y:=(fun l => 0 ≤ argI l 0 0∧argI l 0 0 ≤ 60)) (C:=fun m => m=r1169∨m=r2170∨m=r3171∨m=r4172∨m=nm136) (M:=fun m => m=r3171) (Hq:=H178) rfl rfl (gas_follow_seq r1169 r2170 r3171 r4172 nm136 es137 ck138 ax11 ax11 rx21121 rx22122 rx12112 rx13113 rx14114 rx15115 rx16116 rx17117 rx18118 rs19119 rs20120 _ w168 (hv125.mono (((((l146.trans l151).trans l156).trans l161).trans l166).trans l180)) (hv126.mono (((((l146.trans l151).trans l156).trans l161).trans l166).trans l180)) hb173 (by omega) hb174 (by omega) hb175 (by omega) hb176 (by omega) ((k179.get nm136 (by omega)).trans ((f164.get nm136 (by omega)).trans ((f159.get nm136 (by omega)).trans ((f154.get nm136 (by omega)).trans ((f149.get nm136 (by omega)).trans ((f144.get nm136 (by omega)).trans g141)))))) (by omega) (by omega) hM142) (KeepX.refl _ _) (Le.refl _) w168 rfl (by simp) (fun m => m=H101.next) (fun A => ∃ (x182:Int),A.get H101.next=some (.row #[vI x182] .raw)) (fun x A => (x=(.exit 0)∧∃ (x182:Int),A.get H101.next=some (.row #[vI x182] .raw))) (fun m hm => ⟨by (try dsimp only at hm); intro h; omega,by (try dsimp only at hm); omega⟩) ?_ ?_ ?_ ?_ ?_ ?_
  ·
   intro H184 _ k185 w186
   have n187:=k185.next
   have l188:=k185.le
   exact ⟨-1,(k185.get H101.next (by omega)).trans ((k179.get H101.next (by omega)).trans f164.blk)⟩
  ·
   rintro A189 A190 ⟨x182,hb183⟩ n191 k192 l193
   exact ⟨x182,((k192.get _ (by omega) (by intro h; (try dsimp only at h); omega)).trans hb183)⟩
  ·
   rintro x A194 A195 h199 n196 k197 l198
   obtain ⟨rfl,⟨x182,hb183⟩⟩:=h199
   exact ⟨rfl,⟨x182,((k197.get _ (by omega) (by intro h; (try dsimp only at h); omega)).trans hb183)⟩⟩
  ·
   rintro A200 as201 w202 l203 k204 n205 hr206 ⟨x182,hb183⟩ ha207 hY208
   replace k204:=k204.weak (Y:=fun m => m=H101.next∨m=r3171) (fun m h => by (try dsimp only at h ⊢); omega)
   obtain ⟨v209,r210,rfl,⟨us211,hu212,rfl⟩,ha207⟩:=ha207
   replace hu212:VTs A200 [.int .i64] us211:=hu212
   obtain ⟨x215,r213,rfl,hs214⟩:=vts_int hu212
   obtain rfl:=vts_nil hs214
   obtain ⟨v216,r217,rfl,⟨us218,hu219,rfl⟩,ha207⟩:=ha207
   replace hu219:VTs A200 [.int .i64,.int .i64] us218:=hu219
   obtain ⟨x222,r220,rfl,hs221⟩:=vts_int hu219
   obtain ⟨x225,r223,rfl,hs224⟩:=vts_int hs221
   obtain rfl:=vts_nil hs224
   obtain rfl:r217=[]:=ha207
   replace hY208:0 ≤ x215∧x215 ≤ 60:=hY208
   refine round_start ?_
   refine wk ⟨[(6,vP H101.next 0),(8,vP H131.next 0),(28,vI x215),(29,.agg #[vI x222,vI x225])],38,[],A200⟩ rfl ?_
   refine w_seq (w_region (mv (vI x215) rfl rfl ?_))
   refine wo_nil (tq_n (wk ⟨[(6,vP H101.next 0),(8,vP H131.next 0),(10,vI x215),(29,.agg #[vI x222,vI x225])],38,[],A200⟩ rfl ?_))
   refine w_region (sv_new (H:=A200) (v:=vP A200.next 0) (x:=.row #[vI 0,vI 0] .raw) rfl rfl rfl rfl (opv_alloc rfl ze23 rfl) ?_)
   intro H226 f227
   refine newL w202 f227 fun n230 w228 l229 => ?_
   refine sv_put (H:=H226) (n:=A200.next) (v:=undef) (x:=some (.row #[vI x222,vI x225] .raw)) rfl rfl rfl rfl (opv_storeC (u:=.agg #[vI x222,vI x225]) rfl rfl rfl rfl rfl (by simp [undef]) sz23 rfl rfl rfl f227.blk rfl rfl) ?_
   intro H231 f232
   refine putL w228 f232 f227.blk fun n235 w233 l234 => ?_
   refine wo_nil (⟨rfl,(f232.get (H178.next + 1) (by omega)).trans ((f227.get (H178.next + 1) (by omega)).trans hr206),?_⟩)
   intro H236 f237
   replace f237:PutF H231 (H178.next + 1) _ H236:=f237
   have n240:=f237.next
   have w238:=w233.putO f237 ((f232.get (H178.next + 1) (by omega)).trans ((f227.get (H178.next + 1) (by omega)).trans hr206)) (by simp) (by simp)
   have l239:=Le.putO f237 ((f232.get (H178.next + 1) (by omega)).trans ((f227.get (H178.next + 1) (by omega)).trans hr206)) (by simp)
   refine wk ⟨[(6,vP H101.next 0),(8,vP H131.next 0),(10,vI x215),(11,vP A200.next 0)],38,[],H236⟩ rfl ?_
   refine w_block (w_seq (w_seq (w_region (sv (v:=vP A200.next 1) rfl rfl rfl (opv_fieldAddrE rfl rfl rfl Try.underlying23 rfl sz3 (by decide) rfl) rfl ?_))))
   refine sv (v:=vI x225) rfl rfl rfl (opv_loadE rfl rfl rfl ag3 sz3 ((f237.get A200.next (by omega)).trans f232.blk) rfl (.inr rfl) rfl) rfl ?_
   refine sv (v:=vP H131.next 0) rfl rfl rfl (opv_fieldAddrE rfl rfl rfl Try.underlying68 rfl sz27 (by decide) rfl) rfl ?_
   refine sv (v:=vP H131.next 6) rfl rfl rfl (opv_fieldAddrE rfl rfl rfl Try.underlying27 rfl sz3 (by decide) rfl) rfl ?_
   refine sv (v:=vI rx18118) rfl rfl rfl (opv_loadE rfl rfl rfl ag3 sz3 ((f237.get H131.next (by omega)).trans ((f232.get H131.next (by omega)).trans ((f227.get H131.next (by omega)).trans ((k204.get H131.next (by omega) (by (try dsimp only); omega)).trans ((k179.get H131.next (by omega)).trans ((f164.get H131.next (by omega)).trans ((f159.get H131.next (by omega)).trans f154.blk))))))) rfl (.inr rfl) rfl) rfl ?_
   by_cases c241:x225 > rx18118
   ·
    refine sv (v:=.bool true) rfl rfl rfl (opv_bin rfl rfl rfl rfl rfl (cmpT rfl c241)) rfl ?_
    refine wo_nil (tq_n (wk ⟨[(6,vP H101.next 0),(10,vI x215),(35,.bool true)],38,[],H236⟩ rfl ?_))
    refine w_cond (t:=true) rfl rfl (fun _ => ?_) (fun h => by cases h)
    refine w_exit (tq_e ?_)
    try refine q_eq (e':=.exit 0) rfl ?_
    refine ⟨f237.blk,fun H242 => ⟨fun h => (by cases h),fun _ => ⟨_,rfl,fun f243 => ?_⟩⟩⟩
    replace f243:PutF H236 (H178.next + 1) _ H242:=f243
    have n246:=f243.next
    have w244:=w238.putO f243 f237.blk (by simp) (by simp)
    have l245:=Le.putO f243 f237.blk (by simp)
    exact ⟨w244,((l229.trans l234).trans l239).trans l245,(((((KeepX.refl (fun m => m=H101.next∨m=(H178.next + 1)) A200).new_ f227).put f232 (by first | (right; omega) | (left; (try dsimp only) <;> omega))).put f237 (by first | (right; omega) | (left; (try dsimp only) <;> omega))).put f243 (by first | (right; omega) | (left; (try dsimp only) <;> omega))).weak (fun m h => by (try dsimp only at h ⊢); omega),⟨rfl,⟨x182,(f243.get H101.next (by omega)).trans ((f237.get H101.next (by omega)).trans ((f232.get H101.next (by omega)).trans ((f227.get H101.next (by omega)).trans hb183)))⟩⟩⟩
   ·
    refine sv (v:=.bool false) rfl rfl rfl (opv_bin rfl rfl rfl rfl rfl (cmpF rfl c241)) rfl ?_
    refine wo_nil (tq_n (wk ⟨[(6,vP H101.next 0),(10,vI x215),(35,.bool false)],38,[],H236⟩ rfl ?_))
    refine w_cond (t:=false) rfl rfl (fun h => by cases h) (fun _ => ?_)
    refine w_skip (tq_n (wk ⟨[(6,vP H101.next 0),(10,vI x215)],38,[],H236⟩ rfl ?_))
    refine w_region (mv (vI x215) rfl rfl ?_)
    refine sv_put (H:=H236) (n:=H101.next) (v:=undef) (x:=some (.row #[vI x215] .raw)) rfl rfl rfl rfl (opv_storeC (u:=vI x215) rfl rfl rfl rfl rfl neI sz3 rfl rfl rfl ((f237.get H101.next (by omega)).trans ((f232.get H101.next (by omega)).trans ((f227.get H101.next (by omega)).trans hb183))) rfl rfl) ?_
    intro H247 f248
    refine putL w238 f248 ((f237.get H101.next (by omega)).trans ((f232.get H101.next (by omega)).trans ((f227.get H101.next (by omega)).trans hb183))) fun n251 w249 l250 => ?_
    refine wo_nil ?_
    try refine q_eq (e':=.normal) rfl ?_
    refine ⟨(f248.get (H178.next + 1) (by omega)).trans f237.blk,fun H252 => ⟨fun _ f253 => ?_,fun h => absurd rfl h⟩⟩
    replace f253:PutF H247 (H178.next + 1) _ H252:=f253
    have n256:=f253.next
    have w254:=w249.putO f253 ((f248.get (H178.next + 1) (by omega)).trans f237.blk) (by simp) (by simp)
    have l255:=Le.putO f253 ((f248.get (H178.next + 1) (by omega)).trans f237.blk) (by simp)
    exact ⟨w254,(((l229.trans l234).trans l239).trans l250).trans l255,((((((KeepX.refl (fun m => m=H101.next∨m=(H178.next + 1)) A200).new_ f227).put f232 (by first | (right; omega) | (left; (try dsimp only) <;> omega))).put f237 (by first | (right; omega) | (left; (try dsimp only) <;> omega))).put f248 (by first | (right; omega) | (left; (try dsimp only) <;> omega))).put f253 (by first | (right; omega) | (left; (try dsimp only) <;> omega))).weak (fun m h => by (try dsimp only at h ⊢); omega),⟨x215,(f253.get H101.next (by omega)).trans f248.blk⟩⟩
  ·
   rintro H262 w257 l258 k259 n260 hd261 ⟨x182,hb183⟩
   replace k259:=k259.weak (Y:=fun m => m=H101.next∨m=r3171) (fun m h => by (try dsimp only at h ⊢); omega)
   try refine q_eq (e':=.normal) rfl ?_
   refine tqk ⟨[(6,vP H101.next 0)],38,[mark H178.next],H262⟩ rfl ?_
   refine w_seq (w_region (sv (v:=vI x182) rfl rfl rfl (opv_loadE rfl rfl rfl ag3 sz3 hb183 rfl (.inr rfl) rfl) rfl ?_))
   refine sv_put (H:=H262) (n:=H101.next) (v:=undef) (x:=some (.row #[vI x182] .raw)) rfl rfl rfl rfl (opv_storeC (u:=vI x182) rfl rfl rfl rfl rfl neI sz3 rfl rfl rfl hb183 rfl rfl) ?_
   intro H263 f264
   refine putL w257 f264 hb183 fun n267 w265 l266 => ?_
   refine mv (vI 0) rfl rfl ?_
   refine wo_nil (tq_n (wk ⟨[(6,vP H101.next 0),(7,vI 0)],38,[mark H178.next],H263⟩ rfl ?_))
   refine w_ret ?_
   obtain ⟨H268,f269,m270⟩:=marks1 ((f264.get H178.next (by omega)).trans hd261)
   have n273:=f269.next
   have w271:=w265.putO f269 ((f264.get H178.next (by omega)).trans hd261) (by simp) (by simp)
   have l272:=Le.putO f269 ((f264.get H178.next (by omega)).trans hd261) (by simp)
   refine ⟨.inr rfl,H268,[vI x182,vI 0],m270 _ _ .nil,.cons (resV_cellE rfl ag3 sz3 ((f269.get H101.next (by omega)).trans f264.blk) rfl (.inr rfl) rfl) (.cons (resV_tmp rfl neI) .nil),((((((((((((((KeepX.refl (fun _ => False) H).new_ f102).new_ f107).keep k132).new_ f144).new_ f149).put f154 (by first | (right; omega) | (left; (try dsimp only) <;> omega))).put f159 (by first | (right; omega) | (left; (try dsimp only) <;> omega))).put f164 (by first | (right; omega) | (left; (try dsimp only) <;> omega))).keep k179).trans k259 (by intro m hm; (try simp only [false_or,or_false] at hm ⊢); (try dsimp only at hm ⊢); first | omega | (right; omega) | (left; left; omega) | (left; right; omega))).put f264 (by first | (right; omega) | (left; (try dsimp only) <;> omega))).put f269 (by first | (right; omega) | (left; (try dsimp only) <;> omega))).k (fun _ h => h.elim)),w271,x182,0,rfl⟩
  ·
   rintro x H279 w274 l275 k276 n277 hd278 h280
   obtain ⟨rfl,⟨x182,hb183⟩⟩:=h280
   replace k276:=k276.weak (Y:=fun m => m=H101.next∨m=r3171) (fun m h => by (try dsimp only at h ⊢); omega)
   try refine q_eq (e':=.normal) rfl ?_
   refine tqk ⟨[(6,vP H101.next 0)],38,[mark H178.next],H279⟩ rfl ?_
   refine w_seq (w_region (sv (v:=vI x182) rfl rfl rfl (opv_loadE rfl rfl rfl ag3 sz3 hb183 rfl (.inr rfl) rfl) rfl ?_))
   refine sv_put (H:=H279) (n:=H101.next) (v:=undef) (x:=some (.row #[vI x182] .raw)) rfl rfl rfl rfl (opv_storeC (u:=vI x182) rfl rfl rfl rfl rfl neI sz3 rfl rfl rfl hb183 rfl rfl) ?_
   intro H281 f282
   refine putL w274 f282 hb183 fun n285 w283 l284 => ?_
   refine mv (vI 0) rfl rfl ?_
   refine wo_nil (tq_n (wk ⟨[(6,vP H101.next 0),(7,vI 0)],38,[mark H178.next],H281⟩ rfl ?_))
   refine w_ret ?_
   obtain ⟨H286,f287,m288⟩:=marks1 ((f282.get H178.next (by omega)).trans hd278)
   have n291:=f287.next
   have w289:=w283.putO f287 ((f282.get H178.next (by omega)).trans hd278) (by simp) (by simp)
   have l290:=Le.putO f287 ((f282.get H178.next (by omega)).trans hd278) (by simp)
   refine ⟨.inr rfl,H286,[vI x182,vI 0],m288 _ _ .nil,.cons (resV_cellE rfl ag3 sz3 ((f287.get H101.next (by omega)).trans f282.blk) rfl (.inr rfl) rfl) (.cons (resV_tmp rfl neI) .nil),((((((((((((((KeepX.refl (fun _ => False) H).new_ f102).new_ f107).keep k132).new_ f144).new_ f149).put f154 (by first | (right; omega) | (left; (try dsimp only) <;> omega))).put f159 (by first | (right; omega) | (left; (try dsimp only) <;> omega))).put f164 (by first | (right; omega) | (left; (try dsimp only) <;> omega))).keep k179).trans k276 (by intro m hm; (try simp only [false_or,or_false] at hm ⊢); (try dsimp only at hm ⊢); first | omega | (right; omega) | (left; left; omega) | (left; right; omega))).put f282 (by first | (right; omega) | (left; (try dsimp only) <;> omega))).put f287 (by first | (right; omega) | (left; (try dsimp only) <;> omega))).k (fun _ h => h.elim)),w289,x182,0,rfl⟩
 ·
  refine mv (.tuple #[.agg #[vI rx12112,vI rx13113,vI rx14114,vI rx15115,vI rx16116,vI rx17117,vI rx18118,rs19119,rs20120,rm123],.agg #[vI rx21121,vI rx22122],vI re124]) rfl rfl ?_
  refine sv (v:=.agg #[vI rx12112,vI rx13113,vI rx14114,vI rx15115,vI rx16116,vI rx17117,vI rx18118,rs19119,rs20120,rm123]) rfl rfl rfl (opv_extract rfl rfl rfl rfl) rfl ?_
  refine sv (v:=.agg #[vI rx21121,vI rx22122]) rfl rfl rfl (opv_extract rfl rfl rfl rfl) rfl ?_
  refine sv (v:=vI re124) rfl rfl rfl (opv_extract rfl rfl rfl rfl) rfl ?_
  refine sv_new (H:=H131) (v:=vP H131.next 0) (x:=.row #[vI 0,vI 0,vI 0,vI 0,vI 0,vI 0,vI 0,.slice none 0 0,.slice none 0 0,.map none] .raw) rfl rfl rfl rfl (opv_alloc rfl ze68 rfl) ?_
  intro H292 f293
  refine newL w111 f293 fun n296 w294 l295 => ?_
  refine sv_new (H:=H292) (v:=vP H292.next 0) (x:=.row #[vI 0,vI 0] .raw) rfl rfl rfl rfl (opv_alloc rfl ze23 rfl) ?_
  intro H297 f298
  refine newL w294 f298 fun n301 w299 l300 => ?_
  refine sv_put (H:=H297) (n:=H131.next) (v:=undef) (x:=some (.row #[vI rx12112,vI rx13113,vI rx14114,vI rx15115,vI rx16116,vI rx17117,vI rx18118,rs19119,rs20120,rm123] .raw)) rfl rfl rfl rfl (opv_storeC (u:=.agg #[vI rx12112,vI rx13113,vI rx14114,vI rx15115,vI rx16116,vI rx17117,vI rx18118,rs19119,rs20120,rm123]) rfl rfl rfl rfl rfl (by simp [undef]) sz68 rfl rfl (leafs_of (l:=[vI rx12112,vI rx13113,vI rx14114,vI rx15115,vI rx16116,vI rx17117,vI rx18118,rs19119,rs20120,rm123]) ⟨rfl,rfl,rfl,rfl,rfl,rfl,rfl,vt_one (hv125.mono (l295.trans l300)),vt_one (hv126.mono (l295.trans l300)),MV.one f128,trivial⟩) ((f298.get H131.next (by omega)).trans f293.blk) rfl rfl) ?_
  intro H302 f303
  refine putL w299 f303 ((f298.get H131.next (by omega)).trans f293.blk) fun n306 w304 l305 => ?_
  refine sv_put (H:=H302) (n:=H292.next) (v:=undef) (x:=some (.row #[vI rx21121,vI rx22122] .raw)) rfl rfl rfl rfl (opv_storeC (u:=.agg #[vI rx21121,vI rx22122]) rfl rfl rfl rfl rfl (by simp [undef]) sz23 rfl rfl rfl ((f303.get H292.next (by omega)).trans f298.blk) rfl rfl) ?_
  intro H307 f308
  refine putL w304 f308 ((f303.get H292.next (by omega)).trans f298.blk) fun n311 w309 l310 => ?_
  refine mv (vI re124) rfl rfl ?_
  refine wo_nil (tq_n (wk ⟨[(2,vI ax11),(6,vP H101.next 0),(7,vI re124),(8,vP H131.next 0),(9,vP H292.next 0)],38,[],H307⟩ rfl ?_))
  refine w_seq (w_seq (w_region (mv (vI re124) rfl rfl ?_)))
  by_cases c312:re124=0
  ·
   exfalso; omega -- match map mv
  ·
   refine sv (v:=.bool true) rfl rfl rfl (opv_bin rfl rfl rfl rfl rfl (neT c312)) rfl ?_
   refine wo_nil (tq_n (wk ⟨[(2,vI ax11),(6,vP H101.next 0),(7,vI re124),(8,vP H131.next 0),(9,vP H292.next 0),(21,.bool true)],38,[],H307⟩ rfl ?_))
   refine w_cond (t:=true) rfl rfl (fun _ => ?_) (fun h => by cases h)
   refine w_seq (w_region (mv (vI re124) rfl rfl ?_))
   refine sv_put (H:=H307) (n:=H101.next) (v:=undef) (x:=some (.row #[vI 0] .raw)) rfl rfl rfl rfl (opv_storeC (u:=vI 0) rfl rfl rfl rfl rfl neI sz3 rfl rfl rfl ((f308.get H101.next (by omega)).trans ((f303.get H101.next (by omega)).trans ((f298.get H101.next (by omega)).trans ((f293.get H101.next (by omega)).trans ((k132.get H101.next (by omega)).trans f107.blk))))) rfl rfl) ?_
   intro H332 f333
   refine putL w309 f333 ((f308.get H101.next (by omega)).trans ((f303.get H101.next (by omega)).trans ((f298.get H101.next (by omega)).trans ((f293.get H101.next (by omega)).trans ((k132.get H101.next (by omega)).trans f107.blk))))) fun n336 w334 l335 => ?_
   refine mv (vI re124) rfl rfl ?_
   refine wo_nil (tq_n (wk ⟨[(6,vP H101.next 0),(7,vI re124)],38,[],H332⟩ rfl ?_))
   refine w_ret (tq_r ?_)
   refine ⟨.inr rfl,H332,[vI 0,vI re124],.nil,.cons (resV_cellE rfl ag3 sz3 f333.blk rfl (.inr rfl) rfl) (.cons (resV_tmp rfl neI) .nil),((((((((((KeepX.refl (fun _ => False) H).new_ f102).new_ f107).keep k132).new_ f293).new_ f298).put f303 (by first | (right; omega) | (left; (try dsimp only) <;> omega))).put f308 (by first | (right; omega) | (left; (try dsimp only) <;> omega))).put f333 (by first | (right; omega) | (left; (try dsimp only) <;> omega))).k (fun _ h => h.elim)),w334,0,re124,rfl⟩
end Go.Proofs.Orl

namespace Go.Proofs.Orl
open Go Go.MapKept
set_option maxRecDepth 10000
set_option maxHeartbeats 4000000
theorem tin3:Try.prog.info? 3=some Try.t3:=by kernel_rfl
theorem gas_lead (t0 p0 p1:Int) (n2 nm:Nat) (ax1 ax2:Int) (ax3 ax4:Int) (ax5 ax6 ax7:Int) (as8 as9:Value) (es:Array MapEntry) (ck:Nat) (H:SH) (wt:WT H) (hvas8:VT H (.sl false [.int .i64,.int .i64]) as8) (hvas9:VT H (.sl false [.str,.int .i64]) as9) (hkn2:H.get n2=some (.row #[vI ax1,vI ax2,vI ax3,vI ax4,vI ax5,vI ax6,vI ax7,as8,as9,.map (some nm)] .raw)) (hln2:n2 < H.next) (hknm:H.get nm=some (.obj (.map es ck))) (hlnm:nm < H.next) (hM:MapI (.int .i64) SpQ es):WC Try.prog 35 [vI t0,.agg #[vI p0,vI p1],vP n2 0] H (fun v H' => Keep H H'∧WT H'∧∃ (rx1 rx2:Int),v=(.agg #[vI rx1,vI rx2])):=by
 refine wc_of_body Try.func35 rfl ?_
 refine wk ⟨[(0,vI t0),(1,.agg #[vI p0,vI p1]),(2,vP n2 0)],35,[],H⟩ rfl ?_
 refine w_seq (w_region (sv_new (H:=H) (v:=vP H.next 0) (x:=.row #[vI p0,vI p1] .raw) rfl rfl rfl rfl (opv_boxE (v:=.agg #[vI p0,vI p1]) rfl rfl rfl (by simp [undef]) rfl) ?_))
 intro H101 f102
 refine newL wt f102 fun n105 w103 l104 => ?_
 refine sv_new (H:=H101) (v:=vP H101.next 0) (x:=.row #[vI 0,vI 0] .raw) rfl rfl rfl rfl (opv_alloc rfl ze23 rfl) ?_
 intro H106 f107
 refine newL w103 f107 fun n110 w108 l109 => ?_
 refine wo_nil (tq_n (wk ⟨[(0,vI t0),(2,vP n2 0),(4,vP H.next 0),(5,vP H101.next 0)],35,[],H106⟩ rfl ?_))
 refine w_seq (w_region (sv (v:=.agg #[vI 0,vI 200]) rfl rfl rfl (opv_buildStE (vs:=[(1,vI 200)]) rfl (.cons rfl rfl neI .nil) ze23 rfl tin23 Try.underlying23 pl23 rfl rfl) rfl ?_))
 refine sv (v:=.agg #[vI ax1,vI ax2,vI ax3,vI ax4,vI ax5,vI ax6,vI ax7,as8,as9,.map (some nm)]) rfl rfl rfl (opv_loadE rfl rfl rfl ag68 sz68 ((f107.get n2 (by omega)).trans ((f102.get n2 (by omega)).trans hkn2)) rfl (.inl rfl) rfl) rfl ?_
 refine mv (vI t0) rfl rfl ?_
 refine sc_ (H:=H106) (vs:=[.agg #[vI ax1,vI ax2,vI ax3,vI ax4,vI ax5,vI ax6,vI ax7,as8,as9,.map (some nm)],vI t0]) (fv:=.func (.func 36) #[] #[]) rfl rfl rfl rfl rfl rfl (.cons rfl rfl (by simp [undef]) (.cons rfl rfl neI .nil)) rfl ?_
 refine WV.mono (wv_f0 Try.call36 (gas_rise ax1 ax2 ax3 ax4 ax5 ax6 ax7 as8 as9 t0 (.map (some nm)) _ w108 (hvas8.mono (l104.trans l109)) (hvas9.mono (l104.trans l109)) MV.some)) ?_
 rintro v114 H115 ⟨k116,w111,rx1112,rx2113,rfl⟩
 refine kpL k116 fun n118 l117 => ?_
 refine sv_new (H:=H115) (v:=vP H115.next 0) (x:=.row #[vI 0,vI 0] .raw) rfl rfl rfl rfl (opv_alloc rfl ze23 rfl) ?_
 intro H119 f120
 refine newL w111 f120 fun n123 w121 l122 => ?_
 refine sv_new (H:=H119) (v:=vP H119.next 0) (x:=.row #[vI 0,vI 0] .raw) rfl rfl rfl rfl (opv_alloc rfl ze23 rfl) ?_
 intro H124 f125
 refine newL w121 f125 fun n128 w126 l127 => ?_
 refine sv_put (H:=H124) (n:=H115.next) (v:=undef) (x:=some (.row #[vI 0,vI 200] .raw)) rfl rfl rfl rfl (opv_storeC (u:=.agg #[vI 0,vI 200]) rfl rfl rfl rfl rfl (by simp [undef]) sz23 rfl rfl rfl ((f125.get H115.next (by omega)).trans f120.blk) rfl rfl) ?_
 intro H129 f130
 refine putL w126 f130 ((f125.get H115.next (by omega)).trans f120.blk) fun n133 w131 l132 => ?_
 refine sv_put (H:=H129) (n:=H119.next) (v:=undef) (x:=some (.row #[vI rx1112,vI rx2113] .raw)) rfl rfl rfl rfl (opv_storeC (u:=.agg #[vI rx1112,vI rx2113]) rfl rfl rfl rfl rfl (by simp [undef]) sz23 rfl rfl rfl ((f130.get H119.next (by omega)).trans f125.blk) rfl rfl) ?_
 intro H134 f135
 refine putL w131 f135 ((f130.get H119.next (by omega)).trans f125.blk) fun n138 w136 l137 => ?_
 refine wo_nil (tq_n (wk ⟨[(0,vI t0),(2,vP n2 0),(4,vP H.next 0),(5,vP H101.next 0),(6,vP H115.next 0),(7,vP H119.next 0)],35,[],H134⟩ rfl ?_))
 refine w_seq (w_seq (w_region (sv (v:=vP H.next 0) rfl rfl rfl (opv_fieldAddrE rfl rfl rfl Try.underlying23 rfl sz3 (by decide) rfl) rfl ?_)))
 refine sv (v:=vI p0) rfl rfl rfl (opv_loadE rfl rfl rfl ag3 sz3 ((f135.get H.next (by omega)).trans ((f130.get H.next (by omega)).trans ((f125.get H.next (by omega)).trans ((f120.get H.next (by omega)).trans ((k116.get H.next (by omega)).trans ((f107.get H.next (by omega)).trans f102.blk)))))) rfl (.inr rfl) rfl) rfl ?_
 by_cases c139:p0 > 0
 ·
  refine sv (v:=.bool true) rfl rfl rfl (opv_bin rfl rfl rfl rfl rfl (cmpT rfl c139)) rfl ?_
  refine wo_nil (tq_n (wk ⟨[(0,vI t0),(2,vP n2 0),(4,vP H.next 0),(5,vP H101.next 0),(6,vP H115.next 0),(7,vP H119.next 0),(14,.bool true)],35,[],H134⟩ rfl ?_))
  refine w_cond (t:=true) rfl rfl (fun _ => ?_) (fun h => by cases h)
  refine w_region (sv (v:=vP H.next 0) rfl rfl rfl (opv_fieldAddrE rfl rfl rfl Try.underlying23 rfl sz3 (by decide) rfl) rfl ?_)
  refine sv (v:=vI p0) rfl rfl rfl (opv_loadE rfl rfl rfl ag3 sz3 ((f135.get H.next (by omega)).trans ((f130.get H.next (by omega)).trans ((f125.get H.next (by omega)).trans ((f120.get H.next (by omega)).trans ((k116.get H.next (by omega)).trans ((f107.get H.next (by omega)).trans f102.blk)))))) rfl (.inr rfl) rfl) rfl ?_
  refine sv (v:=vP H119.next 1) rfl rfl rfl (opv_fieldAddrE rfl rfl rfl Try.underlying23 rfl sz3 (by decide) rfl) rfl ?_
  refine sv (v:=vI rx2113) rfl rfl rfl (opv_loadE rfl rfl rfl ag3 sz3 f135.blk rfl (.inr rfl) rfl) rfl ?_
  refine sv_int rfl rfl rfl (opv_bin rfl rfl rfl rfl rfl rfl) ?_
  intro x140 h141
  try replace h141:x140=p0 - rx2113:=wr_ex h141 (by omega) (by omega)
  refine sv (v:=vP H115.next 0) rfl rfl rfl (opv_fieldAddrE rfl rfl rfl Try.underlying23 rfl sz3 (by decide) rfl) rfl ?_
  refine sv_put (H:=H134) (n:=H115.next) (v:=undef) (x:=some (.row #[vI x140,vI 200] .raw)) rfl rfl rfl rfl (opv_storeC (u:=vI x140) rfl rfl rfl rfl rfl neI sz3 rfl rfl rfl ((f135.get H115.next (by omega)).trans f130.blk) rfl rfl) ?_
  intro H142 f143
  refine putL w136 f143 ((f135.get H115.next (by omega)).trans f130.blk) fun n146 w144 l145 => ?_
  refine wo_nil (tq_n (wk ⟨[(0,vI t0),(2,vP n2 0),(4,vP H.next 0),(5,vP H101.next 0),(6,vP H115.next 0),(7,vP H119.next 0)],35,[],H142⟩ rfl ?_))
  refine w_seq (w_seq (w_region (sv (v:=vP H.next 1) rfl rfl rfl (opv_fieldAddrE rfl rfl rfl Try.underlying23 rfl sz3 (by decide) rfl) rfl ?_)))
  refine sv (v:=vI p1) rfl rfl rfl (opv_loadE rfl rfl rfl ag3 sz3 ((f143.get H.next (by omega)).trans ((f135.get H.next (by omega)).trans ((f130.get H.next (by omega)).trans ((f125.get H.next (by omega)).trans ((f120.get H.next (by omega)).trans ((k116.get H.next (by omega)).trans ((f107.get H.next (by omega)).trans f102.blk))))))) rfl (.inr rfl) rfl) rfl ?_
  by_cases c147:p1 < 200
  ·
   refine sv (v:=.bool true) rfl rfl rfl (opv_bin rfl rfl rfl rfl rfl (cmpT rfl c147)) rfl ?_
   refine wo_nil (tq_n (wk ⟨[(0,vI t0),(2,vP n2 0),(4,vP H.next 0),(5,vP H101.next 0),(6,vP H115.next 0),(7,vP H119.next 0),(23,.bool true)],35,[],H142⟩ rfl ?_))
   refine w_cond (t:=true) rfl rfl (fun _ => ?_) (fun h => by cases h)
   refine w_region (sv (v:=vP H.next 1) rfl rfl rfl (opv_fieldAddrE rfl rfl rfl Try.underlying23 rfl sz3 (by decide) rfl) rfl ?_)
   refine sv (v:=vI p1) rfl rfl rfl (opv_loadE rfl rfl rfl ag3 sz3 ((f143.get H.next (by omega)).trans ((f135.get H.next (by omega)).trans ((f130.get H.next (by omega)).trans ((f125.get H.next (by omega)).trans ((f120.get H.next (by omega)).trans ((k116.get H.next (by omega)).trans ((f107.get H.next (by omega)).trans f102.blk))))))) rfl (.inr rfl) rfl) rfl ?_
   refine sv (v:=vP H119.next 0) rfl rfl rfl (opv_fieldAddrE rfl rfl rfl Try.underlying23 rfl sz3 (by decide) rfl) rfl ?_
   refine sv (v:=vI rx1112) rfl rfl rfl (opv_loadE rfl rfl rfl ag3 sz3 ((f143.get H119.next (by omega)).trans f135.blk) rfl (.inr rfl) rfl) rfl ?_
   refine sv_int rfl rfl rfl (opv_bin rfl rfl rfl rfl rfl rfl) ?_
   intro x148 h149
   try replace h149:x148=p1 - rx1112:=wr_ex h149 (by omega) (by omega)
   refine sv (v:=vP H115.next 1) rfl rfl rfl (opv_fieldAddrE rfl rfl rfl Try.underlying23 rfl sz3 (by decide) rfl) rfl ?_
   refine sv_put (H:=H142) (n:=H115.next) (v:=undef) (x:=some (.row #[vI x140,vI x148] .raw)) rfl rfl rfl rfl (opv_storeC (u:=vI x148) rfl rfl rfl rfl rfl neI sz3 rfl rfl rfl f143.blk rfl rfl) ?_
   intro H150 f151
   refine putL w144 f151 f143.blk fun n154 w152 l153 => ?_
   refine wo_nil (tq_n (wk ⟨[(0,vI t0),(2,vP n2 0),(5,vP H101.next 0),(6,vP H115.next 0)],35,[],H150⟩ rfl ?_))
   refine w_seq (w_draw_start ?_)
   intro C0
   have C155:=ch_val (i:=1) (p:=0) (ks:=[2]) (v:=.agg #[vI ax1,vI ax2,vI ax3,vI ax4,vI ax5,vI ax6,vI ax7,as8,as9,.map (some nm)]) (A:=H150) (H:=H150) C0 rfl rfl rfl rfl rfl rfl (opv_loadE rfl rfl rfl ag68 sz68 ((f151.get n2 (by omega)).trans ((f143.get n2 (by omega)).trans ((f135.get n2 (by omega)).trans ((f130.get n2 (by omega)).trans ((f125.get n2 (by omega)).trans ((f120.get n2 (by omega)).trans ((k116.get n2 (by omega)).trans ((f107.get n2 (by omega)).trans ((f102.get n2 (by omega)).trans hkn2))))))))) rfl (.inl rfl) rfl)
   have C156:=ch_val (i:=2) (p:=0) (ks:=[0]) (v:=vI t0) (A:=H150) (H:=H150) C155 rfl rfl rfl rfl rfl rfl (opv_move (.inl rfl) rfl rfl)
   obtain ⟨_,H161,k162,⟨w158,rx1159,rx2160,rfl⟩,C157⟩:=ch_call (i:=3) (p:=2) (ks:=[31,32]) (vs:=[.agg #[vI ax1,vI ax2,vI ax3,vI ax4,vI ax5,vI ax6,vI ax7,as8,as9,.map (some nm)],vI t0]) (fv:=.func (.func 38) #[] #[]) (H:=H150) C156 rfl rfl rfl rfl rfl rfl rfl (.cons rfl rfl (by simp [undef]) (.cons rfl rfl neI .nil)) rfl (wv_f0 Try.call38 (gas_left ax1 ax2 ax3 ax4 ax5 ax6 ax7 as8 as9 t0 nm es ck _ w152 (hvas8.mono ((((((((l104.trans l109).trans l117).trans l122).trans l127).trans l132).trans l137).trans l145).trans l153)) (hvas9.mono ((((((((l104.trans l109).trans l117).trans l122).trans l127).trans l132).trans l137).trans l145).trans l153)) ((f151.get nm (by omega)).trans ((f143.get nm (by omega)).trans ((f135.get nm (by omega)).trans ((f130.get nm (by omega)).trans ((f125.get nm (by omega)).trans ((f120.get nm (by omega)).trans ((k116.get nm (by omega)).trans ((f107.get nm (by omega)).trans ((f102.get nm (by omega)).trans hknm))))))))) (by omega) hM))
   refine kpL k162 fun n164 l163 => ?_
   have C165:=ch_val (i:=0) (p:=0) (ks:=[6]) (v:=.agg #[vI x140,vI x148]) (A:=H150) (H:=H161) C157 rfl rfl rfl rfl rfl rfl (opv_loadE rfl rfl rfl ag23 sz23 f151.blk rfl (.inl rfl) rfl)
   refine w_draw (tl:=[4,5]) rfl [0,0,0,6,15,31] C165 (by kernel_rfl) (by kernel_rfl) ?_
   refine wonorm (g:=[(5,vP H101.next 0),(30,.agg #[vI x140,vI x148]),(33,.agg #[vI rx1159,vI rx2160])]) (n:=35) (ds:=[]) (H:=H161) (lsub_cons rfl (lsub_cons rfl (lsub_cons rfl (lsub_nil _)))) rfl rfl rfl ?_
   refine sc_ (H:=H161) (vs:=[.agg #[vI x140,vI x148],.agg #[vI rx1159,vI rx2160]]) (fv:=.func (.func 37) #[] #[]) rfl rfl rfl rfl rfl rfl (.cons rfl rfl (by simp [undef]) (.cons rfl rfl (by simp [undef]) .nil)) rfl ?_
   refine WV.mono (wv_f0 Try.call37 (gas_both x140 x148 rx1159 rx2160 _ w158)) ?_
   rintro v169 H170 ⟨k171,w166,rx1167,rx2168,rfl⟩
   refine kpL k171 fun n173 l172 => ?_
   refine sv_put (H:=H170) (n:=H101.next) (v:=undef) (x:=some (.row #[vI rx1167,vI rx2168] .raw)) rfl rfl rfl rfl (opv_storeC (u:=.agg #[vI rx1167,vI rx2168]) rfl rfl rfl rfl rfl (by simp [undef]) sz23 rfl rfl rfl ((k171.get H101.next (by omega)).trans ((k162.get H101.next (by omega)).trans ((f151.get H101.next (by omega)).trans ((f143.get H101.next (by omega)).trans ((f135.get H101.next (by omega)).trans ((f130.get H101.next (by omega)).trans ((f125.get H101.next (by omega)).trans ((f120.get H101.next (by omega)).trans ((k116.get H101.next (by omega)).trans f107.blk))))))))) rfl rfl) ?_
   intro H174 f175
   refine putL w166 f175 ((k171.get H101.next (by omega)).trans ((k162.get H101.next (by omega)).trans ((f151.get H101.next (by omega)).trans ((f143.get H101.next (by omega)).trans ((f135.get H101.next (by omega)).trans ((f130.get H101.next (by omega)).trans ((f125.get H101.next (by omega)).trans ((f120.get H101.next (by omega)).trans ((k116.get H101.next (by omega)).trans f107.blk))))))))) fun n178 w176 l177 => ?_
   refine wo_nil (tq_n (wk ⟨[(5,vP H101.next 0)],35,[],H174⟩ rfl ?_))
   refine w_ret ?_
   refine ⟨.inr rfl,rfl,[.agg #[vI rx1167,vI rx2168]],.cons (resV_cellE rfl ag23 sz23 f175.blk rfl (.inl rfl) rfl) .nil,((((((((((((((KeepX.refl (fun _ => False) H).new_ f102).new_ f107).keep k116).new_ f120).new_ f125).put f130 (by first | (right; omega) | (left; (try dsimp only) <;> omega))).put f135 (by first | (right; omega) | (left; (try dsimp only) <;> omega))).put f143 (by first | (right; omega) | (left; (try dsimp only) <;> omega))).put f151 (by first | (right; omega) | (left; (try dsimp only) <;> omega))).keep k162).keep k171).put f175 (by first | (right; omega) | (left; (try dsimp only) <;> omega))).k (fun _ h => h.elim)),w176,rx1167,rx2168,rfl⟩
  ·
   refine sv (v:=.bool false) rfl rfl rfl (opv_bin rfl rfl rfl rfl rfl (cmpF rfl c147)) rfl ?_
   refine wo_nil (tq_n (wk ⟨[(0,vI t0),(2,vP n2 0),(4,vP H.next 0),(5,vP H101.next 0),(6,vP H115.next 0),(7,vP H119.next 0),(23,.bool false)],35,[],H142⟩ rfl ?_))
   refine w_cond (t:=false) rfl rfl (fun h => by cases h) (fun _ => ?_)
   refine w_skip (tq_n (wk ⟨[(0,vI t0),(2,vP n2 0),(5,vP H101.next 0),(6,vP H115.next 0)],35,[],H142⟩ rfl ?_))
   refine w_seq (w_draw_start ?_)
   intro C0
   have C179:=ch_val (i:=1) (p:=0) (ks:=[2]) (v:=.agg #[vI ax1,vI ax2,vI ax3,vI ax4,vI ax5,vI ax6,vI ax7,as8,as9,.map (some nm)]) (A:=H142) (H:=H142) C0 rfl rfl rfl rfl rfl rfl (opv_loadE rfl rfl rfl ag68 sz68 ((f143.get n2 (by omega)).trans ((f135.get n2 (by omega)).trans ((f130.get n2 (by omega)).trans ((f125.get n2 (by omega)).trans ((f120.get n2 (by omega)).trans ((k116.get n2 (by omega)).trans ((f107.get n2 (by omega)).trans ((f102.get n2 (by omega)).trans hkn2)))))))) rfl (.inl rfl) rfl)
   have C180:=ch_val (i:=2) (p:=0) (ks:=[0]) (v:=vI t0) (A:=H142) (H:=H142) C179 rfl rfl rfl rfl rfl rfl (opv_move (.inl rfl) rfl rfl)
   obtain ⟨_,H185,k186,⟨w182,rx1183,rx2184,rfl⟩,C181⟩:=ch_call (i:=3) (p:=2) (ks:=[31,32]) (vs:=[.agg #[vI ax1,vI ax2,vI ax3,vI ax4,vI ax5,vI ax6,vI ax7,as8,as9,.map (some nm)],vI t0]) (fv:=.func (.func 38) #[] #[]) (H:=H142) C180 rfl rfl rfl rfl rfl rfl rfl (.cons rfl rfl (by simp [undef]) (.cons rfl rfl neI .nil)) rfl (wv_f0 Try.call38 (gas_left ax1 ax2 ax3 ax4 ax5 ax6 ax7 as8 as9 t0 nm es ck _ w144 (hvas8.mono (((((((l104.trans l109).trans l117).trans l122).trans l127).trans l132).trans l137).trans l145)) (hvas9.mono (((((((l104.trans l109).trans l117).trans l122).trans l127).trans l132).trans l137).trans l145)) ((f143.get nm (by omega)).trans ((f135.get nm (by omega)).trans ((f130.get nm (by omega)).trans ((f125.get nm (by omega)).trans ((f120.get nm (by omega)).trans ((k116.get nm (by omega)).trans ((f107.get nm (by omega)).trans ((f102.get nm (by omega)).trans hknm)))))))) (by omega) hM))
   refine kpL k186 fun n188 l187 => ?_
   have C189:=ch_val (i:=0) (p:=0) (ks:=[6]) (v:=.agg #[vI x140,vI 200]) (A:=H142) (H:=H185) C181 rfl rfl rfl rfl rfl rfl (opv_loadE rfl rfl rfl ag23 sz23 f143.blk rfl (.inl rfl) rfl)
   refine w_draw (tl:=[4,5]) rfl [0,0,0,6,15,31] C189 (by kernel_rfl) (by kernel_rfl) ?_
   refine wonorm (g:=[(5,vP H101.next 0),(30,.agg #[vI x140,vI 200]),(33,.agg #[vI rx1183,vI rx2184])]) (n:=35) (ds:=[]) (H:=H185) (lsub_cons rfl (lsub_cons rfl (lsub_cons rfl (lsub_nil _)))) rfl rfl rfl ?_
   refine sc_ (H:=H185) (vs:=[.agg #[vI x140,vI 200],.agg #[vI rx1183,vI rx2184]]) (fv:=.func (.func 37) #[] #[]) rfl rfl rfl rfl rfl rfl (.cons rfl rfl (by simp [undef]) (.cons rfl rfl (by simp [undef]) .nil)) rfl ?_
   refine WV.mono (wv_f0 Try.call37 (gas_both x140 200 rx1183 rx2184 _ w182)) ?_
   rintro v193 H194 ⟨k195,w190,rx1191,rx2192,rfl⟩
   refine kpL k195 fun n197 l196 => ?_
   refine sv_put (H:=H194) (n:=H101.next) (v:=undef) (x:=some (.row #[vI rx1191,vI rx2192] .raw)) rfl rfl rfl rfl (opv_storeC (u:=.agg #[vI rx1191,vI rx2192]) rfl rfl rfl rfl rfl (by simp [undef]) sz23 rfl rfl rfl ((k195.get H101.next (by omega)).trans ((k186.get H101.next (by omega)).trans ((f143.get H101.next (by omega)).trans ((f135.get H101.next (by omega)).trans ((f130.get H101.next (by omega)).trans ((f125.get H101.next (by omega)).trans ((f120.get H101.next (by omega)).trans ((k116.get H101.next (by omega)).trans f107.blk)))))))) rfl rfl) ?_
   intro H198 f199
   refine putL w190 f199 ((k195.get H101.next (by omega)).trans ((k186.get H101.next (by omega)).trans ((f143.get H101.next (by omega)).trans ((f135.get H101.next (by omega)).trans ((f130.get H101.next (by omega)).trans ((f125.get H101.next (by omega)).trans ((f120.get H101.next (by omega)).trans ((k116.get H101.next (by omega)).trans f107.blk)))))))) fun n202 w200 l201 => ?_
   refine wo_nil (tq_n (wk ⟨[(5,vP H101.next 0)],35,[],H198⟩ rfl ?_))
   refine w_ret ?_
   refine ⟨.inr rfl,rfl,[.agg #[vI rx1191,vI rx2192]],.cons (resV_cellE rfl ag23 sz23 f199.blk rfl (.inl rfl) rfl) .nil,(((((((((((((KeepX.refl (fun _ => False) H).new_ f102).new_ f107).keep k116).new_ f120).new_ f125).put f130 (by first | (right; omega) | (left; (try dsimp only) <;> omega))).put f135 (by first | (right; omega) | (left; (try dsimp only) <;> omega))).put f143 (by first | (right; omega) | (left; (try dsimp only) <;> omega))).keep k186).keep k195).put f199 (by first | (right; omega) | (left; (try dsimp only) <;> omega))).k (fun _ h => h.elim)),w200,rx1191,rx2192,rfl⟩
 ·
  refine sv (v:=.bool false) rfl rfl rfl (opv_bin rfl rfl rfl rfl rfl (cmpF rfl c139)) rfl ?_
  refine wo_nil (tq_n (wk ⟨[(0,vI t0),(2,vP n2 0),(4,vP H.next 0),(5,vP H101.next 0),(6,vP H115.next 0),(7,vP H119.next 0),(14,.bool false)],35,[],H134⟩ rfl ?_))
  refine w_cond (t:=false) rfl rfl (fun h => by cases h) (fun _ => ?_)
  refine w_skip (tq_n (wk ⟨[(0,vI t0),(2,vP n2 0),(4,vP H.next 0),(5,vP H101.next 0),(6,vP H115.next 0),(7,vP H119.next 0)],35,[],H134⟩ rfl ?_))
  refine w_seq (w_seq (w_region (sv (v:=vP H.next 1) rfl rfl rfl (opv_fieldAddrE rfl rfl rfl Try.underlying23 rfl sz3 (by decide) rfl) rfl ?_)))
  refine sv (v:=vI p1) rfl rfl rfl (opv_loadE rfl rfl rfl ag3 sz3 ((f135.get H.next (by omega)).trans ((f130.get H.next (by omega)).trans ((f125.get H.next (by omega)).trans ((f120.get H.next (by omega)).trans ((k116.get H.next (by omega)).trans ((f107.get H.next (by omega)).trans f102.blk)))))) rfl (.inr rfl) rfl) rfl ?_
  by_cases c203:p1 < 200
  ·
   refine sv (v:=.bool true) rfl rfl rfl (opv_bin rfl rfl rfl rfl rfl (cmpT rfl c203)) rfl ?_
   refine wo_nil (tq_n (wk ⟨[(0,vI t0),(2,vP n2 0),(4,vP H.next 0),(5,vP H101.next 0),(6,vP H115.next 0),(7,vP H119.next 0),(23,.bool true)],35,[],H134⟩ rfl ?_))
   refine w_cond (t:=true) rfl rfl (fun _ => ?_) (fun h => by cases h)
   refine w_region (sv (v:=vP H.next 1) rfl rfl rfl (opv_fieldAddrE rfl rfl rfl Try.underlying23 rfl sz3 (by decide) rfl) rfl ?_)
   refine sv (v:=vI p1) rfl rfl rfl (opv_loadE rfl rfl rfl ag3 sz3 ((f135.get H.next (by omega)).trans ((f130.get H.next (by omega)).trans ((f125.get H.next (by omega)).trans ((f120.get H.next (by omega)).trans ((k116.get H.next (by omega)).trans ((f107.get H.next (by omega)).trans f102.blk)))))) rfl (.inr rfl) rfl) rfl ?_
   refine sv (v:=vP H119.next 0) rfl rfl rfl (opv_fieldAddrE rfl rfl rfl Try.underlying23 rfl sz3 (by decide) rfl) rfl ?_
   refine sv (v:=vI rx1112) rfl rfl rfl (opv_loadE rfl rfl rfl ag3 sz3 f135.blk rfl (.inr rfl) rfl) rfl ?_
   refine sv_int rfl rfl rfl (opv_bin rfl rfl rfl rfl rfl rfl) ?_
   intro x204 h205
   try replace h205:x204=p1 - rx1112:=wr_ex h205 (by omega) (by omega)
   refine sv (v:=vP H115.next 1) rfl rfl rfl (opv_fieldAddrE rfl rfl rfl Try.underlying23 rfl sz3 (by decide) rfl) rfl ?_
   refine sv_put (H:=H134) (n:=H115.next) (v:=undef) (x:=some (.row #[vI 0,vI x204] .raw)) rfl rfl rfl rfl (opv_storeC (u:=vI x204) rfl rfl rfl rfl rfl neI sz3 rfl rfl rfl ((f135.get H115.next (by omega)).trans f130.blk) rfl rfl) ?_
   intro H206 f207
   refine putL w136 f207 ((f135.get H115.next (by omega)).trans f130.blk) fun n210 w208 l209 => ?_
   refine wo_nil (tq_n (wk ⟨[(0,vI t0),(2,vP n2 0),(5,vP H101.next 0),(6,vP H115.next 0)],35,[],H206⟩ rfl ?_))
   refine w_seq (w_draw_start ?_)
   intro C0
   have C211:=ch_val (i:=1) (p:=0) (ks:=[2]) (v:=.agg #[vI ax1,vI ax2,vI ax3,vI ax4,vI ax5,vI ax6,vI ax7,as8,as9,.map (some nm)]) (A:=H206) (H:=H206) C0 rfl rfl rfl rfl rfl rfl (opv_loadE rfl rfl rfl ag68 sz68 ((f207.get n2 (by omega)).trans ((f135.get n2 (by omega)).trans ((f130.get n2 (by omega)).trans ((f125.get n2 (by omega)).trans ((f120.get n2 (by omega)).trans ((k116.get n2 (by omega)).trans ((f107.get n2 (by omega)).trans ((f102.get n2 (by omega)).trans hkn2)))))))) rfl (.inl rfl) rfl)
   have C212:=ch_val (i:=2) (p:=0) (ks:=[0]) (v:=vI t0) (A:=H206) (H:=H206) C211 rfl rfl rfl rfl rfl rfl (opv_move (.inl rfl) rfl rfl)
   obtain ⟨_,H217,k218,⟨w214,rx1215,rx2216,rfl⟩,C213⟩:=ch_call (i:=3) (p:=2) (ks:=[31,32]) (vs:=[.agg #[vI ax1,vI ax2,vI ax3,vI ax4,vI ax5,vI ax6,vI ax7,as8,as9,.map (some nm)],vI t0]) (fv:=.func (.func 38) #[] #[]) (H:=H206) C212 rfl rfl rfl rfl rfl rfl rfl (.cons rfl rfl (by simp [undef]) (.cons rfl rfl neI .nil)) rfl (wv_f0 Try.call38 (gas_left ax1 ax2 ax3 ax4 ax5 ax6 ax7 as8 as9 t0 nm es ck _ w208 (hvas8.mono (((((((l104.trans l109).trans l117).trans l122).trans l127).trans l132).trans l137).trans l209)) (hvas9.mono (((((((l104.trans l109).trans l117).trans l122).trans l127).trans l132).trans l137).trans l209)) ((f207.get nm (by omega)).trans ((f135.get nm (by omega)).trans ((f130.get nm (by omega)).trans ((f125.get nm (by omega)).trans ((f120.get nm (by omega)).trans ((k116.get nm (by omega)).trans ((f107.get nm (by omega)).trans ((f102.get nm (by omega)).trans hknm)))))))) (by omega) hM))
   refine kpL k218 fun n220 l219 => ?_
   have C221:=ch_val (i:=0) (p:=0) (ks:=[6]) (v:=.agg #[vI 0,vI x204]) (A:=H206) (H:=H217) C213 rfl rfl rfl rfl rfl rfl (opv_loadE rfl rfl rfl ag23 sz23 f207.blk rfl (.inl rfl) rfl)
   refine w_draw (tl:=[4,5]) rfl [0,0,0,6,15,31] C221 (by kernel_rfl) (by kernel_rfl) ?_
   refine wonorm (g:=[(5,vP H101.next 0),(30,.agg #[vI 0,vI x204]),(33,.agg #[vI rx1215,vI rx2216])]) (n:=35) (ds:=[]) (H:=H217) (lsub_cons rfl (lsub_cons rfl (lsub_cons rfl (lsub_nil _)))) rfl rfl rfl ?_
   refine sc_ (H:=H217) (vs:=[.agg #[vI 0,vI x204],.agg #[vI rx1215,vI rx2216]]) (fv:=.func (.func 37) #[] #[]) rfl rfl rfl rfl rfl rfl (.cons rfl rfl (by simp [undef]) (.cons rfl rfl (by simp [undef]) .nil)) rfl ?_
   refine WV.mono (wv_f0 Try.call37 (gas_both 0 x204 rx1215 rx2216 _ w214)) ?_
   rintro v225 H226 ⟨k227,w222,rx1223,rx2224,rfl⟩
   refine kpL k227 fun n229 l228 => ?_
   refine sv_put (H:=H226) (n:=H101.next) (v:=undef) (x:=some (.row #[vI rx1223,vI rx2224] .raw)) rfl rfl rfl rfl (opv_storeC (u:=.agg #[vI rx1223,vI rx2224]) rfl rfl rfl rfl rfl (by simp [undef]) sz23 rfl rfl rfl ((k227.get H101.next (by omega)).trans ((k218.get H101.next (by omega)).trans ((f207.get H101.next (by omega)).trans ((f135.get H101.next (by omega)).trans ((f130.get H101.next (by omega)).trans ((f125.get H101.next (by omega)).trans ((f120.get H101.next (by omega)).trans ((k116.get H101.next (by omega)).trans f107.blk)))))))) rfl rfl) ?_
   intro H230 f231
   refine putL w222 f231 ((k227.get H101.next (by omega)).trans ((k218.get H101.next (by omega)).trans ((f207.get H101.next (by omega)).trans ((f135.get H101.next (by omega)).trans ((f130.get H101.next (by omega)).trans ((f125.get H101.next (by omega)).trans ((f120.get H101.next (by omega)).trans ((k116.get H101.next (by omega)).trans f107.blk)))))))) fun n234 w232 l233 => ?_
   refine wo_nil (tq_n (wk ⟨[(5,vP H101.next 0)],35,[],H230⟩ rfl ?_))
   refine w_ret ?_
   refine ⟨.inr rfl,rfl,[.agg #[vI rx1223,vI rx2224]],.cons (resV_cellE rfl ag23 sz23 f231.blk rfl (.inl rfl) rfl) .nil,(((((((((((((KeepX.refl (fun _ => False) H).new_ f102).new_ f107).keep k116).new_ f120).new_ f125).put f130 (by first | (right; omega) | (left; (try dsimp only) <;> omega))).put f135 (by first | (right; omega) | (left; (try dsimp only) <;> omega))).put f207 (by first | (right; omega) | (left; (try dsimp only) <;> omega))).keep k218).keep k227).put f231 (by first | (right; omega) | (left; (try dsimp only) <;> omega))).k (fun _ h => h.elim)),w232,rx1223,rx2224,rfl⟩
  ·
   refine sv (v:=.bool false) rfl rfl rfl (opv_bin rfl rfl rfl rfl rfl (cmpF rfl c203)) rfl ?_
   refine wo_nil (tq_n (wk ⟨[(0,vI t0),(2,vP n2 0),(4,vP H.next 0),(5,vP H101.next 0),(6,vP H115.next 0),(7,vP H119.next 0),(23,.bool false)],35,[],H134⟩ rfl ?_))
   refine w_cond (t:=false) rfl rfl (fun h => by cases h) (fun _ => ?_)
   refine w_skip (tq_n (wk ⟨[(0,vI t0),(2,vP n2 0),(5,vP H101.next 0),(6,vP H115.next 0)],35,[],H134⟩ rfl ?_))
   refine w_seq (w_draw_start ?_)
   intro C0
   have C235:=ch_val (i:=1) (p:=0) (ks:=[2]) (v:=.agg #[vI ax1,vI ax2,vI ax3,vI ax4,vI ax5,vI ax6,vI ax7,as8,as9,.map (some nm)]) (A:=H134) (H:=H134) C0 rfl rfl rfl rfl rfl rfl (opv_loadE rfl rfl rfl ag68 sz68 ((f135.get n2 (by omega)).trans ((f130.get n2 (by omega)).trans ((f125.get n2 (by omega)).trans ((f120.get n2 (by omega)).trans ((k116.get n2 (by omega)).trans ((f107.get n2 (by omega)).trans ((f102.get n2 (by omega)).trans hkn2))))))) rfl (.inl rfl) rfl)
   have C236:=ch_val (i:=2) (p:=0) (ks:=[0]) (v:=vI t0) (A:=H134) (H:=H134) C235 rfl rfl rfl rfl rfl rfl (opv_move (.inl rfl) rfl rfl)
   obtain ⟨_,H241,k242,⟨w238,rx1239,rx2240,rfl⟩,C237⟩:=ch_call (i:=3) (p:=2) (ks:=[31,32]) (vs:=[.agg #[vI ax1,vI ax2,vI ax3,vI ax4,vI ax5,vI ax6,vI ax7,as8,as9,.map (some nm)],vI t0]) (fv:=.func (.func 38) #[] #[]) (H:=H134) C236 rfl rfl rfl rfl rfl rfl rfl (.cons rfl rfl (by simp [undef]) (.cons rfl rfl neI .nil)) rfl (wv_f0 Try.call38 (gas_left ax1 ax2 ax3 ax4 ax5 ax6 ax7 as8 as9 t0 nm es ck _ w136 (hvas8.mono ((((((l104.trans l109).trans l117).trans l122).trans l127).trans l132).trans l137)) (hvas9.mono ((((((l104.trans l109).trans l117).trans l122).trans l127).trans l132).trans l137)) ((f135.get nm (by omega)).trans ((f130.get nm (by omega)).trans ((f125.get nm (by omega)).trans ((f120.get nm (by omega)).trans ((k116.get nm (by omega)).trans ((f107.get nm (by omega)).trans ((f102.get nm (by omega)).trans hknm))))))) (by omega) hM))
   refine kpL k242 fun n244 l243 => ?_
   have C245:=ch_val (i:=0) (p:=0) (ks:=[6]) (v:=.agg #[vI 0,vI 200]) (A:=H134) (H:=H241) C237 rfl rfl rfl rfl rfl rfl (opv_loadE rfl rfl rfl ag23 sz23 ((f135.get H115.next (by omega)).trans f130.blk) rfl (.inl rfl) rfl)
   refine w_draw (tl:=[4,5]) rfl [0,0,0,6,15,31] C245 (by kernel_rfl) (by kernel_rfl) ?_
   refine wonorm (g:=[(5,vP H101.next 0),(30,.agg #[vI 0,vI 200]),(33,.agg #[vI rx1239,vI rx2240])]) (n:=35) (ds:=[]) (H:=H241) (lsub_cons rfl (lsub_cons rfl (lsub_cons rfl (lsub_nil _)))) rfl rfl rfl ?_
   refine sc_ (H:=H241) (vs:=[.agg #[vI 0,vI 200],.agg #[vI rx1239,vI rx2240]]) (fv:=.func (.func 37) #[] #[]) rfl rfl rfl rfl rfl rfl (.cons rfl rfl (by simp [undef]) (.cons rfl rfl (by simp [undef]) .nil)) rfl ?_
   refine WV.mono (wv_f0 Try.call37 (gas_both 0 200 rx1239 rx2240 _ w238)) ?_
   rintro v249 H250 ⟨k251,w246,rx1247,rx2248,rfl⟩
   refine kpL k251 fun n253 l252 => ?_
   refine sv_put (H:=H250) (n:=H101.next) (v:=undef) (x:=some (.row #[vI rx1247,vI rx2248] .raw)) rfl rfl rfl rfl (opv_storeC (u:=.agg #[vI rx1247,vI rx2248]) rfl rfl rfl rfl rfl (by simp [undef]) sz23 rfl rfl rfl ((k251.get H101.next (by omega)).trans ((k242.get H101.next (by omega)).trans ((f135.get H101.next (by omega)).trans ((f130.get H101.next (by omega)).trans ((f125.get H101.next (by omega)).trans ((f120.get H101.next (by omega)).trans ((k116.get H101.next (by omega)).trans f107.blk))))))) rfl rfl) ?_
   intro H254 f255
   refine putL w246 f255 ((k251.get H101.next (by omega)).trans ((k242.get H101.next (by omega)).trans ((f135.get H101.next (by omega)).trans ((f130.get H101.next (by omega)).trans ((f125.get H101.next (by omega)).trans ((f120.get H101.next (by omega)).trans ((k116.get H101.next (by omega)).trans f107.blk))))))) fun n258 w256 l257 => ?_
   refine wo_nil (tq_n (wk ⟨[(5,vP H101.next 0)],35,[],H254⟩ rfl ?_))
   refine w_ret ?_
   refine ⟨.inr rfl,rfl,[.agg #[vI rx1247,vI rx2248]],.cons (resV_cellE rfl ag23 sz23 f255.blk rfl (.inl rfl) rfl) .nil,((((((((((((KeepX.refl (fun _ => False) H).new_ f102).new_ f107).keep k116).new_ f120).new_ f125).put f130 (by first | (right; omega) | (left; (try dsimp only) <;> omega))).put f135 (by first | (right; omega) | (left; (try dsimp only) <;> omega))).keep k242).keep k251).put f255 (by first | (right; omega) | (left; (try dsimp only) <;> omega))).k (fun _ h => h.elim)),w256,rx1247,rx2248,rfl⟩

theorem gas_Refusal_raw (ax1 ax2:Int) (ax3 ax4:Int) (ax5 ax6 ax7:Int) (as8 as9 as10:Value) (ax11:Int) (H:SH) (wt:WT H) (hvas8:VT H (.sl false [.int .i64,.int .i64]) as8) (hvas9:VT H (.sl false [.str,.int .i64]) as9) (hvas10:VT H (.sl false [.int .i64,.int .i64,.int .i64]) as10):WC Try.prog 17 [.agg #[vI ax1,vI ax2,vI ax3,vI ax4,vI ax5,vI ax6,vI ax7,as8,as9],as10,vI ax11] H (fun v H' => Keep H H'∧WT H'∧∃ (rl12:Value),AppV H' H.next [.int .i64] rl12∧slen rl12 ≤ LIM∧∃ (rx13:Int),v=(.tuple #[rl12,vI rx13])):=by
 refine wc_of_body Try.func17 rfl ?_
 refine wk ⟨[(0,.agg #[vI ax1,vI ax2,vI ax3,vI ax4,vI ax5,vI ax6,vI ax7,as8,as9]),(1,as10),(2,vI ax11)],96,[],H⟩ rfl ?_
 refine w_seq (w_region (sv_new (H:=H) (v:=vP H.next 0) (x:=.row #[vI ax1,vI ax2,vI ax3,vI ax4,vI ax5,vI ax6,vI ax7,as8,as9] .raw) rfl rfl rfl rfl (opv_boxE (v:=.agg #[vI ax1,vI ax2,vI ax3,vI ax4,vI ax5,vI ax6,vI ax7,as8,as9]) rfl rfl rfl (by simp [undef]) rfl) ?_))
 intro H101 f102
 refine newL wt f102 fun n105 w103 l104 => ?_
 refine mv (.slice none 0 0) rfl rfl ?_
 refine mv (vI 0) rfl rfl ?_
 refine wo_nil (tq_n (wk ⟨[(1,as10),(2,vI ax11),(3,vP H.next 0),(6,.slice none 0 0)],96,[],H101⟩ rfl ?_))
 refine w_seq (w_region (sv (v:=.agg #[vI ax1,vI ax2,vI ax3,vI ax4,vI ax5,vI ax6,vI ax7,as8,as9]) rfl rfl rfl (opv_loadE rfl rfl rfl ag27 sz27 f102.blk rfl (.inl rfl) rfl) rfl ?_))
 refine mv as10 rfl rfl ?_
 refine mv (vI ax11) rfl rfl ?_
 refine sc_ (H:=H101) (vs:=[.agg #[vI ax1,vI ax2,vI ax3,vI ax4,vI ax5,vI ax6,vI ax7,as8,as9],as10,vI ax11]) (fv:=.func (.func 33) #[] #[]) rfl rfl rfl rfl rfl rfl (.cons rfl rfl (by simp [undef]) (.cons rfl rfl (vt_ne (hvas10.mono l104)) (.cons rfl rfl neI .nil))) rfl ?_
 refine WV.mono (wv_f0 Try.call33 (gas_enter ax1 ax2 ax3 ax4 ax5 ax6 ax7 as8 as9 as10 ax11 _ w103 (hvas8.mono l104) (hvas9.mono l104) (hvas10.mono l104))) ?_
 rintro v125 H126 ⟨k127,w106,rx12107,rx13108,rx14109,rx15110,rx16111,rx17112,rx18113,rs19114,rs20115,rx21116,rx22117,rm118,re119,rfl,hv120,hv121,f122,f123,f124⟩
 refine kpL k127 fun n129 l128 => ?_
 by_cases he130:re119=0
 ·
  obtain ⟨nm131,es132,ck133,rfl,g134,g135,g136,hM137⟩:=f124 he130
  obtain rfl:=he130
  have hE138:=f122 rfl
  refine mv (.tuple #[.agg #[vI rx12107,vI rx13108,vI rx14109,vI rx15110,vI rx16111,vI rx17112,vI rx18113,rs19114,rs20115,.map (some nm131)],.agg #[vI rx21116,vI rx22117],vI 0]) rfl rfl ?_
  refine sv (v:=.agg #[vI rx12107,vI rx13108,vI rx14109,vI rx15110,vI rx16111,vI rx17112,vI rx18113,rs19114,rs20115,.map (some nm131)]) rfl rfl rfl (opv_extract rfl rfl rfl rfl) rfl ?_
  refine sv (v:=.agg #[vI rx21116,vI rx22117]) rfl rfl rfl (opv_extract rfl rfl rfl rfl) rfl ?_
  refine sv (v:=vI 0) rfl rfl rfl (opv_extract rfl rfl rfl rfl) rfl ?_
  refine sv_new (H:=H126) (v:=vP H126.next 0) (x:=.row #[vI 0,vI 0,vI 0,vI 0,vI 0,vI 0,vI 0,.slice none 0 0,.slice none 0 0,.map none] .raw) rfl rfl rfl rfl (opv_alloc rfl ze68 rfl) ?_
  intro H139 f140
  refine newL w106 f140 fun n143 w141 l142 => ?_
  refine sv_new (H:=H139) (v:=vP H139.next 0) (x:=.row #[vI 0,vI 0] .raw) rfl rfl rfl rfl (opv_alloc rfl ze23 rfl) ?_
  intro H144 f145
  refine newL w141 f145 fun n148 w146 l147 => ?_
  refine sv_put (H:=H144) (n:=H126.next) (v:=undef) (x:=some (.row #[vI rx12107,vI rx13108,vI rx14109,vI rx15110,vI rx16111,vI rx17112,vI rx18113,rs19114,rs20115,.map (some nm131)] .raw)) rfl rfl rfl rfl (opv_storeC (u:=.agg #[vI rx12107,vI rx13108,vI rx14109,vI rx15110,vI rx16111,vI rx17112,vI rx18113,rs19114,rs20115,.map (some nm131)]) rfl rfl rfl rfl rfl (by simp [undef]) sz68 rfl rfl (leafs_of (l:=[vI rx12107,vI rx13108,vI rx14109,vI rx15110,vI rx16111,vI rx17112,vI rx18113,rs19114,rs20115,.map (some nm131)]) ⟨rfl,rfl,rfl,rfl,rfl,rfl,rfl,vt_one (hv120.mono (l142.trans l147)),vt_one (hv121.mono (l142.trans l147)),rfl,trivial⟩) ((f145.get H126.next (by omega)).trans f140.blk) rfl rfl) ?_
  intro H149 f150
  refine putL w146 f150 ((f145.get H126.next (by omega)).trans f140.blk) fun n153 w151 l152 => ?_
  refine sv_put (H:=H149) (n:=H139.next) (v:=undef) (x:=some (.row #[vI rx21116,vI rx22117] .raw)) rfl rfl rfl rfl (opv_storeC (u:=.agg #[vI rx21116,vI rx22117]) rfl rfl rfl rfl rfl (by simp [undef]) sz23 rfl rfl rfl ((f150.get H139.next (by omega)).trans f145.blk) rfl rfl) ?_
  intro H154 f155
  refine putL w151 f155 ((f150.get H139.next (by omega)).trans f145.blk) fun n158 w156 l157 => ?_
  refine mv (vI 0) rfl rfl ?_
  refine wo_nil (tq_n (wk ⟨[(2,vI ax11),(6,.slice none 0 0),(7,vI 0),(8,vP H126.next 0),(9,vP H139.next 0)],96,[],H154⟩ rfl ?_))
  refine w_seq (w_block (w_seq (w_region (mv (vI 0) rfl rfl ?_))))
  refine sv (v:=.bool false) rfl rfl rfl (opv_bin rfl rfl rfl rfl rfl (neF (by decide))) rfl ?_
  refine mv (.bool false) rfl rfl ?_
  refine wo_nil (tq_n (wk ⟨[(2,vI ax11),(6,.slice none 0 0),(7,vI 0),(8,vP H126.next 0),(9,vP H139.next 0),(24,.bool false)],96,[],H154⟩ rfl ?_))
  refine w_cond (t:=false) rfl rfl (fun h => by cases h) (fun _ => ?_)
  refine w_seq (w_region (sv (v:=vP H139.next 1) rfl rfl rfl (opv_fieldAddrE rfl rfl rfl Try.underlying23 rfl sz3 (by decide) rfl) rfl ?_))
  refine sv (v:=vI rx22117) rfl rfl rfl (opv_loadE rfl rfl rfl ag3 sz3 f155.blk rfl (.inr rfl) rfl) rfl ?_
  refine sv (v:=vP H126.next 0) rfl rfl rfl (opv_fieldAddrE rfl rfl rfl Try.underlying68 rfl sz27 (by decide) rfl) rfl ?_
  refine sv (v:=vP H126.next 6) rfl rfl rfl (opv_fieldAddrE rfl rfl rfl Try.underlying27 rfl sz3 (by decide) rfl) rfl ?_
  refine sv (v:=vI rx18113) rfl rfl rfl (opv_loadE rfl rfl rfl ag3 sz3 ((f155.get H126.next (by omega)).trans f150.blk) rfl (.inr rfl) rfl) rfl ?_
  by_cases c159:rx22117 ≤ rx18113
  ·
   refine sv (v:=.bool true) rfl rfl rfl (opv_bin rfl rfl rfl rfl rfl (cmpT rfl c159)) rfl ?_
   refine mv (.bool true) rfl rfl ?_
   refine wo_nil (tq_n (wk ⟨[(2,vI ax11),(6,.slice none 0 0),(8,vP H126.next 0),(28,.bool true)],96,[],H154⟩ rfl ?_))
   refine w_cond (t:=true) rfl rfl (fun _ => ?_) (fun h => by cases h)
   refine w_seq (w_region (mv (.slice none 0 0) rfl rfl ?_))
   refine mv (vI 4) rfl rfl ?_
   refine wo_nil (tq_n (wk ⟨[(6,.slice none 0 0),(7,vI 4)],96,[],H154⟩ rfl ?_))
   refine w_ret ?_
   try refine q_eq (e':=.ret) rfl ?_
   refine tq_r ?_
   refine ⟨.inr rfl,rfl,[.slice none 0 0,vI 4],.cons (resV_tmp rfl (by simp [undef])) (.cons (resV_tmp rfl neI) .nil),((((((((KeepX.refl (fun _ => False) H).new_ f102).keep k127).new_ f140).new_ f145).put f150 (by first | (right; omega) | (left; (try dsimp only) <;> omega))).put f155 (by first | (right; omega) | (left; (try dsimp only) <;> omega))).k (fun _ h => h.elim)),w156,.slice none 0 0,AppV.nil,Nat.zero_le _,4,rfl⟩
  ·
   refine sv (v:=.bool false) rfl rfl rfl (opv_bin rfl rfl rfl rfl rfl (cmpF rfl c159)) rfl ?_
   refine mv (.bool false) rfl rfl ?_
   refine wo_nil (tq_n (wk ⟨[(2,vI ax11),(6,.slice none 0 0),(8,vP H126.next 0),(28,.bool false)],96,[],H154⟩ rfl ?_))
   refine w_cond (t:=false) rfl rfl (fun h => by cases h) (fun _ => ?_)
   refine w_skip ?_
   try refine q_eq (e':=.normal) rfl ?_
   refine tqk ⟨[(2,vI ax11),(6,.slice none 0 0),(8,vP H126.next 0)],96,[],H154⟩ rfl ?_
   refine w_seq (w_region (sv (v:=.func (.func 35) #[] #[vP H126.next 0]) rfl rfl rfl (opv_makeFunc (vs:=[]) (us:=[vP H126.next 0]) rfl (.func _) .nil (.cons rfl rfl neP .nil)) rfl ?_))
   refine mv (.func (.func 35) #[] #[vP H126.next 0]) rfl rfl ?_
   refine wo_nil (tq_n (wk ⟨[(2,vI ax11),(6,.slice none 0 0),(8,vP H126.next 0),(10,.func (.func 35) #[] #[vP H126.next 0])],96,[],H154⟩ rfl ?_))
   refine w_seq (w_region (mv (vI ax11) rfl rfl ?_))
   refine sv_int rfl rfl rfl (opv_bin rfl rfl rfl rfl rfl rfl) ?_
   intro x160 h161
   try replace h161:x160=ax11 + 1:=wr_ex h161 (by omega) (by omega)
   refine sv_makeSl (H:=H154) (e:=[.int .i64,.int .i64]) rfl rfl rfl rfl w156 rfl rfl rfl rfl rfl (by omega) (by omega) (by omega) Try.underlying24 tin23 sz23 ze23 rfl rfl rfl rfl (by have e1:Try.t23.bytes=16:=rfl; rw [e1]; omega) (by omega) (fun H1 j hj => (by match j,hj with | 0,_ => exact .int _ _ | 1,_ => exact .int _ _)) ?_
   intro s162 H163 hv164 hl165 hn166 w167 l168 k169 n170
   refine mv s162 rfl rfl ?_
   refine wo_nil (tq_n (wk ⟨[(2,vI ax11),(6,.slice none 0 0),(8,vP H126.next 0),(10,.func (.func 35) #[] #[vP H126.next 0]),(11,s162)],96,[],H163⟩ rfl ?_))
   refine w_seq (w_draw_start ?_)
   intro C0
   have C171:=ch_val (i:=2) (p:=0) (ks:=[8]) (v:=.agg #[vI rx12107,vI rx13108,vI rx14109,vI rx15110,vI rx16111,vI rx17112,vI rx18113,rs19114,rs20115,.map (some nm131)]) (A:=H163) (H:=H163) C0 rfl rfl rfl rfl rfl rfl (opv_loadE rfl rfl rfl ag68 sz68 ((k169.get H126.next (by omega)).trans ((f155.get H126.next (by omega)).trans f150.blk)) rfl (.inl rfl) rfl)
   have C172:=ch_val (i:=3) (p:=0) (ks:=[2]) (v:=vI ax11) (A:=H163) (H:=H163) C171 rfl rfl rfl rfl rfl rfl (opv_move (.inl rfl) rfl rfl)
   obtain ⟨_,H177,k178,⟨w174,rx1175,rx2176,rfl⟩,C173⟩:=ch_call (i:=4) (p:=2) (ks:=[41,42]) (vs:=[.agg #[vI rx12107,vI rx13108,vI rx14109,vI rx15110,vI rx16111,vI rx17112,vI rx18113,rs19114,rs20115,.map (some nm131)],vI ax11]) (fv:=.func (.func 38) #[] #[]) (H:=H163) C172 rfl rfl rfl rfl rfl rfl rfl (.cons rfl rfl (by simp [undef]) (.cons rfl rfl neI .nil)) rfl (wv_f0 Try.call38 (gas_left rx12107 rx13108 rx14109 rx15110 rx16111 rx17112 rx18113 rs19114 rs20115 ax11 nm131 es132 ck133 _ w167 (hv120.mono ((((l142.trans l147).trans l152).trans l157).trans l168)) (hv121.mono ((((l142.trans l147).trans l152).trans l157).trans l168)) ((k169.get nm131 (by omega)).trans ((f155.get nm131 (by omega)).trans ((f150.get nm131 (by omega)).trans ((f145.get nm131 (by omega)).trans ((f140.get nm131 (by omega)).trans g136))))) (by omega) hM137))
   refine kpL k178 fun n180 l179 => ?_
   have C181:=ch_val (i:=5) (p:=0) (ks:=[8]) (v:=vP H126.next 0) (A:=H163) (H:=H177) C173 rfl rfl rfl rfl rfl rfl (opv_fieldAddrE rfl rfl rfl Try.underlying68 rfl sz27 (by decide) rfl)
   have C182:=ch_val (i:=6) (p:=0) (ks:=[44]) (v:=vP H126.next 6) (A:=H163) (H:=H177) C181 rfl rfl rfl rfl rfl rfl (opv_fieldAddrE rfl rfl rfl Try.underlying27 rfl sz3 (by decide) rfl)
   have C183:=ch_val (i:=7) (p:=0) (ks:=[45]) (v:=vI rx18113) (A:=H163) (H:=H177) C182 rfl rfl rfl rfl rfl rfl (opv_loadE rfl rfl rfl ag3 sz3 ((k169.get H126.next (by omega)).trans ((f155.get H126.next (by omega)).trans f150.blk)) rfl (.inr rfl) rfl)
   obtain ⟨x185,h186⟩ : ∃ x:Int,x=wr (rx18113 + 1):=⟨_,rfl⟩
   have C184:=ch_val (i:=8) (p:=0) (ks:=[46]) (v:=.int .i64 x185) (A:=H163) (H:=H177) C183 rfl rfl rfl rfl rfl rfl (by rw [h186]; exact (opv_bin rfl rfl rfl rfl rfl rfl))
   try replace h186:x185=rx18113 + 1:=wr_ex h186 (by omega) (by omega)
   have C187:=ch_val (i:=9) (p:=0) (ks:=[47]) (v:=.agg #[vI x185,vI 200]) (A:=H163) (H:=H177) C184 rfl rfl rfl rfl rfl rfl (opv_buildStE (vs:=[(0,vI x185),(1,vI 200)]) rfl (.cons rfl rfl neI (.cons rfl rfl neI .nil)) ze23 rfl tin23 Try.underlying23 pl23 rfl rfl)
   obtain ⟨_,H192,k193,⟨w189,rx1190,rx2191,rfl⟩,C188⟩:=ch_call (i:=10) (p:=8) (ks:=[43,48]) (vs:=[.agg #[vI rx1175,vI rx2176],.agg #[vI x185,vI 200]]) (fv:=.func (.func 37) #[] #[]) (H:=H177) C187 rfl rfl rfl rfl rfl rfl rfl (.cons rfl rfl (by simp [undef]) (.cons rfl rfl (by simp [undef]) .nil)) rfl (wv_f0 Try.call37 (gas_both rx1175 rx2176 x185 200 _ w174))
   refine kpL k193 fun n195 l194 => ?_
   have C196:=ch_val (i:=0) (p:=0) (ks:=[11]) (v:=s162) (A:=H163) (H:=H192) C188 rfl rfl rfl rfl rfl rfl (opv_move (.inl rfl) rfl rfl)
   have C197:=ch_val (i:=1) (p:=0) (ks:=[2]) (v:=vI ax11) (A:=H163) (H:=H192) C196 rfl rfl rfl rfl rfl rfl (opv_move (.inl rfl) rfl rfl)
   refine w_draw (tl:=[11,12]) rfl [0,0,0,0,12,0,32,96,224,480,1020,2047,4095] C197 (by kernel_rfl) (by kernel_rfl) ?_
   refine wonorm (g:=[(2,vI ax11),(6,.slice none 0 0),(8,vP H126.next 0),(10,.func (.func 35) #[] #[vP H126.next 0]),(11,s162),(39,s162),(40,vI ax11),(49,.agg #[vI rx1190,vI rx2191])]) (n:=96) (ds:=[]) (H:=H192) (lsub_cons rfl (lsub_cons rfl (lsub_cons rfl (lsub_cons rfl (lsub_cons rfl (lsub_cons rfl (lsub_cons rfl (lsub_cons rfl (lsub_nil _))))))))) rfl rfl rfl ?_
   refine sv (v:=.pointer (some ⟨snm s162,sof s162 + (ax11).toNat * 2,none⟩)) rfl rfl rfl (t_index (z:=2) (hv164.mono (l179.trans l194)) rfl rfl rfl rfl rfl Try.underlying24 sz23 (by omega) (by omega)) rfl ?_
   refine sv_storeQ (H:=H192) (u:=.agg #[vI rx1190,vI rx2191]) (us:=[vI rx1190,vI rx2191]) rfl rfl rfl rfl w189 (vp_el (hv164.mono (l179.trans l194)) (i:=Int.toNat ax11) (by omega)) rfl rfl rfl rfl rfl (by simp [undef]) sz23 rfl rfl rfl rfl ⟨.int _ _,.int _ _,trivial⟩ ?_
   intro H198 w199 l200 k201 n202
   rw [hn166] at k201
   refine wo_nil (tq_n (wk ⟨[(2,vI ax11),(6,.slice none 0 0),(8,vP H126.next 0),(10,.func (.func 35) #[] #[vP H126.next 0]),(11,s162)],96,[],H198⟩ rfl ?_))
   refine w_seq (w_seq (w_region (mv (vI ax11) rfl rfl ?_)))
   refine sv_int rfl rfl rfl (opv_bin rfl rfl rfl rfl rfl rfl) ?_
   intro x203 h204
   try replace h204:x203=ax11 - 1:=wr_ex h204 (by omega) (by omega)
   refine mv (vI x203) rfl rfl ?_
   refine wo_nil (tq_n (wk ⟨[(6,.slice none 0 0),(8,vP H126.next 0),(10,.func (.func 35) #[] #[vP H126.next 0]),(11,s162),(12,vI x203)],96,[],H198⟩ rfl ?_))
   refine w_block (w_loopS (fun m212 s213 => ∃ (x205:Int) (H206:SH),(-1 ≤ x205)∧(x205 < ax11)∧WT H206∧Le H198 H206∧KeepX (fun m => m=H154.next) H198 H206∧m212=(x205 + 1).toNat∧s213=⟨[(6,.slice none 0 0),(8,vP H126.next 0),(10,.func (.func 35) #[] #[vP H126.next 0]),(11,s162),(12,vI x205)],96,[],H206⟩) (n:=(x203 + 1).toNat) ⟨⟨[(6,.slice none 0 0),(8,vP H126.next 0),(10,.func (.func 35) #[] #[vP H126.next 0]),(11,s162),(12,vI x203)],96,[],H198⟩,subk rfl,x203,H198,by omega,by omega,w199,Le.refl _,KeepX.refl (fun m => m=H154.next) H198,rfl,rfl⟩ ?_)
   rintro m212 s213 ⟨x205,H206,i207,i208,w209,l210,k211,rfl,rfl⟩
   have n214:=k211.next
   refine w_seq (w_seq (w_region (mv (vI x205) rfl rfl ?_)))
   by_cases c215:x205 ≥ 0
   ·
    refine sv (v:=.bool true) rfl rfl rfl (opv_bin rfl rfl rfl rfl rfl (cmpT rfl c215)) rfl ?_
    refine wo_nil (tq_n (wk ⟨[(6,.slice none 0 0),(8,vP H126.next 0),(10,.func (.func 35) #[] #[vP H126.next 0]),(11,s162),(12,vI x205),(54,.bool true)],96,[],H206⟩ rfl ?_))
    refine w_cond (t:=true) rfl rfl (fun _ => ?_) (fun h => by cases h)
    refine w_skip (tq_n (wk ⟨[(6,.slice none 0 0),(8,vP H126.next 0),(10,.func (.func 35) #[] #[vP H126.next 0]),(11,s162),(12,vI x205)],96,[],H206⟩ rfl ?_))
    refine w_seq (w_block (w_region (mv s162 rfl rfl ?_)))
    refine mv (vI x205) rfl rfl ?_
    refine mv (.func (.func 35) #[] #[vP H126.next 0]) rfl rfl ?_
    refine mv (vI x205) rfl rfl ?_
    refine mv s162 rfl rfl ?_
    refine mv (vI x205) rfl rfl ?_
    refine sv_int rfl rfl rfl (opv_bin rfl rfl rfl rfl rfl rfl) ?_
    intro x216 h217
    try replace h217:x216=x205 + 1:=wr_ex h217 (by omega) (by omega)
    refine sv (v:=.pointer (some ⟨snm s162,sof s162 + (x216).toNat * 2,none⟩)) rfl rfl rfl (t_index (z:=2) (hv164.mono (((l179.trans l194).trans l200).trans l210)) rfl rfl rfl rfl rfl Try.underlying24 sz23 (by omega) (by omega)) rfl ?_
    obtain ⟨vs218,hs219,ho220⟩:=t_load (P:=Try.prog) w209 (hv164.mono (((l179.trans l194).trans l200).trans l210)) (i:=(x216).toNat) (off:=0) (w:=2) (by omega) (by decide)
    replace hs219:VTs H206 [.int .i64,.int .i64] vs218:=hs219
    obtain ⟨x223,r221,rfl,hs222⟩:=vts_int hs219
    obtain ⟨x226,r224,rfl,hs225⟩:=vts_int hs222
    obtain rfl:=vts_nil hs225
    refine sv (v:=.agg #[vI x223,vI x226]) rfl rfl rfl (ho220 _ _ _ _ true rfl rfl rfl rfl ag23 sz23 (.inl rfl)) rfl ?_
    refine sc_ (H:=H206) (vs:=[vI x205,.agg #[vI x223,vI x226]]) (fv:=.func (.func 35) #[] #[vP H126.next 0]) rfl rfl rfl rfl rfl rfl (.cons rfl rfl neI (.cons rfl rfl (by simp [undef]) .nil)) rfl ?_
    refine WV.mono (wv_fc (cap:=[vP H126.next 0]) Try.call35 (gas_lead x205 x223 x226 H126.next nm131 rx12107 rx13108 rx14109 rx15110 rx16111 rx17112 rx18113 rs19114 rs20115 es132 ck133 _ w209 (hv120.mono ((((((((l142.trans l147).trans l152).trans l157).trans l168).trans l179).trans l194).trans l200).trans l210)) (hv121.mono ((((((((l142.trans l147).trans l152).trans l157).trans l168).trans l179).trans l194).trans l200).trans l210)) ((k211.get H126.next (by omega) (by (try dsimp only); omega)).trans ((k201.get H126.next (by omega) (by (try dsimp only); omega)).trans ((k193.get H126.next (by omega)).trans ((k178.get H126.next (by omega)).trans ((k169.get H126.next (by omega)).trans ((f155.get H126.next (by omega)).trans f150.blk)))))) (by omega) ((k211.get nm131 (by omega) (by (try dsimp only); omega)).trans ((k201.get nm131 (by omega) (by (try dsimp only); omega)).trans ((k193.get nm131 (by omega)).trans ((k178.get nm131 (by omega)).trans ((k169.get nm131 (by omega)).trans ((f155.get nm131 (by omega)).trans ((f150.get nm131 (by omega)).trans ((f145.get nm131 (by omega)).trans ((f140.get nm131 (by omega)).trans g136))))))))) (by omega) hM137)) ?_
    rintro v230 H231 ⟨k232,w227,rx1228,rx2229,rfl⟩
    refine kpL k232 fun n234 l233 => ?_
    refine sv (v:=.pointer (some ⟨snm s162,sof s162 + (x205).toNat * 2,none⟩)) rfl rfl rfl (t_index (z:=2) (hv164.mono ((((l179.trans l194).trans l200).trans l210).trans l233)) rfl rfl rfl rfl rfl Try.underlying24 sz23 (by omega) (by omega)) rfl ?_
    refine sv_storeQ (H:=H231) (u:=.agg #[vI rx1228,vI rx2229]) (us:=[vI rx1228,vI rx2229]) rfl rfl rfl rfl w227 (vp_el (hv164.mono ((((l179.trans l194).trans l200).trans l210).trans l233)) (i:=Int.toNat x205) (by omega)) rfl rfl rfl rfl rfl (by simp [undef]) sz23 rfl rfl rfl rfl ⟨.int _ _,.int _ _,trivial⟩ ?_
    intro H235 w236 l237 k238 n239
    rw [hn166] at k238
    refine wo_nil ?_
    try refine q_eq (e':=.normal) rfl ?_
    refine tqk ⟨[(6,.slice none 0 0),(8,vP H126.next 0),(10,.func (.func 35) #[] #[vP H126.next 0]),(11,s162),(12,vI x205)],96,[],H235⟩ rfl ?_
    refine w_region (mv (vI x205) rfl rfl ?_)
    refine sv_int rfl rfl rfl (opv_bin rfl rfl rfl rfl rfl rfl) ?_
    intro x240 h241
    try replace h241:x240=x205 - 1:=wr_ex h241 (by omega) (by omega)
    refine mv (vI x240) rfl rfl ?_
    refine wo_nil ?_
    refine tq_n ⟨(x240 + 1).toNat,by omega,⟨[(6,.slice none 0 0),(8,vP H126.next 0),(10,.func (.func 35) #[] #[vP H126.next 0]),(11,s162),(12,vI x240)],96,[],H235⟩,subk rfl,x240,H235,by omega,by omega,w236,(l210.trans l233).trans l237,((((KeepX.refl (fun m => m=H154.next) H198).trans k211 (by intro m hm; (try simp only [false_or,or_false] at hm ⊢); (try dsimp only at hm ⊢); first | omega | (right; omega) | (left; left; omega) | (left; right; omega))).keep k232).trans k238 (by intro m hm; (try simp only [false_or,or_false] at hm ⊢); (try dsimp only at hm ⊢); first | omega | (right; omega) | (left; left; omega) | (left; right; omega))),rfl,rfl⟩
   ·
    refine sv (v:=.bool false) rfl rfl rfl (opv_bin rfl rfl rfl rfl rfl (cmpF rfl c215)) rfl ?_
    refine wo_nil (tq_n (wk ⟨[(6,.slice none 0 0),(8,vP H126.next 0),(10,.func (.func 35) #[] #[vP H126.next 0]),(11,s162),(12,vI x205),(54,.bool false)],96,[],H206⟩ rfl ?_))
    refine w_cond (t:=false) rfl rfl (fun h => by cases h) (fun _ => ?_)
    refine w_exit (tq_e (tq_e ?_))
    try refine q_eq (e':=.normal) rfl ?_
    refine tqk ⟨[(6,.slice none 0 0),(8,vP H126.next 0),(11,s162)],96,[],H206⟩ rfl ?_
    refine w_seq (w_region (sv (v:=vP H126.next 0) rfl rfl rfl (opv_fieldAddrE rfl rfl rfl Try.underlying68 rfl sz27 (by decide) rfl) rfl ?_))
    refine sv (v:=vP H126.next 0) rfl rfl rfl (opv_fieldAddrE rfl rfl rfl Try.underlying27 rfl sz23 (by decide) rfl) rfl ?_
    refine sv (v:=vP H126.next 0) rfl rfl rfl (opv_fieldAddrE rfl rfl rfl Try.underlying23 rfl sz3 (by decide) rfl) rfl ?_
    refine sv (v:=vI rx12107) rfl rfl rfl (opv_loadE rfl rfl rfl ag3 sz3 ((k211.get H126.next (by omega) (by (try dsimp only); omega)).trans ((k201.get H126.next (by omega) (by (try dsimp only); omega)).trans ((k193.get H126.next (by omega)).trans ((k178.get H126.next (by omega)).trans ((k169.get H126.next (by omega)).trans ((f155.get H126.next (by omega)).trans f150.blk)))))) rfl (.inr rfl) rfl) rfl ?_
    refine mv (vI rx12107) rfl rfl ?_
    refine wo_nil (tq_n (wk ⟨[(6,.slice none 0 0),(8,vP H126.next 0),(11,s162),(13,vI rx12107)],96,[],H206⟩ rfl ?_))
    refine w_seq (w_seq (w_region (mv s162 rfl rfl ?_)))
    have c242:slen s162 ≤ 1073741824:=vt_lim (hv164.mono (((l179.trans l194).trans l200).trans l210))
    refine sv (v:=(vI (slen s162:Int))) rfl rfl rfl (t_len (hv164.mono (((l179.trans l194).trans l200).trans l210)) rfl rfl rfl Try.underlying24) rfl ?_
    refine mv (vI 0) rfl rfl ?_
    refine wo_nil (tq_n (wk ⟨[(6,.slice none 0 0),(8,vP H126.next 0),(13,vI rx12107),(72,s162),(73,(vI (slen s162:Int))),(74,vI 0)],96,[],H206⟩ rfl ?_))
    refine w_block (w_loopS (fun m254 s255 => ∃ (l243:Value) (x244 x245:Int) (H246:SH),(0 ≤ x245)∧(x245 ≤ (slen s162:Int))∧((slen l243:Int) ≤ x245)∧AppV H246 H206.next [.int .i64] l243∧WT H246∧Le H206 H246∧KeepX (fun _ => False) H206 H246∧m254=(((slen s162:Int):Int) - x245).toNat∧s255=⟨[(6,l243),(8,vP H126.next 0),(13,vI x244),(72,s162),(73,(vI (slen s162:Int))),(74,vI x245)],96,[],H246⟩) (n:=(((slen s162:Int):Int) - 0).toNat) ⟨⟨[(6,.slice none 0 0),(8,vP H126.next 0),(13,vI rx12107),(72,s162),(73,(vI (slen s162:Int))),(74,vI 0)],96,[],H206⟩,subk rfl,.slice none 0 0,rx12107,0,H206,by omega,by omega,(by simp only [slen]; omega),AppV.nil,w209,Le.refl _,KeepX.refl (fun _ => False) H206,rfl,rfl⟩ ?_)
    rintro m254 s255 ⟨l243,x244,x245,H246,i247,i248,i249,ha250,w251,l252,k253,rfl,rfl⟩
    have n256:=k253.next
    refine w_seq (w_region ?_)
    by_cases c257:x245 < (slen s162:Int)
    ·
     refine sv (v:=.bool true) rfl rfl rfl (opv_bin rfl rfl rfl rfl rfl (cmpT rfl c257)) rfl ?_
     refine wo_nil (tq_n (wk ⟨[(6,l243),(8,vP H126.next 0),(13,vI x244),(72,s162),(73,(vI (slen s162:Int))),(74,vI x245),(75,.bool true)],96,[],H246⟩ rfl ?_))
     refine w_seq (w_cond (t:=true) rfl rfl (fun _ => ?_) (fun h => by cases h))
     refine w_skip (tq_n (wk ⟨[(6,l243),(8,vP H126.next 0),(13,vI x244),(72,s162),(73,(vI (slen s162:Int))),(74,vI x245)],96,[],H246⟩ rfl ?_))
     refine w_seq (w_block (w_seq (w_region (mv (vI x245) rfl rfl ?_))))
     refine sv (v:=.pointer (some ⟨snm s162,sof s162 + (x245).toNat * 2,none⟩)) rfl rfl rfl (t_index (z:=2) (hv164.mono ((((l179.trans l194).trans l200).trans l210).trans l252)) rfl rfl rfl rfl rfl Try.underlying24 sz23 (by omega) (by omega)) rfl ?_
     obtain ⟨vs258,hs259,ho260⟩:=t_load (P:=Try.prog) w251 (hv164.mono ((((l179.trans l194).trans l200).trans l210).trans l252)) (i:=(x245).toNat) (off:=0) (w:=2) (by omega) (by decide)
     replace hs259:VTs H246 [.int .i64,.int .i64] vs258:=hs259
     obtain ⟨x263,r261,rfl,hs262⟩:=vts_int hs259
     obtain ⟨x266,r264,rfl,hs265⟩:=vts_int hs262
     obtain rfl:=vts_nil hs265
     refine sv (v:=.agg #[vI x263,vI x266]) rfl rfl rfl (ho260 _ _ _ _ true rfl rfl rfl rfl ag23 sz23 (.inl rfl)) rfl ?_
     refine sv_new (H:=H246) (v:=vP H246.next 0) (x:=.row #[vI 0,vI 0] .raw) rfl rfl rfl rfl (opv_alloc rfl ze23 rfl) ?_
     intro H267 f268
     refine newL w251 f268 fun n271 w269 l270 => ?_
     refine mv (vI x245) rfl rfl ?_
     refine sv_put (H:=H267) (n:=H246.next) (v:=undef) (x:=some (.row #[vI x263,vI x266] .raw)) rfl rfl rfl rfl (opv_storeC (u:=.agg #[vI x263,vI x266]) rfl rfl rfl rfl rfl (by simp [undef]) sz23 rfl rfl rfl f268.blk rfl rfl) ?_
     intro H272 f273
     refine putL w269 f273 f268.blk fun n276 w274 l275 => ?_
     refine wo_nil (tq_n (wk ⟨[(6,l243),(8,vP H126.next 0),(13,vI x244),(14,vI x245),(15,vP H246.next 0),(72,s162),(73,(vI (slen s162:Int))),(74,vI x245)],96,[],H272⟩ rfl ?_))
     refine w_seq (w_region (mv (vI x244) rfl rfl ?_))
     refine sv (v:=vP H246.next 0) rfl rfl rfl (opv_fieldAddrE rfl rfl rfl Try.underlying23 rfl sz3 (by decide) rfl) rfl ?_
     refine sv (v:=vI x263) rfl rfl rfl (opv_loadE rfl rfl rfl ag3 sz3 f273.blk rfl (.inr rfl) rfl) rfl ?_
     refine sv_int rfl rfl rfl (opv_max rfl rfl rfl rfl rfl) ?_
     intro x277 h278
     replace h278:=ite_or h278
     refine mv (vI x277) rfl rfl ?_
     refine wo_nil (tq_n (wk ⟨[(6,l243),(8,vP H126.next 0),(13,vI x277),(14,vI x245),(72,s162),(73,(vI (slen s162:Int))),(74,vI x245)],96,[],H272⟩ rfl ?_))
     refine w_seq (w_region (mv l243 rfl rfl ?_))
     refine mv (vI x277) rfl rfl ?_
     refine sv_new (H:=H272) (v:=.slice (some ⟨H272.next,0,none⟩) 1 1) (x:=.row #[vI x277] .raw) rfl rfl rfl rfl (opv_buildSliceE (vs:=[(0,vI x277)]) rfl (.cons rfl rfl neI .nil) Try.underlying31 sz3 ze3 rfl (by decide) (by decide) rfl rfl rfl) ?_
     intro H279 f280
     refine newL w274 f280 fun n283 w281 l282 => ?_
     refine sv_append (H:=H279) (lo:=H206.next) (e:=[.int .i64]) (v:=l243) (n:=H272.next) (m:=1) (xs:=[vI x277]) (by_:=8) rfl rfl rfl rfl w281 (AppV.move ha250 ((l270.trans l275).trans l282) (fun k h1 h2 => ((f280.get k (by omega)).trans ((f273.get k (by omega)).trans (f268.get k (by omega)))))) rfl rfl rfl rfl rfl f280.blk rfl (by simp) (by decide) rfl ⟨.int _ _,trivial⟩ ⟨rfl,trivial⟩ Try.underlying31 Try.underlying31 rfl sz3 tin3 rfl ze3 rfl (by omega) (by omega) (by decide) ?_
     intro l284 H285 ha286 hl287 w288 l289 k290 n291
     refine mv l284 rfl rfl ?_
     refine wo_nil (tq_n (wk ⟨[(6,l284),(8,vP H126.next 0),(13,vI x277),(14,vI x245),(72,s162),(73,(vI (slen s162:Int))),(74,vI x245)],96,[],H285⟩ rfl ?_))
     refine w_region (mv (vI x277) rfl rfl ?_)
     refine sv (v:=.agg #[vI rx12107,vI rx13108,vI rx14109,vI rx15110,vI rx16111,vI rx17112,vI rx18113,rs19114,rs20115,.map (some nm131)]) rfl rfl rfl (opv_loadE rfl rfl rfl ag68 sz68 ((k290.get H126.next (by omega) (ha250.not (by omega))).trans ((f280.get H126.next (by omega)).trans ((f273.get H126.next (by omega)).trans ((f268.get H126.next (by omega)).trans ((k253.get H126.next (by omega) id).trans ((k211.get H126.next (by omega) (by (try dsimp only); omega)).trans ((k201.get H126.next (by omega) (by (try dsimp only); omega)).trans ((k193.get H126.next (by omega)).trans ((k178.get H126.next (by omega)).trans ((k169.get H126.next (by omega)).trans ((f155.get H126.next (by omega)).trans f150.blk))))))))))) rfl (.inl rfl) rfl) rfl ?_
     refine mv (vI x245) rfl rfl ?_
     refine sc_ (H:=H285) (vs:=[.agg #[vI rx12107,vI rx13108,vI rx14109,vI rx15110,vI rx16111,vI rx17112,vI rx18113,rs19114,rs20115,.map (some nm131)],vI x245]) (fv:=.func (.func 36) #[] #[]) rfl rfl rfl rfl rfl rfl (.cons rfl rfl (by simp [undef]) (.cons rfl rfl neI .nil)) rfl ?_
     refine WV.mono (wv_f0 Try.call36 (gas_rise rx12107 rx13108 rx14109 rx15110 rx16111 rx17112 rx18113 rs19114 rs20115 x245 (.map (some nm131)) _ w288 (hv120.mono (((((((((((((l142.trans l147).trans l152).trans l157).trans l168).trans l179).trans l194).trans l200).trans l210).trans l252).trans l270).trans l275).trans l282).trans l289)) (hv121.mono (((((((((((((l142.trans l147).trans l152).trans l157).trans l168).trans l179).trans l194).trans l200).trans l210).trans l252).trans l270).trans l275).trans l282).trans l289)) MV.some)) ?_
     rintro v295 H296 ⟨k297,w292,rx1293,rx2294,rfl⟩
     refine kpL k297 fun n299 l298 => ?_
     refine sv (v:=vI rx1293) rfl rfl rfl (opv_fieldE rfl rfl rfl Try.underlying23 rfl ag3 sz3 (.inr rfl) rfl) rfl ?_
     refine sv_int rfl rfl rfl (opv_bin rfl rfl rfl rfl rfl rfl) ?_
     intro x300 h301
     try replace h301:x300=x277 + rx1293:=wr_ex h301 (by omega) (by omega)
     refine sc_ (H:=H296) (vs:=[vI x300]) (fv:=.func (.func 39) #[] #[]) rfl rfl rfl rfl rfl rfl (.cons rfl rfl neI .nil) rfl ?_
     refine WV.mono (wv_f0 Try.call39 (gas_limited x300 _ w292)) ?_
     rintro v304 H305 ⟨k306,w302,rx2303,rfl⟩
     refine kpL k306 fun n308 l307 => ?_
     refine mv (vI rx2303) rfl rfl ?_
     refine wo_nil ?_
     try refine q_eq (e':=.normal) rfl ?_
     refine tqk ⟨[(6,l284),(8,vP H126.next 0),(13,vI rx2303),(72,s162),(73,(vI (slen s162:Int))),(74,vI x245)],96,[],H305⟩ rfl ?_
     refine w_region (sv_int rfl rfl rfl (opv_bin rfl rfl rfl rfl rfl rfl) ?_)
     intro x309 h310
     try replace h310:x309=x245 + 1:=wr_ex h310 (by omega) (by omega)
     refine mv (vI x309) rfl rfl ?_
     refine wo_nil ?_
     refine tq_n ⟨(((slen s162:Int):Int) - x309).toNat,by omega,⟨[(6,l284),(8,vP H126.next 0),(13,vI rx2303),(72,s162),(73,(vI (slen s162:Int))),(74,vI x309)],96,[],H305⟩,subk rfl,l284,rx2303,x309,H305,by omega,by omega,by omega,AppV.move ha286 (l298.trans l307) (fun k h1 h2 => ((k306.get k (by omega)).trans (k297.get k (by omega)))),w302,(((((l252.trans l270).trans l275).trans l282).trans l289).trans l298).trans l307,((((((((KeepX.refl (fun _ => False) H206).trans k253 (fun _ h => h.elim)).new_ f268).put f273 (by first | (right; omega) | (left; (try dsimp only) <;> omega))).new_ f280).trans k290 (fun k hk => .inr (by have:=ha250.x hk; omega))).keep k297).keep k306),rfl,rfl⟩
    ·
     refine sv (v:=.bool false) rfl rfl rfl (opv_bin rfl rfl rfl rfl rfl (cmpF rfl c257)) rfl ?_
     refine wo_nil (tq_n (wk ⟨[(6,l243),(8,vP H126.next 0),(13,vI x244),(72,s162),(73,(vI (slen s162:Int))),(74,vI x245),(75,.bool false)],96,[],H246⟩ rfl ?_))
     refine w_seq (w_cond (t:=false) rfl rfl (fun h => by cases h) (fun _ => ?_))
     refine w_exit (tq_e (tq_e ?_))
     try refine q_eq (e':=.normal) rfl ?_
     refine tqk ⟨[(6,l243)],96,[],H246⟩ rfl ?_
     refine w_seq (w_region (mv l243 rfl rfl ?_))
     refine mv l243 rfl rfl ?_
     refine mv (vI 0) rfl rfl ?_
     refine wo_nil (tq_n (wk ⟨[(6,l243),(7,vI 0)],96,[],H246⟩ rfl ?_))
     refine w_ret ?_
     refine ⟨.inr rfl,rfl,[l243,vI 0],.cons (resV_tmp rfl ha250.ne) (.cons (resV_tmp rfl neI) .nil),((((((((((((((KeepX.refl (fun _ => False) H).new_ f102).keep k127).new_ f140).new_ f145).put f150 (by first | (right; omega) | (left; (try dsimp only) <;> omega))).put f155 (by first | (right; omega) | (left; (try dsimp only) <;> omega))).keep k169).keep k178).keep k193).trans k201 (by intro m hm; (try simp only [false_or,or_false] at hm ⊢); (try dsimp only at hm ⊢); first | omega | (right; omega) | (left; left; omega) | (left; right; omega))).trans k211 (by intro m hm; (try simp only [false_or,or_false] at hm ⊢); (try dsimp only at hm ⊢); first | omega | (right; omega) | (left; left; omega) | (left; right; omega))).trans k253 (fun _ h => h.elim)).k (fun _ h => h.elim)),w251,l243,ha250.lower (by omega),(by unfold LIM; omega),0,rfl⟩
 ·
  refine mv (.tuple #[.agg #[vI rx12107,vI rx13108,vI rx14109,vI rx15110,vI rx16111,vI rx17112,vI rx18113,rs19114,rs20115,rm118],.agg #[vI rx21116,vI rx22117],vI re119]) rfl rfl ?_
  refine sv (v:=.agg #[vI rx12107,vI rx13108,vI rx14109,vI rx15110,vI rx16111,vI rx17112,vI rx18113,rs19114,rs20115,rm118]) rfl rfl rfl (opv_extract rfl rfl rfl rfl) rfl ?_
  refine sv (v:=.agg #[vI rx21116,vI rx22117]) rfl rfl rfl (opv_extract rfl rfl rfl rfl) rfl ?_
  refine sv (v:=vI re119) rfl rfl rfl (opv_extract rfl rfl rfl rfl) rfl ?_
  refine sv_new (H:=H126) (v:=vP H126.next 0) (x:=.row #[vI 0,vI 0,vI 0,vI 0,vI 0,vI 0,vI 0,.slice none 0 0,.slice none 0 0,.map none] .raw) rfl rfl rfl rfl (opv_alloc rfl ze68 rfl) ?_
  intro H311 f312
  refine newL w106 f312 fun n315 w313 l314 => ?_
  refine sv_new (H:=H311) (v:=vP H311.next 0) (x:=.row #[vI 0,vI 0] .raw) rfl rfl rfl rfl (opv_alloc rfl ze23 rfl) ?_
  intro H316 f317
  refine newL w313 f317 fun n320 w318 l319 => ?_
  refine sv_put (H:=H316) (n:=H126.next) (v:=undef) (x:=some (.row #[vI rx12107,vI rx13108,vI rx14109,vI rx15110,vI rx16111,vI rx17112,vI rx18113,rs19114,rs20115,rm118] .raw)) rfl rfl rfl rfl (opv_storeC (u:=.agg #[vI rx12107,vI rx13108,vI rx14109,vI rx15110,vI rx16111,vI rx17112,vI rx18113,rs19114,rs20115,rm118]) rfl rfl rfl rfl rfl (by simp [undef]) sz68 rfl rfl (leafs_of (l:=[vI rx12107,vI rx13108,vI rx14109,vI rx15110,vI rx16111,vI rx17112,vI rx18113,rs19114,rs20115,rm118]) ⟨rfl,rfl,rfl,rfl,rfl,rfl,rfl,vt_one (hv120.mono (l314.trans l319)),vt_one (hv121.mono (l314.trans l319)),MV.one f123,trivial⟩) ((f317.get H126.next (by omega)).trans f312.blk) rfl rfl) ?_
  intro H321 f322
  refine putL w318 f322 ((f317.get H126.next (by omega)).trans f312.blk) fun n325 w323 l324 => ?_
  refine sv_put (H:=H321) (n:=H311.next) (v:=undef) (x:=some (.row #[vI rx21116,vI rx22117] .raw)) rfl rfl rfl rfl (opv_storeC (u:=.agg #[vI rx21116,vI rx22117]) rfl rfl rfl rfl rfl (by simp [undef]) sz23 rfl rfl rfl ((f322.get H311.next (by omega)).trans f317.blk) rfl rfl) ?_
  intro H326 f327
  refine putL w323 f327 ((f322.get H311.next (by omega)).trans f317.blk) fun n330 w328 l329 => ?_
  refine mv (vI re119) rfl rfl ?_
  refine wo_nil (tq_n (wk ⟨[(2,vI ax11),(6,.slice none 0 0),(7,vI re119),(8,vP H126.next 0),(9,vP H311.next 0)],96,[],H326⟩ rfl ?_))
  refine w_seq (w_block (w_seq (w_region (mv (vI re119) rfl rfl ?_))))
  by_cases c331:re119=0
  ·
   refine sv (v:=.bool false) rfl rfl rfl (opv_bin rfl rfl rfl rfl rfl (neF c331)) rfl ?_
   refine mv (.bool false) rfl rfl ?_
   refine wo_nil (tq_n (wk ⟨[(2,vI ax11),(6,.slice none 0 0),(7,vI re119),(8,vP H126.next 0),(9,vP H311.next 0),(24,.bool false)],96,[],H326⟩ rfl ?_))
   refine w_cond (t:=false) rfl rfl (fun h => by cases h) (fun _ => ?_)
   refine w_seq (w_region (sv (v:=vP H311.next 1) rfl rfl rfl (opv_fieldAddrE rfl rfl rfl Try.underlying23 rfl sz3 (by decide) rfl) rfl ?_))
   refine sv (v:=vI rx22117) rfl rfl rfl (opv_loadE rfl rfl rfl ag3 sz3 f327.blk rfl (.inr rfl) rfl) rfl ?_
   refine sv (v:=vP H126.next 0) rfl rfl rfl (opv_fieldAddrE rfl rfl rfl Try.underlying68 rfl sz27 (by decide) rfl) rfl ?_
   refine sv (v:=vP H126.next 6) rfl rfl rfl (opv_fieldAddrE rfl rfl rfl Try.underlying27 rfl sz3 (by decide) rfl) rfl ?_
   refine sv (v:=vI rx18113) rfl rfl rfl (opv_loadE rfl rfl rfl ag3 sz3 ((f327.get H126.next (by omega)).trans f322.blk) rfl (.inr rfl) rfl) rfl ?_
   by_cases c332:rx22117 ≤ rx18113
   ·
    refine sv (v:=.bool true) rfl rfl rfl (opv_bin rfl rfl rfl rfl rfl (cmpT rfl c332)) rfl ?_
    refine mv (.bool true) rfl rfl ?_
    refine wo_nil (tq_n (wk ⟨[(2,vI ax11),(6,.slice none 0 0),(8,vP H126.next 0),(28,.bool true)],96,[],H326⟩ rfl ?_))
    refine w_cond (t:=true) rfl rfl (fun _ => ?_) (fun h => by cases h)
    refine w_seq (w_region (mv (.slice none 0 0) rfl rfl ?_))
    refine mv (vI 4) rfl rfl ?_
    refine wo_nil (tq_n (wk ⟨[(6,.slice none 0 0),(7,vI 4)],96,[],H326⟩ rfl ?_))
    refine w_ret ?_
    try refine q_eq (e':=.ret) rfl ?_
    refine tq_r ?_
    refine ⟨.inr rfl,rfl,[.slice none 0 0,vI 4],.cons (resV_tmp rfl (by simp [undef])) (.cons (resV_tmp rfl neI) .nil),((((((((KeepX.refl (fun _ => False) H).new_ f102).keep k127).new_ f312).new_ f317).put f322 (by first | (right; omega) | (left; (try dsimp only) <;> omega))).put f327 (by first | (right; omega) | (left; (try dsimp only) <;> omega))).k (fun _ h => h.elim)),w328,.slice none 0 0,AppV.nil,Nat.zero_le _,4,rfl⟩
   ·
    exfalso; omega -- no contract for 38 (orlop/gas.space).left (match map mv)
  ·
   refine sv (v:=.bool true) rfl rfl rfl (opv_bin rfl rfl rfl rfl rfl (neT c331)) rfl ?_
   refine mv (.bool true) rfl rfl ?_
   refine wo_nil (tq_n (wk ⟨[(2,vI ax11),(6,.slice none 0 0),(7,vI re119),(8,vP H126.next 0),(9,vP H311.next 0),(24,.bool true)],96,[],H326⟩ rfl ?_))
   refine w_cond (t:=true) rfl rfl (fun _ => ?_) (fun h => by cases h)
   refine w_seq (w_region (mv (vI re119) rfl rfl ?_))
   refine mv (.slice none 0 0) rfl rfl ?_
   refine mv (vI re119) rfl rfl ?_
   refine wo_nil (tq_n (wk ⟨[(6,.slice none 0 0),(7,vI re119)],96,[],H326⟩ rfl ?_))
   refine w_ret ?_
   try refine q_eq (e':=.ret) rfl ?_
   refine tq_r ?_
   refine ⟨.inr rfl,rfl,[.slice none 0 0,vI re119],.cons (resV_tmp rfl (by simp [undef])) (.cons (resV_tmp rfl neI) .nil),((((((((KeepX.refl (fun _ => False) H).new_ f102).keep k127).new_ f312).new_ f317).put f322 (by first | (right; omega) | (left; (try dsimp only) <;> omega))).put f327 (by first | (right; omega) | (left; (try dsimp only) <;> omega))).k (fun _ h => h.elim)),w328,.slice none 0 0,AppV.nil,Nat.zero_le _,re119,rfl⟩
theorem gas_Refusal (ax1 ax2:Int) (ax3 ax4:Int) (ax5 ax6 ax7:Int) (as8 as9 as10:Value) (ax11:Int) (H:SH) (wt:WT H) (hvas8:VT H (.sl false [.int .i64,.int .i64]) as8) (hvas9:VT H (.sl false [.str,.int .i64]) as9) (hvas10:VT H (.sl false [.int .i64,.int .i64,.int .i64]) as10):WC Try.prog 17 [.agg #[vI ax1,vI ax2,vI ax3,vI ax4,vI ax5,vI ax6,vI ax7,as8,as9],as10,vI ax11] H (fun v H' => Keep H H'∧WT H'∧∃ (rl12:Value),VT H' (.sl true [.int .i64]) rl12∧∃ (rx13:Int),v=(.tuple #[rl12,vI rx13])) :=
  WC.tagApp (K:=fun v rl12 => ∃ (rx13:Int),v=(.tuple #[rl12,vI rx13])) (by simp) wt (gas_Refusal_raw ax1 ax2 ax3 ax4 ax5 ax6 ax7 as8 as9 as10 ax11 H wt hvas8 hvas9 hvas10)
end Go.Proofs.Orl
