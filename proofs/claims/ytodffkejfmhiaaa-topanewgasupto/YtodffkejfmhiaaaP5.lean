/- Part 5 of the proof of TopAnewGas: every call of the package puts the same twice, and changes no argument. Conditions: those of the statement, and no others. -/
import Derived.Test.YtodffkejfmhiaaaP4
import Derived.Test.YtodffkejfmhiaaaP2
import Derived.Test.YtodffkejfmhiaaaP1
namespace Go.Proofs.Orl
open Go Go.MapKept
set_option maxRecDepth 10000
set_option maxHeartbeats 4000000

theorem gas_tooled1 (ax1 ax2:Int) (ax3 ax4:Int) (ax5 ax6 ax7:Int) (as8 as9:Value) (ax10 ax11:Int) (n1:Nat) (m0:Int) (H:SH) (wt:WT H) (hvas8:VT H (.sl false [.int .i64,.int .i64]) as8) (hvas9:VT H (.sl false [.str,.int .i64]) as9) (hkn1:H.get n1=some (.row #[vI m0] .raw)) (hln1:n1 < H.next):WC Try.prog 43 [.agg #[vI ax1,vI ax2,vI ax3,vI ax4,vI ax5,vI ax6,vI ax7,as8,as9],vI ax10,vI ax11,.slice (some ⟨n1,0,none⟩) 1 1] H (fun v H' => Keep H H'∧WT H'∧∃ (rx12 rx13:Int) (rx14 rx15:Int) (rx16 rx17 rx18:Int) (rs19 rs20 rm:Value) (re:Int),v=(.tuple #[.agg #[vI rx12,vI rx13,vI rx14,vI rx15,vI rx16,vI rx17,vI rx18,rs19,rs20,rm],vI re])∧VT H' (.sl false [.int .i64,.int .i64]) rs19∧VT H' (.sl false [.str,.int .i64]) rs20∧(re=0→0 ≤ ax10∧ax10 < (slen rs20:Int)∧0 ≤ m0∧m0 ≤ 60)∧(MV rm)∧(re=0→∃ (n:Nat) (es:Array MapEntry) (c:Nat),rm=.map (some n)∧H.next ≤ n∧n < H'.next∧H'.get n=some (.obj (.map es c))∧MapI (.int .i64) SpQ es)):=by
 refine wc_of_body Try.func43 rfl ?_
 refine wk ⟨[(0,.agg #[vI ax1,vI ax2,vI ax3,vI ax4,vI ax5,vI ax6,vI ax7,as8,as9]),(1,vI ax10),(2,vI ax11),(3,.slice (some ⟨n1,0,none⟩) 1 1)],39,[],H⟩ rfl ?_
 refine w_seq (w_region (sv_new (H:=H) (v:=vP H.next 0) (x:=.row #[vI ax1,vI ax2,vI ax3,vI ax4,vI ax5,vI ax6,vI ax7,as8,as9] .raw) rfl rfl rfl rfl (opv_boxE (v:=.agg #[vI ax1,vI ax2,vI ax3,vI ax4,vI ax5,vI ax6,vI ax7,as8,as9]) rfl rfl rfl (by simp [undef]) rfl) ?_))
 intro H101 f102
 refine newL wt f102 fun n105 w103 l104 => ?_
 refine sv_new (H:=H101) (v:=vP H101.next 0) (x:=.row #[vI 0,vI 0,vI 0,vI 0,vI 0,vI 0,vI 0,.slice none 0 0,.slice none 0 0,.map none] .raw) rfl rfl rfl rfl (opv_alloc rfl ze68 rfl) ?_
 intro H106 f107
 refine newL w103 f107 fun n110 w108 l109 => ?_
 refine mv (vI 0) rfl rfl ?_
 refine wo_nil (tq_n (wk ⟨[(1,vI ax10),(2,vI ax11),(3,.slice (some ⟨n1,0,none⟩) 1 1),(4,vP H.next 0),(8,vP H101.next 0)],39,[],H106⟩ rfl ?_))
 refine w_seq (w_region (sv (v:=.agg #[vI ax1,vI ax2,vI ax3,vI ax4,vI ax5,vI ax6,vI ax7,as8,as9]) rfl rfl rfl (opv_loadE rfl rfl rfl ag27 sz27 ((f107.get H.next (by omega)).trans f102.blk) rfl (.inl rfl) rfl) rfl ?_))
 refine sc_ (H:=H106) (vs:=[.agg #[vI ax1,vI ax2,vI ax3,vI ax4,vI ax5,vI ax6,vI ax7,as8,as9],.slice none 0 0,vI 0]) (fv:=.func (.func 59) #[] #[]) rfl rfl rfl rfl rfl rfl (.cons rfl rfl (by simp [undef]) (.cons rfl rfl (by simp [undef]) (.cons rfl rfl neI .nil))) rfl ?_
 refine WV.mono (wv_f0 Try.call59 (gas_open ax1 ax2 ax3 ax4 ax5 ax6 ax7 as8 as9 (.slice none 0 0) 0 _ w108 (hvas8.mono (l104.trans l109)) (hvas9.mono (l104.trans l109)) (.nil _ _))) ?_
 rintro v128 H129 ⟨k130,w111,rx12112,rx13113,rx14114,rx15115,rx16116,rx17117,rx18118,rs19119,rs20120,rm121,re122,rfl,hv123,hv124,f125,f126,f127⟩
 refine kpL k130 fun n132 l131 => ?_
 by_cases he133:re122=0
 ·
  obtain ⟨nm134,es135,ck136,rfl,g137,g138,g139,hM140⟩:=f127 he133
  obtain rfl:=he133
  have hE141:=congrArg slen (f125 rfl).2.2
  refine mv (.tuple #[.agg #[vI rx12112,vI rx13113,vI rx14114,vI rx15115,vI rx16116,vI rx17117,vI rx18118,rs19119,rs20120,.map (some nm134)],vI 0]) rfl rfl ?_
  refine sv (v:=.agg #[vI rx12112,vI rx13113,vI rx14114,vI rx15115,vI rx16116,vI rx17117,vI rx18118,rs19119,rs20120,.map (some nm134)]) rfl rfl rfl (opv_extract rfl rfl rfl rfl) rfl ?_
  refine sv (v:=vI 0) rfl rfl rfl (opv_extract rfl rfl rfl rfl) rfl ?_
  refine sv_put (H:=H129) (n:=H101.next) (v:=undef) (x:=some (.row #[vI rx12112,vI rx13113,vI rx14114,vI rx15115,vI rx16116,vI rx17117,vI rx18118,rs19119,rs20120,.map (some nm134)] .raw)) rfl rfl rfl rfl (opv_storeC (u:=.agg #[vI rx12112,vI rx13113,vI rx14114,vI rx15115,vI rx16116,vI rx17117,vI rx18118,rs19119,rs20120,.map (some nm134)]) rfl rfl rfl rfl rfl (by simp [undef]) sz68 rfl rfl (leafs_of (l:=[vI rx12112,vI rx13113,vI rx14114,vI rx15115,vI rx16116,vI rx17117,vI rx18118,rs19119,rs20120,.map (some nm134)]) ⟨rfl,rfl,rfl,rfl,rfl,rfl,rfl,vt_one hv123,vt_one hv124,rfl,trivial⟩) ((k130.get H101.next (by omega)).trans f107.blk) rfl rfl) ?_
  intro H142 f143
  refine putL w111 f143 ((k130.get H101.next (by omega)).trans f107.blk) fun n146 w144 l145 => ?_
  refine mv (vI 0) rfl rfl ?_
  refine wo_nil (tq_n (wk ⟨[(1,vI ax10),(2,vI ax11),(3,.slice (some ⟨n1,0,none⟩) 1 1),(4,vP H.next 0),(8,vP H101.next 0),(9,vI 0)],39,[],H142⟩ rfl ?_))
  refine w_seq (w_block (w_seq (w_region (mv (vI 0) rfl rfl ?_))))
  refine sv (v:=.bool false) rfl rfl rfl (opv_bin rfl rfl rfl rfl rfl (neF (by decide))) rfl ?_
  refine mv (.bool false) rfl rfl ?_
  refine wo_nil (tq_n (wk ⟨[(1,vI ax10),(2,vI ax11),(3,.slice (some ⟨n1,0,none⟩) 1 1),(4,vP H.next 0),(8,vP H101.next 0),(9,vI 0),(15,.bool false)],39,[],H142⟩ rfl ?_))
  refine w_cond (t:=false) rfl rfl (fun h => by cases h) (fun _ => ?_)
  refine w_seq (w_region (sv (v:=vP H.next 8) rfl rfl rfl (opv_fieldAddrE rfl rfl rfl Try.underlying27 rfl sz25 (by decide) rfl) rfl ?_))
  refine sv (v:=as9) rfl rfl rfl (opv_loadE rfl rfl rfl ag25 sz25 ((f143.get H.next (by omega)).trans ((k130.get H.next (by omega)).trans ((f107.get H.next (by omega)).trans f102.blk))) rfl (.inr rfl) rfl) rfl ?_
  have c147:slen as9 ≤ 1073741824:=vt_lim (hvas9.mono (((l104.trans l109).trans l131).trans l145))
  refine sv (v:=(vI (slen as9:Int))) rfl rfl rfl (t_len (hvas9.mono (((l104.trans l109).trans l131).trans l145)) rfl rfl rfl Try.underlying25) rfl ?_
  refine sv_int rfl rfl rfl (opv_bin rfl rfl rfl rfl rfl rfl) ?_
  intro x148 h149
  try replace h149:x148=(slen as9:Int) - 1:=wr_ex h149 (by omega) (by omega)
  refine mv (vI ax10) rfl rfl ?_
  refine sv_new (H:=H142) (v:=.slice (some ⟨H142.next,0,none⟩) 1 1) (x:=.row #[vI ax10] .raw) rfl rfl rfl rfl (opv_buildSliceE (vs:=[(0,vI ax10)]) rfl (.cons rfl rfl neI .nil) Try.underlying31 sz3 ze3 rfl (by decide) (by decide) rfl rfl rfl) ?_
  intro H150 f151
  refine newL w144 f151 fun n154 w152 l153 => ?_
  refine sc_ (H:=H150) (vs:=[vI 0,vI x148,.slice (some ⟨H142.next,0,none⟩) 1 1]) (fv:=.func (.func 30) #[] #[]) rfl rfl rfl rfl rfl rfl (.cons rfl rfl neI (.cons rfl rfl neI (.cons rfl rfl (by simp [undef]) .nil))) rfl ?_
  refine WV.mono (wv_f0 Try.call30 (gas_out_1 ax10 0 x148 H142.next _ w152 f151.blk (by omega))) ?_
  rintro v158 H159 ⟨k160,w155,rb156,rfl,f157⟩
  refine kpL k160 fun n162 l161 => ?_
  refine mv (.bool rb156) rfl rfl ?_
  refine wo_nil (tq_n (wk ⟨[(2,vI ax11),(3,.slice (some ⟨n1,0,none⟩) 1 1),(8,vP H101.next 0),(20,.bool rb156)],39,[],H159⟩ rfl ?_))
  rcases f157 with ⟨rfl,f157⟩ | ⟨rfl,f157⟩
  ·
   refine w_cond (t:=true) rfl rfl (fun _ => ?_) (fun h => by cases h)
   refine w_seq (w_region (sv (v:=.agg #[vI rx12112,vI rx13113,vI rx14114,vI rx15115,vI rx16116,vI rx17117,vI rx18118,rs19119,rs20120,.map (some nm134)]) rfl rfl rfl (opv_loadE rfl rfl rfl ag68 sz68 ((k160.get H101.next (by omega)).trans ((f151.get H101.next (by omega)).trans f143.blk)) rfl (.inl rfl) rfl) rfl ?_))
   refine sv_put (H:=H159) (n:=H101.next) (v:=undef) (x:=some (.row #[vI rx12112,vI rx13113,vI rx14114,vI rx15115,vI rx16116,vI rx17117,vI rx18118,rs19119,rs20120,.map (some nm134)] .raw)) rfl rfl rfl rfl (opv_storeC (u:=.agg #[vI rx12112,vI rx13113,vI rx14114,vI rx15115,vI rx16116,vI rx17117,vI rx18118,rs19119,rs20120,.map (some nm134)]) rfl rfl rfl rfl rfl (by simp [undef]) sz68 rfl rfl (leafs_of (l:=[vI rx12112,vI rx13113,vI rx14114,vI rx15115,vI rx16116,vI rx17117,vI rx18118,rs19119,rs20120,.map (some nm134)]) ⟨rfl,rfl,rfl,rfl,rfl,rfl,rfl,vt_one (hv123.mono ((l145.trans l153).trans l161)),vt_one (hv124.mono ((l145.trans l153).trans l161)),rfl,trivial⟩) ((k160.get H101.next (by omega)).trans ((f151.get H101.next (by omega)).trans f143.blk)) rfl rfl) ?_
   intro H163 f164
   refine putL w155 f164 ((k160.get H101.next (by omega)).trans ((f151.get H101.next (by omega)).trans f143.blk)) fun n167 w165 l166 => ?_
   refine mv (vI 4) rfl rfl ?_
   refine wo_nil (tq_n (wk ⟨[(8,vP H101.next 0),(9,vI 4)],39,[],H163⟩ rfl ?_))
   refine w_ret ?_
   try refine q_eq (e':=.ret) rfl ?_
   refine tq_r ?_
   refine ⟨.inr rfl,rfl,[.agg #[vI rx12112,vI rx13113,vI rx14114,vI rx15115,vI rx16116,vI rx17117,vI rx18118,rs19119,rs20120,.map (some nm134)],vI 4],.cons (resV_cellE rfl ag68 sz68 f164.blk rfl (.inl rfl) rfl) (.cons (resV_tmp rfl neI) .nil),(((((((((KeepX.refl (fun _ => False) H).new_ f102).new_ f107).keep k130).put f143 (by first | (right; omega) | (left; (try dsimp only) <;> omega))).new_ f151).keep k160).put f164 (by first | (right; omega) | (left; (try dsimp only) <;> omega))).k (fun _ h => h.elim)),w165,rx12112,rx13113,rx14114,rx15115,rx16116,rx17117,rx18118,rs19119,rs20120,.map (some nm134),4,rfl,hv123.mono (((l145.trans l153).trans l161).trans l166),hv124.mono (((l145.trans l153).trans l161).trans l166),?_,?_,?_⟩
   · intro h; first | (exfalso; revert h; first | decide | omega) | omega
   · exact MV.some
   · exact fun _ => ⟨_,_,_,rfl,by (try dsimp only); omega,by (try dsimp only); omega,(f164.get nm134 (by omega)).trans ((k160.get nm134 (by omega)).trans ((f151.get nm134 (by omega)).trans ((f143.get nm134 (by omega)).trans g139))),hM140⟩
  ·
   refine w_cond (t:=false) rfl rfl (fun h => by cases h) (fun _ => ?_)
   refine w_seq (w_region (mv (vI ax11) rfl rfl ?_))
   refine sv_new (H:=H159) (v:=.slice (some ⟨H159.next,0,none⟩) 1 1) (x:=.row #[vI ax11] .raw) rfl rfl rfl rfl (opv_buildSliceE (vs:=[(0,vI ax11)]) rfl (.cons rfl rfl neI .nil) Try.underlying31 sz3 ze3 rfl (by decide) (by decide) rfl rfl rfl) ?_
   intro H168 f169
   refine newL w155 f169 fun n172 w170 l171 => ?_
   refine sc_ (H:=H168) (vs:=[vI (-50),vI 250,.slice (some ⟨H159.next,0,none⟩) 1 1]) (fv:=.func (.func 30) #[] #[]) rfl rfl rfl rfl rfl rfl (.cons rfl rfl neI (.cons rfl rfl neI (.cons rfl rfl (by simp [undef]) .nil))) rfl ?_
   refine WV.mono (wv_f0 Try.call30 (gas_out_1 ax11 (-50) 250 H159.next _ w170 f169.blk (by omega))) ?_
   rintro v176 H177 ⟨k178,w173,rb174,rfl,f175⟩
   refine kpL k178 fun n180 l179 => ?_
   refine mv (.bool rb174) rfl rfl ?_
   rcases f175 with ⟨rfl,f175⟩ | ⟨rfl,f175⟩
   ·
    refine ss rfl (wants_g rfl rfl rfl rfl rfl) rfl rfl ?_
    refine ss rfl (wants_g rfl rfl rfl rfl rfl) rfl rfl ?_
    refine sv (v:=.bool true) rfl rfl rfl (opv_pick (b:=true) rfl rfl rfl rfl rfl rfl) rfl ?_
    refine mv (.bool true) rfl rfl ?_
    refine wo_nil (tq_n (wk ⟨[(8,vP H101.next 0),(29,.bool true)],39,[],H177⟩ rfl ?_))
    refine w_cond (t:=true) rfl rfl (fun _ => ?_) (fun h => by cases h)
    refine w_seq (w_region (sv (v:=.agg #[vI rx12112,vI rx13113,vI rx14114,vI rx15115,vI rx16116,vI rx17117,vI rx18118,rs19119,rs20120,.map (some nm134)]) rfl rfl rfl (opv_loadE rfl rfl rfl ag68 sz68 ((k178.get H101.next (by omega)).trans ((f169.get H101.next (by omega)).trans ((k160.get H101.next (by omega)).trans ((f151.get H101.next (by omega)).trans f143.blk)))) rfl (.inl rfl) rfl) rfl ?_))
    refine sv_put (H:=H177) (n:=H101.next) (v:=undef) (x:=some (.row #[vI rx12112,vI rx13113,vI rx14114,vI rx15115,vI rx16116,vI rx17117,vI rx18118,rs19119,rs20120,.map (some nm134)] .raw)) rfl rfl rfl rfl (opv_storeC (u:=.agg #[vI rx12112,vI rx13113,vI rx14114,vI rx15115,vI rx16116,vI rx17117,vI rx18118,rs19119,rs20120,.map (some nm134)]) rfl rfl rfl rfl rfl (by simp [undef]) sz68 rfl rfl (leafs_of (l:=[vI rx12112,vI rx13113,vI rx14114,vI rx15115,vI rx16116,vI rx17117,vI rx18118,rs19119,rs20120,.map (some nm134)]) ⟨rfl,rfl,rfl,rfl,rfl,rfl,rfl,vt_one (hv123.mono ((((l145.trans l153).trans l161).trans l171).trans l179)),vt_one (hv124.mono ((((l145.trans l153).trans l161).trans l171).trans l179)),rfl,trivial⟩) ((k178.get H101.next (by omega)).trans ((f169.get H101.next (by omega)).trans ((k160.get H101.next (by omega)).trans ((f151.get H101.next (by omega)).trans f143.blk)))) rfl rfl) ?_
    intro H181 f182
    refine putL w173 f182 ((k178.get H101.next (by omega)).trans ((f169.get H101.next (by omega)).trans ((k160.get H101.next (by omega)).trans ((f151.get H101.next (by omega)).trans f143.blk)))) fun n185 w183 l184 => ?_
    refine mv (vI 7) rfl rfl ?_
    refine wo_nil (tq_n (wk ⟨[(8,vP H101.next 0),(9,vI 7)],39,[],H181⟩ rfl ?_))
    refine w_ret ?_
    try refine q_eq (e':=.ret) rfl ?_
    refine tq_r ?_
    refine ⟨.inr rfl,rfl,[.agg #[vI rx12112,vI rx13113,vI rx14114,vI rx15115,vI rx16116,vI rx17117,vI rx18118,rs19119,rs20120,.map (some nm134)],vI 7],.cons (resV_cellE rfl ag68 sz68 f182.blk rfl (.inl rfl) rfl) (.cons (resV_tmp rfl neI) .nil),(((((((((((KeepX.refl (fun _ => False) H).new_ f102).new_ f107).keep k130).put f143 (by first | (right; omega) | (left; (try dsimp only) <;> omega))).new_ f151).keep k160).new_ f169).keep k178).put f182 (by first | (right; omega) | (left; (try dsimp only) <;> omega))).k (fun _ h => h.elim)),w183,rx12112,rx13113,rx14114,rx15115,rx16116,rx17117,rx18118,rs19119,rs20120,.map (some nm134),7,rfl,hv123.mono (((((l145.trans l153).trans l161).trans l171).trans l179).trans l184),hv124.mono (((((l145.trans l153).trans l161).trans l171).trans l179).trans l184),?_,?_,?_⟩
    · intro h; first | (exfalso; revert h; first | decide | omega) | omega
    · exact MV.some
    · exact fun _ => ⟨_,_,_,rfl,by (try dsimp only); omega,by (try dsimp only); omega,(f182.get nm134 (by omega)).trans ((k178.get nm134 (by omega)).trans ((f169.get nm134 (by omega)).trans ((k160.get nm134 (by omega)).trans ((f151.get nm134 (by omega)).trans ((f143.get nm134 (by omega)).trans g139))))),hM140⟩
   ·
    refine sv (v:=.slice (some ⟨n1,0,none⟩) 1 1) rfl (wants_g rfl rfl rfl rfl rfl) rfl (opv_move (.inl rfl) rfl rfl) rfl ?_
    refine sc_ (H:=H177) (vs:=[vI 0,vI 60,.slice (some ⟨n1,0,none⟩) 1 1]) (fv:=.func (.func 30) #[] #[]) rfl (wants_g rfl rfl rfl rfl rfl) rfl rfl rfl rfl (.cons rfl rfl neI (.cons rfl rfl neI (.cons rfl rfl (by simp [undef]) .nil))) rfl ?_
    refine WV.mono (wv_f0 Try.call30 (gas_out_1 m0 0 60 n1 _ w173 ((k178.get n1 (by omega)).trans ((f169.get n1 (by omega)).trans ((k160.get n1 (by omega)).trans ((f151.get n1 (by omega)).trans ((f143.get n1 (by omega)).trans ((k130.get n1 (by omega)).trans ((f107.get n1 (by omega)).trans ((f102.get n1 (by omega)).trans hkn1)))))))) (by omega))) ?_
    rintro v189 H190 ⟨k191,w186,rb187,rfl,f188⟩
    refine kpL k191 fun n193 l192 => ?_
    refine sv (v:=.bool rb187) rfl rfl rfl (opv_pick (b:=false) rfl rfl rfl rfl rfl rfl) rfl ?_
    refine mv (.bool rb187) rfl rfl ?_
    refine wo_nil (tq_n (wk ⟨[(8,vP H101.next 0),(29,.bool rb187)],39,[],H190⟩ rfl ?_))
    rcases f188 with ⟨rfl,f188⟩ | ⟨rfl,f188⟩
    ·
     refine w_cond (t:=true) rfl rfl (fun _ => ?_) (fun h => by cases h)
     refine w_seq (w_region (sv (v:=.agg #[vI rx12112,vI rx13113,vI rx14114,vI rx15115,vI rx16116,vI rx17117,vI rx18118,rs19119,rs20120,.map (some nm134)]) rfl rfl rfl (opv_loadE rfl rfl rfl ag68 sz68 ((k191.get H101.next (by omega)).trans ((k178.get H101.next (by omega)).trans ((f169.get H101.next (by omega)).trans ((k160.get H101.next (by omega)).trans ((f151.get H101.next (by omega)).trans f143.blk))))) rfl (.inl rfl) rfl) rfl ?_))
     refine sv_put (H:=H190) (n:=H101.next) (v:=undef) (x:=some (.row #[vI rx12112,vI rx13113,vI rx14114,vI rx15115,vI rx16116,vI rx17117,vI rx18118,rs19119,rs20120,.map (some nm134)] .raw)) rfl rfl rfl rfl (opv_storeC (u:=.agg #[vI rx12112,vI rx13113,vI rx14114,vI rx15115,vI rx16116,vI rx17117,vI rx18118,rs19119,rs20120,.map (some nm134)]) rfl rfl rfl rfl rfl (by simp [undef]) sz68 rfl rfl (leafs_of (l:=[vI rx12112,vI rx13113,vI rx14114,vI rx15115,vI rx16116,vI rx17117,vI rx18118,rs19119,rs20120,.map (some nm134)]) ⟨rfl,rfl,rfl,rfl,rfl,rfl,rfl,vt_one (hv123.mono (((((l145.trans l153).trans l161).trans l171).trans l179).trans l192)),vt_one (hv124.mono (((((l145.trans l153).trans l161).trans l171).trans l179).trans l192)),rfl,trivial⟩) ((k191.get H101.next (by omega)).trans ((k178.get H101.next (by omega)).trans ((f169.get H101.next (by omega)).trans ((k160.get H101.next (by omega)).trans ((f151.get H101.next (by omega)).trans f143.blk))))) rfl rfl) ?_
     intro H194 f195
     refine putL w186 f195 ((k191.get H101.next (by omega)).trans ((k178.get H101.next (by omega)).trans ((f169.get H101.next (by omega)).trans ((k160.get H101.next (by omega)).trans ((f151.get H101.next (by omega)).trans f143.blk))))) fun n198 w196 l197 => ?_
     refine mv (vI 7) rfl rfl ?_
     refine wo_nil (tq_n (wk ⟨[(8,vP H101.next 0),(9,vI 7)],39,[],H194⟩ rfl ?_))
     refine w_ret ?_
     try refine q_eq (e':=.ret) rfl ?_
     refine tq_r ?_
     refine ⟨.inr rfl,rfl,[.agg #[vI rx12112,vI rx13113,vI rx14114,vI rx15115,vI rx16116,vI rx17117,vI rx18118,rs19119,rs20120,.map (some nm134)],vI 7],.cons (resV_cellE rfl ag68 sz68 f195.blk rfl (.inl rfl) rfl) (.cons (resV_tmp rfl neI) .nil),((((((((((((KeepX.refl (fun _ => False) H).new_ f102).new_ f107).keep k130).put f143 (by first | (right; omega) | (left; (try dsimp only) <;> omega))).new_ f151).keep k160).new_ f169).keep k178).keep k191).put f195 (by first | (right; omega) | (left; (try dsimp only) <;> omega))).k (fun _ h => h.elim)),w196,rx12112,rx13113,rx14114,rx15115,rx16116,rx17117,rx18118,rs19119,rs20120,.map (some nm134),7,rfl,hv123.mono ((((((l145.trans l153).trans l161).trans l171).trans l179).trans l192).trans l197),hv124.mono ((((((l145.trans l153).trans l161).trans l171).trans l179).trans l192).trans l197),?_,?_,?_⟩
     · intro h; first | (exfalso; revert h; first | decide | omega) | omega
     · exact MV.some
     · exact fun _ => ⟨_,_,_,rfl,by (try dsimp only); omega,by (try dsimp only); omega,(f195.get nm134 (by omega)).trans ((k191.get nm134 (by omega)).trans ((k178.get nm134 (by omega)).trans ((f169.get nm134 (by omega)).trans ((k160.get nm134 (by omega)).trans ((f151.get nm134 (by omega)).trans ((f143.get nm134 (by omega)).trans g139)))))),hM140⟩
    ·
     refine w_cond (t:=false) rfl rfl (fun h => by cases h) (fun _ => ?_)
     refine w_skip ?_
     try refine q_eq (e':=.normal) rfl ?_
     refine tqk ⟨[(8,vP H101.next 0)],39,[],H190⟩ rfl ?_
     refine w_seq (w_region (sv (v:=.agg #[vI rx12112,vI rx13113,vI rx14114,vI rx15115,vI rx16116,vI rx17117,vI rx18118,rs19119,rs20120,.map (some nm134)]) rfl rfl rfl (opv_loadE rfl rfl rfl ag68 sz68 ((k191.get H101.next (by omega)).trans ((k178.get H101.next (by omega)).trans ((f169.get H101.next (by omega)).trans ((k160.get H101.next (by omega)).trans ((f151.get H101.next (by omega)).trans f143.blk))))) rfl (.inl rfl) rfl) rfl ?_))
     refine sv_put (H:=H190) (n:=H101.next) (v:=undef) (x:=some (.row #[vI rx12112,vI rx13113,vI rx14114,vI rx15115,vI rx16116,vI rx17117,vI rx18118,rs19119,rs20120,.map (some nm134)] .raw)) rfl rfl rfl rfl (opv_storeC (u:=.agg #[vI rx12112,vI rx13113,vI rx14114,vI rx15115,vI rx16116,vI rx17117,vI rx18118,rs19119,rs20120,.map (some nm134)]) rfl rfl rfl rfl rfl (by simp [undef]) sz68 rfl rfl (leafs_of (l:=[vI rx12112,vI rx13113,vI rx14114,vI rx15115,vI rx16116,vI rx17117,vI rx18118,rs19119,rs20120,.map (some nm134)]) ⟨rfl,rfl,rfl,rfl,rfl,rfl,rfl,vt_one (hv123.mono (((((l145.trans l153).trans l161).trans l171).trans l179).trans l192)),vt_one (hv124.mono (((((l145.trans l153).trans l161).trans l171).trans l179).trans l192)),rfl,trivial⟩) ((k191.get H101.next (by omega)).trans ((k178.get H101.next (by omega)).trans ((f169.get H101.next (by omega)).trans ((k160.get H101.next (by omega)).trans ((f151.get H101.next (by omega)).trans f143.blk))))) rfl rfl) ?_
     intro H199 f200
     refine putL w186 f200 ((k191.get H101.next (by omega)).trans ((k178.get H101.next (by omega)).trans ((f169.get H101.next (by omega)).trans ((k160.get H101.next (by omega)).trans ((f151.get H101.next (by omega)).trans f143.blk))))) fun n203 w201 l202 => ?_
     refine mv (vI 0) rfl rfl ?_
     refine wo_nil (tq_n (wk ⟨[(8,vP H101.next 0),(9,vI 0)],39,[],H199⟩ rfl ?_))
     refine w_ret ?_
     refine ⟨.inr rfl,rfl,[.agg #[vI rx12112,vI rx13113,vI rx14114,vI rx15115,vI rx16116,vI rx17117,vI rx18118,rs19119,rs20120,.map (some nm134)],vI 0],.cons (resV_cellE rfl ag68 sz68 f200.blk rfl (.inl rfl) rfl) (.cons (resV_tmp rfl neI) .nil),((((((((((((KeepX.refl (fun _ => False) H).new_ f102).new_ f107).keep k130).put f143 (by first | (right; omega) | (left; (try dsimp only) <;> omega))).new_ f151).keep k160).new_ f169).keep k178).keep k191).put f200 (by first | (right; omega) | (left; (try dsimp only) <;> omega))).k (fun _ h => h.elim)),w201,rx12112,rx13113,rx14114,rx15115,rx16116,rx17117,rx18118,rs19119,rs20120,.map (some nm134),0,rfl,hv123.mono ((((((l145.trans l153).trans l161).trans l171).trans l179).trans l192).trans l202),hv124.mono ((((((l145.trans l153).trans l161).trans l171).trans l179).trans l192).trans l202),?_,?_,?_⟩
     · intro h; first | (exfalso; revert h; first | decide | omega) | omega
     · exact MV.some
     · exact fun _ => ⟨_,_,_,rfl,by (try dsimp only); omega,by (try dsimp only); omega,(f200.get nm134 (by omega)).trans ((k191.get nm134 (by omega)).trans ((k178.get nm134 (by omega)).trans ((f169.get nm134 (by omega)).trans ((k160.get nm134 (by omega)).trans ((f151.get nm134 (by omega)).trans ((f143.get nm134 (by omega)).trans g139)))))),hM140⟩
 ·
  refine mv (.tuple #[.agg #[vI rx12112,vI rx13113,vI rx14114,vI rx15115,vI rx16116,vI rx17117,vI rx18118,rs19119,rs20120,rm121],vI re122]) rfl rfl ?_
  refine sv (v:=.agg #[vI rx12112,vI rx13113,vI rx14114,vI rx15115,vI rx16116,vI rx17117,vI rx18118,rs19119,rs20120,rm121]) rfl rfl rfl (opv_extract rfl rfl rfl rfl) rfl ?_
  refine sv (v:=vI re122) rfl rfl rfl (opv_extract rfl rfl rfl rfl) rfl ?_
  refine sv_put (H:=H129) (n:=H101.next) (v:=undef) (x:=some (.row #[vI rx12112,vI rx13113,vI rx14114,vI rx15115,vI rx16116,vI rx17117,vI rx18118,rs19119,rs20120,rm121] .raw)) rfl rfl rfl rfl (opv_storeC (u:=.agg #[vI rx12112,vI rx13113,vI rx14114,vI rx15115,vI rx16116,vI rx17117,vI rx18118,rs19119,rs20120,rm121]) rfl rfl rfl rfl rfl (by simp [undef]) sz68 rfl rfl (leafs_of (l:=[vI rx12112,vI rx13113,vI rx14114,vI rx15115,vI rx16116,vI rx17117,vI rx18118,rs19119,rs20120,rm121]) ⟨rfl,rfl,rfl,rfl,rfl,rfl,rfl,vt_one hv123,vt_one hv124,MV.one f126,trivial⟩) ((k130.get H101.next (by omega)).trans f107.blk) rfl rfl) ?_
  intro H204 f205
  refine putL w111 f205 ((k130.get H101.next (by omega)).trans f107.blk) fun n208 w206 l207 => ?_
  refine mv (vI re122) rfl rfl ?_
  refine wo_nil (tq_n (wk ⟨[(1,vI ax10),(2,vI ax11),(3,.slice (some ⟨n1,0,none⟩) 1 1),(4,vP H.next 0),(8,vP H101.next 0),(9,vI re122)],39,[],H204⟩ rfl ?_))
  refine w_seq (w_block (w_seq (w_region (mv (vI re122) rfl rfl ?_))))
  by_cases c209:re122=0
  ·
   refine sv (v:=.bool false) rfl rfl rfl (opv_bin rfl rfl rfl rfl rfl (neF c209)) rfl ?_
   refine mv (.bool false) rfl rfl ?_
   refine wo_nil (tq_n (wk ⟨[(1,vI ax10),(2,vI ax11),(3,.slice (some ⟨n1,0,none⟩) 1 1),(4,vP H.next 0),(8,vP H101.next 0),(9,vI re122),(15,.bool false)],39,[],H204⟩ rfl ?_))
   refine w_cond (t:=false) rfl rfl (fun h => by cases h) (fun _ => ?_)
   refine w_seq (w_region (sv (v:=vP H.next 8) rfl rfl rfl (opv_fieldAddrE rfl rfl rfl Try.underlying27 rfl sz25 (by decide) rfl) rfl ?_))
   refine sv (v:=as9) rfl rfl rfl (opv_loadE rfl rfl rfl ag25 sz25 ((f205.get H.next (by omega)).trans ((k130.get H.next (by omega)).trans ((f107.get H.next (by omega)).trans f102.blk))) rfl (.inr rfl) rfl) rfl ?_
   have c210:slen as9 ≤ 1073741824:=vt_lim (hvas9.mono (((l104.trans l109).trans l131).trans l207))
   refine sv (v:=(vI (slen as9:Int))) rfl rfl rfl (t_len (hvas9.mono (((l104.trans l109).trans l131).trans l207)) rfl rfl rfl Try.underlying25) rfl ?_
   refine sv_int rfl rfl rfl (opv_bin rfl rfl rfl rfl rfl rfl) ?_
   intro x211 h212
   try replace h212:x211=(slen as9:Int) - 1:=wr_ex h212 (by omega) (by omega)
   refine mv (vI ax10) rfl rfl ?_
   refine sv_new (H:=H204) (v:=.slice (some ⟨H204.next,0,none⟩) 1 1) (x:=.row #[vI ax10] .raw) rfl rfl rfl rfl (opv_buildSliceE (vs:=[(0,vI ax10)]) rfl (.cons rfl rfl neI .nil) Try.underlying31 sz3 ze3 rfl (by decide) (by decide) rfl rfl rfl) ?_
   intro H213 f214
   refine newL w206 f214 fun n217 w215 l216 => ?_
   refine sc_ (H:=H213) (vs:=[vI 0,vI x211,.slice (some ⟨H204.next,0,none⟩) 1 1]) (fv:=.func (.func 30) #[] #[]) rfl rfl rfl rfl rfl rfl (.cons rfl rfl neI (.cons rfl rfl neI (.cons rfl rfl (by simp [undef]) .nil))) rfl ?_
   refine WV.mono (wv_f0 Try.call30 (gas_out_1 ax10 0 x211 H204.next _ w215 f214.blk (by omega))) ?_
   rintro v221 H222 ⟨k223,w218,rb219,rfl,f220⟩
   refine kpL k223 fun n225 l224 => ?_
   refine mv (.bool rb219) rfl rfl ?_
   refine wo_nil (tq_n (wk ⟨[(2,vI ax11),(3,.slice (some ⟨n1,0,none⟩) 1 1),(8,vP H101.next 0),(20,.bool rb219)],39,[],H222⟩ rfl ?_))
   rcases f220 with ⟨rfl,f220⟩ | ⟨rfl,f220⟩
   ·
    refine w_cond (t:=true) rfl rfl (fun _ => ?_) (fun h => by cases h)
    refine w_seq (w_region (sv (v:=.agg #[vI rx12112,vI rx13113,vI rx14114,vI rx15115,vI rx16116,vI rx17117,vI rx18118,rs19119,rs20120,rm121]) rfl rfl rfl (opv_loadE rfl rfl rfl ag68 sz68 ((k223.get H101.next (by omega)).trans ((f214.get H101.next (by omega)).trans f205.blk)) rfl (.inl rfl) rfl) rfl ?_))
    refine sv_put (H:=H222) (n:=H101.next) (v:=undef) (x:=some (.row #[vI rx12112,vI rx13113,vI rx14114,vI rx15115,vI rx16116,vI rx17117,vI rx18118,rs19119,rs20120,rm121] .raw)) rfl rfl rfl rfl (opv_storeC (u:=.agg #[vI rx12112,vI rx13113,vI rx14114,vI rx15115,vI rx16116,vI rx17117,vI rx18118,rs19119,rs20120,rm121]) rfl rfl rfl rfl rfl (by simp [undef]) sz68 rfl rfl (leafs_of (l:=[vI rx12112,vI rx13113,vI rx14114,vI rx15115,vI rx16116,vI rx17117,vI rx18118,rs19119,rs20120,rm121]) ⟨rfl,rfl,rfl,rfl,rfl,rfl,rfl,vt_one (hv123.mono ((l207.trans l216).trans l224)),vt_one (hv124.mono ((l207.trans l216).trans l224)),MV.one f126,trivial⟩) ((k223.get H101.next (by omega)).trans ((f214.get H101.next (by omega)).trans f205.blk)) rfl rfl) ?_
    intro H226 f227
    refine putL w218 f227 ((k223.get H101.next (by omega)).trans ((f214.get H101.next (by omega)).trans f205.blk)) fun n230 w228 l229 => ?_
    refine mv (vI 4) rfl rfl ?_
    refine wo_nil (tq_n (wk ⟨[(8,vP H101.next 0),(9,vI 4)],39,[],H226⟩ rfl ?_))
    refine w_ret ?_
    try refine q_eq (e':=.ret) rfl ?_
    refine tq_r ?_
    refine ⟨.inr rfl,rfl,[.agg #[vI rx12112,vI rx13113,vI rx14114,vI rx15115,vI rx16116,vI rx17117,vI rx18118,rs19119,rs20120,rm121],vI 4],.cons (resV_cellE rfl ag68 sz68 f227.blk rfl (.inl rfl) rfl) (.cons (resV_tmp rfl neI) .nil),(((((((((KeepX.refl (fun _ => False) H).new_ f102).new_ f107).keep k130).put f205 (by first | (right; omega) | (left; (try dsimp only) <;> omega))).new_ f214).keep k223).put f227 (by first | (right; omega) | (left; (try dsimp only) <;> omega))).k (fun _ h => h.elim)),w228,rx12112,rx13113,rx14114,rx15115,rx16116,rx17117,rx18118,rs19119,rs20120,rm121,4,rfl,hv123.mono (((l207.trans l216).trans l224).trans l229),hv124.mono (((l207.trans l216).trans l224).trans l229),?_,?_,?_⟩
    · intro h; first | (exfalso; revert h; first | decide | omega) | omega
    · exact f126
    · intro h; exfalso; revert h; first | decide | omega
   ·
    refine w_cond (t:=false) rfl rfl (fun h => by cases h) (fun _ => ?_)
    refine w_seq (w_region (mv (vI ax11) rfl rfl ?_))
    refine sv_new (H:=H222) (v:=.slice (some ⟨H222.next,0,none⟩) 1 1) (x:=.row #[vI ax11] .raw) rfl rfl rfl rfl (opv_buildSliceE (vs:=[(0,vI ax11)]) rfl (.cons rfl rfl neI .nil) Try.underlying31 sz3 ze3 rfl (by decide) (by decide) rfl rfl rfl) ?_
    intro H231 f232
    refine newL w218 f232 fun n235 w233 l234 => ?_
    refine sc_ (H:=H231) (vs:=[vI (-50),vI 250,.slice (some ⟨H222.next,0,none⟩) 1 1]) (fv:=.func (.func 30) #[] #[]) rfl rfl rfl rfl rfl rfl (.cons rfl rfl neI (.cons rfl rfl neI (.cons rfl rfl (by simp [undef]) .nil))) rfl ?_
    refine WV.mono (wv_f0 Try.call30 (gas_out_1 ax11 (-50) 250 H222.next _ w233 f232.blk (by omega))) ?_
    rintro v239 H240 ⟨k241,w236,rb237,rfl,f238⟩
    refine kpL k241 fun n243 l242 => ?_
    refine mv (.bool rb237) rfl rfl ?_
    rcases f238 with ⟨rfl,f238⟩ | ⟨rfl,f238⟩
    ·
     refine ss rfl (wants_g rfl rfl rfl rfl rfl) rfl rfl ?_
     refine ss rfl (wants_g rfl rfl rfl rfl rfl) rfl rfl ?_
     refine sv (v:=.bool true) rfl rfl rfl (opv_pick (b:=true) rfl rfl rfl rfl rfl rfl) rfl ?_
     refine mv (.bool true) rfl rfl ?_
     refine wo_nil (tq_n (wk ⟨[(8,vP H101.next 0),(29,.bool true)],39,[],H240⟩ rfl ?_))
     refine w_cond (t:=true) rfl rfl (fun _ => ?_) (fun h => by cases h)
     refine w_seq (w_region (sv (v:=.agg #[vI rx12112,vI rx13113,vI rx14114,vI rx15115,vI rx16116,vI rx17117,vI rx18118,rs19119,rs20120,rm121]) rfl rfl rfl (opv_loadE rfl rfl rfl ag68 sz68 ((k241.get H101.next (by omega)).trans ((f232.get H101.next (by omega)).trans ((k223.get H101.next (by omega)).trans ((f214.get H101.next (by omega)).trans f205.blk)))) rfl (.inl rfl) rfl) rfl ?_))
     refine sv_put (H:=H240) (n:=H101.next) (v:=undef) (x:=some (.row #[vI rx12112,vI rx13113,vI rx14114,vI rx15115,vI rx16116,vI rx17117,vI rx18118,rs19119,rs20120,rm121] .raw)) rfl rfl rfl rfl (opv_storeC (u:=.agg #[vI rx12112,vI rx13113,vI rx14114,vI rx15115,vI rx16116,vI rx17117,vI rx18118,rs19119,rs20120,rm121]) rfl rfl rfl rfl rfl (by simp [undef]) sz68 rfl rfl (leafs_of (l:=[vI rx12112,vI rx13113,vI rx14114,vI rx15115,vI rx16116,vI rx17117,vI rx18118,rs19119,rs20120,rm121]) ⟨rfl,rfl,rfl,rfl,rfl,rfl,rfl,vt_one (hv123.mono ((((l207.trans l216).trans l224).trans l234).trans l242)),vt_one (hv124.mono ((((l207.trans l216).trans l224).trans l234).trans l242)),MV.one f126,trivial⟩) ((k241.get H101.next (by omega)).trans ((f232.get H101.next (by omega)).trans ((k223.get H101.next (by omega)).trans ((f214.get H101.next (by omega)).trans f205.blk)))) rfl rfl) ?_
     intro H244 f245
     refine putL w236 f245 ((k241.get H101.next (by omega)).trans ((f232.get H101.next (by omega)).trans ((k223.get H101.next (by omega)).trans ((f214.get H101.next (by omega)).trans f205.blk)))) fun n248 w246 l247 => ?_
     refine mv (vI 7) rfl rfl ?_
     refine wo_nil (tq_n (wk ⟨[(8,vP H101.next 0),(9,vI 7)],39,[],H244⟩ rfl ?_))
     refine w_ret ?_
     try refine q_eq (e':=.ret) rfl ?_
     refine tq_r ?_
     refine ⟨.inr rfl,rfl,[.agg #[vI rx12112,vI rx13113,vI rx14114,vI rx15115,vI rx16116,vI rx17117,vI rx18118,rs19119,rs20120,rm121],vI 7],.cons (resV_cellE rfl ag68 sz68 f245.blk rfl (.inl rfl) rfl) (.cons (resV_tmp rfl neI) .nil),(((((((((((KeepX.refl (fun _ => False) H).new_ f102).new_ f107).keep k130).put f205 (by first | (right; omega) | (left; (try dsimp only) <;> omega))).new_ f214).keep k223).new_ f232).keep k241).put f245 (by first | (right; omega) | (left; (try dsimp only) <;> omega))).k (fun _ h => h.elim)),w246,rx12112,rx13113,rx14114,rx15115,rx16116,rx17117,rx18118,rs19119,rs20120,rm121,7,rfl,hv123.mono (((((l207.trans l216).trans l224).trans l234).trans l242).trans l247),hv124.mono (((((l207.trans l216).trans l224).trans l234).trans l242).trans l247),?_,?_,?_⟩
     · intro h; first | (exfalso; revert h; first | decide | omega) | omega
     · exact f126
     · intro h; exfalso; revert h; first | decide | omega
    ·
     refine sv (v:=.slice (some ⟨n1,0,none⟩) 1 1) rfl (wants_g rfl rfl rfl rfl rfl) rfl (opv_move (.inl rfl) rfl rfl) rfl ?_
     refine sc_ (H:=H240) (vs:=[vI 0,vI 60,.slice (some ⟨n1,0,none⟩) 1 1]) (fv:=.func (.func 30) #[] #[]) rfl (wants_g rfl rfl rfl rfl rfl) rfl rfl rfl rfl (.cons rfl rfl neI (.cons rfl rfl neI (.cons rfl rfl (by simp [undef]) .nil))) rfl ?_
     refine WV.mono (wv_f0 Try.call30 (gas_out_1 m0 0 60 n1 _ w236 ((k241.get n1 (by omega)).trans ((f232.get n1 (by omega)).trans ((k223.get n1 (by omega)).trans ((f214.get n1 (by omega)).trans ((f205.get n1 (by omega)).trans ((k130.get n1 (by omega)).trans ((f107.get n1 (by omega)).trans ((f102.get n1 (by omega)).trans hkn1)))))))) (by omega))) ?_
     rintro v252 H253 ⟨k254,w249,rb250,rfl,f251⟩
     refine kpL k254 fun n256 l255 => ?_
     refine sv (v:=.bool rb250) rfl rfl rfl (opv_pick (b:=false) rfl rfl rfl rfl rfl rfl) rfl ?_
     refine mv (.bool rb250) rfl rfl ?_
     refine wo_nil (tq_n (wk ⟨[(8,vP H101.next 0),(29,.bool rb250)],39,[],H253⟩ rfl ?_))
     rcases f251 with ⟨rfl,f251⟩ | ⟨rfl,f251⟩
     ·
      refine w_cond (t:=true) rfl rfl (fun _ => ?_) (fun h => by cases h)
      refine w_seq (w_region (sv (v:=.agg #[vI rx12112,vI rx13113,vI rx14114,vI rx15115,vI rx16116,vI rx17117,vI rx18118,rs19119,rs20120,rm121]) rfl rfl rfl (opv_loadE rfl rfl rfl ag68 sz68 ((k254.get H101.next (by omega)).trans ((k241.get H101.next (by omega)).trans ((f232.get H101.next (by omega)).trans ((k223.get H101.next (by omega)).trans ((f214.get H101.next (by omega)).trans f205.blk))))) rfl (.inl rfl) rfl) rfl ?_))
      refine sv_put (H:=H253) (n:=H101.next) (v:=undef) (x:=some (.row #[vI rx12112,vI rx13113,vI rx14114,vI rx15115,vI rx16116,vI rx17117,vI rx18118,rs19119,rs20120,rm121] .raw)) rfl rfl rfl rfl (opv_storeC (u:=.agg #[vI rx12112,vI rx13113,vI rx14114,vI rx15115,vI rx16116,vI rx17117,vI rx18118,rs19119,rs20120,rm121]) rfl rfl rfl rfl rfl (by simp [undef]) sz68 rfl rfl (leafs_of (l:=[vI rx12112,vI rx13113,vI rx14114,vI rx15115,vI rx16116,vI rx17117,vI rx18118,rs19119,rs20120,rm121]) ⟨rfl,rfl,rfl,rfl,rfl,rfl,rfl,vt_one (hv123.mono (((((l207.trans l216).trans l224).trans l234).trans l242).trans l255)),vt_one (hv124.mono (((((l207.trans l216).trans l224).trans l234).trans l242).trans l255)),MV.one f126,trivial⟩) ((k254.get H101.next (by omega)).trans ((k241.get H101.next (by omega)).trans ((f232.get H101.next (by omega)).trans ((k223.get H101.next (by omega)).trans ((f214.get H101.next (by omega)).trans f205.blk))))) rfl rfl) ?_
      intro H257 f258
      refine putL w249 f258 ((k254.get H101.next (by omega)).trans ((k241.get H101.next (by omega)).trans ((f232.get H101.next (by omega)).trans ((k223.get H101.next (by omega)).trans ((f214.get H101.next (by omega)).trans f205.blk))))) fun n261 w259 l260 => ?_
      refine mv (vI 7) rfl rfl ?_
      refine wo_nil (tq_n (wk ⟨[(8,vP H101.next 0),(9,vI 7)],39,[],H257⟩ rfl ?_))
      refine w_ret ?_
      try refine q_eq (e':=.ret) rfl ?_
      refine tq_r ?_
      refine ⟨.inr rfl,rfl,[.agg #[vI rx12112,vI rx13113,vI rx14114,vI rx15115,vI rx16116,vI rx17117,vI rx18118,rs19119,rs20120,rm121],vI 7],.cons (resV_cellE rfl ag68 sz68 f258.blk rfl (.inl rfl) rfl) (.cons (resV_tmp rfl neI) .nil),((((((((((((KeepX.refl (fun _ => False) H).new_ f102).new_ f107).keep k130).put f205 (by first | (right; omega) | (left; (try dsimp only) <;> omega))).new_ f214).keep k223).new_ f232).keep k241).keep k254).put f258 (by first | (right; omega) | (left; (try dsimp only) <;> omega))).k (fun _ h => h.elim)),w259,rx12112,rx13113,rx14114,rx15115,rx16116,rx17117,rx18118,rs19119,rs20120,rm121,7,rfl,hv123.mono ((((((l207.trans l216).trans l224).trans l234).trans l242).trans l255).trans l260),hv124.mono ((((((l207.trans l216).trans l224).trans l234).trans l242).trans l255).trans l260),?_,?_,?_⟩
      · intro h; first | (exfalso; revert h; first | decide | omega) | omega
      · exact f126
      · intro h; exfalso; revert h; first | decide | omega
     ·
      refine w_cond (t:=false) rfl rfl (fun h => by cases h) (fun _ => ?_)
      refine w_skip ?_
      try refine q_eq (e':=.normal) rfl ?_
      refine tqk ⟨[(8,vP H101.next 0)],39,[],H253⟩ rfl ?_
      refine w_seq (w_region (sv (v:=.agg #[vI rx12112,vI rx13113,vI rx14114,vI rx15115,vI rx16116,vI rx17117,vI rx18118,rs19119,rs20120,rm121]) rfl rfl rfl (opv_loadE rfl rfl rfl ag68 sz68 ((k254.get H101.next (by omega)).trans ((k241.get H101.next (by omega)).trans ((f232.get H101.next (by omega)).trans ((k223.get H101.next (by omega)).trans ((f214.get H101.next (by omega)).trans f205.blk))))) rfl (.inl rfl) rfl) rfl ?_))
      refine sv_put (H:=H253) (n:=H101.next) (v:=undef) (x:=some (.row #[vI rx12112,vI rx13113,vI rx14114,vI rx15115,vI rx16116,vI rx17117,vI rx18118,rs19119,rs20120,rm121] .raw)) rfl rfl rfl rfl (opv_storeC (u:=.agg #[vI rx12112,vI rx13113,vI rx14114,vI rx15115,vI rx16116,vI rx17117,vI rx18118,rs19119,rs20120,rm121]) rfl rfl rfl rfl rfl (by simp [undef]) sz68 rfl rfl (leafs_of (l:=[vI rx12112,vI rx13113,vI rx14114,vI rx15115,vI rx16116,vI rx17117,vI rx18118,rs19119,rs20120,rm121]) ⟨rfl,rfl,rfl,rfl,rfl,rfl,rfl,vt_one (hv123.mono (((((l207.trans l216).trans l224).trans l234).trans l242).trans l255)),vt_one (hv124.mono (((((l207.trans l216).trans l224).trans l234).trans l242).trans l255)),MV.one f126,trivial⟩) ((k254.get H101.next (by omega)).trans ((k241.get H101.next (by omega)).trans ((f232.get H101.next (by omega)).trans ((k223.get H101.next (by omega)).trans ((f214.get H101.next (by omega)).trans f205.blk))))) rfl rfl) ?_
      intro H262 f263
      refine putL w249 f263 ((k254.get H101.next (by omega)).trans ((k241.get H101.next (by omega)).trans ((f232.get H101.next (by omega)).trans ((k223.get H101.next (by omega)).trans ((f214.get H101.next (by omega)).trans f205.blk))))) fun n266 w264 l265 => ?_
      refine mv (vI 0) rfl rfl ?_
      refine wo_nil (tq_n (wk ⟨[(8,vP H101.next 0),(9,vI 0)],39,[],H262⟩ rfl ?_))
      refine w_ret ?_
      refine ⟨.inr rfl,rfl,[.agg #[vI rx12112,vI rx13113,vI rx14114,vI rx15115,vI rx16116,vI rx17117,vI rx18118,rs19119,rs20120,rm121],vI 0],.cons (resV_cellE rfl ag68 sz68 f263.blk rfl (.inl rfl) rfl) (.cons (resV_tmp rfl neI) .nil),((((((((((((KeepX.refl (fun _ => False) H).new_ f102).new_ f107).keep k130).put f205 (by first | (right; omega) | (left; (try dsimp only) <;> omega))).new_ f214).keep k223).new_ f232).keep k241).keep k254).put f263 (by first | (right; omega) | (left; (try dsimp only) <;> omega))).k (fun _ h => h.elim)),w264,rx12112,rx13113,rx14114,rx15115,rx16116,rx17117,rx18118,rs19119,rs20120,rm121,0,rfl,hv123.mono ((((((l207.trans l216).trans l224).trans l234).trans l242).trans l255).trans l265),hv124.mono ((((((l207.trans l216).trans l224).trans l234).trans l242).trans l255).trans l265),?_,?_,?_⟩
      · intro h; first | (exfalso; revert h; first | decide | omega) | omega
      · exact f126
      · intro h; exfalso; revert h; first | decide | omega
  ·
   refine sv (v:=.bool true) rfl rfl rfl (opv_bin rfl rfl rfl rfl rfl (neT c209)) rfl ?_
   refine mv (.bool true) rfl rfl ?_
   refine wo_nil (tq_n (wk ⟨[(1,vI ax10),(2,vI ax11),(3,.slice (some ⟨n1,0,none⟩) 1 1),(4,vP H.next 0),(8,vP H101.next 0),(9,vI re122),(15,.bool true)],39,[],H204⟩ rfl ?_))
   refine w_cond (t:=true) rfl rfl (fun _ => ?_) (fun h => by cases h)
   refine w_seq (w_region (sv (v:=.agg #[vI rx12112,vI rx13113,vI rx14114,vI rx15115,vI rx16116,vI rx17117,vI rx18118,rs19119,rs20120,rm121]) rfl rfl rfl (opv_loadE rfl rfl rfl ag68 sz68 f205.blk rfl (.inl rfl) rfl) rfl ?_))
   refine mv (vI re122) rfl rfl ?_
   refine sv_put (H:=H204) (n:=H101.next) (v:=undef) (x:=some (.row #[vI rx12112,vI rx13113,vI rx14114,vI rx15115,vI rx16116,vI rx17117,vI rx18118,rs19119,rs20120,rm121] .raw)) rfl rfl rfl rfl (opv_storeC (u:=.agg #[vI rx12112,vI rx13113,vI rx14114,vI rx15115,vI rx16116,vI rx17117,vI rx18118,rs19119,rs20120,rm121]) rfl rfl rfl rfl rfl (by simp [undef]) sz68 rfl rfl (leafs_of (l:=[vI rx12112,vI rx13113,vI rx14114,vI rx15115,vI rx16116,vI rx17117,vI rx18118,rs19119,rs20120,rm121]) ⟨rfl,rfl,rfl,rfl,rfl,rfl,rfl,vt_one (hv123.mono l207),vt_one (hv124.mono l207),MV.one f126,trivial⟩) f205.blk rfl rfl) ?_
   intro H267 f268
   refine putL w206 f268 f205.blk fun n271 w269 l270 => ?_
   refine mv (vI re122) rfl rfl ?_
   refine wo_nil (tq_n (wk ⟨[(8,vP H101.next 0),(9,vI re122)],39,[],H267⟩ rfl ?_))
   refine w_ret ?_
   try refine q_eq (e':=.ret) rfl ?_
   refine tq_r ?_
   refine ⟨.inr rfl,rfl,[.agg #[vI rx12112,vI rx13113,vI rx14114,vI rx15115,vI rx16116,vI rx17117,vI rx18118,rs19119,rs20120,rm121],vI re122],.cons (resV_cellE rfl ag68 sz68 f268.blk rfl (.inl rfl) rfl) (.cons (resV_tmp rfl neI) .nil),(((((((KeepX.refl (fun _ => False) H).new_ f102).new_ f107).keep k130).put f205 (by first | (right; omega) | (left; (try dsimp only) <;> omega))).put f268 (by first | (right; omega) | (left; (try dsimp only) <;> omega))).k (fun _ h => h.elim)),w269,rx12112,rx13113,rx14114,rx15115,rx16116,rx17117,rx18118,rs19119,rs20120,rm121,re122,rfl,hv123.mono (l207.trans l270),hv124.mono (l207.trans l270),?_,?_,?_⟩
   · intro h; first | (exfalso; revert h; first | decide | omega) | omega
   · exact f126
   · intro h; exfalso; revert h; first | decide | omega

theorem gas_tooled2 (ax1 ax2:Int) (ax3 ax4:Int) (ax5 ax6 ax7:Int) (as8 as9:Value) (ax10 ax11:Int) (n1:Nat) (m0 m1:Int) (H:SH) (wt:WT H) (hvas8:VT H (.sl false [.int .i64,.int .i64]) as8) (hvas9:VT H (.sl false [.str,.int .i64]) as9) (hkn1:H.get n1=some (.row #[vI m0,vI m1] .raw)) (hln1:n1 < H.next):WC Try.prog 43 [.agg #[vI ax1,vI ax2,vI ax3,vI ax4,vI ax5,vI ax6,vI ax7,as8,as9],vI ax10,vI ax11,.slice (some ⟨n1,0,none⟩) 2 1] H (fun v H' => Keep H H'∧WT H'∧∃ (rx12 rx13:Int) (rx14 rx15:Int) (rx16 rx17 rx18:Int) (rs19 rs20 rm:Value) (re:Int),v=(.tuple #[.agg #[vI rx12,vI rx13,vI rx14,vI rx15,vI rx16,vI rx17,vI rx18,rs19,rs20,rm],vI re])∧VT H' (.sl false [.int .i64,.int .i64]) rs19∧VT H' (.sl false [.str,.int .i64]) rs20∧(re=0→0 ≤ ax10∧ax10 < (slen rs20:Int)∧0 ≤ m0∧m0 ≤ 60∧0 ≤ m1∧m1 ≤ 60)∧(MV rm)∧(re=0→∃ (n:Nat) (es:Array MapEntry) (c:Nat),rm=.map (some n)∧H.next ≤ n∧n < H'.next∧H'.get n=some (.obj (.map es c))∧MapI (.int .i64) SpQ es)):=by
 refine wc_of_body Try.func43 rfl ?_
 refine wk ⟨[(0,.agg #[vI ax1,vI ax2,vI ax3,vI ax4,vI ax5,vI ax6,vI ax7,as8,as9]),(1,vI ax10),(2,vI ax11),(3,.slice (some ⟨n1,0,none⟩) 2 1)],39,[],H⟩ rfl ?_
 refine w_seq (w_region (sv_new (H:=H) (v:=vP H.next 0) (x:=.row #[vI ax1,vI ax2,vI ax3,vI ax4,vI ax5,vI ax6,vI ax7,as8,as9] .raw) rfl rfl rfl rfl (opv_boxE (v:=.agg #[vI ax1,vI ax2,vI ax3,vI ax4,vI ax5,vI ax6,vI ax7,as8,as9]) rfl rfl rfl (by simp [undef]) rfl) ?_))
 intro H101 f102
 refine newL wt f102 fun n105 w103 l104 => ?_
 refine sv_new (H:=H101) (v:=vP H101.next 0) (x:=.row #[vI 0,vI 0,vI 0,vI 0,vI 0,vI 0,vI 0,.slice none 0 0,.slice none 0 0,.map none] .raw) rfl rfl rfl rfl (opv_alloc rfl ze68 rfl) ?_
 intro H106 f107
 refine newL w103 f107 fun n110 w108 l109 => ?_
 refine mv (vI 0) rfl rfl ?_
 refine wo_nil (tq_n (wk ⟨[(1,vI ax10),(2,vI ax11),(3,.slice (some ⟨n1,0,none⟩) 2 1),(4,vP H.next 0),(8,vP H101.next 0)],39,[],H106⟩ rfl ?_))
 refine w_seq (w_region (sv (v:=.agg #[vI ax1,vI ax2,vI ax3,vI ax4,vI ax5,vI ax6,vI ax7,as8,as9]) rfl rfl rfl (opv_loadE rfl rfl rfl ag27 sz27 ((f107.get H.next (by omega)).trans f102.blk) rfl (.inl rfl) rfl) rfl ?_))
 refine sc_ (H:=H106) (vs:=[.agg #[vI ax1,vI ax2,vI ax3,vI ax4,vI ax5,vI ax6,vI ax7,as8,as9],.slice none 0 0,vI 0]) (fv:=.func (.func 59) #[] #[]) rfl rfl rfl rfl rfl rfl (.cons rfl rfl (by simp [undef]) (.cons rfl rfl (by simp [undef]) (.cons rfl rfl neI .nil))) rfl ?_
 refine WV.mono (wv_f0 Try.call59 (gas_open ax1 ax2 ax3 ax4 ax5 ax6 ax7 as8 as9 (.slice none 0 0) 0 _ w108 (hvas8.mono (l104.trans l109)) (hvas9.mono (l104.trans l109)) (.nil _ _))) ?_
 rintro v128 H129 ⟨k130,w111,rx12112,rx13113,rx14114,rx15115,rx16116,rx17117,rx18118,rs19119,rs20120,rm121,re122,rfl,hv123,hv124,f125,f126,f127⟩
 refine kpL k130 fun n132 l131 => ?_
 by_cases he133:re122=0
 ·
  obtain ⟨nm134,es135,ck136,rfl,g137,g138,g139,hM140⟩:=f127 he133
  obtain rfl:=he133
  have hE141:=congrArg slen (f125 rfl).2.2
  refine mv (.tuple #[.agg #[vI rx12112,vI rx13113,vI rx14114,vI rx15115,vI rx16116,vI rx17117,vI rx18118,rs19119,rs20120,.map (some nm134)],vI 0]) rfl rfl ?_
  refine sv (v:=.agg #[vI rx12112,vI rx13113,vI rx14114,vI rx15115,vI rx16116,vI rx17117,vI rx18118,rs19119,rs20120,.map (some nm134)]) rfl rfl rfl (opv_extract rfl rfl rfl rfl) rfl ?_
  refine sv (v:=vI 0) rfl rfl rfl (opv_extract rfl rfl rfl rfl) rfl ?_
  refine sv_put (H:=H129) (n:=H101.next) (v:=undef) (x:=some (.row #[vI rx12112,vI rx13113,vI rx14114,vI rx15115,vI rx16116,vI rx17117,vI rx18118,rs19119,rs20120,.map (some nm134)] .raw)) rfl rfl rfl rfl (opv_storeC (u:=.agg #[vI rx12112,vI rx13113,vI rx14114,vI rx15115,vI rx16116,vI rx17117,vI rx18118,rs19119,rs20120,.map (some nm134)]) rfl rfl rfl rfl rfl (by simp [undef]) sz68 rfl rfl (leafs_of (l:=[vI rx12112,vI rx13113,vI rx14114,vI rx15115,vI rx16116,vI rx17117,vI rx18118,rs19119,rs20120,.map (some nm134)]) ⟨rfl,rfl,rfl,rfl,rfl,rfl,rfl,vt_one hv123,vt_one hv124,rfl,trivial⟩) ((k130.get H101.next (by omega)).trans f107.blk) rfl rfl) ?_
  intro H142 f143
  refine putL w111 f143 ((k130.get H101.next (by omega)).trans f107.blk) fun n146 w144 l145 => ?_
  refine mv (vI 0) rfl rfl ?_
  refine wo_nil (tq_n (wk ⟨[(1,vI ax10),(2,vI ax11),(3,.slice (some ⟨n1,0,none⟩) 2 1),(4,vP H.next 0),(8,vP H101.next 0),(9,vI 0)],39,[],H142⟩ rfl ?_))
  refine w_seq (w_block (w_seq (w_region (mv (vI 0) rfl rfl ?_))))
  refine sv (v:=.bool false) rfl rfl rfl (opv_bin rfl rfl rfl rfl rfl (neF (by decide))) rfl ?_
  refine mv (.bool false) rfl rfl ?_
  refine wo_nil (tq_n (wk ⟨[(1,vI ax10),(2,vI ax11),(3,.slice (some ⟨n1,0,none⟩) 2 1),(4,vP H.next 0),(8,vP H101.next 0),(9,vI 0),(15,.bool false)],39,[],H142⟩ rfl ?_))
  refine w_cond (t:=false) rfl rfl (fun h => by cases h) (fun _ => ?_)
  refine w_seq (w_region (sv (v:=vP H.next 8) rfl rfl rfl (opv_fieldAddrE rfl rfl rfl Try.underlying27 rfl sz25 (by decide) rfl) rfl ?_))
  refine sv (v:=as9) rfl rfl rfl (opv_loadE rfl rfl rfl ag25 sz25 ((f143.get H.next (by omega)).trans ((k130.get H.next (by omega)).trans ((f107.get H.next (by omega)).trans f102.blk))) rfl (.inr rfl) rfl) rfl ?_
  have c147:slen as9 ≤ 1073741824:=vt_lim (hvas9.mono (((l104.trans l109).trans l131).trans l145))
  refine sv (v:=(vI (slen as9:Int))) rfl rfl rfl (t_len (hvas9.mono (((l104.trans l109).trans l131).trans l145)) rfl rfl rfl Try.underlying25) rfl ?_
  refine sv_int rfl rfl rfl (opv_bin rfl rfl rfl rfl rfl rfl) ?_
  intro x148 h149
  try replace h149:x148=(slen as9:Int) - 1:=wr_ex h149 (by omega) (by omega)
  refine mv (vI ax10) rfl rfl ?_
  refine sv_new (H:=H142) (v:=.slice (some ⟨H142.next,0,none⟩) 1 1) (x:=.row #[vI ax10] .raw) rfl rfl rfl rfl (opv_buildSliceE (vs:=[(0,vI ax10)]) rfl (.cons rfl rfl neI .nil) Try.underlying31 sz3 ze3 rfl (by decide) (by decide) rfl rfl rfl) ?_
  intro H150 f151
  refine newL w144 f151 fun n154 w152 l153 => ?_
  refine sc_ (H:=H150) (vs:=[vI 0,vI x148,.slice (some ⟨H142.next,0,none⟩) 1 1]) (fv:=.func (.func 30) #[] #[]) rfl rfl rfl rfl rfl rfl (.cons rfl rfl neI (.cons rfl rfl neI (.cons rfl rfl (by simp [undef]) .nil))) rfl ?_
  refine WV.mono (wv_f0 Try.call30 (gas_out_1 ax10 0 x148 H142.next _ w152 f151.blk (by omega))) ?_
  rintro v158 H159 ⟨k160,w155,rb156,rfl,f157⟩
  refine kpL k160 fun n162 l161 => ?_
  refine mv (.bool rb156) rfl rfl ?_
  refine wo_nil (tq_n (wk ⟨[(2,vI ax11),(3,.slice (some ⟨n1,0,none⟩) 2 1),(8,vP H101.next 0),(20,.bool rb156)],39,[],H159⟩ rfl ?_))
  rcases f157 with ⟨rfl,f157⟩ | ⟨rfl,f157⟩
  ·
   refine w_cond (t:=true) rfl rfl (fun _ => ?_) (fun h => by cases h)
   refine w_seq (w_region (sv (v:=.agg #[vI rx12112,vI rx13113,vI rx14114,vI rx15115,vI rx16116,vI rx17117,vI rx18118,rs19119,rs20120,.map (some nm134)]) rfl rfl rfl (opv_loadE rfl rfl rfl ag68 sz68 ((k160.get H101.next (by omega)).trans ((f151.get H101.next (by omega)).trans f143.blk)) rfl (.inl rfl) rfl) rfl ?_))
   refine sv_put (H:=H159) (n:=H101.next) (v:=undef) (x:=some (.row #[vI rx12112,vI rx13113,vI rx14114,vI rx15115,vI rx16116,vI rx17117,vI rx18118,rs19119,rs20120,.map (some nm134)] .raw)) rfl rfl rfl rfl (opv_storeC (u:=.agg #[vI rx12112,vI rx13113,vI rx14114,vI rx15115,vI rx16116,vI rx17117,vI rx18118,rs19119,rs20120,.map (some nm134)]) rfl rfl rfl rfl rfl (by simp [undef]) sz68 rfl rfl (leafs_of (l:=[vI rx12112,vI rx13113,vI rx14114,vI rx15115,vI rx16116,vI rx17117,vI rx18118,rs19119,rs20120,.map (some nm134)]) ⟨rfl,rfl,rfl,rfl,rfl,rfl,rfl,vt_one (hv123.mono ((l145.trans l153).trans l161)),vt_one (hv124.mono ((l145.trans l153).trans l161)),rfl,trivial⟩) ((k160.get H101.next (by omega)).trans ((f151.get H101.next (by omega)).trans f143.blk)) rfl rfl) ?_
   intro H163 f164
   refine putL w155 f164 ((k160.get H101.next (by omega)).trans ((f151.get H101.next (by omega)).trans f143.blk)) fun n167 w165 l166 => ?_
   refine mv (vI 4) rfl rfl ?_
   refine wo_nil (tq_n (wk ⟨[(8,vP H101.next 0),(9,vI 4)],39,[],H163⟩ rfl ?_))
   refine w_ret ?_
   try refine q_eq (e':=.ret) rfl ?_
   refine tq_r ?_
   refine ⟨.inr rfl,rfl,[.agg #[vI rx12112,vI rx13113,vI rx14114,vI rx15115,vI rx16116,vI rx17117,vI rx18118,rs19119,rs20120,.map (some nm134)],vI 4],.cons (resV_cellE rfl ag68 sz68 f164.blk rfl (.inl rfl) rfl) (.cons (resV_tmp rfl neI) .nil),(((((((((KeepX.refl (fun _ => False) H).new_ f102).new_ f107).keep k130).put f143 (by first | (right; omega) | (left; (try dsimp only) <;> omega))).new_ f151).keep k160).put f164 (by first | (right; omega) | (left; (try dsimp only) <;> omega))).k (fun _ h => h.elim)),w165,rx12112,rx13113,rx14114,rx15115,rx16116,rx17117,rx18118,rs19119,rs20120,.map (some nm134),4,rfl,hv123.mono (((l145.trans l153).trans l161).trans l166),hv124.mono (((l145.trans l153).trans l161).trans l166),?_,?_,?_⟩
   · intro h; first | (exfalso; revert h; first | decide | omega) | omega
   · exact MV.some
   · exact fun _ => ⟨_,_,_,rfl,by (try dsimp only); omega,by (try dsimp only); omega,(f164.get nm134 (by omega)).trans ((k160.get nm134 (by omega)).trans ((f151.get nm134 (by omega)).trans ((f143.get nm134 (by omega)).trans g139))),hM140⟩
  ·
   refine w_cond (t:=false) rfl rfl (fun h => by cases h) (fun _ => ?_)
   refine w_seq (w_region (mv (vI ax11) rfl rfl ?_))
   refine sv_new (H:=H159) (v:=.slice (some ⟨H159.next,0,none⟩) 1 1) (x:=.row #[vI ax11] .raw) rfl rfl rfl rfl (opv_buildSliceE (vs:=[(0,vI ax11)]) rfl (.cons rfl rfl neI .nil) Try.underlying31 sz3 ze3 rfl (by decide) (by decide) rfl rfl rfl) ?_
   intro H168 f169
   refine newL w155 f169 fun n172 w170 l171 => ?_
   refine sc_ (H:=H168) (vs:=[vI (-50),vI 250,.slice (some ⟨H159.next,0,none⟩) 1 1]) (fv:=.func (.func 30) #[] #[]) rfl rfl rfl rfl rfl rfl (.cons rfl rfl neI (.cons rfl rfl neI (.cons rfl rfl (by simp [undef]) .nil))) rfl ?_
   refine WV.mono (wv_f0 Try.call30 (gas_out_1 ax11 (-50) 250 H159.next _ w170 f169.blk (by omega))) ?_
   rintro v176 H177 ⟨k178,w173,rb174,rfl,f175⟩
   refine kpL k178 fun n180 l179 => ?_
   refine mv (.bool rb174) rfl rfl ?_
   rcases f175 with ⟨rfl,f175⟩ | ⟨rfl,f175⟩
   ·
    refine ss rfl (wants_g rfl rfl rfl rfl rfl) rfl rfl ?_
    refine ss rfl (wants_g rfl rfl rfl rfl rfl) rfl rfl ?_
    refine sv (v:=.bool true) rfl rfl rfl (opv_pick (b:=true) rfl rfl rfl rfl rfl rfl) rfl ?_
    refine mv (.bool true) rfl rfl ?_
    refine wo_nil (tq_n (wk ⟨[(8,vP H101.next 0),(29,.bool true)],39,[],H177⟩ rfl ?_))
    refine w_cond (t:=true) rfl rfl (fun _ => ?_) (fun h => by cases h)
    refine w_seq (w_region (sv (v:=.agg #[vI rx12112,vI rx13113,vI rx14114,vI rx15115,vI rx16116,vI rx17117,vI rx18118,rs19119,rs20120,.map (some nm134)]) rfl rfl rfl (opv_loadE rfl rfl rfl ag68 sz68 ((k178.get H101.next (by omega)).trans ((f169.get H101.next (by omega)).trans ((k160.get H101.next (by omega)).trans ((f151.get H101.next (by omega)).trans f143.blk)))) rfl (.inl rfl) rfl) rfl ?_))
    refine sv_put (H:=H177) (n:=H101.next) (v:=undef) (x:=some (.row #[vI rx12112,vI rx13113,vI rx14114,vI rx15115,vI rx16116,vI rx17117,vI rx18118,rs19119,rs20120,.map (some nm134)] .raw)) rfl rfl rfl rfl (opv_storeC (u:=.agg #[vI rx12112,vI rx13113,vI rx14114,vI rx15115,vI rx16116,vI rx17117,vI rx18118,rs19119,rs20120,.map (some nm134)]) rfl rfl rfl rfl rfl (by simp [undef]) sz68 rfl rfl (leafs_of (l:=[vI rx12112,vI rx13113,vI rx14114,vI rx15115,vI rx16116,vI rx17117,vI rx18118,rs19119,rs20120,.map (some nm134)]) ⟨rfl,rfl,rfl,rfl,rfl,rfl,rfl,vt_one (hv123.mono ((((l145.trans l153).trans l161).trans l171).trans l179)),vt_one (hv124.mono ((((l145.trans l153).trans l161).trans l171).trans l179)),rfl,trivial⟩) ((k178.get H101.next (by omega)).trans ((f169.get H101.next (by omega)).trans ((k160.get H101.next (by omega)).trans ((f151.get H101.next (by omega)).trans f143.blk)))) rfl rfl) ?_
    intro H181 f182
    refine putL w173 f182 ((k178.get H101.next (by omega)).trans ((f169.get H101.next (by omega)).trans ((k160.get H101.next (by omega)).trans ((f151.get H101.next (by omega)).trans f143.blk)))) fun n185 w183 l184 => ?_
    refine mv (vI 7) rfl rfl ?_
    refine wo_nil (tq_n (wk ⟨[(8,vP H101.next 0),(9,vI 7)],39,[],H181⟩ rfl ?_))
    refine w_ret ?_
    try refine q_eq (e':=.ret) rfl ?_
    refine tq_r ?_
    refine ⟨.inr rfl,rfl,[.agg #[vI rx12112,vI rx13113,vI rx14114,vI rx15115,vI rx16116,vI rx17117,vI rx18118,rs19119,rs20120,.map (some nm134)],vI 7],.cons (resV_cellE rfl ag68 sz68 f182.blk rfl (.inl rfl) rfl) (.cons (resV_tmp rfl neI) .nil),(((((((((((KeepX.refl (fun _ => False) H).new_ f102).new_ f107).keep k130).put f143 (by first | (right; omega) | (left; (try dsimp only) <;> omega))).new_ f151).keep k160).new_ f169).keep k178).put f182 (by first | (right; omega) | (left; (try dsimp only) <;> omega))).k (fun _ h => h.elim)),w183,rx12112,rx13113,rx14114,rx15115,rx16116,rx17117,rx18118,rs19119,rs20120,.map (some nm134),7,rfl,hv123.mono (((((l145.trans l153).trans l161).trans l171).trans l179).trans l184),hv124.mono (((((l145.trans l153).trans l161).trans l171).trans l179).trans l184),?_,?_,?_⟩
    · intro h; first | (exfalso; revert h; first | decide | omega) | omega
    · exact MV.some
    · exact fun _ => ⟨_,_,_,rfl,by (try dsimp only); omega,by (try dsimp only); omega,(f182.get nm134 (by omega)).trans ((k178.get nm134 (by omega)).trans ((f169.get nm134 (by omega)).trans ((k160.get nm134 (by omega)).trans ((f151.get nm134 (by omega)).trans ((f143.get nm134 (by omega)).trans g139))))),hM140⟩
   ·
    refine sv (v:=.slice (some ⟨n1,0,none⟩) 2 1) rfl (wants_g rfl rfl rfl rfl rfl) rfl (opv_move (.inl rfl) rfl rfl) rfl ?_
    refine sc_ (H:=H177) (vs:=[vI 0,vI 60,.slice (some ⟨n1,0,none⟩) 2 1]) (fv:=.func (.func 30) #[] #[]) rfl (wants_g rfl rfl rfl rfl rfl) rfl rfl rfl rfl (.cons rfl rfl neI (.cons rfl rfl neI (.cons rfl rfl (by simp [undef]) .nil))) rfl ?_
    refine WV.mono (wv_f0 Try.call30 (gas_out_2 m0 m1 0 60 n1 _ w173 ((k178.get n1 (by omega)).trans ((f169.get n1 (by omega)).trans ((k160.get n1 (by omega)).trans ((f151.get n1 (by omega)).trans ((f143.get n1 (by omega)).trans ((k130.get n1 (by omega)).trans ((f107.get n1 (by omega)).trans ((f102.get n1 (by omega)).trans hkn1)))))))) (by omega))) ?_
    rintro v189 H190 ⟨k191,w186,rb187,rfl,f188⟩
    refine kpL k191 fun n193 l192 => ?_
    refine sv (v:=.bool rb187) rfl rfl rfl (opv_pick (b:=false) rfl rfl rfl rfl rfl rfl) rfl ?_
    refine mv (.bool rb187) rfl rfl ?_
    refine wo_nil (tq_n (wk ⟨[(8,vP H101.next 0),(29,.bool rb187)],39,[],H190⟩ rfl ?_))
    rcases f188 with ⟨rfl,f188⟩ | ⟨rfl,f188⟩
    ·
     refine w_cond (t:=true) rfl rfl (fun _ => ?_) (fun h => by cases h)
     refine w_seq (w_region (sv (v:=.agg #[vI rx12112,vI rx13113,vI rx14114,vI rx15115,vI rx16116,vI rx17117,vI rx18118,rs19119,rs20120,.map (some nm134)]) rfl rfl rfl (opv_loadE rfl rfl rfl ag68 sz68 ((k191.get H101.next (by omega)).trans ((k178.get H101.next (by omega)).trans ((f169.get H101.next (by omega)).trans ((k160.get H101.next (by omega)).trans ((f151.get H101.next (by omega)).trans f143.blk))))) rfl (.inl rfl) rfl) rfl ?_))
     refine sv_put (H:=H190) (n:=H101.next) (v:=undef) (x:=some (.row #[vI rx12112,vI rx13113,vI rx14114,vI rx15115,vI rx16116,vI rx17117,vI rx18118,rs19119,rs20120,.map (some nm134)] .raw)) rfl rfl rfl rfl (opv_storeC (u:=.agg #[vI rx12112,vI rx13113,vI rx14114,vI rx15115,vI rx16116,vI rx17117,vI rx18118,rs19119,rs20120,.map (some nm134)]) rfl rfl rfl rfl rfl (by simp [undef]) sz68 rfl rfl (leafs_of (l:=[vI rx12112,vI rx13113,vI rx14114,vI rx15115,vI rx16116,vI rx17117,vI rx18118,rs19119,rs20120,.map (some nm134)]) ⟨rfl,rfl,rfl,rfl,rfl,rfl,rfl,vt_one (hv123.mono (((((l145.trans l153).trans l161).trans l171).trans l179).trans l192)),vt_one (hv124.mono (((((l145.trans l153).trans l161).trans l171).trans l179).trans l192)),rfl,trivial⟩) ((k191.get H101.next (by omega)).trans ((k178.get H101.next (by omega)).trans ((f169.get H101.next (by omega)).trans ((k160.get H101.next (by omega)).trans ((f151.get H101.next (by omega)).trans f143.blk))))) rfl rfl) ?_
     intro H194 f195
     refine putL w186 f195 ((k191.get H101.next (by omega)).trans ((k178.get H101.next (by omega)).trans ((f169.get H101.next (by omega)).trans ((k160.get H101.next (by omega)).trans ((f151.get H101.next (by omega)).trans f143.blk))))) fun n198 w196 l197 => ?_
     refine mv (vI 7) rfl rfl ?_
     refine wo_nil (tq_n (wk ⟨[(8,vP H101.next 0),(9,vI 7)],39,[],H194⟩ rfl ?_))
     refine w_ret ?_
     try refine q_eq (e':=.ret) rfl ?_
     refine tq_r ?_
     refine ⟨.inr rfl,rfl,[.agg #[vI rx12112,vI rx13113,vI rx14114,vI rx15115,vI rx16116,vI rx17117,vI rx18118,rs19119,rs20120,.map (some nm134)],vI 7],.cons (resV_cellE rfl ag68 sz68 f195.blk rfl (.inl rfl) rfl) (.cons (resV_tmp rfl neI) .nil),((((((((((((KeepX.refl (fun _ => False) H).new_ f102).new_ f107).keep k130).put f143 (by first | (right; omega) | (left; (try dsimp only) <;> omega))).new_ f151).keep k160).new_ f169).keep k178).keep k191).put f195 (by first | (right; omega) | (left; (try dsimp only) <;> omega))).k (fun _ h => h.elim)),w196,rx12112,rx13113,rx14114,rx15115,rx16116,rx17117,rx18118,rs19119,rs20120,.map (some nm134),7,rfl,hv123.mono ((((((l145.trans l153).trans l161).trans l171).trans l179).trans l192).trans l197),hv124.mono ((((((l145.trans l153).trans l161).trans l171).trans l179).trans l192).trans l197),?_,?_,?_⟩
     · intro h; first | (exfalso; revert h; first | decide | omega) | omega
     · exact MV.some
     · exact fun _ => ⟨_,_,_,rfl,by (try dsimp only); omega,by (try dsimp only); omega,(f195.get nm134 (by omega)).trans ((k191.get nm134 (by omega)).trans ((k178.get nm134 (by omega)).trans ((f169.get nm134 (by omega)).trans ((k160.get nm134 (by omega)).trans ((f151.get nm134 (by omega)).trans ((f143.get nm134 (by omega)).trans g139)))))),hM140⟩
    ·
     refine w_cond (t:=false) rfl rfl (fun h => by cases h) (fun _ => ?_)
     refine w_skip ?_
     try refine q_eq (e':=.normal) rfl ?_
     refine tqk ⟨[(8,vP H101.next 0)],39,[],H190⟩ rfl ?_
     refine w_seq (w_region (sv (v:=.agg #[vI rx12112,vI rx13113,vI rx14114,vI rx15115,vI rx16116,vI rx17117,vI rx18118,rs19119,rs20120,.map (some nm134)]) rfl rfl rfl (opv_loadE rfl rfl rfl ag68 sz68 ((k191.get H101.next (by omega)).trans ((k178.get H101.next (by omega)).trans ((f169.get H101.next (by omega)).trans ((k160.get H101.next (by omega)).trans ((f151.get H101.next (by omega)).trans f143.blk))))) rfl (.inl rfl) rfl) rfl ?_))
     refine sv_put (H:=H190) (n:=H101.next) (v:=undef) (x:=some (.row #[vI rx12112,vI rx13113,vI rx14114,vI rx15115,vI rx16116,vI rx17117,vI rx18118,rs19119,rs20120,.map (some nm134)] .raw)) rfl rfl rfl rfl (opv_storeC (u:=.agg #[vI rx12112,vI rx13113,vI rx14114,vI rx15115,vI rx16116,vI rx17117,vI rx18118,rs19119,rs20120,.map (some nm134)]) rfl rfl rfl rfl rfl (by simp [undef]) sz68 rfl rfl (leafs_of (l:=[vI rx12112,vI rx13113,vI rx14114,vI rx15115,vI rx16116,vI rx17117,vI rx18118,rs19119,rs20120,.map (some nm134)]) ⟨rfl,rfl,rfl,rfl,rfl,rfl,rfl,vt_one (hv123.mono (((((l145.trans l153).trans l161).trans l171).trans l179).trans l192)),vt_one (hv124.mono (((((l145.trans l153).trans l161).trans l171).trans l179).trans l192)),rfl,trivial⟩) ((k191.get H101.next (by omega)).trans ((k178.get H101.next (by omega)).trans ((f169.get H101.next (by omega)).trans ((k160.get H101.next (by omega)).trans ((f151.get H101.next (by omega)).trans f143.blk))))) rfl rfl) ?_
     intro H199 f200
     refine putL w186 f200 ((k191.get H101.next (by omega)).trans ((k178.get H101.next (by omega)).trans ((f169.get H101.next (by omega)).trans ((k160.get H101.next (by omega)).trans ((f151.get H101.next (by omega)).trans f143.blk))))) fun n203 w201 l202 => ?_
     refine mv (vI 0) rfl rfl ?_
     refine wo_nil (tq_n (wk ⟨[(8,vP H101.next 0),(9,vI 0)],39,[],H199⟩ rfl ?_))
     refine w_ret ?_
     refine ⟨.inr rfl,rfl,[.agg #[vI rx12112,vI rx13113,vI rx14114,vI rx15115,vI rx16116,vI rx17117,vI rx18118,rs19119,rs20120,.map (some nm134)],vI 0],.cons (resV_cellE rfl ag68 sz68 f200.blk rfl (.inl rfl) rfl) (.cons (resV_tmp rfl neI) .nil),((((((((((((KeepX.refl (fun _ => False) H).new_ f102).new_ f107).keep k130).put f143 (by first | (right; omega) | (left; (try dsimp only) <;> omega))).new_ f151).keep k160).new_ f169).keep k178).keep k191).put f200 (by first | (right; omega) | (left; (try dsimp only) <;> omega))).k (fun _ h => h.elim)),w201,rx12112,rx13113,rx14114,rx15115,rx16116,rx17117,rx18118,rs19119,rs20120,.map (some nm134),0,rfl,hv123.mono ((((((l145.trans l153).trans l161).trans l171).trans l179).trans l192).trans l202),hv124.mono ((((((l145.trans l153).trans l161).trans l171).trans l179).trans l192).trans l202),?_,?_,?_⟩
     · intro h; first | (exfalso; revert h; first | decide | omega) | omega
     · exact MV.some
     · exact fun _ => ⟨_,_,_,rfl,by (try dsimp only); omega,by (try dsimp only); omega,(f200.get nm134 (by omega)).trans ((k191.get nm134 (by omega)).trans ((k178.get nm134 (by omega)).trans ((f169.get nm134 (by omega)).trans ((k160.get nm134 (by omega)).trans ((f151.get nm134 (by omega)).trans ((f143.get nm134 (by omega)).trans g139)))))),hM140⟩
 ·
  refine mv (.tuple #[.agg #[vI rx12112,vI rx13113,vI rx14114,vI rx15115,vI rx16116,vI rx17117,vI rx18118,rs19119,rs20120,rm121],vI re122]) rfl rfl ?_
  refine sv (v:=.agg #[vI rx12112,vI rx13113,vI rx14114,vI rx15115,vI rx16116,vI rx17117,vI rx18118,rs19119,rs20120,rm121]) rfl rfl rfl (opv_extract rfl rfl rfl rfl) rfl ?_
  refine sv (v:=vI re122) rfl rfl rfl (opv_extract rfl rfl rfl rfl) rfl ?_
  refine sv_put (H:=H129) (n:=H101.next) (v:=undef) (x:=some (.row #[vI rx12112,vI rx13113,vI rx14114,vI rx15115,vI rx16116,vI rx17117,vI rx18118,rs19119,rs20120,rm121] .raw)) rfl rfl rfl rfl (opv_storeC (u:=.agg #[vI rx12112,vI rx13113,vI rx14114,vI rx15115,vI rx16116,vI rx17117,vI rx18118,rs19119,rs20120,rm121]) rfl rfl rfl rfl rfl (by simp [undef]) sz68 rfl rfl (leafs_of (l:=[vI rx12112,vI rx13113,vI rx14114,vI rx15115,vI rx16116,vI rx17117,vI rx18118,rs19119,rs20120,rm121]) ⟨rfl,rfl,rfl,rfl,rfl,rfl,rfl,vt_one hv123,vt_one hv124,MV.one f126,trivial⟩) ((k130.get H101.next (by omega)).trans f107.blk) rfl rfl) ?_
  intro H204 f205
  refine putL w111 f205 ((k130.get H101.next (by omega)).trans f107.blk) fun n208 w206 l207 => ?_
  refine mv (vI re122) rfl rfl ?_
  refine wo_nil (tq_n (wk ⟨[(1,vI ax10),(2,vI ax11),(3,.slice (some ⟨n1,0,none⟩) 2 1),(4,vP H.next 0),(8,vP H101.next 0),(9,vI re122)],39,[],H204⟩ rfl ?_))
  refine w_seq (w_block (w_seq (w_region (mv (vI re122) rfl rfl ?_))))
  by_cases c209:re122=0
  ·
   refine sv (v:=.bool false) rfl rfl rfl (opv_bin rfl rfl rfl rfl rfl (neF c209)) rfl ?_
   refine mv (.bool false) rfl rfl ?_
   refine wo_nil (tq_n (wk ⟨[(1,vI ax10),(2,vI ax11),(3,.slice (some ⟨n1,0,none⟩) 2 1),(4,vP H.next 0),(8,vP H101.next 0),(9,vI re122),(15,.bool false)],39,[],H204⟩ rfl ?_))
   refine w_cond (t:=false) rfl rfl (fun h => by cases h) (fun _ => ?_)
   refine w_seq (w_region (sv (v:=vP H.next 8) rfl rfl rfl (opv_fieldAddrE rfl rfl rfl Try.underlying27 rfl sz25 (by decide) rfl) rfl ?_))
   refine sv (v:=as9) rfl rfl rfl (opv_loadE rfl rfl rfl ag25 sz25 ((f205.get H.next (by omega)).trans ((k130.get H.next (by omega)).trans ((f107.get H.next (by omega)).trans f102.blk))) rfl (.inr rfl) rfl) rfl ?_
   have c210:slen as9 ≤ 1073741824:=vt_lim (hvas9.mono (((l104.trans l109).trans l131).trans l207))
   refine sv (v:=(vI (slen as9:Int))) rfl rfl rfl (t_len (hvas9.mono (((l104.trans l109).trans l131).trans l207)) rfl rfl rfl Try.underlying25) rfl ?_
   refine sv_int rfl rfl rfl (opv_bin rfl rfl rfl rfl rfl rfl) ?_
   intro x211 h212
   try replace h212:x211=(slen as9:Int) - 1:=wr_ex h212 (by omega) (by omega)
   refine mv (vI ax10) rfl rfl ?_
   refine sv_new (H:=H204) (v:=.slice (some ⟨H204.next,0,none⟩) 1 1) (x:=.row #[vI ax10] .raw) rfl rfl rfl rfl (opv_buildSliceE (vs:=[(0,vI ax10)]) rfl (.cons rfl rfl neI .nil) Try.underlying31 sz3 ze3 rfl (by decide) (by decide) rfl rfl rfl) ?_
   intro H213 f214
   refine newL w206 f214 fun n217 w215 l216 => ?_
   refine sc_ (H:=H213) (vs:=[vI 0,vI x211,.slice (some ⟨H204.next,0,none⟩) 1 1]) (fv:=.func (.func 30) #[] #[]) rfl rfl rfl rfl rfl rfl (.cons rfl rfl neI (.cons rfl rfl neI (.cons rfl rfl (by simp [undef]) .nil))) rfl ?_
   refine WV.mono (wv_f0 Try.call30 (gas_out_1 ax10 0 x211 H204.next _ w215 f214.blk (by omega))) ?_
   rintro v221 H222 ⟨k223,w218,rb219,rfl,f220⟩
   refine kpL k223 fun n225 l224 => ?_
   refine mv (.bool rb219) rfl rfl ?_
   refine wo_nil (tq_n (wk ⟨[(2,vI ax11),(3,.slice (some ⟨n1,0,none⟩) 2 1),(8,vP H101.next 0),(20,.bool rb219)],39,[],H222⟩ rfl ?_))
   rcases f220 with ⟨rfl,f220⟩ | ⟨rfl,f220⟩
   ·
    refine w_cond (t:=true) rfl rfl (fun _ => ?_) (fun h => by cases h)
    refine w_seq (w_region (sv (v:=.agg #[vI rx12112,vI rx13113,vI rx14114,vI rx15115,vI rx16116,vI rx17117,vI rx18118,rs19119,rs20120,rm121]) rfl rfl rfl (opv_loadE rfl rfl rfl ag68 sz68 ((k223.get H101.next (by omega)).trans ((f214.get H101.next (by omega)).trans f205.blk)) rfl (.inl rfl) rfl) rfl ?_))
    refine sv_put (H:=H222) (n:=H101.next) (v:=undef) (x:=some (.row #[vI rx12112,vI rx13113,vI rx14114,vI rx15115,vI rx16116,vI rx17117,vI rx18118,rs19119,rs20120,rm121] .raw)) rfl rfl rfl rfl (opv_storeC (u:=.agg #[vI rx12112,vI rx13113,vI rx14114,vI rx15115,vI rx16116,vI rx17117,vI rx18118,rs19119,rs20120,rm121]) rfl rfl rfl rfl rfl (by simp [undef]) sz68 rfl rfl (leafs_of (l:=[vI rx12112,vI rx13113,vI rx14114,vI rx15115,vI rx16116,vI rx17117,vI rx18118,rs19119,rs20120,rm121]) ⟨rfl,rfl,rfl,rfl,rfl,rfl,rfl,vt_one (hv123.mono ((l207.trans l216).trans l224)),vt_one (hv124.mono ((l207.trans l216).trans l224)),MV.one f126,trivial⟩) ((k223.get H101.next (by omega)).trans ((f214.get H101.next (by omega)).trans f205.blk)) rfl rfl) ?_
    intro H226 f227
    refine putL w218 f227 ((k223.get H101.next (by omega)).trans ((f214.get H101.next (by omega)).trans f205.blk)) fun n230 w228 l229 => ?_
    refine mv (vI 4) rfl rfl ?_
    refine wo_nil (tq_n (wk ⟨[(8,vP H101.next 0),(9,vI 4)],39,[],H226⟩ rfl ?_))
    refine w_ret ?_
    try refine q_eq (e':=.ret) rfl ?_
    refine tq_r ?_
    refine ⟨.inr rfl,rfl,[.agg #[vI rx12112,vI rx13113,vI rx14114,vI rx15115,vI rx16116,vI rx17117,vI rx18118,rs19119,rs20120,rm121],vI 4],.cons (resV_cellE rfl ag68 sz68 f227.blk rfl (.inl rfl) rfl) (.cons (resV_tmp rfl neI) .nil),(((((((((KeepX.refl (fun _ => False) H).new_ f102).new_ f107).keep k130).put f205 (by first | (right; omega) | (left; (try dsimp only) <;> omega))).new_ f214).keep k223).put f227 (by first | (right; omega) | (left; (try dsimp only) <;> omega))).k (fun _ h => h.elim)),w228,rx12112,rx13113,rx14114,rx15115,rx16116,rx17117,rx18118,rs19119,rs20120,rm121,4,rfl,hv123.mono (((l207.trans l216).trans l224).trans l229),hv124.mono (((l207.trans l216).trans l224).trans l229),?_,?_,?_⟩
    · intro h; first | (exfalso; revert h; first | decide | omega) | omega
    · exact f126
    · intro h; exfalso; revert h; first | decide | omega
   ·
    refine w_cond (t:=false) rfl rfl (fun h => by cases h) (fun _ => ?_)
    refine w_seq (w_region (mv (vI ax11) rfl rfl ?_))
    refine sv_new (H:=H222) (v:=.slice (some ⟨H222.next,0,none⟩) 1 1) (x:=.row #[vI ax11] .raw) rfl rfl rfl rfl (opv_buildSliceE (vs:=[(0,vI ax11)]) rfl (.cons rfl rfl neI .nil) Try.underlying31 sz3 ze3 rfl (by decide) (by decide) rfl rfl rfl) ?_
    intro H231 f232
    refine newL w218 f232 fun n235 w233 l234 => ?_
    refine sc_ (H:=H231) (vs:=[vI (-50),vI 250,.slice (some ⟨H222.next,0,none⟩) 1 1]) (fv:=.func (.func 30) #[] #[]) rfl rfl rfl rfl rfl rfl (.cons rfl rfl neI (.cons rfl rfl neI (.cons rfl rfl (by simp [undef]) .nil))) rfl ?_
    refine WV.mono (wv_f0 Try.call30 (gas_out_1 ax11 (-50) 250 H222.next _ w233 f232.blk (by omega))) ?_
    rintro v239 H240 ⟨k241,w236,rb237,rfl,f238⟩
    refine kpL k241 fun n243 l242 => ?_
    refine mv (.bool rb237) rfl rfl ?_
    rcases f238 with ⟨rfl,f238⟩ | ⟨rfl,f238⟩
    ·
     refine ss rfl (wants_g rfl rfl rfl rfl rfl) rfl rfl ?_
     refine ss rfl (wants_g rfl rfl rfl rfl rfl) rfl rfl ?_
     refine sv (v:=.bool true) rfl rfl rfl (opv_pick (b:=true) rfl rfl rfl rfl rfl rfl) rfl ?_
     refine mv (.bool true) rfl rfl ?_
     refine wo_nil (tq_n (wk ⟨[(8,vP H101.next 0),(29,.bool true)],39,[],H240⟩ rfl ?_))
     refine w_cond (t:=true) rfl rfl (fun _ => ?_) (fun h => by cases h)
     refine w_seq (w_region (sv (v:=.agg #[vI rx12112,vI rx13113,vI rx14114,vI rx15115,vI rx16116,vI rx17117,vI rx18118,rs19119,rs20120,rm121]) rfl rfl rfl (opv_loadE rfl rfl rfl ag68 sz68 ((k241.get H101.next (by omega)).trans ((f232.get H101.next (by omega)).trans ((k223.get H101.next (by omega)).trans ((f214.get H101.next (by omega)).trans f205.blk)))) rfl (.inl rfl) rfl) rfl ?_))
     refine sv_put (H:=H240) (n:=H101.next) (v:=undef) (x:=some (.row #[vI rx12112,vI rx13113,vI rx14114,vI rx15115,vI rx16116,vI rx17117,vI rx18118,rs19119,rs20120,rm121] .raw)) rfl rfl rfl rfl (opv_storeC (u:=.agg #[vI rx12112,vI rx13113,vI rx14114,vI rx15115,vI rx16116,vI rx17117,vI rx18118,rs19119,rs20120,rm121]) rfl rfl rfl rfl rfl (by simp [undef]) sz68 rfl rfl (leafs_of (l:=[vI rx12112,vI rx13113,vI rx14114,vI rx15115,vI rx16116,vI rx17117,vI rx18118,rs19119,rs20120,rm121]) ⟨rfl,rfl,rfl,rfl,rfl,rfl,rfl,vt_one (hv123.mono ((((l207.trans l216).trans l224).trans l234).trans l242)),vt_one (hv124.mono ((((l207.trans l216).trans l224).trans l234).trans l242)),MV.one f126,trivial⟩) ((k241.get H101.next (by omega)).trans ((f232.get H101.next (by omega)).trans ((k223.get H101.next (by omega)).trans ((f214.get H101.next (by omega)).trans f205.blk)))) rfl rfl) ?_
     intro H244 f245
     refine putL w236 f245 ((k241.get H101.next (by omega)).trans ((f232.get H101.next (by omega)).trans ((k223.get H101.next (by omega)).trans ((f214.get H101.next (by omega)).trans f205.blk)))) fun n248 w246 l247 => ?_
     refine mv (vI 7) rfl rfl ?_
     refine wo_nil (tq_n (wk ⟨[(8,vP H101.next 0),(9,vI 7)],39,[],H244⟩ rfl ?_))
     refine w_ret ?_
     try refine q_eq (e':=.ret) rfl ?_
     refine tq_r ?_
     refine ⟨.inr rfl,rfl,[.agg #[vI rx12112,vI rx13113,vI rx14114,vI rx15115,vI rx16116,vI rx17117,vI rx18118,rs19119,rs20120,rm121],vI 7],.cons (resV_cellE rfl ag68 sz68 f245.blk rfl (.inl rfl) rfl) (.cons (resV_tmp rfl neI) .nil),(((((((((((KeepX.refl (fun _ => False) H).new_ f102).new_ f107).keep k130).put f205 (by first | (right; omega) | (left; (try dsimp only) <;> omega))).new_ f214).keep k223).new_ f232).keep k241).put f245 (by first | (right; omega) | (left; (try dsimp only) <;> omega))).k (fun _ h => h.elim)),w246,rx12112,rx13113,rx14114,rx15115,rx16116,rx17117,rx18118,rs19119,rs20120,rm121,7,rfl,hv123.mono (((((l207.trans l216).trans l224).trans l234).trans l242).trans l247),hv124.mono (((((l207.trans l216).trans l224).trans l234).trans l242).trans l247),?_,?_,?_⟩
     · intro h; first | (exfalso; revert h; first | decide | omega) | omega
     · exact f126
     · intro h; exfalso; revert h; first | decide | omega
    ·
     refine sv (v:=.slice (some ⟨n1,0,none⟩) 2 1) rfl (wants_g rfl rfl rfl rfl rfl) rfl (opv_move (.inl rfl) rfl rfl) rfl ?_
     refine sc_ (H:=H240) (vs:=[vI 0,vI 60,.slice (some ⟨n1,0,none⟩) 2 1]) (fv:=.func (.func 30) #[] #[]) rfl (wants_g rfl rfl rfl rfl rfl) rfl rfl rfl rfl (.cons rfl rfl neI (.cons rfl rfl neI (.cons rfl rfl (by simp [undef]) .nil))) rfl ?_
     refine WV.mono (wv_f0 Try.call30 (gas_out_2 m0 m1 0 60 n1 _ w236 ((k241.get n1 (by omega)).trans ((f232.get n1 (by omega)).trans ((k223.get n1 (by omega)).trans ((f214.get n1 (by omega)).trans ((f205.get n1 (by omega)).trans ((k130.get n1 (by omega)).trans ((f107.get n1 (by omega)).trans ((f102.get n1 (by omega)).trans hkn1)))))))) (by omega))) ?_
     rintro v252 H253 ⟨k254,w249,rb250,rfl,f251⟩
     refine kpL k254 fun n256 l255 => ?_
     refine sv (v:=.bool rb250) rfl rfl rfl (opv_pick (b:=false) rfl rfl rfl rfl rfl rfl) rfl ?_
     refine mv (.bool rb250) rfl rfl ?_
     refine wo_nil (tq_n (wk ⟨[(8,vP H101.next 0),(29,.bool rb250)],39,[],H253⟩ rfl ?_))
     rcases f251 with ⟨rfl,f251⟩ | ⟨rfl,f251⟩
     ·
      refine w_cond (t:=true) rfl rfl (fun _ => ?_) (fun h => by cases h)
      refine w_seq (w_region (sv (v:=.agg #[vI rx12112,vI rx13113,vI rx14114,vI rx15115,vI rx16116,vI rx17117,vI rx18118,rs19119,rs20120,rm121]) rfl rfl rfl (opv_loadE rfl rfl rfl ag68 sz68 ((k254.get H101.next (by omega)).trans ((k241.get H101.next (by omega)).trans ((f232.get H101.next (by omega)).trans ((k223.get H101.next (by omega)).trans ((f214.get H101.next (by omega)).trans f205.blk))))) rfl (.inl rfl) rfl) rfl ?_))
      refine sv_put (H:=H253) (n:=H101.next) (v:=undef) (x:=some (.row #[vI rx12112,vI rx13113,vI rx14114,vI rx15115,vI rx16116,vI rx17117,vI rx18118,rs19119,rs20120,rm121] .raw)) rfl rfl rfl rfl (opv_storeC (u:=.agg #[vI rx12112,vI rx13113,vI rx14114,vI rx15115,vI rx16116,vI rx17117,vI rx18118,rs19119,rs20120,rm121]) rfl rfl rfl rfl rfl (by simp [undef]) sz68 rfl rfl (leafs_of (l:=[vI rx12112,vI rx13113,vI rx14114,vI rx15115,vI rx16116,vI rx17117,vI rx18118,rs19119,rs20120,rm121]) ⟨rfl,rfl,rfl,rfl,rfl,rfl,rfl,vt_one (hv123.mono (((((l207.trans l216).trans l224).trans l234).trans l242).trans l255)),vt_one (hv124.mono (((((l207.trans l216).trans l224).trans l234).trans l242).trans l255)),MV.one f126,trivial⟩) ((k254.get H101.next (by omega)).trans ((k241.get H101.next (by omega)).trans ((f232.get H101.next (by omega)).trans ((k223.get H101.next (by omega)).trans ((f214.get H101.next (by omega)).trans f205.blk))))) rfl rfl) ?_
      intro H257 f258
      refine putL w249 f258 ((k254.get H101.next (by omega)).trans ((k241.get H101.next (by omega)).trans ((f232.get H101.next (by omega)).trans ((k223.get H101.next (by omega)).trans ((f214.get H101.next (by omega)).trans f205.blk))))) fun n261 w259 l260 => ?_
      refine mv (vI 7) rfl rfl ?_
      refine wo_nil (tq_n (wk ⟨[(8,vP H101.next 0),(9,vI 7)],39,[],H257⟩ rfl ?_))
      refine w_ret ?_
      try refine q_eq (e':=.ret) rfl ?_
      refine tq_r ?_
      refine ⟨.inr rfl,rfl,[.agg #[vI rx12112,vI rx13113,vI rx14114,vI rx15115,vI rx16116,vI rx17117,vI rx18118,rs19119,rs20120,rm121],vI 7],.cons (resV_cellE rfl ag68 sz68 f258.blk rfl (.inl rfl) rfl) (.cons (resV_tmp rfl neI) .nil),((((((((((((KeepX.refl (fun _ => False) H).new_ f102).new_ f107).keep k130).put f205 (by first | (right; omega) | (left; (try dsimp only) <;> omega))).new_ f214).keep k223).new_ f232).keep k241).keep k254).put f258 (by first | (right; omega) | (left; (try dsimp only) <;> omega))).k (fun _ h => h.elim)),w259,rx12112,rx13113,rx14114,rx15115,rx16116,rx17117,rx18118,rs19119,rs20120,rm121,7,rfl,hv123.mono ((((((l207.trans l216).trans l224).trans l234).trans l242).trans l255).trans l260),hv124.mono ((((((l207.trans l216).trans l224).trans l234).trans l242).trans l255).trans l260),?_,?_,?_⟩
      · intro h; first | (exfalso; revert h; first | decide | omega) | omega
      · exact f126
      · intro h; exfalso; revert h; first | decide | omega
     ·
      refine w_cond (t:=false) rfl rfl (fun h => by cases h) (fun _ => ?_)
      refine w_skip ?_
      try refine q_eq (e':=.normal) rfl ?_
      refine tqk ⟨[(8,vP H101.next 0)],39,[],H253⟩ rfl ?_
      refine w_seq (w_region (sv (v:=.agg #[vI rx12112,vI rx13113,vI rx14114,vI rx15115,vI rx16116,vI rx17117,vI rx18118,rs19119,rs20120,rm121]) rfl rfl rfl (opv_loadE rfl rfl rfl ag68 sz68 ((k254.get H101.next (by omega)).trans ((k241.get H101.next (by omega)).trans ((f232.get H101.next (by omega)).trans ((k223.get H101.next (by omega)).trans ((f214.get H101.next (by omega)).trans f205.blk))))) rfl (.inl rfl) rfl) rfl ?_))
      refine sv_put (H:=H253) (n:=H101.next) (v:=undef) (x:=some (.row #[vI rx12112,vI rx13113,vI rx14114,vI rx15115,vI rx16116,vI rx17117,vI rx18118,rs19119,rs20120,rm121] .raw)) rfl rfl rfl rfl (opv_storeC (u:=.agg #[vI rx12112,vI rx13113,vI rx14114,vI rx15115,vI rx16116,vI rx17117,vI rx18118,rs19119,rs20120,rm121]) rfl rfl rfl rfl rfl (by simp [undef]) sz68 rfl rfl (leafs_of (l:=[vI rx12112,vI rx13113,vI rx14114,vI rx15115,vI rx16116,vI rx17117,vI rx18118,rs19119,rs20120,rm121]) ⟨rfl,rfl,rfl,rfl,rfl,rfl,rfl,vt_one (hv123.mono (((((l207.trans l216).trans l224).trans l234).trans l242).trans l255)),vt_one (hv124.mono (((((l207.trans l216).trans l224).trans l234).trans l242).trans l255)),MV.one f126,trivial⟩) ((k254.get H101.next (by omega)).trans ((k241.get H101.next (by omega)).trans ((f232.get H101.next (by omega)).trans ((k223.get H101.next (by omega)).trans ((f214.get H101.next (by omega)).trans f205.blk))))) rfl rfl) ?_
      intro H262 f263
      refine putL w249 f263 ((k254.get H101.next (by omega)).trans ((k241.get H101.next (by omega)).trans ((f232.get H101.next (by omega)).trans ((k223.get H101.next (by omega)).trans ((f214.get H101.next (by omega)).trans f205.blk))))) fun n266 w264 l265 => ?_
      refine mv (vI 0) rfl rfl ?_
      refine wo_nil (tq_n (wk ⟨[(8,vP H101.next 0),(9,vI 0)],39,[],H262⟩ rfl ?_))
      refine w_ret ?_
      refine ⟨.inr rfl,rfl,[.agg #[vI rx12112,vI rx13113,vI rx14114,vI rx15115,vI rx16116,vI rx17117,vI rx18118,rs19119,rs20120,rm121],vI 0],.cons (resV_cellE rfl ag68 sz68 f263.blk rfl (.inl rfl) rfl) (.cons (resV_tmp rfl neI) .nil),((((((((((((KeepX.refl (fun _ => False) H).new_ f102).new_ f107).keep k130).put f205 (by first | (right; omega) | (left; (try dsimp only) <;> omega))).new_ f214).keep k223).new_ f232).keep k241).keep k254).put f263 (by first | (right; omega) | (left; (try dsimp only) <;> omega))).k (fun _ h => h.elim)),w264,rx12112,rx13113,rx14114,rx15115,rx16116,rx17117,rx18118,rs19119,rs20120,rm121,0,rfl,hv123.mono ((((((l207.trans l216).trans l224).trans l234).trans l242).trans l255).trans l265),hv124.mono ((((((l207.trans l216).trans l224).trans l234).trans l242).trans l255).trans l265),?_,?_,?_⟩
      · intro h; first | (exfalso; revert h; first | decide | omega) | omega
      · exact f126
      · intro h; exfalso; revert h; first | decide | omega
  ·
   refine sv (v:=.bool true) rfl rfl rfl (opv_bin rfl rfl rfl rfl rfl (neT c209)) rfl ?_
   refine mv (.bool true) rfl rfl ?_
   refine wo_nil (tq_n (wk ⟨[(1,vI ax10),(2,vI ax11),(3,.slice (some ⟨n1,0,none⟩) 2 1),(4,vP H.next 0),(8,vP H101.next 0),(9,vI re122),(15,.bool true)],39,[],H204⟩ rfl ?_))
   refine w_cond (t:=true) rfl rfl (fun _ => ?_) (fun h => by cases h)
   refine w_seq (w_region (sv (v:=.agg #[vI rx12112,vI rx13113,vI rx14114,vI rx15115,vI rx16116,vI rx17117,vI rx18118,rs19119,rs20120,rm121]) rfl rfl rfl (opv_loadE rfl rfl rfl ag68 sz68 f205.blk rfl (.inl rfl) rfl) rfl ?_))
   refine mv (vI re122) rfl rfl ?_
   refine sv_put (H:=H204) (n:=H101.next) (v:=undef) (x:=some (.row #[vI rx12112,vI rx13113,vI rx14114,vI rx15115,vI rx16116,vI rx17117,vI rx18118,rs19119,rs20120,rm121] .raw)) rfl rfl rfl rfl (opv_storeC (u:=.agg #[vI rx12112,vI rx13113,vI rx14114,vI rx15115,vI rx16116,vI rx17117,vI rx18118,rs19119,rs20120,rm121]) rfl rfl rfl rfl rfl (by simp [undef]) sz68 rfl rfl (leafs_of (l:=[vI rx12112,vI rx13113,vI rx14114,vI rx15115,vI rx16116,vI rx17117,vI rx18118,rs19119,rs20120,rm121]) ⟨rfl,rfl,rfl,rfl,rfl,rfl,rfl,vt_one (hv123.mono l207),vt_one (hv124.mono l207),MV.one f126,trivial⟩) f205.blk rfl rfl) ?_
   intro H267 f268
   refine putL w206 f268 f205.blk fun n271 w269 l270 => ?_
   refine mv (vI re122) rfl rfl ?_
   refine wo_nil (tq_n (wk ⟨[(8,vP H101.next 0),(9,vI re122)],39,[],H267⟩ rfl ?_))
   refine w_ret ?_
   try refine q_eq (e':=.ret) rfl ?_
   refine tq_r ?_
   refine ⟨.inr rfl,rfl,[.agg #[vI rx12112,vI rx13113,vI rx14114,vI rx15115,vI rx16116,vI rx17117,vI rx18118,rs19119,rs20120,rm121],vI re122],.cons (resV_cellE rfl ag68 sz68 f268.blk rfl (.inl rfl) rfl) (.cons (resV_tmp rfl neI) .nil),(((((((KeepX.refl (fun _ => False) H).new_ f102).new_ f107).keep k130).put f205 (by first | (right; omega) | (left; (try dsimp only) <;> omega))).put f268 (by first | (right; omega) | (left; (try dsimp only) <;> omega))).k (fun _ h => h.elim)),w269,rx12112,rx13113,rx14114,rx15115,rx16116,rx17117,rx18118,rs19119,rs20120,rm121,re122,rfl,hv123.mono (l207.trans l270),hv124.mono (l207.trans l270),?_,?_,?_⟩
   · intro h; first | (exfalso; revert h; first | decide | omega) | omega
   · exact f126
   · intro h; exfalso; revert h; first | decide | omega

theorem gas_holds (ax1 ax2:Int) (ax3 ax4:Int) (ax5 ax6 ax7:Int) (as8 as9:Value) (to sh mi:Int) (nm:Nat) (es:Array MapEntry) (ck:Nat) (H:SH) (wt:WT H) (hvas8:VT H (.sl false [.int .i64,.int .i64]) as8) (hvas9:VT H (.sl false [.str,.int .i64]) as9) (hknm:H.get nm=some (.obj (.map es ck))) (hlnm:nm < H.next) (h0:0 ≤ to) (h1:to < (slen as9:Int)) (h2:0 ≤ mi) (hM:MapI (.int .i64) SpQ es):WC Try.prog 44 [.agg #[vI ax1,vI ax2,vI ax3,vI ax4,vI ax5,vI ax6,vI ax7,as8,as9,.map (some nm)],vI to,vI sh,vI mi] H (fun v H' => Keep H H'∧WT H'∧∃ (rr:Int),v=(vI rr)∧(-1 ≤ rr∧rr ≤ 60)):=by
 refine wc_of_body_marks Try.func44 rfl ?_
 refine wk ⟨[(0,.agg #[vI ax1,vI ax2,vI ax3,vI ax4,vI ax5,vI ax6,vI ax7,as8,as9,.map (some nm)]),(1,vI to),(2,vI sh),(3,vI mi)],41,[],H⟩ rfl ?_
 refine w_seq (w_region (sv_new (H:=H) (v:=vP H.next 0) (x:=.row #[vI ax1,vI ax2,vI ax3,vI ax4,vI ax5,vI ax6,vI ax7,as8,as9,.map (some nm)] .raw) rfl rfl rfl rfl (opv_boxE (v:=.agg #[vI ax1,vI ax2,vI ax3,vI ax4,vI ax5,vI ax6,vI ax7,as8,as9,.map (some nm)]) rfl rfl rfl (by simp [undef]) rfl) ?_))
 intro H101 f102
 refine newL wt f102 fun n105 w103 l104 => ?_
 refine sv_new (H:=H101) (v:=vP H101.next 0) (x:=.row #[vI 0] .raw) rfl rfl rfl rfl (opv_alloc rfl ze3 rfl) ?_
 intro H106 f107
 refine newL w103 f107 fun n110 w108 l109 => ?_
 refine wo_nil (tq_n (wk ⟨[(1,vI to),(2,vI sh),(3,vI mi),(4,vP H.next 0),(8,vP H101.next 0)],41,[],H106⟩ rfl ?_))
 refine w_seq (w_region (sv_put (H:=H106) (n:=H101.next) (v:=undef) (x:=some (.row #[vI (-1)] .raw)) rfl rfl rfl rfl (opv_storeC (u:=vI (-1)) rfl rfl rfl rfl rfl neI sz3 rfl rfl rfl f107.blk rfl rfl) ?_))
 intro H111 f112
 refine putL w108 f112 f107.blk fun n115 w113 l114 => ?_
 refine wo_nil (tq_n (wk ⟨[(1,vI to),(2,vI sh),(3,vI mi),(4,vP H.next 0),(8,vP H101.next 0)],41,[],H111⟩ rfl ?_))
 refine w_seq (w_region (mv (vI sh) rfl rfl ?_))
 refine sv (v:=vP H.next 0) rfl rfl rfl (opv_fieldAddrE rfl rfl rfl Try.underlying68 rfl sz27 (by decide) rfl) rfl ?_
 refine sv (v:=vP H.next 8) rfl rfl rfl (opv_fieldAddrE rfl rfl rfl Try.underlying27 rfl sz25 (by decide) rfl) rfl ?_
 refine sv (v:=as9) rfl rfl rfl (opv_loadE rfl rfl rfl ag25 sz25 ((f112.get H.next (by omega)).trans ((f107.get H.next (by omega)).trans f102.blk)) rfl (.inr rfl) rfl) rfl ?_
 refine mv (vI to) rfl rfl ?_
 refine sv (v:=.pointer (some ⟨snm as9,sof as9 + (to).toNat * 2,none⟩)) rfl rfl rfl (t_index (z:=2) (hvas9.mono ((l104.trans l109).trans l114)) rfl rfl rfl rfl rfl Try.underlying25 sz63 (by omega) (by omega)) rfl ?_
 refine sv (v:=.pointer (some ⟨snm as9,sof as9 + (to).toNat * 2 + 1,none⟩)) rfl rfl rfl (opv_fieldAddrE rfl rfl rfl Try.underlying63 rfl sz3 (by decide) rfl) rfl ?_
 obtain ⟨vs116,hs117,ho118⟩:=t_load (P:=Try.prog) w113 (hvas9.mono ((l104.trans l109).trans l114)) (i:=(to).toNat) (off:=1) (w:=1) (by omega) (by decide)
 replace hs117:VTs H111 [.int .i64] vs116:=hs117
 obtain ⟨x121,r119,rfl,hs120⟩:=vts_int hs117
 obtain rfl:=vts_nil hs120
 refine sv (v:=vI x121) rfl rfl rfl (ho118 _ _ _ _ false rfl rfl rfl rfl ag3 sz3 (.inr rfl)) rfl ?_
 refine sv_int rfl rfl rfl (opv_bin rfl rfl rfl rfl rfl rfl) ?_
 intro x122 h123
 try replace h123:x122=sh + x121:=wr_ex h123 (by omega) (by omega)
 refine sv_int rfl rfl rfl (opv_min rfl rfl rfl rfl rfl) ?_
 intro x124 h125
 replace h125:=ite_or h125
 refine mv (vI x124) rfl rfl ?_
 refine wo_nil (tq_n (wk ⟨[(3,vI mi),(4,vP H.next 0),(8,vP H101.next 0),(9,vI x124)],41,[],H111⟩ rfl ?_))
 refine w_seq (w_seq (w_region (mv (vI x124) rfl rfl ?_)))
 by_cases c126:x124 < 0
 ·
  refine sv (v:=.bool true) rfl rfl rfl (opv_bin rfl rfl rfl rfl rfl (cmpT rfl c126)) rfl ?_
  refine wo_nil (tq_n (wk ⟨[(3,vI mi),(4,vP H.next 0),(8,vP H101.next 0),(9,vI x124),(23,.bool true)],41,[],H111⟩ rfl ?_))
  refine w_cond (t:=true) rfl rfl (fun _ => ?_) (fun h => by cases h)
  refine w_seq (w_region (sv (v:=vI (-1)) rfl rfl rfl (opv_loadE rfl rfl rfl ag3 sz3 f112.blk rfl (.inr rfl) rfl) rfl ?_))
  refine sv_put (H:=H111) (n:=H101.next) (v:=undef) (x:=some (.row #[vI (-1)] .raw)) rfl rfl rfl rfl (opv_storeC (u:=vI (-1)) rfl rfl rfl rfl rfl neI sz3 rfl rfl rfl f112.blk rfl rfl) ?_
  intro H127 f128
  refine putL w113 f128 f112.blk fun n131 w129 l130 => ?_
  refine wo_nil (tq_n (wk ⟨[(8,vP H101.next 0)],41,[],H127⟩ rfl ?_))
  refine w_ret (tq_r ?_)
  refine ⟨.inr rfl,H127,[vI (-1)],.nil,.cons (resV_cellE rfl ag3 sz3 f128.blk rfl (.inr rfl) rfl) .nil,((((((KeepX.refl (fun _ => False) H).new_ f102).new_ f107).put f112 (by first | (right; omega) | (left; (try dsimp only) <;> omega))).put f128 (by first | (right; omega) | (left; (try dsimp only) <;> omega))).k (fun _ h => h.elim)),w129,-1,rfl,?_⟩
  · omega
 ·
  refine sv (v:=.bool false) rfl rfl rfl (opv_bin rfl rfl rfl rfl rfl (cmpF rfl c126)) rfl ?_
  refine wo_nil (tq_n (wk ⟨[(3,vI mi),(4,vP H.next 0),(8,vP H101.next 0),(9,vI x124),(23,.bool false)],41,[],H111⟩ rfl ?_))
  refine w_cond (t:=false) rfl rfl (fun h => by cases h) (fun _ => ?_)
  refine w_skip (tq_n (wk ⟨[(3,vI mi),(4,vP H.next 0),(8,vP H101.next 0),(9,vI x124)],41,[],H111⟩ rfl ?_))
  refine w_seq (w_seq (w_region (sv (v:=.agg #[vI ax1,vI ax2,vI ax3,vI ax4,vI ax5,vI ax6,vI ax7,as8,as9,.map (some nm)]) rfl rfl rfl (opv_loadE rfl rfl rfl ag68 sz68 ((f112.get H.next (by omega)).trans ((f107.get H.next (by omega)).trans f102.blk)) rfl (.inl rfl) rfl) rfl ?_)))
  refine mv (vI mi) rfl rfl ?_
  refine mv (vI x124) rfl rfl ?_
  refine mv (vI x124) rfl rfl ?_
  refine sv (v:=.agg #[vI x124,vI x124]) rfl rfl rfl (opv_buildStE (vs:=[(0,vI x124),(1,vI x124)]) rfl (.cons rfl rfl neI (.cons rfl rfl neI .nil)) ze23 rfl tin23 Try.underlying23 pl23 rfl rfl) rfl ?_
  refine sc_ (H:=H111) (vs:=[.agg #[vI ax1,vI ax2,vI ax3,vI ax4,vI ax5,vI ax6,vI ax7,as8,as9,.map (some nm)],vI mi,.agg #[vI x124,vI x124],vI (-1)]) (fv:=.func (.func 34) #[] #[]) rfl rfl rfl rfl rfl rfl (.cons rfl rfl (by simp [undef]) (.cons rfl rfl neI (.cons rfl rfl (by simp [undef]) (.cons rfl rfl neI .nil)))) rfl ?_
  refine WV.mono (wv_f0 Try.call34 (gas_follow ax1 ax2 ax3 ax4 ax5 ax6 ax7 as8 as9 mi x124 x124 (-1) (.map (some nm)) _ w113 (hvas8.mono ((l104.trans l109).trans l114)) (hvas9.mono ((l104.trans l109).trans l114)) MV.some)) ?_
  rintro v141 H142 ⟨k143,w132,r1133,r2134,r3135,r4136,rfl,⟨hb137,_,_⟩,⟨hb138,_,_⟩,⟨hb139,_,_⟩,⟨hb140,_,_⟩⟩
  refine kpL k143 fun n145 l144 => ?_
  refine wo_nil (tq_n (wk ⟨[(4,vP H.next 0),(8,vP H101.next 0),(30,.func (.func 61) #[] #[vP r1133 0,vP r2134 0,vP r3135 0,vP r4136 0])],41,[],H142⟩ rfl ?_))
  refine w_block ?_
  refine w_range' (e:=[(false,[.int .i64]),(true,[.int .i64,.int .i64])]) (Y:=(fun l => 0 ≤ argI l 0 0∧argI l 0 0 ≤ 60)) (C:=fun m => m=r1133∨m=r2134∨m=r3135∨m=r4136∨m=nm) (M:=fun m => m=r3135) (Hq:=H142) rfl rfl (gas_follow_seq r1133 r2134 r3135 r4136 nm es ck mi (-1) x124 x124 ax1 ax2 ax3 ax4 ax5 ax6 ax7 as8 as9 _ w132 (hvas8.mono (((l104.trans l109).trans l114).trans l144)) (hvas9.mono (((l104.trans l109).trans l114).trans l144)) hb137 (by omega) hb138 (by omega) hb139 (by omega) hb140 (by omega) ((k143.get nm (by omega)).trans ((f112.get nm (by omega)).trans ((f107.get nm (by omega)).trans ((f102.get nm (by omega)).trans hknm)))) (by omega) (by omega) hM) (KeepX.refl _ _) (Le.refl _) w132 rfl (by simp) (fun m => m=H101.next) (fun A => ∃ (x146:Int),A.get H101.next=some (.row #[vI x146] .raw)∧(-1 ≤ x146∧x146 ≤ 60)) (fun x A => (x=(.exit 0)∧∃ (x146:Int),A.get H101.next=some (.row #[vI x146] .raw)∧(-1 ≤ x146∧x146 ≤ 60))) (fun m hm => ⟨by (try dsimp only at hm); intro h; omega,by (try dsimp only at hm); omega⟩) ?_ ?_ ?_ ?_ ?_ ?_
  ·
   intro H148 _ k149 w150
   have n151:=k149.next
   have l152:=k149.le
   exact ⟨-1,(k149.get H101.next (by omega)).trans ((k143.get H101.next (by omega)).trans f112.blk),by omega⟩
  ·
   rintro A154 A155 ⟨x146,hb147,i153⟩ n156 k157 l158
   exact ⟨x146,((k157.get _ (by omega) (by intro h; (try dsimp only at h); omega)).trans hb147),i153⟩
  ·
   rintro x A159 A160 h164 n161 k162 l163
   obtain ⟨rfl,⟨x146,hb147,i165⟩⟩:=h164
   exact ⟨rfl,⟨x146,((k162.get _ (by omega) (by intro h; (try dsimp only at h); omega)).trans hb147),i165⟩⟩
  ·
   rintro A166 as167 w168 l169 k170 n171 hr172 ⟨x146,hb147,i175⟩ ha173 hY174
   replace k170:=k170.weak (Y:=fun m => m=H101.next∨m=r3135) (fun m h => by (try dsimp only at h ⊢); omega)
   obtain ⟨v176,r177,rfl,⟨us178,hu179,rfl⟩,ha173⟩:=ha173
   replace hu179:VTs A166 [.int .i64] us178:=hu179
   obtain ⟨x182,r180,rfl,hs181⟩:=vts_int hu179
   obtain rfl:=vts_nil hs181
   obtain ⟨v183,r184,rfl,⟨us185,hu186,rfl⟩,ha173⟩:=ha173
   replace hu186:VTs A166 [.int .i64,.int .i64] us185:=hu186
   obtain ⟨x189,r187,rfl,hs188⟩:=vts_int hu186
   obtain ⟨x192,r190,rfl,hs191⟩:=vts_int hs188
   obtain rfl:=vts_nil hs191
   obtain rfl:r184=[]:=ha173
   replace hY174:0 ≤ x182∧x182 ≤ 60:=hY174
   refine round_start ?_
   refine wk ⟨[(4,vP H.next 0),(8,vP H101.next 0),(31,vI x182),(32,.agg #[vI x189,vI x192])],41,[],A166⟩ rfl ?_
   refine w_seq (w_region (mv (vI x182) rfl rfl ?_))
   refine wo_nil (tq_n (wk ⟨[(4,vP H.next 0),(8,vP H101.next 0),(10,vI x182),(32,.agg #[vI x189,vI x192])],41,[],A166⟩ rfl ?_))
   refine w_region (sv_new (H:=A166) (v:=vP A166.next 0) (x:=.row #[vI 0,vI 0] .raw) rfl rfl rfl rfl (opv_alloc rfl ze23 rfl) ?_)
   intro H193 f194
   refine newL w168 f194 fun n197 w195 l196 => ?_
   refine sv_put (H:=H193) (n:=A166.next) (v:=undef) (x:=some (.row #[vI x189,vI x192] .raw)) rfl rfl rfl rfl (opv_storeC (u:=.agg #[vI x189,vI x192]) rfl rfl rfl rfl rfl (by simp [undef]) sz23 rfl rfl rfl f194.blk rfl rfl) ?_
   intro H198 f199
   refine putL w195 f199 f194.blk fun n202 w200 l201 => ?_
   refine wo_nil (⟨rfl,(f199.get (H142.next + 1) (by omega)).trans ((f194.get (H142.next + 1) (by omega)).trans hr172),?_⟩)
   intro H203 f204
   replace f204:PutF H198 (H142.next + 1) _ H203:=f204
   have n207:=f204.next
   have w205:=w200.putO f204 ((f199.get (H142.next + 1) (by omega)).trans ((f194.get (H142.next + 1) (by omega)).trans hr172)) (by simp) (by simp)
   have l206:=Le.putO f204 ((f199.get (H142.next + 1) (by omega)).trans ((f194.get (H142.next + 1) (by omega)).trans hr172)) (by simp)
   refine wk ⟨[(4,vP H.next 0),(8,vP H101.next 0),(10,vI x182),(11,vP A166.next 0)],41,[],H203⟩ rfl ?_
   refine w_block (w_seq (w_seq (w_region (sv (v:=vP A166.next 1) rfl rfl rfl (opv_fieldAddrE rfl rfl rfl Try.underlying23 rfl sz3 (by decide) rfl) rfl ?_))))
   refine sv (v:=vI x192) rfl rfl rfl (opv_loadE rfl rfl rfl ag3 sz3 ((f204.get A166.next (by omega)).trans f199.blk) rfl (.inr rfl) rfl) rfl ?_
   refine sv (v:=vP H.next 0) rfl rfl rfl (opv_fieldAddrE rfl rfl rfl Try.underlying68 rfl sz27 (by decide) rfl) rfl ?_
   refine sv (v:=vP H.next 6) rfl rfl rfl (opv_fieldAddrE rfl rfl rfl Try.underlying27 rfl sz3 (by decide) rfl) rfl ?_
   refine sv (v:=vI ax7) rfl rfl rfl (opv_loadE rfl rfl rfl ag3 sz3 ((f204.get H.next (by omega)).trans ((f199.get H.next (by omega)).trans ((f194.get H.next (by omega)).trans ((k170.get H.next (by omega) (by (try dsimp only); omega)).trans ((k143.get H.next (by omega)).trans ((f112.get H.next (by omega)).trans ((f107.get H.next (by omega)).trans f102.blk))))))) rfl (.inr rfl) rfl) rfl ?_
   by_cases c208:x192 > ax7
   ·
    refine sv (v:=.bool true) rfl rfl rfl (opv_bin rfl rfl rfl rfl rfl (cmpT rfl c208)) rfl ?_
    refine wo_nil (tq_n (wk ⟨[(8,vP H101.next 0),(10,vI x182),(38,.bool true)],41,[],H203⟩ rfl ?_))
    refine w_cond (t:=true) rfl rfl (fun _ => ?_) (fun h => by cases h)
    refine w_exit (tq_e ?_)
    try refine q_eq (e':=.exit 0) rfl ?_
    refine ⟨f204.blk,fun H209 => ⟨fun h => (by cases h),fun _ => ⟨_,rfl,fun f210 => ?_⟩⟩⟩
    replace f210:PutF H203 (H142.next + 1) _ H209:=f210
    have n213:=f210.next
    have w211:=w205.putO f210 f204.blk (by simp) (by simp)
    have l212:=Le.putO f210 f204.blk (by simp)
    exact ⟨w211,((l196.trans l201).trans l206).trans l212,(((((KeepX.refl (fun m => m=H101.next∨m=(H142.next + 1)) A166).new_ f194).put f199 (by first | (right; omega) | (left; (try dsimp only) <;> omega))).put f204 (by first | (right; omega) | (left; (try dsimp only) <;> omega))).put f210 (by first | (right; omega) | (left; (try dsimp only) <;> omega))).weak (fun m h => by (try dsimp only at h ⊢); omega),⟨rfl,⟨x146,(f210.get H101.next (by omega)).trans ((f204.get H101.next (by omega)).trans ((f199.get H101.next (by omega)).trans ((f194.get H101.next (by omega)).trans hb147))),by omega⟩⟩⟩
   ·
    refine sv (v:=.bool false) rfl rfl rfl (opv_bin rfl rfl rfl rfl rfl (cmpF rfl c208)) rfl ?_
    refine wo_nil (tq_n (wk ⟨[(8,vP H101.next 0),(10,vI x182),(38,.bool false)],41,[],H203⟩ rfl ?_))
    refine w_cond (t:=false) rfl rfl (fun h => by cases h) (fun _ => ?_)
    refine w_skip (tq_n (wk ⟨[(8,vP H101.next 0),(10,vI x182)],41,[],H203⟩ rfl ?_))
    refine w_region (mv (vI x182) rfl rfl ?_)
    refine sv_put (H:=H203) (n:=H101.next) (v:=undef) (x:=some (.row #[vI x182] .raw)) rfl rfl rfl rfl (opv_storeC (u:=vI x182) rfl rfl rfl rfl rfl neI sz3 rfl rfl rfl ((f204.get H101.next (by omega)).trans ((f199.get H101.next (by omega)).trans ((f194.get H101.next (by omega)).trans hb147))) rfl rfl) ?_
    intro H214 f215
    refine putL w205 f215 ((f204.get H101.next (by omega)).trans ((f199.get H101.next (by omega)).trans ((f194.get H101.next (by omega)).trans hb147))) fun n218 w216 l217 => ?_
    refine wo_nil ?_
    try refine q_eq (e':=.normal) rfl ?_
    refine ⟨(f215.get (H142.next + 1) (by omega)).trans f204.blk,fun H219 => ⟨fun _ f220 => ?_,fun h => absurd rfl h⟩⟩
    replace f220:PutF H214 (H142.next + 1) _ H219:=f220
    have n223:=f220.next
    have w221:=w216.putO f220 ((f215.get (H142.next + 1) (by omega)).trans f204.blk) (by simp) (by simp)
    have l222:=Le.putO f220 ((f215.get (H142.next + 1) (by omega)).trans f204.blk) (by simp)
    exact ⟨w221,(((l196.trans l201).trans l206).trans l217).trans l222,((((((KeepX.refl (fun m => m=H101.next∨m=(H142.next + 1)) A166).new_ f194).put f199 (by first | (right; omega) | (left; (try dsimp only) <;> omega))).put f204 (by first | (right; omega) | (left; (try dsimp only) <;> omega))).put f215 (by first | (right; omega) | (left; (try dsimp only) <;> omega))).put f220 (by first | (right; omega) | (left; (try dsimp only) <;> omega))).weak (fun m h => by (try dsimp only at h ⊢); omega),⟨x182,(f220.get H101.next (by omega)).trans f215.blk,by omega⟩⟩
  ·
   rintro H229 w224 l225 k226 n227 hd228 ⟨x146,hb147,i230⟩
   replace k226:=k226.weak (Y:=fun m => m=H101.next∨m=r3135) (fun m h => by (try dsimp only at h ⊢); omega)
   try refine q_eq (e':=.normal) rfl ?_
   refine tqk ⟨[(8,vP H101.next 0)],41,[mark H142.next],H229⟩ rfl ?_
   refine w_seq (w_region (sv (v:=vI x146) rfl rfl rfl (opv_loadE rfl rfl rfl ag3 sz3 hb147 rfl (.inr rfl) rfl) rfl ?_))
   refine sv_put (H:=H229) (n:=H101.next) (v:=undef) (x:=some (.row #[vI x146] .raw)) rfl rfl rfl rfl (opv_storeC (u:=vI x146) rfl rfl rfl rfl rfl neI sz3 rfl rfl rfl hb147 rfl rfl) ?_
   intro H231 f232
   refine putL w224 f232 hb147 fun n235 w233 l234 => ?_
   refine wo_nil (tq_n (wk ⟨[(8,vP H101.next 0)],41,[mark H142.next],H231⟩ rfl ?_))
   refine w_ret ?_
   obtain ⟨H236,f237,m238⟩:=marks1 ((f232.get H142.next (by omega)).trans hd228)
   have n241:=f237.next
   have w239:=w233.putO f237 ((f232.get H142.next (by omega)).trans hd228) (by simp) (by simp)
   have l240:=Le.putO f237 ((f232.get H142.next (by omega)).trans hd228) (by simp)
   refine ⟨.inr rfl,H236,[vI x146],m238 _ _ .nil,.cons (resV_cellE rfl ag3 sz3 ((f237.get H101.next (by omega)).trans f232.blk) rfl (.inr rfl) rfl) .nil,(((((((((KeepX.refl (fun _ => False) H).new_ f102).new_ f107).put f112 (by first | (right; omega) | (left; (try dsimp only) <;> omega))).keep k143).trans k226 (by intro m hm; (try simp only [false_or,or_false] at hm ⊢); (try dsimp only at hm ⊢); first | omega | (right; omega) | (left; left; omega) | (left; right; omega))).put f232 (by first | (right; omega) | (left; (try dsimp only) <;> omega))).put f237 (by first | (right; omega) | (left; (try dsimp only) <;> omega))).k (fun _ h => h.elim)),w239,x146,rfl,?_⟩
   · omega
  ·
   rintro x H247 w242 l243 k244 n245 hd246 h249
   obtain ⟨rfl,⟨x146,hb147,i250⟩⟩:=h249
   replace k244:=k244.weak (Y:=fun m => m=H101.next∨m=r3135) (fun m h => by (try dsimp only at h ⊢); omega)
   try refine q_eq (e':=.normal) rfl ?_
   refine tqk ⟨[(8,vP H101.next 0)],41,[mark H142.next],H247⟩ rfl ?_
   refine w_seq (w_region (sv (v:=vI x146) rfl rfl rfl (opv_loadE rfl rfl rfl ag3 sz3 hb147 rfl (.inr rfl) rfl) rfl ?_))
   refine sv_put (H:=H247) (n:=H101.next) (v:=undef) (x:=some (.row #[vI x146] .raw)) rfl rfl rfl rfl (opv_storeC (u:=vI x146) rfl rfl rfl rfl rfl neI sz3 rfl rfl rfl hb147 rfl rfl) ?_
   intro H251 f252
   refine putL w242 f252 hb147 fun n255 w253 l254 => ?_
   refine wo_nil (tq_n (wk ⟨[(8,vP H101.next 0)],41,[mark H142.next],H251⟩ rfl ?_))
   refine w_ret ?_
   obtain ⟨H256,f257,m258⟩:=marks1 ((f252.get H142.next (by omega)).trans hd246)
   have n261:=f257.next
   have w259:=w253.putO f257 ((f252.get H142.next (by omega)).trans hd246) (by simp) (by simp)
   have l260:=Le.putO f257 ((f252.get H142.next (by omega)).trans hd246) (by simp)
   refine ⟨.inr rfl,H256,[vI x146],m258 _ _ .nil,.cons (resV_cellE rfl ag3 sz3 ((f257.get H101.next (by omega)).trans f252.blk) rfl (.inr rfl) rfl) .nil,(((((((((KeepX.refl (fun _ => False) H).new_ f102).new_ f107).put f112 (by first | (right; omega) | (left; (try dsimp only) <;> omega))).keep k143).trans k244 (by intro m hm; (try simp only [false_or,or_false] at hm ⊢); (try dsimp only at hm ⊢); first | omega | (right; omega) | (left; left; omega) | (left; right; omega))).put f252 (by first | (right; omega) | (left; (try dsimp only) <;> omega))).put f257 (by first | (right; omega) | (left; (try dsimp only) <;> omega))).k (fun _ h => h.elim)),w259,x146,rfl,?_⟩
   · omega

theorem gas_Holds (ax1 ax2:Int) (ax3 ax4:Int) (ax5 ax6 ax7:Int) (as8 as9:Value) (ax10 ax11 ax12:Int) (H:SH) (wt:WT H) (hvas8:VT H (.sl false [.int .i64,.int .i64]) as8) (hvas9:VT H (.sl false [.str,.int .i64]) as9):WC Try.prog 22 [.agg #[vI ax1,vI ax2,vI ax3,vI ax4,vI ax5,vI ax6,vI ax7,as8,as9],vI ax10,vI ax11,vI ax12] H (fun v H' => Keep H H'∧WT H'∧∃ (rx13 rx14:Int),v=(.tuple #[vI rx13,vI rx14])):=by
 refine wc_of_body Try.func22 rfl ?_
 refine wk ⟨[(0,.agg #[vI ax1,vI ax2,vI ax3,vI ax4,vI ax5,vI ax6,vI ax7,as8,as9]),(1,vI ax10),(2,vI ax11),(3,vI ax12)],29,[],H⟩ rfl ?_
 refine w_seq (w_region (sv_new (H:=H) (v:=vP H.next 0) (x:=.row #[vI ax1,vI ax2,vI ax3,vI ax4,vI ax5,vI ax6,vI ax7,as8,as9] .raw) rfl rfl rfl rfl (opv_boxE (v:=.agg #[vI ax1,vI ax2,vI ax3,vI ax4,vI ax5,vI ax6,vI ax7,as8,as9]) rfl rfl rfl (by simp [undef]) rfl) ?_))
 intro H101 f102
 refine newL wt f102 fun n105 w103 l104 => ?_
 refine mv (vI 0) rfl rfl ?_
 refine mv (vI 0) rfl rfl ?_
 refine wo_nil (tq_n (wk ⟨[(1,vI ax10),(2,vI ax11),(3,vI ax12),(4,vP H.next 0)],29,[],H101⟩ rfl ?_))
 refine w_seq (w_region (sv (v:=.agg #[vI ax1,vI ax2,vI ax3,vI ax4,vI ax5,vI ax6,vI ax7,as8,as9]) rfl rfl rfl (opv_loadE rfl rfl rfl ag27 sz27 f102.blk rfl (.inl rfl) rfl) rfl ?_))
 refine mv (vI ax10) rfl rfl ?_
 refine mv (vI ax11) rfl rfl ?_
 refine mv (vI ax12) rfl rfl ?_
 refine sv_new (H:=H101) (v:=.slice (some ⟨H101.next,0,none⟩) 1 1) (x:=.row #[vI ax12] .raw) rfl rfl rfl rfl (opv_buildSliceE (vs:=[(0,vI ax12)]) rfl (.cons rfl rfl neI .nil) Try.underlying31 sz3 ze3 rfl (by decide) (by decide) rfl rfl rfl) ?_
 intro H106 f107
 refine newL w103 f107 fun n110 w108 l109 => ?_
 refine sc_ (H:=H106) (vs:=[.agg #[vI ax1,vI ax2,vI ax3,vI ax4,vI ax5,vI ax6,vI ax7,as8,as9],vI ax10,vI ax11,.slice (some ⟨H101.next,0,none⟩) 1 1]) (fv:=.func (.func 43) #[] #[]) rfl rfl rfl rfl rfl rfl (.cons rfl rfl (by simp [undef]) (.cons rfl rfl neI (.cons rfl rfl neI (.cons rfl rfl (by simp [undef]) .nil)))) rfl ?_
 refine WV.mono (wv_f0 Try.call43 (gas_tooled1 ax1 ax2 ax3 ax4 ax5 ax6 ax7 as8 as9 ax10 ax11 H101.next ax12 _ w108 (hvas8.mono (l104.trans l109)) (hvas9.mono (l104.trans l109)) f107.blk (by omega))) ?_
 rintro v128 H129 ⟨k130,w111,rx12112,rx13113,rx14114,rx15115,rx16116,rx17117,rx18118,rs19119,rs20120,rm121,re122,rfl,hv123,hv124,f125,f126,f127⟩
 refine kpL k130 fun n132 l131 => ?_
 by_cases he133:re122=0
 ·
  obtain ⟨nm134,es135,ck136,rfl,g137,g138,g139,hM140⟩:=f127 he133
  obtain rfl:=he133
  have hE141:=f125 rfl
  refine mv (.tuple #[.agg #[vI rx12112,vI rx13113,vI rx14114,vI rx15115,vI rx16116,vI rx17117,vI rx18118,rs19119,rs20120,.map (some nm134)],vI 0]) rfl rfl ?_
  refine sv (v:=.agg #[vI rx12112,vI rx13113,vI rx14114,vI rx15115,vI rx16116,vI rx17117,vI rx18118,rs19119,rs20120,.map (some nm134)]) rfl rfl rfl (opv_extract rfl rfl rfl rfl) rfl ?_
  refine sv (v:=vI 0) rfl rfl rfl (opv_extract rfl rfl rfl rfl) rfl ?_
  refine sv_new (H:=H129) (v:=vP H129.next 0) (x:=.row #[vI 0,vI 0,vI 0,vI 0,vI 0,vI 0,vI 0,.slice none 0 0,.slice none 0 0,.map none] .raw) rfl rfl rfl rfl (opv_alloc rfl ze68 rfl) ?_
  intro H142 f143
  refine newL w111 f143 fun n146 w144 l145 => ?_
  refine sv_put (H:=H142) (n:=H129.next) (v:=undef) (x:=some (.row #[vI rx12112,vI rx13113,vI rx14114,vI rx15115,vI rx16116,vI rx17117,vI rx18118,rs19119,rs20120,.map (some nm134)] .raw)) rfl rfl rfl rfl (opv_storeC (u:=.agg #[vI rx12112,vI rx13113,vI rx14114,vI rx15115,vI rx16116,vI rx17117,vI rx18118,rs19119,rs20120,.map (some nm134)]) rfl rfl rfl rfl rfl (by simp [undef]) sz68 rfl rfl (leafs_of (l:=[vI rx12112,vI rx13113,vI rx14114,vI rx15115,vI rx16116,vI rx17117,vI rx18118,rs19119,rs20120,.map (some nm134)]) ⟨rfl,rfl,rfl,rfl,rfl,rfl,rfl,vt_one (hv123.mono l145),vt_one (hv124.mono l145),rfl,trivial⟩) f143.blk rfl rfl) ?_
  intro H147 f148
  refine putL w144 f148 f143.blk fun n151 w149 l150 => ?_
  refine mv (vI 0) rfl rfl ?_
  refine wo_nil (tq_n (wk ⟨[(1,vI ax10),(2,vI ax11),(3,vI ax12),(10,vP H129.next 0),(11,vI 0)],29,[],H147⟩ rfl ?_))
  refine w_seq (w_seq (w_region (mv (vI 0) rfl rfl ?_)))
  refine sv (v:=.bool false) rfl rfl rfl (opv_bin rfl rfl rfl rfl rfl (neF (by decide))) rfl ?_
  refine wo_nil (tq_n (wk ⟨[(1,vI ax10),(2,vI ax11),(3,vI ax12),(10,vP H129.next 0),(11,vI 0),(22,.bool false)],29,[],H147⟩ rfl ?_))
  refine w_cond (t:=false) rfl rfl (fun h => by cases h) (fun _ => ?_)
  refine w_skip (tq_n (wk ⟨[(1,vI ax10),(2,vI ax11),(3,vI ax12),(10,vP H129.next 0)],29,[],H147⟩ rfl ?_))
  refine w_seq (w_region (sv (v:=.agg #[vI rx12112,vI rx13113,vI rx14114,vI rx15115,vI rx16116,vI rx17117,vI rx18118,rs19119,rs20120,.map (some nm134)]) rfl rfl rfl (opv_loadE rfl rfl rfl ag68 sz68 f148.blk rfl (.inl rfl) rfl) rfl ?_))
  refine mv (vI ax10) rfl rfl ?_
  refine mv (vI ax11) rfl rfl ?_
  refine mv (vI ax12) rfl rfl ?_
  refine sc_ (H:=H147) (vs:=[.agg #[vI rx12112,vI rx13113,vI rx14114,vI rx15115,vI rx16116,vI rx17117,vI rx18118,rs19119,rs20120,.map (some nm134)],vI ax10,vI ax11,vI ax12]) (fv:=.func (.func 44) #[] #[]) rfl rfl rfl rfl rfl rfl (.cons rfl rfl (by simp [undef]) (.cons rfl rfl neI (.cons rfl rfl neI (.cons rfl rfl neI .nil)))) rfl ?_
  refine WV.mono (wv_f0 Try.call44 (gas_holds rx12112 rx13113 rx14114 rx15115 rx16116 rx17117 rx18118 rs19119 rs20120 ax10 ax11 ax12 nm134 es135 ck136 _ w149 (hv123.mono (l145.trans l150)) (hv124.mono (l145.trans l150)) ((f148.get nm134 (by omega)).trans ((f143.get nm134 (by omega)).trans g139)) (by omega) (by omega) (by omega) (by omega) hM140)) ?_
  rintro v155 H156 ⟨k157,w152,rr153,rfl,f154⟩
  refine kpL k157 fun n159 l158 => ?_
  refine mv (vI rr153) rfl rfl ?_
  refine mv (vI 0) rfl rfl ?_
  refine wo_nil (tq_n (wk ⟨[(8,vI rr153),(9,vI 0)],29,[],H156⟩ rfl ?_))
  refine w_ret ?_
  refine ⟨.inr rfl,rfl,[vI rr153,vI 0],.cons (resV_tmp rfl neI) (.cons (resV_tmp rfl neI) .nil),((((((((KeepX.refl (fun _ => False) H).new_ f102).new_ f107).keep k130).new_ f143).put f148 (by first | (right; omega) | (left; (try dsimp only) <;> omega))).keep k157).k (fun _ h => h.elim)),w152,rr153,0,rfl⟩
 ·
  refine mv (.tuple #[.agg #[vI rx12112,vI rx13113,vI rx14114,vI rx15115,vI rx16116,vI rx17117,vI rx18118,rs19119,rs20120,rm121],vI re122]) rfl rfl ?_
  refine sv (v:=.agg #[vI rx12112,vI rx13113,vI rx14114,vI rx15115,vI rx16116,vI rx17117,vI rx18118,rs19119,rs20120,rm121]) rfl rfl rfl (opv_extract rfl rfl rfl rfl) rfl ?_
  refine sv (v:=vI re122) rfl rfl rfl (opv_extract rfl rfl rfl rfl) rfl ?_
  refine sv_new (H:=H129) (v:=vP H129.next 0) (x:=.row #[vI 0,vI 0,vI 0,vI 0,vI 0,vI 0,vI 0,.slice none 0 0,.slice none 0 0,.map none] .raw) rfl rfl rfl rfl (opv_alloc rfl ze68 rfl) ?_
  intro H160 f161
  refine newL w111 f161 fun n164 w162 l163 => ?_
  refine sv_put (H:=H160) (n:=H129.next) (v:=undef) (x:=some (.row #[vI rx12112,vI rx13113,vI rx14114,vI rx15115,vI rx16116,vI rx17117,vI rx18118,rs19119,rs20120,rm121] .raw)) rfl rfl rfl rfl (opv_storeC (u:=.agg #[vI rx12112,vI rx13113,vI rx14114,vI rx15115,vI rx16116,vI rx17117,vI rx18118,rs19119,rs20120,rm121]) rfl rfl rfl rfl rfl (by simp [undef]) sz68 rfl rfl (leafs_of (l:=[vI rx12112,vI rx13113,vI rx14114,vI rx15115,vI rx16116,vI rx17117,vI rx18118,rs19119,rs20120,rm121]) ⟨rfl,rfl,rfl,rfl,rfl,rfl,rfl,vt_one (hv123.mono l163),vt_one (hv124.mono l163),MV.one f126,trivial⟩) f161.blk rfl rfl) ?_
  intro H165 f166
  refine putL w162 f166 f161.blk fun n169 w167 l168 => ?_
  refine mv (vI re122) rfl rfl ?_
  refine wo_nil (tq_n (wk ⟨[(1,vI ax10),(2,vI ax11),(3,vI ax12),(10,vP H129.next 0),(11,vI re122)],29,[],H165⟩ rfl ?_))
  refine w_seq (w_seq (w_region (mv (vI re122) rfl rfl ?_)))
  by_cases c170:re122=0
  ·
   exfalso; omega -- no contract for 44 (orlop/gas.space).holds (match map mv)
  ·
   refine sv (v:=.bool true) rfl rfl rfl (opv_bin rfl rfl rfl rfl rfl (neT c170)) rfl ?_
   refine wo_nil (tq_n (wk ⟨[(1,vI ax10),(2,vI ax11),(3,vI ax12),(10,vP H129.next 0),(11,vI re122),(22,.bool true)],29,[],H165⟩ rfl ?_))
   refine w_cond (t:=true) rfl rfl (fun _ => ?_) (fun h => by cases h)
   refine w_seq (w_region (mv (vI re122) rfl rfl ?_))
   refine mv (vI 0) rfl rfl ?_
   refine mv (vI re122) rfl rfl ?_
   refine wo_nil (tq_n (wk ⟨[(8,vI 0),(9,vI re122)],29,[],H165⟩ rfl ?_))
   refine w_ret (tq_r ?_)
   refine ⟨.inr rfl,rfl,[vI 0,vI re122],.cons (resV_tmp rfl neI) (.cons (resV_tmp rfl neI) .nil),(((((((KeepX.refl (fun _ => False) H).new_ f102).new_ f107).keep k130).new_ f161).put f166 (by first | (right; omega) | (left; (try dsimp only) <;> omega))).k (fun _ h => h.elim)),w167,0,re122,rfl⟩
end Go.Proofs.Orl

namespace Go.Proofs.Orl
open Go Go.MapKept
set_option maxRecDepth 10000
set_option maxHeartbeats 4000000

def FG (hF:Int→Int) (a b:Int) (fN gP:Nat→Int) (i:Nat):Prop :=
  1 ≤ fN i∧fN i ≤ 62∧(fN i < 62→(a ≤ gP i∧gP i ≤ i∧(i:Int) ≤ hF (gP i))∧(hF (gP i) < b→fN (hF (gP i) + 1).toNat < 62))
def FA (hF:Int→Int) (a b:Int) (fN gP:Nat→Int) (k:Int):Prop:=∀ i:Nat,k < i→(i:Int) ≤ b→FG hF a b fN gP i
theorem fa_init {hF:Int→Int} {a b k:Int} {fN gP:Nat→Int} (h:b ≤ k):FA hF a b fN gP k:=fun i h1 h2 => by omega
theorem fa_start {hF:Int→Int} {a b k:Int} {fN gP:Nat→Int} (h0:0 ≤ k) (h:FA hF a b fN gP k):FA hF a b (upI fN k.toNat 62) gP k:=fun i h1 h2 => by
  obtain ⟨q1,q2,q3⟩:=h i h1 h2
  have hi:upI fN k.toNat 62 i=fN i:=upI_ne _ _ (by omega)
  refine ⟨by rw [hi]; exact q1,by rw [hi]; exact q2,fun hl => ?_⟩
  rw [hi] at hl
  obtain ⟨⟨g1,g2,g3⟩,g4⟩:=q3 hl
  exact ⟨⟨g1,g2,g3⟩,fun hb => by rw [upI_ne _ _ (by omega)]; exact g4 hb⟩
theorem fg_start {hF:Int→Int} {a b k:Int} {fN gP:Nat→Int} : FG hF a b (upI fN k.toNat 62) gP k.toNat:=by
  have hi:=upI_at fN k.toNat 62
  exact ⟨by rw [hi]; decide,by rw [hi]; decide,fun hl => by rw [hi] at hl; exact absurd hl (by decide)⟩
theorem fa_upd {hF:Int→Int} {a b k n m:Int} {fN gP:Nat→Int} (h0:0 ≤ k) (h:FA hF a b fN gP k):FA hF a b (upI fN k.toNat n) (upI gP k.toNat m) k:=fun i h1 h2 => by
  obtain ⟨q1,q2,q3⟩:=h i h1 h2
  have hi:upI fN k.toNat n i=fN i:=upI_ne _ _ (by omega)
  have hg:upI gP k.toNat m i=gP i:=upI_ne _ _ (by omega)
  refine ⟨by rw [hi]; exact q1,by rw [hi]; exact q2,fun hl => ?_⟩
  rw [hi] at hl
  rw [hg]
  obtain ⟨⟨g1,g2,g3⟩,g4⟩:=q3 hl
  exact ⟨⟨g1,g2,g3⟩,fun hb => by rw [upI_ne _ _ (by omega)]; exact g4 hb⟩
theorem fg_upd {hF:Int→Int} {a b k n m:Int} {fN gP:Nat→Int} (h0:0 ≤ k) (hk:k ≤ b) (h:FA hF a b fN gP k) (hn:n < 62) (h1:a ≤ m) (h2:m ≤ k) (h3:k ≤ hF m) (h4 : (¬ hF m < b∧n=1)∨(hF m < b∧n=1 + fN (hF m + 1).toNat)) :
    FG hF a b (upI fN k.toNat n) (upI gP k.toNat m) k.toNat:=by
  have hi:=upI_at fN k.toNat n
  have hg:=upI_at gP k.toNat m
  have hkk : ((k.toNat:Nat):Int) = k:=Int.toNat_of_nonneg h0
  refine ⟨?_,by rw [hi]; omega,fun _ => ?_⟩
  · rw [hi]
    rcases h4 with ⟨_,rfl⟩ | ⟨hb,rfl⟩
    · decide
    · have:=(h (hF m + 1).toNat (by omega) (by omega)).1; omega
  · rw [hg,hkk]
    refine ⟨⟨h1,h2,h3⟩,fun hb => ?_⟩
    rw [upI_ne _ _ (by omega)]
    rcases h4 with ⟨h5,_⟩ | ⟨_,rfl⟩
    · exact absurd hb h5
    · omega
theorem fa_next {hF:Int→Int} {a b k k' : Int} {fN gP:Nat→Int} (h0:0 ≤ k) (hk:k' = k - 1) (h:FA hF a b fN gP k) (hg:FG hF a b fN gP k.toNat):FA hF a b fN gP k':=fun i h1 h2 => by
  by_cases e : (i:Int) = k
  · have:i=k.toNat:=by omega
    rw [this]; exact hg
  · exact h i (by omega) h2
theorem holds_det (ax1:Int) (ax2:Int) (ax3:Int) (ax4:Int) (ax5:Int) (ax6:Int) (ax7:Int) (as8:Value) (as9:Value) (to:Int) (sh:Int) (nm:Nat) (es:Array MapEntry) (ck:Nat) (Hs:SH) (wt:WT Hs) (hvas8:VT Hs (.sl false [.int .i64,.int .i64]) as8) (hvas9:VT Hs (.sl false [.str,.int .i64]) as9) (hknm:Hs.get nm=some (.obj (.map es ck))) (hlnm:nm < Hs.next) (h0:0 ≤ to) (h1:to < (slen as9:Int)) (hM:MapI (.int .i64) SpQ es) {φ0:Ph} {w0:World} (hr0:Rel φ0 Hs w0) {nn:Nat} (hnn:Hs.get nn=some (.row #[vI ax1,vI ax2,vI ax3,vI ax4,vI ax5,vI ax6,vI ax7,as8,as9,.map (some nm)] .raw)) :
    ∃ hF:Int→Int,(∀ m,0 ≤ m→-1 ≤ hF m∧hF m ≤ 60)∧∀ m,0 ≤ m→∀ H1,Keep Hs H1→WT H1→WC Try.prog 44 [.agg #[vI ax1,vI ax2,vI ax3,vI ax4,vI ax5,vI ax6,vI ax7,as8,as9,.map (some nm)],vI to,vI sh,vI m] H1 fun v H2 => Keep H1 H2∧WT H2∧v=vI (hF m):=by
  have key : ∀ m:Int,∃ r:Int,0 ≤ m→(-1 ≤ r∧r ≤ 60)∧∀ H1,Keep Hs H1→WT H1→WC Try.prog 44 [.agg #[vI ax1,vI ax2,vI ax3,vI ax4,vI ax5,vI ax6,vI ax7,as8,as9,.map (some nm)],vI to,vI sh,vI m] H1 fun v H2 => Keep H1 H2∧WT H2∧v=vI r:=fun m => by
    by_cases hm:0 ≤ m
    · obtain ⟨a,ha⟩:=row_ar hr0 hnn
      have har:AR Hs.B Hs.live φ0 (List.toArray [.agg #[vI ax1,vI ax2,vI ax3,vI ax4,vI ax5,vI ax6,vI ax7,as8,as9,.map (some nm)],vI to,vI sh,vI m]) #[a,vI to,vI sh,vI m]:=.of_get? rfl fun i v v' hv hv' => by
        match i,hv,hv' with
        | 0,hv,hv' => simp at hv hv'; subst hv hv'; exact ha
        | 1,hv,hv' => simp at hv hv'; subst hv hv'; exact .int _ _
        | 2,hv,hv' => simp at hv hv'; subst hv hv'; exact .int _ _
        | 3,hv,hv' => simp at hv hv'; subst hv hv'; exact .int _ _
        | i + 4,hv,hv' => simp at hv
      obtain ⟨r,hR,hW⟩:=wc_det (R:=fun r => -1 ≤ r∧r ≤ 60) (by kernel_rfl) wt hr0 har fun H1 k w1 => by
        obtain ⟨v,H2,t,k2,w2,r,rfl,hr⟩:=gas_holds ax1 ax2 ax3 ax4 ax5 ax6 ax7 as8 as9 to sh m nm es ck H1 w1 (hvas8.mono k.le) (hvas9.mono k.le) ((k.get nm hlnm).trans hknm) (by have:=k.next; omega) h0 h1 hm hM
        exact ⟨_,H2,t,k2,w2,r,rfl,hr⟩
      exact ⟨r,fun _ => ⟨hR,hW⟩⟩
    · exact ⟨0,fun h => absurd h hm⟩
  refine ⟨fun m => Classical.choose (key m),fun m hm => (Classical.choose_spec (key m) hm).1,fun m hm => (Classical.choose_spec (key m) hm).2⟩

theorem gas_Fewest_raw (ax1 ax2:Int) (ax3 ax4:Int) (ax5 ax6 ax7:Int) (as8 as9:Value) (ax10 ax11:Int) (ax12 ax13:Int) (H:SH) (wt:WT H) (hvas8:VT H (.sl false [.int .i64,.int .i64]) as8) (hvas9:VT H (.sl false [.str,.int .i64]) as9):WC Try.prog 24 [.agg #[vI ax1,vI ax2,vI ax3,vI ax4,vI ax5,vI ax6,vI ax7,as8,as9],vI ax10,vI ax11,vI ax12,vI ax13] H (fun v H' => Keep H H'∧WT H'∧∃ (rl14:Value),AppV H' H.next [.int .i64] rl14∧slen rl14 ≤ LIM∧∃ (rx15:Int),v=(.tuple #[rl14,vI rx15])):=by
 refine wc_of_body Try.func24 rfl ?_
 refine wk ⟨[(0,.agg #[vI ax1,vI ax2,vI ax3,vI ax4,vI ax5,vI ax6,vI ax7,as8,as9]),(1,vI ax10),(2,vI ax11),(3,vI ax12),(4,vI ax13)],103,[],H⟩ rfl ?_
 refine w_seq (w_region (sv_new (H:=H) (v:=vP H.next 0) (x:=.row #[vI ax1,vI ax2,vI ax3,vI ax4,vI ax5,vI ax6,vI ax7,as8,as9] .raw) rfl rfl rfl rfl (opv_boxE (v:=.agg #[vI ax1,vI ax2,vI ax3,vI ax4,vI ax5,vI ax6,vI ax7,as8,as9]) rfl rfl rfl (by simp [undef]) rfl) ?_))
 intro H101 f102
 refine newL wt f102 fun n105 w103 l104 => ?_
 refine mv (.slice none 0 0) rfl rfl ?_
 refine mv (vI 0) rfl rfl ?_
 refine wo_nil (tq_n (wk ⟨[(1,vI ax10),(2,vI ax11),(3,vI ax12),(4,vI ax13),(5,vP H.next 0),(10,.slice none 0 0)],103,[],H101⟩ rfl ?_))
 refine w_seq (w_region (sv (v:=.agg #[vI ax1,vI ax2,vI ax3,vI ax4,vI ax5,vI ax6,vI ax7,as8,as9]) rfl rfl rfl (opv_loadE rfl rfl rfl ag27 sz27 f102.blk rfl (.inl rfl) rfl) rfl ?_))
 refine mv (vI ax10) rfl rfl ?_
 refine mv (vI ax11) rfl rfl ?_
 refine mv (vI ax12) rfl rfl ?_
 refine mv (vI ax13) rfl rfl ?_
 refine sv_new (H:=H101) (v:=.slice (some ⟨H101.next,0,none⟩) 2 1) (x:=.row #[vI ax12,vI ax13] .raw) rfl rfl rfl rfl (opv_buildSliceE (vs:=[(0,vI ax12),(1,vI ax13)]) rfl (.cons rfl rfl neI (.cons rfl rfl neI .nil)) Try.underlying31 sz3 ze3 rfl (by decide) (by decide) rfl rfl rfl) ?_
 intro H106 f107
 refine newL w103 f107 fun n110 w108 l109 => ?_
 refine sc_ (H:=H106) (vs:=[.agg #[vI ax1,vI ax2,vI ax3,vI ax4,vI ax5,vI ax6,vI ax7,as8,as9],vI ax10,vI ax11,.slice (some ⟨H101.next,0,none⟩) 2 1]) (fv:=.func (.func 43) #[] #[]) rfl rfl rfl rfl rfl rfl (.cons rfl rfl (by simp [undef]) (.cons rfl rfl neI (.cons rfl rfl neI (.cons rfl rfl (by simp [undef]) .nil)))) rfl ?_
 refine WV.mono (wv_f0 Try.call43 (gas_tooled2 ax1 ax2 ax3 ax4 ax5 ax6 ax7 as8 as9 ax10 ax11 H101.next ax12 ax13 _ w108 (hvas8.mono (l104.trans l109)) (hvas9.mono (l104.trans l109)) f107.blk (by omega))) ?_
 rintro v128 H129 ⟨k130,w111,rx12112,rx13113,rx14114,rx15115,rx16116,rx17117,rx18118,rs19119,rs20120,rm121,re122,rfl,hv123,hv124,f125,f126,f127⟩
 refine kpL k130 fun n132 l131 => ?_
 by_cases he133:re122=0
 ·
  obtain ⟨nm134,es135,ck136,rfl,g137,g138,g139,hM140⟩:=f127 he133
  obtain rfl:=he133
  have hE141:=f125 rfl
  refine mv (.tuple #[.agg #[vI rx12112,vI rx13113,vI rx14114,vI rx15115,vI rx16116,vI rx17117,vI rx18118,rs19119,rs20120,.map (some nm134)],vI 0]) rfl rfl ?_
  refine sv (v:=.agg #[vI rx12112,vI rx13113,vI rx14114,vI rx15115,vI rx16116,vI rx17117,vI rx18118,rs19119,rs20120,.map (some nm134)]) rfl rfl rfl (opv_extract rfl rfl rfl rfl) rfl ?_
  refine sv (v:=vI 0) rfl rfl rfl (opv_extract rfl rfl rfl rfl) rfl ?_
  refine sv_new (H:=H129) (v:=vP H129.next 0) (x:=.row #[vI 0,vI 0,vI 0,vI 0,vI 0,vI 0,vI 0,.slice none 0 0,.slice none 0 0,.map none] .raw) rfl rfl rfl rfl (opv_alloc rfl ze68 rfl) ?_
  intro H142 f143
  refine newL w111 f143 fun n146 w144 l145 => ?_
  refine sv_put (H:=H142) (n:=H129.next) (v:=undef) (x:=some (.row #[vI rx12112,vI rx13113,vI rx14114,vI rx15115,vI rx16116,vI rx17117,vI rx18118,rs19119,rs20120,.map (some nm134)] .raw)) rfl rfl rfl rfl (opv_storeC (u:=.agg #[vI rx12112,vI rx13113,vI rx14114,vI rx15115,vI rx16116,vI rx17117,vI rx18118,rs19119,rs20120,.map (some nm134)]) rfl rfl rfl rfl rfl (by simp [undef]) sz68 rfl rfl (leafs_of (l:=[vI rx12112,vI rx13113,vI rx14114,vI rx15115,vI rx16116,vI rx17117,vI rx18118,rs19119,rs20120,.map (some nm134)]) ⟨rfl,rfl,rfl,rfl,rfl,rfl,rfl,vt_one (hv123.mono l145),vt_one (hv124.mono l145),rfl,trivial⟩) f143.blk rfl rfl) ?_
  intro H147 f148
  refine putL w144 f148 f143.blk fun n151 w149 l150 => ?_
  refine mv (vI 0) rfl rfl ?_
  refine wo_nil (tq_n (wk ⟨[(1,vI ax10),(2,vI ax11),(3,vI ax12),(4,vI ax13),(10,.slice none 0 0),(11,vI 0),(12,vP H129.next 0)],103,[],H147⟩ rfl ?_))
  refine w_seq (w_block (w_seq (w_region (mv (vI 0) rfl rfl ?_))))
  refine sv (v:=.bool false) rfl rfl rfl (opv_bin rfl rfl rfl rfl rfl (neF (by decide))) rfl ?_
  refine mv (.bool false) rfl rfl ?_
  refine wo_nil (tq_n (wk ⟨[(1,vI ax10),(2,vI ax11),(3,vI ax12),(4,vI ax13),(10,.slice none 0 0),(11,vI 0),(12,vP H129.next 0),(30,.bool false)],103,[],H147⟩ rfl ?_))
  refine w_cond (t:=false) rfl rfl (fun h => by cases h) (fun _ => ?_)
  refine w_seq (w_region (mv (vI ax12) rfl rfl ?_))
  refine mv (vI ax13) rfl rfl ?_
  by_cases c152:ax12 > ax13
  ·
   refine sv (v:=.bool true) rfl rfl rfl (opv_bin rfl rfl rfl rfl rfl (cmpT rfl c152)) rfl ?_
   refine mv (.bool true) rfl rfl ?_
   refine wo_nil (tq_n (wk ⟨[(1,vI ax10),(2,vI ax11),(3,vI ax12),(4,vI ax13),(10,.slice none 0 0),(12,vP H129.next 0),(34,.bool true)],103,[],H147⟩ rfl ?_))
   refine w_cond (t:=true) rfl rfl (fun _ => ?_) (fun h => by cases h)
   refine w_seq (w_region (mv (.slice none 0 0) rfl rfl ?_))
   refine mv (vI 2) rfl rfl ?_
   refine wo_nil (tq_n (wk ⟨[(10,.slice none 0 0),(11,vI 2)],103,[],H147⟩ rfl ?_))
   refine w_ret ?_
   try refine q_eq (e':=.ret) rfl ?_
   refine tq_r ?_
   refine ⟨.inr rfl,rfl,[.slice none 0 0,vI 2],.cons (resV_tmp rfl (by simp [undef])) (.cons (resV_tmp rfl neI) .nil),(((((((KeepX.refl (fun _ => False) H).new_ f102).new_ f107).keep k130).new_ f143).put f148 (by first | (right; omega) | (left; (try dsimp only) <;> omega))).k (fun _ h => h.elim)),w149,.slice none 0 0,AppV.nil,Nat.zero_le _,2,rfl⟩
  ·
   refine sv (v:=.bool false) rfl rfl rfl (opv_bin rfl rfl rfl rfl rfl (cmpF rfl c152)) rfl ?_
   refine mv (.bool false) rfl rfl ?_
   refine wo_nil (tq_n (wk ⟨[(1,vI ax10),(2,vI ax11),(3,vI ax12),(4,vI ax13),(10,.slice none 0 0),(12,vP H129.next 0),(34,.bool false)],103,[],H147⟩ rfl ?_))
   refine w_cond (t:=false) rfl rfl (fun h => by cases h) (fun _ => ?_)
   refine w_skip ?_
   try refine q_eq (e':=.normal) rfl ?_
   refine tqk ⟨[(1,vI ax10),(2,vI ax11),(3,vI ax12),(4,vI ax13),(10,.slice none 0 0),(12,vP H129.next 0)],103,[],H147⟩ rfl ?_
   refine w_inh (fun φ153 w154 hr155 => ?_) ?_
   ·
    obtain ⟨hF156,hq157,hd158⟩:=holds_det rx12112 rx13113 rx14114 rx15115 rx16116 rx17117 rx18118 rs19119 rs20120 ax10 ax11 nm134 es135 ck136 H147 w149 (hv123.mono (l145.trans l150)) (hv124.mono (l145.trans l150)) ((f148.get nm134 (by omega)).trans ((f143.get nm134 (by omega)).trans g139)) (by (try dsimp only); omega) (by omega) (by omega) hM140 hr155 f148.blk
    refine w_seq (w_region (sv_new (H:=H147) (v:=vP H147.next 0) (x:=.row (arI 62 (fun _ => 0)) .raw) rfl rfl rfl rfl (opv_alloc rfl zeA84 (by kernel_rfl)) ?_))
    intro H159 f160
    refine newL w149 f160 fun n161 w162 l163 => ?_
    refine sv_new (H:=H159) (v:=vP H159.next 0) (x:=.row (arI 62 (fun _ => 0)) .raw) rfl rfl rfl rfl (opv_alloc rfl zeA84 (by kernel_rfl)) ?_
    intro H164 f165
    refine newL w162 f165 fun n166 w167 l168 => ?_
    refine wo_nil (tq_n (wk ⟨[(1,vI ax10),(2,vI ax11),(3,vI ax12),(4,vI ax13),(10,.slice none 0 0),(12,vP H129.next 0),(13,vP H147.next 0),(14,vP H159.next 0)],103,[],H164⟩ rfl ?_))
    refine w_seq (w_seq (w_region (mv (vI ax13) rfl rfl ?_)))
    refine mv (vI ax13) rfl rfl ?_
    refine wo_nil (tq_n (wk ⟨[(1,vI ax10),(2,vI ax11),(3,vI ax12),(4,vI ax13),(10,.slice none 0 0),(12,vP H129.next 0),(13,vP H147.next 0),(14,vP H159.next 0),(15,vI ax13)],103,[],H164⟩ rfl ?_))
    refine w_block (w_loopS (fun m181 s182 => ∃ (x169:Int) (f170:Nat→Int) (f171:Nat→Int) (H172:SH),(ax12 - 1 ≤ x169)∧(x169 ≤ ax13)∧(FA hF156 ax12 ax13 f170 f171 x169)∧H172.get H147.next=some (.row (arI 62 f170) .raw)∧H172.get H159.next=some (.row (arI 62 f171) .raw)∧WT H172∧Le H164 H172∧KeepX (fun m => m=H147.next∨m=H159.next) H164 H172∧m181=(x169 + 1).toNat∧s182=⟨[(1,vI ax10),(2,vI ax11),(3,vI ax12),(4,vI ax13),(10,.slice none 0 0),(12,vP H129.next 0),(13,vP H147.next 0),(14,vP H159.next 0),(15,vI x169)],103,[],H172⟩) (n:=(ax13 + 1).toNat) ⟨⟨[(1,vI ax10),(2,vI ax11),(3,vI ax12),(4,vI ax13),(10,.slice none 0 0),(12,vP H129.next 0),(13,vP H147.next 0),(14,vP H159.next 0),(15,vI ax13)],103,[],H164⟩,subk rfl,ax13,fun _ => 0,fun _ => 0,H164,by omega,by omega,fa_init (by omega),(f165.get H147.next (by omega)).trans f160.blk,f165.blk,w167,Le.refl _,KeepX.refl (fun m => m=H147.next∨m=H159.next) H164,rfl,rfl⟩ ?_)
    rintro m181 s182 ⟨x169,f170,f171,H172,i173,i174,i175,hb176,hb177,w178,l179,k180,rfl,rfl⟩
    have n183:=k180.next
    refine w_seq (w_seq (w_region (mv (vI x169) rfl rfl ?_)))
    refine mv (vI ax12) rfl rfl ?_
    by_cases c184:x169 ≥ ax12
    ·
     refine sv (v:=.bool true) rfl rfl rfl (opv_bin rfl rfl rfl rfl rfl (cmpT rfl c184)) rfl ?_
     refine wo_nil (tq_n (wk ⟨[(1,vI ax10),(2,vI ax11),(3,vI ax12),(4,vI ax13),(10,.slice none 0 0),(12,vP H129.next 0),(13,vP H147.next 0),(14,vP H159.next 0),(15,vI x169),(41,.bool true)],103,[],H172⟩ rfl ?_))
     refine w_cond (t:=true) rfl rfl (fun _ => ?_) (fun h => by cases h)
     refine w_skip (tq_n (wk ⟨[(1,vI ax10),(2,vI ax11),(3,vI ax12),(4,vI ax13),(10,.slice none 0 0),(12,vP H129.next 0),(13,vP H147.next 0),(14,vP H159.next 0),(15,vI x169)],103,[],H172⟩ rfl ?_))
     refine w_seq (w_block (w_scope (w_seq (w_region (mv (vI x169) rfl rfl ?_)))))
     refine sv (v:=.pointer (some ⟨H147.next,(x169).toNat,none⟩)) rfl rfl rfl (opv_indexA rfl rfl rfl rfl rfl Try.underlying84 sz3 (by omega) (by omega)) rfl ?_
     refine sv_put (H:=H172) (n:=H147.next) (v:=undef) (x:=some (.row (arI 62 (upI f170 (x169).toNat 62)) .raw)) rfl rfl rfl rfl (opv_storeA rfl rfl rfl rfl rfl sz3 hb176 (by omega)) ?_
     intro H185 f186
     refine putL w178 f186 hb176 fun n187 w188 l189 => ?_
     refine wo_nil (tq_n (wk ⟨[(1,vI ax10),(2,vI ax11),(3,vI ax12),(4,vI ax13),(10,.slice none 0 0),(12,vP H129.next 0),(13,vP H147.next 0),(14,vP H159.next 0),(15,vI x169)],103,[],H185⟩ rfl ?_))
     refine w_seq (w_label ?_)
     refine tqk ⟨[(1,vI ax10),(2,vI ax11),(3,vI ax12),(4,vI ax13),(10,.slice none 0 0),(12,vP H129.next 0),(13,vP H147.next 0),(14,vP H159.next 0),(15,vI x169)],103,[],H185⟩ rfl ?_
     refine w_seq (w_region (mv (vI ax12) rfl rfl ?_))
     refine mv (vI ax12) rfl rfl ?_
     refine wo_nil (tq_n (wk ⟨[(1,vI ax10),(2,vI ax11),(3,vI ax12),(4,vI ax13),(10,.slice none 0 0),(12,vP H129.next 0),(13,vP H147.next 0),(14,vP H159.next 0),(15,vI x169),(16,vI ax12)],103,[],H185⟩ rfl ?_))
     refine w_block (w_loopS (fun m203 s204 => ∃ (x190:Int) (f191:Nat→Int) (f192:Nat→Int) (H193:SH),(ax12 ≤ x190)∧(x190 ≤ x169 + 1)∧(FA hF156 ax12 ax13 f191 f192 x169)∧(FG hF156 ax12 ax13 f191 f192 (x169).toNat)∧H193.get H147.next=some (.row (arI 62 f191) .raw)∧H193.get H159.next=some (.row (arI 62 f192) .raw)∧WT H193∧Le H185 H193∧KeepX (fun m => m=H147.next∨m=H159.next) H185 H193∧m203=(x169 + 1 - x190).toNat∧s204=⟨[(1,vI ax10),(2,vI ax11),(3,vI ax12),(4,vI ax13),(10,.slice none 0 0),(12,vP H129.next 0),(13,vP H147.next 0),(14,vP H159.next 0),(15,vI x169),(16,vI x190)],103,[],H193⟩) (n:=(x169 + 1 - ax12).toNat) ⟨⟨[(1,vI ax10),(2,vI ax11),(3,vI ax12),(4,vI ax13),(10,.slice none 0 0),(12,vP H129.next 0),(13,vP H147.next 0),(14,vP H159.next 0),(15,vI x169),(16,vI ax12)],103,[],H185⟩,subk rfl,ax12,upI f170 (x169).toNat 62,f171,H185,by omega,by omega,fa_start (by omega) i175,fg_start,f186.blk,(f186.get H159.next (by omega)).trans hb177,w188,Le.refl _,KeepX.refl (fun m => m=H147.next∨m=H159.next) H185,rfl,rfl⟩ ?_)
     rintro m203 s204 ⟨x190,f191,f192,H193,i194,i195,i196,i197,hb198,hb199,w200,l201,k202,rfl,rfl⟩
     have n205:=k202.next
     refine w_seq (w_seq (w_region (mv (vI x190) rfl rfl ?_)))
     refine mv (vI x169) rfl rfl ?_
     by_cases c206:x190 ≤ x169
     ·
      refine sv (v:=.bool true) rfl rfl rfl (opv_bin rfl rfl rfl rfl rfl (cmpT rfl c206)) rfl ?_
      refine wo_nil (tq_n (wk ⟨[(1,vI ax10),(2,vI ax11),(3,vI ax12),(4,vI ax13),(10,.slice none 0 0),(12,vP H129.next 0),(13,vP H147.next 0),(14,vP H159.next 0),(15,vI x169),(16,vI x190),(49,.bool true)],103,[],H193⟩ rfl ?_))
      refine w_cond (t:=true) rfl rfl (fun _ => ?_) (fun h => by cases h)
      refine w_skip (tq_n (wk ⟨[(1,vI ax10),(2,vI ax11),(3,vI ax12),(4,vI ax13),(10,.slice none 0 0),(12,vP H129.next 0),(13,vP H147.next 0),(14,vP H159.next 0),(15,vI x169),(16,vI x190)],103,[],H193⟩ rfl ?_))
      refine w_seq (w_block (w_seq (w_region (sv (v:=.agg #[vI rx12112,vI rx13113,vI rx14114,vI rx15115,vI rx16116,vI rx17117,vI rx18118,rs19119,rs20120,.map (some nm134)]) rfl rfl rfl (opv_loadE rfl rfl rfl ag68 sz68 ((k202.get H129.next (by omega) (by (try dsimp only); omega)).trans ((f186.get H129.next (by omega)).trans ((k180.get H129.next (by omega) (by (try dsimp only); omega)).trans ((f165.get H129.next (by omega)).trans ((f160.get H129.next (by omega)).trans f148.blk))))) rfl (.inl rfl) rfl) rfl ?_))))
      refine mv (vI ax10) rfl rfl ?_
      refine mv (vI ax11) rfl rfl ?_
      refine mv (vI x190) rfl rfl ?_
      refine sc_ (H:=H193) (vs:=[.agg #[vI rx12112,vI rx13113,vI rx14114,vI rx15115,vI rx16116,vI rx17117,vI rx18118,rs19119,rs20120,.map (some nm134)],vI ax10,vI ax11,vI x190]) (fv:=.func (.func 44) #[] #[]) rfl rfl rfl rfl rfl rfl (.cons rfl rfl (by simp [undef]) (.cons rfl rfl neI (.cons rfl rfl neI (.cons rfl rfl neI .nil)))) rfl ?_
      refine WV.mono (wv_f0 Try.call44 (hd158 x190 (by omega) _ (((((((KeepX.refl (fun _ => False) H147).new_ f160).new_ f165).trans k180 (by intro m hm; (try simp only [false_or,or_false] at hm ⊢); (try dsimp only at hm ⊢); first | omega | (right; omega) | (left; left; omega) | (left; right; omega))).put f186 (by first | (right; omega) | (left; (try dsimp only) <;> omega))).trans k202 (by intro m hm; (try simp only [false_or,or_false] at hm ⊢); (try dsimp only at hm ⊢); first | omega | (right; omega) | (left; left; omega) | (left; right; omega))).k (fun _ h => h.elim)) w200)) ?_
      rintro v207 H208 ⟨k209,w210,rfl⟩
      refine kpL k209 fun n212 l211 => ?_
      have q213:=hq157 x190 (by omega)
      refine mv (vI (hF156 x190)) rfl rfl ?_
      refine wo_nil (tq_n (wk ⟨[(1,vI ax10),(2,vI ax11),(3,vI ax12),(4,vI ax13),(10,.slice none 0 0),(12,vP H129.next 0),(13,vP H147.next 0),(14,vP H159.next 0),(15,vI x169),(16,vI x190),(17,vI (hF156 x190))],103,[],H208⟩ rfl ?_))
      refine w_seq (w_seq (w_region (mv (vI (hF156 x190)) rfl rfl ?_)))
      refine mv (vI x169) rfl rfl ?_
      by_cases c214 : (hF156 x190) < x169
      ·
       refine sv (v:=.bool true) rfl rfl rfl (opv_bin rfl rfl rfl rfl rfl (cmpT rfl c214)) rfl ?_
       refine wo_nil (tq_n (wk ⟨[(1,vI ax10),(2,vI ax11),(3,vI ax12),(4,vI ax13),(10,.slice none 0 0),(12,vP H129.next 0),(13,vP H147.next 0),(14,vP H159.next 0),(15,vI x169),(16,vI x190),(17,vI (hF156 x190)),(59,.bool true)],103,[],H208⟩ rfl ?_))
       refine w_cond (t:=true) rfl rfl (fun _ => ?_) (fun h => by cases h)
       refine w_exit (tq_e ?_)
       try refine q_eq (e':=.normal) rfl ?_
       refine tqk ⟨[(1,vI ax10),(2,vI ax11),(3,vI ax12),(4,vI ax13),(10,.slice none 0 0),(12,vP H129.next 0),(13,vP H147.next 0),(14,vP H159.next 0),(15,vI x169),(16,vI x190)],103,[],H208⟩ rfl ?_
       refine w_region (mv (vI x190) rfl rfl ?_)
       refine sv_int rfl rfl rfl (opv_bin rfl rfl rfl rfl rfl rfl) ?_
       intro x215 h216
       try replace h216:x215=x190 + 1:=wr_ex h216 (by omega) (by omega)
       refine mv (vI x215) rfl rfl ?_
       refine wo_nil ?_
       refine tq_n ⟨(x169 + 1 - x215).toNat,by omega,⟨[(1,vI ax10),(2,vI ax11),(3,vI ax12),(4,vI ax13),(10,.slice none 0 0),(12,vP H129.next 0),(13,vP H147.next 0),(14,vP H159.next 0),(15,vI x169),(16,vI x215)],103,[],H208⟩,subk rfl,x215,f191,f192,H208,by omega,by omega,i196,i197,(k209.get H147.next (by omega)).trans hb198,(k209.get H159.next (by omega)).trans hb199,w210,l201.trans l211,(((KeepX.refl (fun m => m=H147.next∨m=H159.next) H185).trans k202 (by intro m hm; (try simp only [false_or,or_false] at hm ⊢); (try dsimp only at hm ⊢); first | omega | (right; omega) | (left; left; omega) | (left; right; omega))).keep k209),rfl,rfl⟩
      ·
       refine sv (v:=.bool false) rfl rfl rfl (opv_bin rfl rfl rfl rfl rfl (cmpF rfl c214)) rfl ?_
       refine wo_nil (tq_n (wk ⟨[(1,vI ax10),(2,vI ax11),(3,vI ax12),(4,vI ax13),(10,.slice none 0 0),(12,vP H129.next 0),(13,vP H147.next 0),(14,vP H159.next 0),(15,vI x169),(16,vI x190),(17,vI (hF156 x190)),(59,.bool false)],103,[],H208⟩ rfl ?_))
       refine w_cond (t:=false) rfl rfl (fun h => by cases h) (fun _ => ?_)
       refine w_skip (tq_n (wk ⟨[(1,vI ax10),(2,vI ax11),(3,vI ax12),(4,vI ax13),(10,.slice none 0 0),(12,vP H129.next 0),(13,vP H147.next 0),(14,vP H159.next 0),(15,vI x169),(16,vI x190),(17,vI (hF156 x190))],103,[],H208⟩ rfl ?_))
       refine w_seq (w_region (mv (vI 1) rfl rfl ?_))
       refine wo_nil (tq_n (wk ⟨[(1,vI ax10),(2,vI ax11),(3,vI ax12),(4,vI ax13),(10,.slice none 0 0),(12,vP H129.next 0),(13,vP H147.next 0),(14,vP H159.next 0),(15,vI x169),(16,vI x190),(17,vI (hF156 x190)),(18,vI 1)],103,[],H208⟩ rfl ?_))
       refine w_seq (w_seq (w_region (mv (vI (hF156 x190)) rfl rfl ?_)))
       refine mv (vI ax13) rfl rfl ?_
       by_cases c217 : (hF156 x190) < ax13
       ·
        refine sv (v:=.bool true) rfl rfl rfl (opv_bin rfl rfl rfl rfl rfl (cmpT rfl c217)) rfl ?_
        refine wo_nil (tq_n (wk ⟨[(1,vI ax10),(2,vI ax11),(3,vI ax12),(4,vI ax13),(10,.slice none 0 0),(12,vP H129.next 0),(13,vP H147.next 0),(14,vP H159.next 0),(15,vI x169),(16,vI x190),(17,vI (hF156 x190)),(18,vI 1),(62,.bool true)],103,[],H208⟩ rfl ?_))
        refine w_cond (t:=true) rfl rfl (fun _ => ?_) (fun h => by cases h)
        refine w_region (mv (vI 1) rfl rfl ?_)
        refine mv (vI (hF156 x190)) rfl rfl ?_
        refine sv_int rfl rfl rfl (opv_bin rfl rfl rfl rfl rfl rfl) ?_
        intro x218 h219
        try replace h219:x218=(hF156 x190) + 1:=wr_ex h219 (by omega) (by omega)
        refine sv (v:=.pointer (some ⟨H147.next,(x218).toNat,none⟩)) rfl rfl rfl (opv_indexA rfl rfl rfl rfl rfl Try.underlying84 sz3 (by omega) (by omega)) rfl ?_
        have q220:1 ≤ f191 (x218).toNat∧f191 (x218).toNat ≤ 62:=(by first | exact ⟨i197.1,i197.2.1⟩ | exact ⟨(i196 (x218).toNat (by omega) (by omega)).1,(i196 (x218).toNat (by omega) (by omega)).2.1⟩)
        refine sv (v:=vI (f191 (x218).toNat)) rfl rfl rfl (opv_loadA rfl rfl rfl ag3 sz3 ((k209.get H147.next (by omega)).trans hb198) (by omega)) rfl ?_
        refine sv_int rfl rfl rfl (opv_bin rfl rfl rfl rfl rfl rfl) ?_
        intro x221 h222
        try replace h222:x221=1 + (f191 (x218).toNat):=wr_ex h222 (by omega) (by omega)
        refine mv (vI x221) rfl rfl ?_
        refine wo_nil (tq_n (wk ⟨[(1,vI ax10),(2,vI ax11),(3,vI ax12),(4,vI ax13),(10,.slice none 0 0),(12,vP H129.next 0),(13,vP H147.next 0),(14,vP H159.next 0),(15,vI x169),(16,vI x190),(18,vI x221)],103,[],H208⟩ rfl ?_))
        refine w_seq (w_region (mv (vI x221) rfl rfl ?_))
        refine mv (vI x169) rfl rfl ?_
        refine sv (v:=.pointer (some ⟨H147.next,(x169).toNat,none⟩)) rfl rfl rfl (opv_indexA rfl rfl rfl rfl rfl Try.underlying84 sz3 (by omega) (by omega)) rfl ?_
        have q223:1 ≤ f191 (x169).toNat∧f191 (x169).toNat ≤ 62:=(by first | exact ⟨i197.1,i197.2.1⟩ | exact ⟨(i196 (x169).toNat (by omega) (by omega)).1,(i196 (x169).toNat (by omega) (by omega)).2.1⟩)
        refine sv (v:=vI (f191 (x169).toNat)) rfl rfl rfl (opv_loadA rfl rfl rfl ag3 sz3 ((k209.get H147.next (by omega)).trans hb198) (by omega)) rfl ?_
        by_cases c224:x221 < (f191 (x169).toNat)
        ·
         refine sv (v:=.bool true) rfl rfl rfl (opv_bin rfl rfl rfl rfl rfl (cmpT rfl c224)) rfl ?_
         refine wo_nil (tq_n (wk ⟨[(1,vI ax10),(2,vI ax11),(3,vI ax12),(4,vI ax13),(10,.slice none 0 0),(12,vP H129.next 0),(13,vP H147.next 0),(14,vP H159.next 0),(15,vI x169),(16,vI x190),(18,vI x221),(73,.bool true)],103,[],H208⟩ rfl ?_))
         refine w_cond (t:=true) rfl rfl (fun _ => ?_) (fun h => by cases h)
         refine w_region (mv (vI x169) rfl rfl ?_)
         refine mv (vI x169) rfl rfl ?_
         refine mv (vI x221) rfl rfl ?_
         refine mv (vI x190) rfl rfl ?_
         refine sv (v:=.pointer (some ⟨H147.next,(x169).toNat,none⟩)) rfl rfl rfl (opv_indexA rfl rfl rfl rfl rfl Try.underlying84 sz3 (by omega) (by omega)) rfl ?_
         refine sv_put (H:=H208) (n:=H147.next) (v:=undef) (x:=some (.row (arI 62 (upI f191 (x169).toNat x221)) .raw)) rfl rfl rfl rfl (opv_storeA rfl rfl rfl rfl rfl sz3 ((k209.get H147.next (by omega)).trans hb198) (by omega)) ?_
         intro H225 f226
         refine putL w210 f226 ((k209.get H147.next (by omega)).trans hb198) fun n227 w228 l229 => ?_
         refine sv (v:=.pointer (some ⟨H159.next,(x169).toNat,none⟩)) rfl rfl rfl (opv_indexA rfl rfl rfl rfl rfl Try.underlying84 sz3 (by omega) (by omega)) rfl ?_
         refine sv_put (H:=H225) (n:=H159.next) (v:=undef) (x:=some (.row (arI 62 (upI f192 (x169).toNat x190)) .raw)) rfl rfl rfl rfl (opv_storeA rfl rfl rfl rfl rfl sz3 ((f226.get H159.next (by omega)).trans ((k209.get H159.next (by omega)).trans hb199)) (by omega)) ?_
         intro H230 f231
         refine putL w228 f231 ((f226.get H159.next (by omega)).trans ((k209.get H159.next (by omega)).trans hb199)) fun n232 w233 l234 => ?_
         refine wo_nil ?_
         try refine q_eq (e':=.normal) rfl ?_
         refine tqk ⟨[(1,vI ax10),(2,vI ax11),(3,vI ax12),(4,vI ax13),(10,.slice none 0 0),(12,vP H129.next 0),(13,vP H147.next 0),(14,vP H159.next 0),(15,vI x169),(16,vI x190)],103,[],H230⟩ rfl ?_
         refine w_region (mv (vI x190) rfl rfl ?_)
         refine sv_int rfl rfl rfl (opv_bin rfl rfl rfl rfl rfl rfl) ?_
         intro x235 h236
         try replace h236:x235=x190 + 1:=wr_ex h236 (by omega) (by omega)
         refine mv (vI x235) rfl rfl ?_
         refine wo_nil ?_
         refine tq_n ⟨(x169 + 1 - x235).toNat,by omega,⟨[(1,vI ax10),(2,vI ax11),(3,vI ax12),(4,vI ax13),(10,.slice none 0 0),(12,vP H129.next 0),(13,vP H147.next 0),(14,vP H159.next 0),(15,vI x169),(16,vI x235)],103,[],H230⟩,subk rfl,x235,upI f191 (x169).toNat x221,upI f192 (x169).toNat x190,H230,by omega,by omega,fa_upd (by omega) i196,(fg_upd (by omega) (by omega) i196 (by omega) (by omega) (by omega) (by omega) (.inr ⟨by omega,by rw [h222,h219]⟩)),(f231.get H147.next (by omega)).trans f226.blk,f231.blk,w233,((l201.trans l211).trans l229).trans l234,(((((KeepX.refl (fun m => m=H147.next∨m=H159.next) H185).trans k202 (by intro m hm; (try simp only [false_or,or_false] at hm ⊢); (try dsimp only at hm ⊢); first | omega | (right; omega) | (left; left; omega) | (left; right; omega))).keep k209).put f226 (by first | (right; omega) | (left; (try dsimp only) <;> omega))).put f231 (by first | (right; omega) | (left; (try dsimp only) <;> omega))),rfl,rfl⟩
        ·
         refine sv (v:=.bool false) rfl rfl rfl (opv_bin rfl rfl rfl rfl rfl (cmpF rfl c224)) rfl ?_
         refine wo_nil (tq_n (wk ⟨[(1,vI ax10),(2,vI ax11),(3,vI ax12),(4,vI ax13),(10,.slice none 0 0),(12,vP H129.next 0),(13,vP H147.next 0),(14,vP H159.next 0),(15,vI x169),(16,vI x190),(18,vI x221),(73,.bool false)],103,[],H208⟩ rfl ?_))
         refine w_cond (t:=false) rfl rfl (fun h => by cases h) (fun _ => ?_)
         refine w_skip ?_
         try refine q_eq (e':=.normal) rfl ?_
         refine tqk ⟨[(1,vI ax10),(2,vI ax11),(3,vI ax12),(4,vI ax13),(10,.slice none 0 0),(12,vP H129.next 0),(13,vP H147.next 0),(14,vP H159.next 0),(15,vI x169),(16,vI x190)],103,[],H208⟩ rfl ?_
         refine w_region (mv (vI x190) rfl rfl ?_)
         refine sv_int rfl rfl rfl (opv_bin rfl rfl rfl rfl rfl rfl) ?_
         intro x237 h238
         try replace h238:x237=x190 + 1:=wr_ex h238 (by omega) (by omega)
         refine mv (vI x237) rfl rfl ?_
         refine wo_nil ?_
         refine tq_n ⟨(x169 + 1 - x237).toNat,by omega,⟨[(1,vI ax10),(2,vI ax11),(3,vI ax12),(4,vI ax13),(10,.slice none 0 0),(12,vP H129.next 0),(13,vP H147.next 0),(14,vP H159.next 0),(15,vI x169),(16,vI x237)],103,[],H208⟩,subk rfl,x237,f191,f192,H208,by omega,by omega,i196,i197,(k209.get H147.next (by omega)).trans hb198,(k209.get H159.next (by omega)).trans hb199,w210,l201.trans l211,(((KeepX.refl (fun m => m=H147.next∨m=H159.next) H185).trans k202 (by intro m hm; (try simp only [false_or,or_false] at hm ⊢); (try dsimp only at hm ⊢); first | omega | (right; omega) | (left; left; omega) | (left; right; omega))).keep k209),rfl,rfl⟩
       ·
        refine sv (v:=.bool false) rfl rfl rfl (opv_bin rfl rfl rfl rfl rfl (cmpF rfl c217)) rfl ?_
        refine wo_nil (tq_n (wk ⟨[(1,vI ax10),(2,vI ax11),(3,vI ax12),(4,vI ax13),(10,.slice none 0 0),(12,vP H129.next 0),(13,vP H147.next 0),(14,vP H159.next 0),(15,vI x169),(16,vI x190),(17,vI (hF156 x190)),(18,vI 1),(62,.bool false)],103,[],H208⟩ rfl ?_))
        refine w_cond (t:=false) rfl rfl (fun h => by cases h) (fun _ => ?_)
        refine w_skip (tq_n (wk ⟨[(1,vI ax10),(2,vI ax11),(3,vI ax12),(4,vI ax13),(10,.slice none 0 0),(12,vP H129.next 0),(13,vP H147.next 0),(14,vP H159.next 0),(15,vI x169),(16,vI x190),(18,vI 1)],103,[],H208⟩ rfl ?_))
        refine w_seq (w_region (mv (vI 1) rfl rfl ?_))
        refine mv (vI x169) rfl rfl ?_
        refine sv (v:=.pointer (some ⟨H147.next,(x169).toNat,none⟩)) rfl rfl rfl (opv_indexA rfl rfl rfl rfl rfl Try.underlying84 sz3 (by omega) (by omega)) rfl ?_
        have q239:1 ≤ f191 (x169).toNat∧f191 (x169).toNat ≤ 62:=(by first | exact ⟨i197.1,i197.2.1⟩ | exact ⟨(i196 (x169).toNat (by omega) (by omega)).1,(i196 (x169).toNat (by omega) (by omega)).2.1⟩)
        refine sv (v:=vI (f191 (x169).toNat)) rfl rfl rfl (opv_loadA rfl rfl rfl ag3 sz3 ((k209.get H147.next (by omega)).trans hb198) (by omega)) rfl ?_
        by_cases c240 : (1:Int) < (f191 (x169).toNat)
        ·
         refine sv (v:=.bool true) rfl rfl rfl (opv_bin rfl rfl rfl rfl rfl (cmpT rfl c240)) rfl ?_
         refine wo_nil (tq_n (wk ⟨[(1,vI ax10),(2,vI ax11),(3,vI ax12),(4,vI ax13),(10,.slice none 0 0),(12,vP H129.next 0),(13,vP H147.next 0),(14,vP H159.next 0),(15,vI x169),(16,vI x190),(18,vI 1),(73,.bool true)],103,[],H208⟩ rfl ?_))
         refine w_cond (t:=true) rfl rfl (fun _ => ?_) (fun h => by cases h)
         refine w_region (mv (vI x169) rfl rfl ?_)
         refine mv (vI x169) rfl rfl ?_
         refine mv (vI 1) rfl rfl ?_
         refine mv (vI x190) rfl rfl ?_
         refine sv (v:=.pointer (some ⟨H147.next,(x169).toNat,none⟩)) rfl rfl rfl (opv_indexA rfl rfl rfl rfl rfl Try.underlying84 sz3 (by omega) (by omega)) rfl ?_
         refine sv_put (H:=H208) (n:=H147.next) (v:=undef) (x:=some (.row (arI 62 (upI f191 (x169).toNat 1)) .raw)) rfl rfl rfl rfl (opv_storeA rfl rfl rfl rfl rfl sz3 ((k209.get H147.next (by omega)).trans hb198) (by omega)) ?_
         intro H241 f242
         refine putL w210 f242 ((k209.get H147.next (by omega)).trans hb198) fun n243 w244 l245 => ?_
         refine sv (v:=.pointer (some ⟨H159.next,(x169).toNat,none⟩)) rfl rfl rfl (opv_indexA rfl rfl rfl rfl rfl Try.underlying84 sz3 (by omega) (by omega)) rfl ?_
         refine sv_put (H:=H241) (n:=H159.next) (v:=undef) (x:=some (.row (arI 62 (upI f192 (x169).toNat x190)) .raw)) rfl rfl rfl rfl (opv_storeA rfl rfl rfl rfl rfl sz3 ((f242.get H159.next (by omega)).trans ((k209.get H159.next (by omega)).trans hb199)) (by omega)) ?_
         intro H246 f247
         refine putL w244 f247 ((f242.get H159.next (by omega)).trans ((k209.get H159.next (by omega)).trans hb199)) fun n248 w249 l250 => ?_
         refine wo_nil ?_
         try refine q_eq (e':=.normal) rfl ?_
         refine tqk ⟨[(1,vI ax10),(2,vI ax11),(3,vI ax12),(4,vI ax13),(10,.slice none 0 0),(12,vP H129.next 0),(13,vP H147.next 0),(14,vP H159.next 0),(15,vI x169),(16,vI x190)],103,[],H246⟩ rfl ?_
         refine w_region (mv (vI x190) rfl rfl ?_)
         refine sv_int rfl rfl rfl (opv_bin rfl rfl rfl rfl rfl rfl) ?_
         intro x251 h252
         try replace h252:x251=x190 + 1:=wr_ex h252 (by omega) (by omega)
         refine mv (vI x251) rfl rfl ?_
         refine wo_nil ?_
         refine tq_n ⟨(x169 + 1 - x251).toNat,by omega,⟨[(1,vI ax10),(2,vI ax11),(3,vI ax12),(4,vI ax13),(10,.slice none 0 0),(12,vP H129.next 0),(13,vP H147.next 0),(14,vP H159.next 0),(15,vI x169),(16,vI x251)],103,[],H246⟩,subk rfl,x251,upI f191 (x169).toNat 1,upI f192 (x169).toNat x190,H246,by omega,by omega,fa_upd (by omega) i196,fg_upd (by omega) (by omega) i196 (by omega) (by omega) (by omega) (by omega) (.inl ⟨by omega,rfl⟩),(f247.get H147.next (by omega)).trans f242.blk,f247.blk,w249,((l201.trans l211).trans l245).trans l250,(((((KeepX.refl (fun m => m=H147.next∨m=H159.next) H185).trans k202 (by intro m hm; (try simp only [false_or,or_false] at hm ⊢); (try dsimp only at hm ⊢); first | omega | (right; omega) | (left; left; omega) | (left; right; omega))).keep k209).put f242 (by first | (right; omega) | (left; (try dsimp only) <;> omega))).put f247 (by first | (right; omega) | (left; (try dsimp only) <;> omega))),rfl,rfl⟩
        ·
         refine sv (v:=.bool false) rfl rfl rfl (opv_bin rfl rfl rfl rfl rfl (cmpF rfl c240)) rfl ?_
         refine wo_nil (tq_n (wk ⟨[(1,vI ax10),(2,vI ax11),(3,vI ax12),(4,vI ax13),(10,.slice none 0 0),(12,vP H129.next 0),(13,vP H147.next 0),(14,vP H159.next 0),(15,vI x169),(16,vI x190),(18,vI 1),(73,.bool false)],103,[],H208⟩ rfl ?_))
         refine w_cond (t:=false) rfl rfl (fun h => by cases h) (fun _ => ?_)
         refine w_skip ?_
         try refine q_eq (e':=.normal) rfl ?_
         refine tqk ⟨[(1,vI ax10),(2,vI ax11),(3,vI ax12),(4,vI ax13),(10,.slice none 0 0),(12,vP H129.next 0),(13,vP H147.next 0),(14,vP H159.next 0),(15,vI x169),(16,vI x190)],103,[],H208⟩ rfl ?_
         refine w_region (mv (vI x190) rfl rfl ?_)
         refine sv_int rfl rfl rfl (opv_bin rfl rfl rfl rfl rfl rfl) ?_
         intro x253 h254
         try replace h254:x253=x190 + 1:=wr_ex h254 (by omega) (by omega)
         refine mv (vI x253) rfl rfl ?_
         refine wo_nil ?_
         refine tq_n ⟨(x169 + 1 - x253).toNat,by omega,⟨[(1,vI ax10),(2,vI ax11),(3,vI ax12),(4,vI ax13),(10,.slice none 0 0),(12,vP H129.next 0),(13,vP H147.next 0),(14,vP H159.next 0),(15,vI x169),(16,vI x253)],103,[],H208⟩,subk rfl,x253,f191,f192,H208,by omega,by omega,i196,i197,(k209.get H147.next (by omega)).trans hb198,(k209.get H159.next (by omega)).trans hb199,w210,l201.trans l211,(((KeepX.refl (fun m => m=H147.next∨m=H159.next) H185).trans k202 (by intro m hm; (try simp only [false_or,or_false] at hm ⊢); (try dsimp only at hm ⊢); first | omega | (right; omega) | (left; left; omega) | (left; right; omega))).keep k209),rfl,rfl⟩
     ·
      refine sv (v:=.bool false) rfl rfl rfl (opv_bin rfl rfl rfl rfl rfl (cmpF rfl c206)) rfl ?_
      refine wo_nil (tq_n (wk ⟨[(1,vI ax10),(2,vI ax11),(3,vI ax12),(4,vI ax13),(10,.slice none 0 0),(12,vP H129.next 0),(13,vP H147.next 0),(14,vP H159.next 0),(15,vI x169),(16,vI x190),(49,.bool false)],103,[],H193⟩ rfl ?_))
      refine w_cond (t:=false) rfl rfl (fun h => by cases h) (fun _ => ?_)
      refine w_exit (tq_e (tq_e ?_))
      try refine q_eq (e':=.normal) rfl ?_
      refine ⟨rfl,?_⟩
      try refine q_eq (e':=.normal) rfl ?_
      refine tqk ⟨[(1,vI ax10),(2,vI ax11),(3,vI ax12),(4,vI ax13),(10,.slice none 0 0),(12,vP H129.next 0),(13,vP H147.next 0),(14,vP H159.next 0),(15,vI x169)],103,[],H193⟩ rfl ?_
      refine w_region (mv (vI x169) rfl rfl ?_)
      refine sv_int rfl rfl rfl (opv_bin rfl rfl rfl rfl rfl rfl) ?_
      intro x255 h256
      try replace h256:x255=x169 - 1:=wr_ex h256 (by omega) (by omega)
      refine mv (vI x255) rfl rfl ?_
      refine wo_nil ?_
      refine tq_n ⟨(x255 + 1).toNat,by omega,⟨[(1,vI ax10),(2,vI ax11),(3,vI ax12),(4,vI ax13),(10,.slice none 0 0),(12,vP H129.next 0),(13,vP H147.next 0),(14,vP H159.next 0),(15,vI x255)],103,[],H193⟩,subk rfl,x255,f191,f192,H193,by omega,by omega,(fa_next (k:=x169) (by omega) (by omega) i196 i197),hb198,hb199,w200,(l179.trans l189).trans l201,((((KeepX.refl (fun m => m=H147.next∨m=H159.next) H164).trans k180 (by intro m hm; (try simp only [false_or,or_false] at hm ⊢); (try dsimp only at hm ⊢); first | omega | (right; omega) | (left; left; omega) | (left; right; omega))).put f186 (by first | (right; omega) | (left; (try dsimp only) <;> omega))).trans k202 (by intro m hm; (try simp only [false_or,or_false] at hm ⊢); (try dsimp only at hm ⊢); first | omega | (right; omega) | (left; left; omega) | (left; right; omega))),rfl,rfl⟩
    ·
     refine sv (v:=.bool false) rfl rfl rfl (opv_bin rfl rfl rfl rfl rfl (cmpF rfl c184)) rfl ?_
     refine wo_nil (tq_n (wk ⟨[(1,vI ax10),(2,vI ax11),(3,vI ax12),(4,vI ax13),(10,.slice none 0 0),(12,vP H129.next 0),(13,vP H147.next 0),(14,vP H159.next 0),(15,vI x169),(41,.bool false)],103,[],H172⟩ rfl ?_))
     refine w_cond (t:=false) rfl rfl (fun h => by cases h) (fun _ => ?_)
     refine w_exit (tq_e (tq_e ?_))
     try refine q_eq (e':=.normal) rfl ?_
     refine tqk ⟨[(1,vI ax10),(2,vI ax11),(3,vI ax12),(4,vI ax13),(10,.slice none 0 0),(12,vP H129.next 0),(13,vP H147.next 0),(14,vP H159.next 0)],103,[],H172⟩ rfl ?_
     refine w_seq (w_seq (w_region (mv (vI ax12) rfl rfl ?_)))
     refine sv (v:=.pointer (some ⟨H147.next,(ax12).toNat,none⟩)) rfl rfl rfl (opv_indexA rfl rfl rfl rfl rfl Try.underlying84 sz3 (by omega) (by omega)) rfl ?_
     refine sv (v:=vI (f170 (ax12).toNat)) rfl rfl rfl (opv_loadA rfl rfl rfl ag3 sz3 hb176 (by omega)) rfl ?_
     by_cases c257 : (f170 (ax12).toNat) ≥ 62
     ·
      refine sv (v:=.bool true) rfl rfl rfl (opv_bin rfl rfl rfl rfl rfl (cmpT rfl c257)) rfl ?_
      refine wo_nil (tq_n (wk ⟨[(1,vI ax10),(2,vI ax11),(3,vI ax12),(4,vI ax13),(10,.slice none 0 0),(12,vP H129.next 0),(14,vP H159.next 0),(83,.bool true)],103,[],H172⟩ rfl ?_))
      refine w_cond (t:=true) rfl rfl (fun _ => ?_) (fun h => by cases h)
      refine w_seq (w_region (mv (.slice none 0 0) rfl rfl ?_))
      refine mv (vI 9) rfl rfl ?_
      refine wo_nil (tq_n (wk ⟨[(10,.slice none 0 0),(11,vI 9)],103,[],H172⟩ rfl ?_))
      refine w_ret (tq_r ?_)
      refine ⟨.inr rfl,rfl,[.slice none 0 0,vI 9],.cons (resV_tmp rfl (by simp [undef])) (.cons (resV_tmp rfl neI) .nil),((((((((((KeepX.refl (fun _ => False) H).new_ f102).new_ f107).keep k130).new_ f143).put f148 (by first | (right; omega) | (left; (try dsimp only) <;> omega))).new_ f160).new_ f165).trans k180 (by intro m hm; (try simp only [false_or,or_false] at hm ⊢); (try dsimp only at hm ⊢); first | omega | (right; omega) | (left; left; omega) | (left; right; omega))).k (fun _ h => h.elim)),w178,.slice none 0 0,AppV.nil,Nat.zero_le _,9,rfl⟩
     ·
      refine sv (v:=.bool false) rfl rfl rfl (opv_bin rfl rfl rfl rfl rfl (cmpF rfl c257)) rfl ?_
      refine wo_nil (tq_n (wk ⟨[(1,vI ax10),(2,vI ax11),(3,vI ax12),(4,vI ax13),(10,.slice none 0 0),(12,vP H129.next 0),(14,vP H159.next 0),(83,.bool false)],103,[],H172⟩ rfl ?_))
      refine w_cond (t:=false) rfl rfl (fun h => by cases h) (fun _ => ?_)
      refine w_skip (tq_n (wk ⟨[(1,vI ax10),(2,vI ax11),(3,vI ax12),(4,vI ax13),(10,.slice none 0 0),(12,vP H129.next 0),(14,vP H159.next 0)],103,[],H172⟩ rfl ?_))
      refine w_seq (w_seq (w_region (mv (vI ax12) rfl rfl ?_)))
      refine mv (vI ax12) rfl rfl ?_
      refine wo_nil (tq_n (wk ⟨[(1,vI ax10),(2,vI ax11),(4,vI ax13),(10,.slice none 0 0),(12,vP H129.next 0),(14,vP H159.next 0),(19,vI ax12)],103,[],H172⟩ rfl ?_))
      refine w_block (w_loopS (fun m269 s270 => ∃ (l258:Value) (x259:Int) (H260:SH),(ax12 ≤ x259)∧(x259 ≤ 61)∧((slen l258:Int) ≤ x259)∧(x259 ≤ ax13→f170 (x259).toNat < 62)∧AppV H260 H172.next [.int .i64] l258∧WT H260∧Le H172 H260∧KeepX (fun _ => False) H172 H260∧m269=(ax13 + 1 - x259).toNat∧s270=⟨[(1,vI ax10),(2,vI ax11),(4,vI ax13),(10,l258),(12,vP H129.next 0),(14,vP H159.next 0),(19,vI x259)],103,[],H260⟩) (n:=(ax13 + 1 - ax12).toNat) ⟨⟨[(1,vI ax10),(2,vI ax11),(4,vI ax13),(10,.slice none 0 0),(12,vP H129.next 0),(14,vP H159.next 0),(19,vI ax12)],103,[],H172⟩,subk rfl,.slice none 0 0,ax12,H172,by omega,by omega,(by simp only [slen]; omega),(fun _ => by omega),AppV.nil,w178,Le.refl _,KeepX.refl (fun _ => False) H172,rfl,rfl⟩ ?_)
      rintro m269 s270 ⟨l258,x259,H260,i261,i262,i263,i264,ha265,w266,l267,k268,rfl,rfl⟩
      have n271:=k268.next
      refine w_seq (w_seq (w_region (mv (vI x259) rfl rfl ?_)))
      refine mv (vI ax13) rfl rfl ?_
      by_cases c272:x259 ≤ ax13
      ·
       refine sv (v:=.bool true) rfl rfl rfl (opv_bin rfl rfl rfl rfl rfl (cmpT rfl c272)) rfl ?_
       refine wo_nil (tq_n (wk ⟨[(1,vI ax10),(2,vI ax11),(4,vI ax13),(10,l258),(12,vP H129.next 0),(14,vP H159.next 0),(19,vI x259),(87,.bool true)],103,[],H260⟩ rfl ?_))
       refine w_cond (t:=true) rfl rfl (fun _ => ?_) (fun h => by cases h)
       refine w_skip (tq_n (wk ⟨[(1,vI ax10),(2,vI ax11),(4,vI ax13),(10,l258),(12,vP H129.next 0),(14,vP H159.next 0),(19,vI x259)],103,[],H260⟩ rfl ?_))
       refine w_seq (w_block (w_region (mv l258 rfl rfl ?_)))
       refine mv (vI x259) rfl rfl ?_
       refine sv (v:=.pointer (some ⟨H159.next,(x259).toNat,none⟩)) rfl rfl rfl (opv_indexA rfl rfl rfl rfl rfl Try.underlying84 sz3 (by omega) (by omega)) rfl ?_
       have q273:=(i175 (x259).toNat (by omega) (by omega)).2.2 (by omega)
       refine sv (v:=vI (f171 (x259).toNat)) rfl rfl rfl (opv_loadA rfl rfl rfl ag3 sz3 ((k268.get H159.next (by omega) id).trans hb177) (by omega)) rfl ?_
       refine sv_new (H:=H260) (v:=.slice (some ⟨H260.next,0,none⟩) 1 1) (x:=.row #[vI (f171 (x259).toNat)] .raw) rfl rfl rfl rfl (opv_buildSliceE (vs:=[(0,vI (f171 (x259).toNat))]) rfl (.cons rfl rfl neI .nil) Try.underlying31 sz3 ze3 rfl (by decide) (by decide) rfl rfl rfl) ?_
       intro H274 f275
       refine newL w266 f275 fun n278 w276 l277 => ?_
       refine sv_append (H:=H274) (lo:=H172.next) (e:=[.int .i64]) (v:=l258) (n:=H260.next) (m:=1) (xs:=[vI (f171 (x259).toNat)]) (by_:=8) rfl rfl rfl rfl w276 (AppV.move ha265 l277 (fun k h1 h2 => (f275.get k (by omega)))) rfl rfl rfl rfl rfl f275.blk rfl (by simp) (by decide) rfl ⟨.int _ _,trivial⟩ ⟨rfl,trivial⟩ Try.underlying31 Try.underlying31 rfl sz3 tin3 rfl ze3 rfl (by omega) (by omega) (by decide) ?_
       intro l279 H280 ha281 hl282 w283 l284 k285 n286
       refine mv l279 rfl rfl ?_
       refine wo_nil ?_
       try refine q_eq (e':=.normal) rfl ?_
       refine tqk ⟨[(1,vI ax10),(2,vI ax11),(4,vI ax13),(10,l279),(12,vP H129.next 0),(14,vP H159.next 0),(19,vI x259)],103,[],H280⟩ rfl ?_
       refine w_draw_start ?_
       intro C0
       have C287:=ch_val (i:=0) (p:=0) (ks:=[12]) (v:=.agg #[vI rx12112,vI rx13113,vI rx14114,vI rx15115,vI rx16116,vI rx17117,vI rx18118,rs19119,rs20120,.map (some nm134)]) (A:=H280) (H:=H280) C0 rfl rfl rfl rfl rfl rfl (opv_loadE rfl rfl rfl ag68 sz68 ((k285.get H129.next (by omega) (ha265.not (by omega))).trans ((f275.get H129.next (by omega)).trans ((k268.get H129.next (by omega) id).trans ((k180.get H129.next (by omega) (by (try dsimp only); omega)).trans ((f165.get H129.next (by omega)).trans ((f160.get H129.next (by omega)).trans f148.blk)))))) rfl (.inl rfl) rfl)
       have C288:=ch_val (i:=1) (p:=0) (ks:=[1]) (v:=vI ax10) (A:=H280) (H:=H280) C287 rfl rfl rfl rfl rfl rfl (opv_move (.inl rfl) rfl rfl)
       have C289:=ch_val (i:=2) (p:=0) (ks:=[2]) (v:=vI ax11) (A:=H280) (H:=H280) C288 rfl rfl rfl rfl rfl rfl (opv_move (.inl rfl) rfl rfl)
       have C290:=ch_val (i:=3) (p:=0) (ks:=[19]) (v:=vI x259) (A:=H280) (H:=H280) C289 rfl rfl rfl rfl rfl rfl (opv_move (.inl rfl) rfl rfl)
       have C291:=ch_val (i:=4) (p:=0) (ks:=[14,91]) (v:=.pointer (some ⟨H159.next,(x259).toNat,none⟩)) (A:=H280) (H:=H280) C290 rfl rfl rfl rfl rfl rfl (opv_indexA rfl rfl rfl rfl rfl Try.underlying84 sz3 (by omega) (by omega))
       have q292:=(i175 (x259).toNat (by omega) (by omega)).2.2 (by omega)
       have C293:=ch_val (i:=5) (p:=0) (ks:=[92]) (v:=vI (f171 (x259).toNat)) (A:=H280) (H:=H280) C291 rfl rfl rfl rfl rfl rfl (opv_loadA rfl rfl rfl ag3 sz3 ((k285.get H159.next (by omega) (ha265.not (by omega))).trans ((f275.get H159.next (by omega)).trans ((k268.get H159.next (by omega) id).trans hb177))) (by omega))
       refine w_draw (tl:=[6,7,8]) rfl [0,0,0,0,8,24,63,127,255] C293 (by kernel_rfl) (by kernel_rfl) ?_
       refine wonorm (g:=[(1,vI ax10),(2,vI ax11),(4,vI ax13),(10,l279),(12,vP H129.next 0),(14,vP H159.next 0),(88,.agg #[vI rx12112,vI rx13113,vI rx14114,vI rx15115,vI rx16116,vI rx17117,vI rx18118,rs19119,rs20120,.map (some nm134)]),(89,vI ax10),(90,vI ax11),(93,vI (f171 (x259).toNat))]) (n:=103) (ds:=[]) (H:=H280) (lsub_cons rfl (lsub_cons rfl (lsub_cons rfl (lsub_cons rfl (lsub_cons rfl (lsub_cons rfl (lsub_cons rfl (lsub_cons rfl (lsub_cons rfl (lsub_cons rfl (lsub_nil _))))))))))) rfl rfl rfl ?_
       refine sc_ (H:=H280) (vs:=[.agg #[vI rx12112,vI rx13113,vI rx14114,vI rx15115,vI rx16116,vI rx17117,vI rx18118,rs19119,rs20120,.map (some nm134)],vI ax10,vI ax11,vI (f171 (x259).toNat)]) (fv:=.func (.func 44) #[] #[]) rfl rfl rfl rfl rfl rfl (.cons rfl rfl (by simp [undef]) (.cons rfl rfl neI (.cons rfl rfl neI (.cons rfl rfl neI .nil)))) rfl ?_
       refine WV.mono (wv_f0 Try.call44 (hd158 (f171 (x259).toNat) (by omega) _ ((((((((KeepX.refl (fun _ => False) H147).new_ f160).new_ f165).trans k180 (by intro m hm; (try simp only [false_or,or_false] at hm ⊢); (try dsimp only at hm ⊢); first | omega | (right; omega) | (left; left; omega) | (left; right; omega))).trans k268 (fun _ h => h.elim)).new_ f275).trans k285 (fun k hk => .inr (by have:=ha265.x hk; omega))).k (fun _ h => h.elim)) w283)) ?_
       rintro v294 H295 ⟨k296,w297,rfl⟩
       refine kpL k296 fun n299 l298 => ?_
       have q300:=hq157 (f171 (x259).toNat) (by omega)
       refine sv_int rfl rfl rfl (opv_bin rfl rfl rfl rfl rfl rfl) ?_
       intro x301 h302
       try replace h302:x301=(hF156 (f171 (x259).toNat)) + 1:=wr_ex h302 (by omega) (by omega)
       refine mv (vI x301) rfl rfl ?_
       refine wo_nil ?_
       refine tq_n ⟨(ax13 + 1 - x301).toNat,by omega,⟨[(1,vI ax10),(2,vI ax11),(4,vI ax13),(10,l279),(12,vP H129.next 0),(14,vP H159.next 0),(19,vI x301)],103,[],H295⟩,subk rfl,l279,x301,H295,by omega,by omega,by omega,(fun hh => by rw [h302]; exact q292.2 (by omega)),AppV.move ha281 l298 (fun k h1 h2 => (k296.get k (by omega))),w297,((l267.trans l277).trans l284).trans l298,(((((KeepX.refl (fun _ => False) H172).trans k268 (fun _ h => h.elim)).new_ f275).trans k285 (fun k hk => .inr (by have:=ha265.x hk; omega))).keep k296),rfl,rfl⟩
      ·
       refine sv (v:=.bool false) rfl rfl rfl (opv_bin rfl rfl rfl rfl rfl (cmpF rfl c272)) rfl ?_
       refine wo_nil (tq_n (wk ⟨[(1,vI ax10),(2,vI ax11),(4,vI ax13),(10,l258),(12,vP H129.next 0),(14,vP H159.next 0),(19,vI x259),(87,.bool false)],103,[],H260⟩ rfl ?_))
       refine w_cond (t:=false) rfl rfl (fun h => by cases h) (fun _ => ?_)
       refine w_exit (tq_e (tq_e ?_))
       try refine q_eq (e':=.normal) rfl ?_
       refine tqk ⟨[(10,l258)],103,[],H260⟩ rfl ?_
       refine w_seq (w_region (mv l258 rfl rfl ?_))
       refine mv l258 rfl rfl ?_
       refine mv (vI 0) rfl rfl ?_
       refine wo_nil (tq_n (wk ⟨[(10,l258),(11,vI 0)],103,[],H260⟩ rfl ?_))
       refine w_ret ?_
       refine ⟨.inr rfl,rfl,[l258,vI 0],.cons (resV_tmp rfl ha265.ne) (.cons (resV_tmp rfl neI) .nil),(((((((((((KeepX.refl (fun _ => False) H).new_ f102).new_ f107).keep k130).new_ f143).put f148 (by first | (right; omega) | (left; (try dsimp only) <;> omega))).new_ f160).new_ f165).trans k180 (by intro m hm; (try simp only [false_or,or_false] at hm ⊢); (try dsimp only at hm ⊢); first | omega | (right; omega) | (left; left; omega) | (left; right; omega))).trans k268 (fun _ h => h.elim)).k (fun _ h => h.elim)),w266,l258,ha265.lower (by omega),(by unfold LIM; omega),0,rfl⟩
   ·
    refine ⟨.ret,⟨[(10,.slice none 0 0),(11,vI 2)],103,[],H147⟩,?_⟩
    refine ⟨.inr rfl,rfl,[.slice none 0 0,vI 2],.cons (resV_tmp rfl (by simp [undef])) (.cons (resV_tmp rfl neI) .nil),(((((((KeepX.refl (fun _ => False) H).new_ f102).new_ f107).keep k130).new_ f143).put f148 (by first | (right; omega) | (left; (try dsimp only) <;> omega))).k (fun _ h => h.elim)),w149,.slice none 0 0,AppV.nil,Nat.zero_le _,2,rfl⟩
 ·
  refine mv (.tuple #[.agg #[vI rx12112,vI rx13113,vI rx14114,vI rx15115,vI rx16116,vI rx17117,vI rx18118,rs19119,rs20120,rm121],vI re122]) rfl rfl ?_
  refine sv (v:=.agg #[vI rx12112,vI rx13113,vI rx14114,vI rx15115,vI rx16116,vI rx17117,vI rx18118,rs19119,rs20120,rm121]) rfl rfl rfl (opv_extract rfl rfl rfl rfl) rfl ?_
  refine sv (v:=vI re122) rfl rfl rfl (opv_extract rfl rfl rfl rfl) rfl ?_
  refine sv_new (H:=H129) (v:=vP H129.next 0) (x:=.row #[vI 0,vI 0,vI 0,vI 0,vI 0,vI 0,vI 0,.slice none 0 0,.slice none 0 0,.map none] .raw) rfl rfl rfl rfl (opv_alloc rfl ze68 rfl) ?_
  intro H303 f304
  refine newL w111 f304 fun n307 w305 l306 => ?_
  refine sv_put (H:=H303) (n:=H129.next) (v:=undef) (x:=some (.row #[vI rx12112,vI rx13113,vI rx14114,vI rx15115,vI rx16116,vI rx17117,vI rx18118,rs19119,rs20120,rm121] .raw)) rfl rfl rfl rfl (opv_storeC (u:=.agg #[vI rx12112,vI rx13113,vI rx14114,vI rx15115,vI rx16116,vI rx17117,vI rx18118,rs19119,rs20120,rm121]) rfl rfl rfl rfl rfl (by simp [undef]) sz68 rfl rfl (leafs_of (l:=[vI rx12112,vI rx13113,vI rx14114,vI rx15115,vI rx16116,vI rx17117,vI rx18118,rs19119,rs20120,rm121]) ⟨rfl,rfl,rfl,rfl,rfl,rfl,rfl,vt_one (hv123.mono l306),vt_one (hv124.mono l306),MV.one f126,trivial⟩) f304.blk rfl rfl) ?_
  intro H308 f309
  refine putL w305 f309 f304.blk fun n312 w310 l311 => ?_
  refine mv (vI re122) rfl rfl ?_
  refine wo_nil (tq_n (wk ⟨[(1,vI ax10),(2,vI ax11),(3,vI ax12),(4,vI ax13),(10,.slice none 0 0),(11,vI re122),(12,vP H129.next 0)],103,[],H308⟩ rfl ?_))
  refine w_seq (w_block (w_seq (w_region (mv (vI re122) rfl rfl ?_))))
  by_cases c313:re122=0
  ·
   refine sv (v:=.bool false) rfl rfl rfl (opv_bin rfl rfl rfl rfl rfl (neF c313)) rfl ?_
   refine mv (.bool false) rfl rfl ?_
   refine wo_nil (tq_n (wk ⟨[(1,vI ax10),(2,vI ax11),(3,vI ax12),(4,vI ax13),(10,.slice none 0 0),(11,vI re122),(12,vP H129.next 0),(30,.bool false)],103,[],H308⟩ rfl ?_))
   refine w_cond (t:=false) rfl rfl (fun h => by cases h) (fun _ => ?_)
   refine w_seq (w_region (mv (vI ax12) rfl rfl ?_))
   refine mv (vI ax13) rfl rfl ?_
   by_cases c314:ax12 > ax13
   ·
    refine sv (v:=.bool true) rfl rfl rfl (opv_bin rfl rfl rfl rfl rfl (cmpT rfl c314)) rfl ?_
    refine mv (.bool true) rfl rfl ?_
    refine wo_nil (tq_n (wk ⟨[(1,vI ax10),(2,vI ax11),(3,vI ax12),(4,vI ax13),(10,.slice none 0 0),(12,vP H129.next 0),(34,.bool true)],103,[],H308⟩ rfl ?_))
    refine w_cond (t:=true) rfl rfl (fun _ => ?_) (fun h => by cases h)
    refine w_seq (w_region (mv (.slice none 0 0) rfl rfl ?_))
    refine mv (vI 2) rfl rfl ?_
    refine wo_nil (tq_n (wk ⟨[(10,.slice none 0 0),(11,vI 2)],103,[],H308⟩ rfl ?_))
    refine w_ret ?_
    try refine q_eq (e':=.ret) rfl ?_
    refine tq_r ?_
    refine ⟨.inr rfl,rfl,[.slice none 0 0,vI 2],.cons (resV_tmp rfl (by simp [undef])) (.cons (resV_tmp rfl neI) .nil),(((((((KeepX.refl (fun _ => False) H).new_ f102).new_ f107).keep k130).new_ f304).put f309 (by first | (right; omega) | (left; (try dsimp only) <;> omega))).k (fun _ h => h.elim)),w310,.slice none 0 0,AppV.nil,Nat.zero_le _,2,rfl⟩
   ·
    exfalso; omega -- no block rm121
  ·
   refine sv (v:=.bool true) rfl rfl rfl (opv_bin rfl rfl rfl rfl rfl (neT c313)) rfl ?_
   refine mv (.bool true) rfl rfl ?_
   refine wo_nil (tq_n (wk ⟨[(1,vI ax10),(2,vI ax11),(3,vI ax12),(4,vI ax13),(10,.slice none 0 0),(11,vI re122),(12,vP H129.next 0),(30,.bool true)],103,[],H308⟩ rfl ?_))
   refine w_cond (t:=true) rfl rfl (fun _ => ?_) (fun h => by cases h)
   refine w_seq (w_region (mv (vI re122) rfl rfl ?_))
   refine mv (.slice none 0 0) rfl rfl ?_
   refine mv (vI re122) rfl rfl ?_
   refine wo_nil (tq_n (wk ⟨[(10,.slice none 0 0),(11,vI re122)],103,[],H308⟩ rfl ?_))
   refine w_ret ?_
   try refine q_eq (e':=.ret) rfl ?_
   refine tq_r ?_
   refine ⟨.inr rfl,rfl,[.slice none 0 0,vI re122],.cons (resV_tmp rfl (by simp [undef])) (.cons (resV_tmp rfl neI) .nil),(((((((KeepX.refl (fun _ => False) H).new_ f102).new_ f107).keep k130).new_ f304).put f309 (by first | (right; omega) | (left; (try dsimp only) <;> omega))).k (fun _ h => h.elim)),w310,.slice none 0 0,AppV.nil,Nat.zero_le _,re122,rfl⟩
theorem gas_Fewest (ax1 ax2:Int) (ax3 ax4:Int) (ax5 ax6 ax7:Int) (as8 as9:Value) (ax10 ax11:Int) (ax12 ax13:Int) (H:SH) (wt:WT H) (hvas8:VT H (.sl false [.int .i64,.int .i64]) as8) (hvas9:VT H (.sl false [.str,.int .i64]) as9):WC Try.prog 24 [.agg #[vI ax1,vI ax2,vI ax3,vI ax4,vI ax5,vI ax6,vI ax7,as8,as9],vI ax10,vI ax11,vI ax12,vI ax13] H (fun v H' => Keep H H'∧WT H'∧∃ (rl14:Value),VT H' (.sl true [.int .i64]) rl14∧∃ (rx15:Int),v=(.tuple #[rl14,vI rx15])) :=
  WC.tagApp (K:=fun v rl14 => ∃ (rx15:Int),v=(.tuple #[rl14,vI rx15])) (by simp) wt (gas_Fewest_raw ax1 ax2 ax3 ax4 ax5 ax6 ax7 as8 as9 ax10 ax11 ax12 ax13 H wt hvas8 hvas9)
end Go.Proofs.Orl

namespace Go.Proofs.Orl
open Go Go.MapKept
set_option maxRecDepth 10000
set_option maxHeartbeats 4000000
theorem ag31:aggT Try.prog 31=some false:=by kernel_rfl
theorem ag32:aggT Try.prog 32=some false:=by kernel_rfl
theorem sz31:szT Try.prog 31=some 1:=by kernel_rfl
theorem sz32:szT Try.prog 32=some 1:=by kernel_rfl
theorem tin9:Try.prog.info? 9=some Try.t9:=by kernel_rfl
theorem top_putInt_ok (ax1:Int) (n1 k:Nat) (H:SH) (wt:WT H) (hb:HB H n1 k) (hk:k + (0 * LIM + 1) ≤ CAP):WC Try.prog 8 [vP n1 0,vI ax1] H (fun v H' => KG n1 H H'∧WT H'∧HB H' n1 (k + (0 * LIM + 1))∧v=(.tuple #[])):=by
 have hlt:=hb.lt
 refine wc_of_body Try.func8 rfl ?_
 refine wk ⟨[(0,vP n1 0),(1,vI ax1)],14,[],H⟩ rfl ?_
 refine w_region (mv (vP n1 0) rfl rfl ?_)
 refine mv (vP n1 0) rfl rfl ?_
 refine sv (v:=vP n1 0) rfl rfl rfl (opv_nilCheck_ptr rfl rfl rfl) rfl ?_
 refine sv (v:=vP n1 0) rfl rfl rfl (opv_fieldAddrE rfl rfl rfl Try.underlying34 rfl sz31 (by decide) rfl) rfl ?_
 have hb101:=hb
 obtain ⟨s102,s103,c104,c105,hb106,l107,l108⟩:=id hb101
 refine sv (v:=s102) rfl rfl rfl (opv_loadE rfl rfl rfl ag31 sz31 hb106.blk rfl (.inr rfl) rfl) rfl ?_
 refine mv (vI ax1) rfl rfl ?_
 refine sv_new (H:=H) (v:=.slice (some ⟨H.next,0,none⟩) 1 1) (x:=.row #[vI ax1] .raw) rfl rfl rfl rfl (opv_buildSliceE (vs:=[(0,vI ax1)]) rfl (.cons rfl rfl neI .nil) Try.underlying31 sz3 ze3 rfl (by decide) (by decide) rfl rfl rfl) ?_
 intro H109 f110
 refine newL wt f110 fun n113 w111 l112 => ?_
 refine sv_push (H:=H109) (b:=false) (v:=s102) (c:=c104) (n:=H.next) (e:=vI ax1) (by_:=8) rfl rfl rfl rfl w111 (GV.new hb106.g1 f110) rfl rfl rfl rfl rfl f110.blk ⟨_,rfl⟩ Try.underlying31 Try.underlying31 rfl sz3 tin3 rfl ze3 rfl l107 (by omega) (by decide) (by decide) ?_
 intro s114 H115 g116 w117 l118 k119 n120 ap121
 refine sv (v:=vP n1 0) rfl rfl rfl (opv_nilCheck_ptr rfl rfl rfl) rfl ?_
 refine sv (v:=vP n1 0) rfl rfl rfl (opv_fieldAddrE rfl rfl rfl Try.underlying34 rfl sz31 (by decide) rfl) rfl ?_
 refine sv_put (H:=H115) (n:=n1) (v:=undef) (x:=some (.row #[s114,s103] .raw)) rfl rfl rfl rfl (opv_storeC (u:=s114) rfl rfl rfl rfl rfl (GV.ne g116) sz31 (GV.cells g116) rfl (GV.leafs g116) (push_get k119 (GV.new hb106.g1 f110) ((f110.get n1 (by omega)).trans hb106.blk) (by omega)) rfl rfl) ?_
 intro H122 f123
 refine putL w117 f123 (push_get k119 (GV.new hb106.g1 f110) ((f110.get n1 (by omega)).trans hb106.blk) (by omega)) fun n126 w124 l125 => ?_
 obtain ⟨hb127,k128⟩:=hb_done1 hb106 l107 l108 f110 g116 k119 ap121 f123
 refine wo_nil ?_
 exact ⟨.inl rfl,rfl,[],.nil,KG.trans KG.refl k128,w124,HB.mono hb127 (by omega),rfl⟩

theorem top_putSpan_ok (ax1 ax2:Int) (n1 k:Nat) (H:SH) (wt:WT H) (hb:HB H n1 k) (hk:k + (0 * LIM + 2) ≤ CAP):WC Try.prog 13 [vP n1 0,.agg #[vI ax1,vI ax2]] H (fun v H' => KG n1 H H'∧WT H'∧HB H' n1 (k + (0 * LIM + 2))∧v=(.tuple #[])):=by
 have hlt:=hb.lt
 refine wc_of_body Try.func13 rfl ?_
 refine wk ⟨[(0,vP n1 0),(1,.agg #[vI ax1,vI ax2])],12,[],H⟩ rfl ?_
 refine w_seq (w_region (sv_new (H:=H) (v:=vP H.next 0) (x:=.row #[vI ax1,vI ax2] .raw) rfl rfl rfl rfl (opv_boxE (v:=.agg #[vI ax1,vI ax2]) rfl rfl rfl (by simp [undef]) rfl) ?_))
 intro H101 f102
 refine newL wt f102 fun n105 w103 l104 => ?_
 refine wo_nil (tq_n (wk ⟨[(0,vP n1 0),(3,vP H.next 0)],12,[],H101⟩ rfl ?_))
 refine w_seq (w_region (mv (vP n1 0) rfl rfl ?_))
 refine sv (v:=vP H.next 0) rfl rfl rfl (opv_fieldAddrE rfl rfl rfl Try.underlying23 rfl sz3 (by decide) rfl) rfl ?_
 refine sv (v:=vI ax1) rfl rfl rfl (opv_loadE rfl rfl rfl ag3 sz3 f102.blk rfl (.inr rfl) rfl) rfl ?_
 refine sc_ (H:=H101) (vs:=[vP n1 0,vI ax1]) (fv:=.func (.func 8) #[] #[]) rfl rfl rfl rfl rfl rfl (.cons rfl rfl neP (.cons rfl rfl neI .nil)) rfl ?_
 refine WV.mono (wv_f0 Try.call8 (top_putInt_ok ax1 n1 _ _ w103 (HB.new hb f102) (by omega))) ?_
 rintro v108 H109 ⟨k110,w106,hb107,rfl⟩
 have n111:=KG.next k110
 have l112:=HB.le (HB.new hb f102) k110
 refine wo_nil (tq_n (wk ⟨[(0,vP n1 0),(3,vP H.next 0)],12,[],H109⟩ rfl ?_))
 refine w_region (mv (vP n1 0) rfl rfl ?_)
 refine sv (v:=vP H.next 1) rfl rfl rfl (opv_fieldAddrE rfl rfl rfl Try.underlying23 rfl sz3 (by decide) rfl) rfl ?_
 refine sv (v:=vI ax2) rfl rfl rfl (opv_loadE rfl rfl rfl ag3 sz3 (KG.get k110 f102.blk (by omega) (by omega)) rfl (.inr rfl) rfl) rfl ?_
 refine sc_ (H:=H109) (vs:=[vP n1 0,vI ax2]) (fv:=.func (.func 8) #[] #[]) rfl rfl rfl rfl rfl rfl (.cons rfl rfl neP (.cons rfl rfl neI .nil)) rfl ?_
 refine WV.mono (wv_f0 Try.call8 (top_putInt_ok ax2 n1 _ _ w106 hb107 (by omega))) ?_
 rintro v117 H118 ⟨k119,w115,hb116,rfl⟩
 have n120:=KG.next k119
 have l121:=HB.le hb107 k119
 refine wo_nil ?_
 exact ⟨.inl rfl,rfl,[],.nil,KG.trans (KG.trans (KG.new KG.refl f102) k110) k119,w115,HB.mono hb116 (by omega),rfl⟩

theorem top_Span_13_ok (as1:Value) (n1 k:Nat) (H:SH) (wt:WT H) (hvas1:VT H (.sl false [.int .i64,.int .i64]) as1) (hb:HB H n1 k) (hk:k + (2 * LIM + 1) ≤ CAP):WC Try.prog 65 [vP n1 0,as1,.func (.func 13) #[] #[]] H (fun v H' => KG n1 H H'∧WT H'∧HB H' n1 (k + (2 * LIM + 1))∧v=(.tuple #[])):=by
 have hlt:=hb.lt
 refine wc_of_body Try.func65 rfl ?_
 have hL:slen as1 ≤ LIM:=vt_lim hvas1
 refine wk ⟨[(0,vP n1 0),(1,as1),(2,.func (.func 13) #[] #[])],31,[],H⟩ rfl ?_
 refine w_seq (w_region (mv (vP n1 0) rfl rfl ?_))
 refine mv (vP n1 0) rfl rfl ?_
 refine sv (v:=vP n1 0) rfl rfl rfl (opv_nilCheck_ptr rfl rfl rfl) rfl ?_
 refine sv (v:=vP n1 0) rfl rfl rfl (opv_fieldAddrE rfl rfl rfl Try.underlying34 rfl sz31 (by decide) rfl) rfl ?_
 have hb101:=hb
 obtain ⟨s102,s103,c104,c105,hb106,l107,l108⟩:=id hb101
 refine sv (v:=s102) rfl rfl rfl (opv_loadE rfl rfl rfl ag31 sz31 hb106.blk rfl (.inr rfl) rfl) rfl ?_
 refine mv as1 rfl rfl ?_
 have c109:slen as1 ≤ 1073741824:=vt_lim hvas1
 refine sv (v:=(vI (slen as1:Int))) rfl rfl rfl (t_len hvas1 rfl rfl rfl Try.underlying24) rfl ?_
 refine sv_new (H:=H) (v:=.slice (some ⟨H.next,0,none⟩) 1 1) (x:=(.row #[(vI (slen as1:Int))] .raw)) rfl rfl rfl rfl (opv_buildSliceE (vs:=[(0,(vI (slen as1:Int)))]) rfl (.cons rfl rfl neI .nil) Try.underlying31 sz3 ze3 rfl (by decide) (by decide) rfl rfl rfl) ?_
 intro H110 f111
 refine newL wt f111 fun n114 w112 l113 => ?_
 refine sv_push (H:=H110) (b:=false) (v:=s102) (c:=c104) (n:=H.next) (e:=(vI (slen as1:Int))) (by_:=8) rfl rfl rfl rfl w112 (GV.new hb106.g1 f111) rfl rfl rfl rfl rfl f111.blk ⟨_,rfl⟩ Try.underlying31 Try.underlying31 rfl sz3 tin3 rfl ze3 rfl l107 (by omega) (by decide) (by decide) ?_
 intro s115 H116 g117 w118 l119 k120 n121 ap122
 refine sv (v:=vP n1 0) rfl rfl rfl (opv_nilCheck_ptr rfl rfl rfl) rfl ?_
 refine sv (v:=vP n1 0) rfl rfl rfl (opv_fieldAddrE rfl rfl rfl Try.underlying34 rfl sz31 (by decide) rfl) rfl ?_
 refine sv_put (H:=H116) (n:=n1) (v:=undef) (x:=some (.row #[s115,s103] .raw)) rfl rfl rfl rfl (opv_storeC (u:=s115) rfl rfl rfl rfl rfl (GV.ne g117) sz31 (GV.cells g117) rfl (GV.leafs g117) (push_get k120 (GV.new hb106.g1 f111) ((f111.get n1 (by omega)).trans hb106.blk) (by omega)) rfl rfl) ?_
 intro H123 f124
 refine putL w118 f124 (push_get k120 (GV.new hb106.g1 f111) ((f111.get n1 (by omega)).trans hb106.blk) (by omega)) fun n127 w125 l126 => ?_
 obtain ⟨hb128,k129⟩:=hb_done1 hb106 l107 l108 f111 g117 k120 ap122 f124
 refine wo_nil (tq_n (wk ⟨[(0,vP n1 0),(1,as1),(2,.func (.func 13) #[] #[])],31,[],H123⟩ rfl ?_))
 refine w_seq (w_region (mv (vI 0) rfl rfl ?_))
 refine wo_nil (tq_n (wk ⟨[(0,vP n1 0),(1,as1),(2,.func (.func 13) #[] #[]),(6,vI 0)],31,[],H123⟩ rfl ?_))
 refine w_block (w_loopS (fun m137 s138 => ∃ (x130:Int) (H131:SH),(0 ≤ x130)∧(x130 ≤ (slen as1:Int))∧HB H131 n1 (k + (0 * LIM + 1) + (x130).toNat * 2)∧KG n1 H123 H131∧WT H131∧Le H123 H131∧m137=((slen as1:Int) - x130).toNat∧s138=⟨[(0,vP n1 0),(1,as1),(2,.func (.func 13) #[] #[]),(6,vI x130)],31,[],H131⟩) (n:=((slen as1:Int) - 0).toNat) ⟨⟨[(0,vP n1 0),(1,as1),(2,.func (.func 13) #[] #[]),(6,vI 0)],31,[],H123⟩,subk rfl,0,H123,by omega,by omega,HB.mono hb128 (by omega),KG.refl,w125,Le.refl _,rfl,rfl⟩ ?_)
 rintro m137 s138 ⟨x130,H131,i132,i133,hb139,k136,w134,l135,rfl,rfl⟩
 have n140:=KG.next k136
 refine w_seq (w_seq (w_region (mv (vI x130) rfl rfl ?_)))
 refine mv as1 rfl rfl ?_
 have c141:slen as1 ≤ 1073741824:=vt_lim (hvas1.mono ((HB.le hb101 k129).trans l135))
 refine sv (v:=(vI (slen as1:Int))) rfl rfl rfl (t_len (hvas1.mono ((HB.le hb101 k129).trans l135)) rfl rfl rfl Try.underlying24) rfl ?_
 by_cases c142:x130 < (slen as1:Int)
 ·
  refine sv (v:=.bool true) rfl rfl rfl (opv_bin rfl rfl rfl rfl rfl (cmpT rfl c142)) rfl ?_
  refine wo_nil (tq_n (wk ⟨[(0,vP n1 0),(1,as1),(2,.func (.func 13) #[] #[]),(6,vI x130),(21,.bool true)],31,[],H131⟩ rfl ?_))
  refine w_cond (t:=true) rfl rfl (fun _ => ?_) (fun h => by cases h)
  refine w_skip (tq_n (wk ⟨[(0,vP n1 0),(1,as1),(2,.func (.func 13) #[] #[]),(6,vI x130)],31,[],H131⟩ rfl ?_))
  refine w_seq (w_block (w_region (mv (.func (.func 13) #[] #[]) rfl rfl ?_)))
  refine mv (vP n1 0) rfl rfl ?_
  refine mv as1 rfl rfl ?_
  refine mv (vI x130) rfl rfl ?_
  refine sv (v:=.pointer (some ⟨snm as1,sof as1 + (x130).toNat * 2,none⟩)) rfl rfl rfl (t_index (z:=2) (hvas1.mono ((HB.le hb101 k129).trans l135)) rfl rfl rfl rfl rfl Try.underlying24 sz23 (by omega) (by omega)) rfl ?_
  obtain ⟨vs143,hs144,ho145⟩:=t_load (P:=Try.prog) w134 (hvas1.mono ((HB.le hb101 k129).trans l135)) (i:=(x130).toNat) (off:=0) (w:=2) (by omega) (by decide)
  replace hs144:VTs H131 [.int .i64,.int .i64] vs143:=hs144
  obtain ⟨x148,r146,rfl,hs147⟩:=vts_int hs144
  obtain ⟨x151,r149,rfl,hs150⟩:=vts_int hs147
  obtain rfl:=vts_nil hs150
  refine sv (v:=.agg #[vI x148,vI x151]) rfl rfl rfl (ho145 _ _ _ _ true rfl rfl rfl rfl ag23 sz23 (.inl rfl)) rfl ?_
  refine sc_ (H:=H131) (vs:=[vP n1 0,.agg #[vI x148,vI x151]]) (fv:=.func (.func 13) #[] #[]) rfl rfl rfl rfl rfl rfl (.cons rfl rfl neP (.cons rfl rfl (by simp [undef]) .nil)) rfl ?_
  refine WV.mono (wv_f0 Try.call13 (top_putSpan_ok x148 x151 n1 _ _ w134 hb139 (by omega))) ?_
  rintro v154 H155 ⟨k156,w152,hb153,rfl⟩
  have n157:=KG.next k156
  have l158:=HB.le hb139 k156
  refine wo_nil ?_
  try refine q_eq (e':=.normal) rfl ?_
  refine tqk ⟨[(0,vP n1 0),(1,as1),(2,.func (.func 13) #[] #[]),(6,vI x130)],31,[],H155⟩ rfl ?_
  refine w_region (mv (vI x130) rfl rfl ?_)
  refine sv_int rfl rfl rfl (opv_bin rfl rfl rfl rfl rfl rfl) ?_
  intro x161 h162
  try replace h162:x161=x130 + 1:=wr_ex h162 (by omega) (by omega)
  refine mv (vI x161) rfl rfl ?_
  refine wo_nil ?_
  refine tq_n ⟨((slen as1:Int) - x161).toNat,by omega,⟨[(0,vP n1 0),(1,as1),(2,.func (.func 13) #[] #[]),(6,vI x161)],31,[],H155⟩,subk rfl,x161,H155,by omega,by omega,HB.mono hb153 (by omega),KG.trans (KG.trans KG.refl k136) k156,w152,l135.trans l158,rfl,rfl⟩
 ·
  refine sv (v:=.bool false) rfl rfl rfl (opv_bin rfl rfl rfl rfl rfl (cmpF rfl c142)) rfl ?_
  refine wo_nil (tq_n (wk ⟨[(0,vP n1 0),(1,as1),(2,.func (.func 13) #[] #[]),(6,vI x130),(21,.bool false)],31,[],H131⟩ rfl ?_))
  refine w_cond (t:=false) rfl rfl (fun h => by cases h) (fun _ => ?_)
  refine w_exit (tq_e (tq_e ?_))
  try refine q_eq (e':=.normal) rfl ?_
  exact ⟨.inl rfl,rfl,[],.nil,KG.trans (KG.trans KG.refl k129) k136,w134,HB.mono hb139 (by omega),rfl⟩

theorem top_putSpans_ok (as1:Value) (n1 k:Nat) (H:SH) (wt:WT H) (hvas1:VT H (.sl false [.int .i64,.int .i64]) as1) (hb:HB H n1 k) (hk:k + (2 * LIM + 1) ≤ CAP):WC Try.prog 50 [vP n1 0,as1] H (fun v H' => KG n1 H H'∧WT H'∧HB H' n1 (k + (2 * LIM + 1))∧v=(.tuple #[])):=by
 have hlt:=hb.lt
 refine wc_of_body Try.func50 rfl ?_
 refine wk ⟨[(0,vP n1 0),(1,as1)],7,[],H⟩ rfl ?_
 refine w_region (mv (vP n1 0) rfl rfl ?_)
 refine mv as1 rfl rfl ?_
 refine sc_ (H:=H) (vs:=[vP n1 0,as1,.func (.func 13) #[] #[]]) (fv:=.func (.func 65) #[] #[]) rfl rfl rfl rfl rfl rfl (.cons rfl rfl neP (.cons rfl rfl (vt_ne hvas1) (.cons rfl rfl (by simp [undef]) .nil))) rfl ?_
 refine WV.mono (wv_f0 Try.call65 (top_Span_13_ok as1 n1 _ _ wt hvas1 hb (by omega))) ?_
 rintro v103 H104 ⟨k105,w101,hb102,rfl⟩
 have n106:=KG.next k105
 have l107:=HB.le hb k105
 refine wo_nil ?_
 exact ⟨.inl rfl,rfl,[],.nil,KG.trans KG.refl k105,w101,HB.mono hb102 (by omega),rfl⟩

theorem top_putText_ok (at1:ByteArray) (n1 k:Nat) (H:SH) (wt:WT H) (hb:HB H n1 k) (hk:k + (0 * LIM + 1) ≤ CAP):WC Try.prog 71 [vP n1 0,.string at1] H (fun v H' => KG n1 H H'∧WT H'∧HB H' n1 (k + (0 * LIM + 1))∧v=(.tuple #[])):=by
 have hlt:=hb.lt
 refine wc_of_body Try.func71 rfl ?_
 refine wk ⟨[(0,vP n1 0),(1,.string at1)],14,[],H⟩ rfl ?_
 refine w_region (mv (vP n1 0) rfl rfl ?_)
 refine mv (vP n1 0) rfl rfl ?_
 refine sv (v:=vP n1 0) rfl rfl rfl (opv_nilCheck_ptr rfl rfl rfl) rfl ?_
 refine sv (v:=vP n1 1) rfl rfl rfl (opv_fieldAddrE rfl rfl rfl Try.underlying34 rfl sz32 (by decide) rfl) rfl ?_
 have hb101:=hb
 obtain ⟨s102,s103,c104,c105,hb106,l107,l108⟩:=id hb101
 refine sv (v:=s103) rfl rfl rfl (opv_loadE rfl rfl rfl ag32 sz32 hb106.blk rfl (.inr rfl) rfl) rfl ?_
 refine mv (.string at1) rfl rfl ?_
 refine sv_new (H:=H) (v:=.slice (some ⟨H.next,0,none⟩) 1 1) (x:=.row #[.string at1] .raw) rfl rfl rfl rfl (opv_buildSliceE (vs:=[(0,.string at1)]) rfl (.cons rfl rfl (by simp [undef]) .nil) Try.underlying32 sz9 ze9 rfl (by decide) (by decide) rfl rfl rfl) ?_
 intro H109 f110
 refine newL wt f110 fun n113 w111 l112 => ?_
 refine sv_push (H:=H109) (b:=true) (v:=s103) (c:=c105) (n:=H.next) (e:=.string at1) (by_:=16) rfl rfl rfl rfl w111 (GV.new hb106.g2 f110) rfl rfl rfl rfl rfl f110.blk ⟨_,rfl⟩ Try.underlying32 Try.underlying32 rfl sz9 tin9 rfl ze9 rfl l108 (by omega) (by decide) (by decide) ?_
 intro s114 H115 g116 w117 l118 k119 n120 ap121
 refine sv (v:=vP n1 0) rfl rfl rfl (opv_nilCheck_ptr rfl rfl rfl) rfl ?_
 refine sv (v:=vP n1 1) rfl rfl rfl (opv_fieldAddrE rfl rfl rfl Try.underlying34 rfl sz32 (by decide) rfl) rfl ?_
 refine sv_put (H:=H115) (n:=n1) (v:=undef) (x:=some (.row #[s102,s114] .raw)) rfl rfl rfl rfl (opv_storeC (u:=s114) rfl rfl rfl rfl rfl (GV.ne g116) sz32 (GV.cells g116) rfl (GV.leafs g116) (push_get k119 (GV.new hb106.g2 f110) ((f110.get n1 (by omega)).trans hb106.blk) (by omega)) rfl rfl) ?_
 intro H122 f123
 refine putL w117 f123 (push_get k119 (GV.new hb106.g2 f110) ((f110.get n1 (by omega)).trans hb106.blk) (by omega)) fun n126 w124 l125 => ?_
 obtain ⟨hb127,k128⟩:=hb_done2 hb106 l107 l108 f110 g116 k119 ap121 f123
 refine wo_nil ?_
 exact ⟨.inl rfl,rfl,[],.nil,KG.trans KG.refl k128,w124,HB.mono hb127 (by omega),rfl⟩

theorem top_putGsTool_ok (at1:ByteArray) (ax2:Int) (n1 k:Nat) (H:SH) (wt:WT H) (hb:HB H n1 k) (hk:k + (0 * LIM + 2) ≤ CAP):WC Try.prog 67 [vP n1 0,.agg #[.string at1,vI ax2]] H (fun v H' => KG n1 H H'∧WT H'∧HB H' n1 (k + (0 * LIM + 2))∧v=(.tuple #[])):=by
 have hlt:=hb.lt
 refine wc_of_body Try.func67 rfl ?_
 refine wk ⟨[(0,vP n1 0),(1,.agg #[.string at1,vI ax2])],12,[],H⟩ rfl ?_
 refine w_seq (w_region (sv_new (H:=H) (v:=vP H.next 0) (x:=.row #[.string at1,vI ax2] .raw) rfl rfl rfl rfl (opv_boxE (v:=.agg #[.string at1,vI ax2]) rfl rfl rfl (by simp [undef]) rfl) ?_))
 intro H101 f102
 refine newL wt f102 fun n105 w103 l104 => ?_
 refine wo_nil (tq_n (wk ⟨[(0,vP n1 0),(3,vP H.next 0)],12,[],H101⟩ rfl ?_))
 refine w_seq (w_region (mv (vP n1 0) rfl rfl ?_))
 refine sv (v:=vP H.next 0) rfl rfl rfl (opv_fieldAddrE rfl rfl rfl Try.underlying63 rfl sz9 (by decide) rfl) rfl ?_
 refine sv (v:=.string at1) rfl rfl rfl (opv_loadE rfl rfl rfl ag9 sz9 f102.blk rfl (.inr rfl) rfl) rfl ?_
 refine sc_ (H:=H101) (vs:=[vP n1 0,.string at1]) (fv:=.func (.func 71) #[] #[]) rfl rfl rfl rfl rfl rfl (.cons rfl rfl neP (.cons rfl rfl (by simp [undef]) .nil)) rfl ?_
 refine WV.mono (wv_f0 Try.call71 (top_putText_ok at1 n1 _ _ w103 (HB.new hb f102) (by omega))) ?_
 rintro v108 H109 ⟨k110,w106,hb107,rfl⟩
 have n111:=KG.next k110
 have l112:=HB.le (HB.new hb f102) k110
 refine wo_nil (tq_n (wk ⟨[(0,vP n1 0),(3,vP H.next 0)],12,[],H109⟩ rfl ?_))
 refine w_region (mv (vP n1 0) rfl rfl ?_)
 refine sv (v:=vP H.next 1) rfl rfl rfl (opv_fieldAddrE rfl rfl rfl Try.underlying63 rfl sz3 (by decide) rfl) rfl ?_
 refine sv (v:=vI ax2) rfl rfl rfl (opv_loadE rfl rfl rfl ag3 sz3 (KG.get k110 f102.blk (by omega) (by omega)) rfl (.inr rfl) rfl) rfl ?_
 refine sc_ (H:=H109) (vs:=[vP n1 0,vI ax2]) (fv:=.func (.func 8) #[] #[]) rfl rfl rfl rfl rfl rfl (.cons rfl rfl neP (.cons rfl rfl neI .nil)) rfl ?_
 refine WV.mono (wv_f0 Try.call8 (top_putInt_ok ax2 n1 _ _ w106 hb107 (by omega))) ?_
 rintro v117 H118 ⟨k119,w115,hb116,rfl⟩
 have n120:=KG.next k119
 have l121:=HB.le hb107 k119
 refine wo_nil ?_
 exact ⟨.inl rfl,rfl,[],.nil,KG.trans (KG.trans (KG.new KG.refl f102) k110) k119,w115,HB.mono hb116 (by omega),rfl⟩

theorem top_GsTool_67_ok (as1:Value) (n1 k:Nat) (H:SH) (wt:WT H) (hvas1:VT H (.sl false [.str,.int .i64]) as1) (hb:HB H n1 k) (hk:k + (2 * LIM + 1) ≤ CAP):WC Try.prog 66 [vP n1 0,as1,.func (.func 67) #[] #[]] H (fun v H' => KG n1 H H'∧WT H'∧HB H' n1 (k + (2 * LIM + 1))∧v=(.tuple #[])):=by
 have hlt:=hb.lt
 refine wc_of_body Try.func66 rfl ?_
 have hL:slen as1 ≤ LIM:=vt_lim hvas1
 refine wk ⟨[(0,vP n1 0),(1,as1),(2,.func (.func 67) #[] #[])],31,[],H⟩ rfl ?_
 refine w_seq (w_region (mv (vP n1 0) rfl rfl ?_))
 refine mv (vP n1 0) rfl rfl ?_
 refine sv (v:=vP n1 0) rfl rfl rfl (opv_nilCheck_ptr rfl rfl rfl) rfl ?_
 refine sv (v:=vP n1 0) rfl rfl rfl (opv_fieldAddrE rfl rfl rfl Try.underlying34 rfl sz31 (by decide) rfl) rfl ?_
 have hb101:=hb
 obtain ⟨s102,s103,c104,c105,hb106,l107,l108⟩:=id hb101
 refine sv (v:=s102) rfl rfl rfl (opv_loadE rfl rfl rfl ag31 sz31 hb106.blk rfl (.inr rfl) rfl) rfl ?_
 refine mv as1 rfl rfl ?_
 have c109:slen as1 ≤ 1073741824:=vt_lim hvas1
 refine sv (v:=(vI (slen as1:Int))) rfl rfl rfl (t_len hvas1 rfl rfl rfl Try.underlying25) rfl ?_
 refine sv_new (H:=H) (v:=.slice (some ⟨H.next,0,none⟩) 1 1) (x:=(.row #[(vI (slen as1:Int))] .raw)) rfl rfl rfl rfl (opv_buildSliceE (vs:=[(0,(vI (slen as1:Int)))]) rfl (.cons rfl rfl neI .nil) Try.underlying31 sz3 ze3 rfl (by decide) (by decide) rfl rfl rfl) ?_
 intro H110 f111
 refine newL wt f111 fun n114 w112 l113 => ?_
 refine sv_push (H:=H110) (b:=false) (v:=s102) (c:=c104) (n:=H.next) (e:=(vI (slen as1:Int))) (by_:=8) rfl rfl rfl rfl w112 (GV.new hb106.g1 f111) rfl rfl rfl rfl rfl f111.blk ⟨_,rfl⟩ Try.underlying31 Try.underlying31 rfl sz3 tin3 rfl ze3 rfl l107 (by omega) (by decide) (by decide) ?_
 intro s115 H116 g117 w118 l119 k120 n121 ap122
 refine sv (v:=vP n1 0) rfl rfl rfl (opv_nilCheck_ptr rfl rfl rfl) rfl ?_
 refine sv (v:=vP n1 0) rfl rfl rfl (opv_fieldAddrE rfl rfl rfl Try.underlying34 rfl sz31 (by decide) rfl) rfl ?_
 refine sv_put (H:=H116) (n:=n1) (v:=undef) (x:=some (.row #[s115,s103] .raw)) rfl rfl rfl rfl (opv_storeC (u:=s115) rfl rfl rfl rfl rfl (GV.ne g117) sz31 (GV.cells g117) rfl (GV.leafs g117) (push_get k120 (GV.new hb106.g1 f111) ((f111.get n1 (by omega)).trans hb106.blk) (by omega)) rfl rfl) ?_
 intro H123 f124
 refine putL w118 f124 (push_get k120 (GV.new hb106.g1 f111) ((f111.get n1 (by omega)).trans hb106.blk) (by omega)) fun n127 w125 l126 => ?_
 obtain ⟨hb128,k129⟩:=hb_done1 hb106 l107 l108 f111 g117 k120 ap122 f124
 refine wo_nil (tq_n (wk ⟨[(0,vP n1 0),(1,as1),(2,.func (.func 67) #[] #[])],31,[],H123⟩ rfl ?_))
 refine w_seq (w_region (mv (vI 0) rfl rfl ?_))
 refine wo_nil (tq_n (wk ⟨[(0,vP n1 0),(1,as1),(2,.func (.func 67) #[] #[]),(6,vI 0)],31,[],H123⟩ rfl ?_))
 refine w_block (w_loopS (fun m137 s138 => ∃ (x130:Int) (H131:SH),(0 ≤ x130)∧(x130 ≤ (slen as1:Int))∧HB H131 n1 (k + (0 * LIM + 1) + (x130).toNat * 2)∧KG n1 H123 H131∧WT H131∧Le H123 H131∧m137=((slen as1:Int) - x130).toNat∧s138=⟨[(0,vP n1 0),(1,as1),(2,.func (.func 67) #[] #[]),(6,vI x130)],31,[],H131⟩) (n:=((slen as1:Int) - 0).toNat) ⟨⟨[(0,vP n1 0),(1,as1),(2,.func (.func 67) #[] #[]),(6,vI 0)],31,[],H123⟩,subk rfl,0,H123,by omega,by omega,HB.mono hb128 (by omega),KG.refl,w125,Le.refl _,rfl,rfl⟩ ?_)
 rintro m137 s138 ⟨x130,H131,i132,i133,hb139,k136,w134,l135,rfl,rfl⟩
 have n140:=KG.next k136
 refine w_seq (w_seq (w_region (mv (vI x130) rfl rfl ?_)))
 refine mv as1 rfl rfl ?_
 have c141:slen as1 ≤ 1073741824:=vt_lim (hvas1.mono ((HB.le hb101 k129).trans l135))
 refine sv (v:=(vI (slen as1:Int))) rfl rfl rfl (t_len (hvas1.mono ((HB.le hb101 k129).trans l135)) rfl rfl rfl Try.underlying25) rfl ?_
 by_cases c142:x130 < (slen as1:Int)
 ·
  refine sv (v:=.bool true) rfl rfl rfl (opv_bin rfl rfl rfl rfl rfl (cmpT rfl c142)) rfl ?_
  refine wo_nil (tq_n (wk ⟨[(0,vP n1 0),(1,as1),(2,.func (.func 67) #[] #[]),(6,vI x130),(21,.bool true)],31,[],H131⟩ rfl ?_))
  refine w_cond (t:=true) rfl rfl (fun _ => ?_) (fun h => by cases h)
  refine w_skip (tq_n (wk ⟨[(0,vP n1 0),(1,as1),(2,.func (.func 67) #[] #[]),(6,vI x130)],31,[],H131⟩ rfl ?_))
  refine w_seq (w_block (w_region (mv (.func (.func 67) #[] #[]) rfl rfl ?_)))
  refine mv (vP n1 0) rfl rfl ?_
  refine mv as1 rfl rfl ?_
  refine mv (vI x130) rfl rfl ?_
  refine sv (v:=.pointer (some ⟨snm as1,sof as1 + (x130).toNat * 2,none⟩)) rfl rfl rfl (t_index (z:=2) (hvas1.mono ((HB.le hb101 k129).trans l135)) rfl rfl rfl rfl rfl Try.underlying25 sz63 (by omega) (by omega)) rfl ?_
  obtain ⟨vs143,hs144,ho145⟩:=t_load (P:=Try.prog) w134 (hvas1.mono ((HB.le hb101 k129).trans l135)) (i:=(x130).toNat) (off:=0) (w:=2) (by omega) (by decide)
  replace hs144:VTs H131 [.str,.int .i64] vs143:=hs144
  obtain ⟨t148,r146,rfl,hs147⟩:=vts_str hs144
  obtain ⟨x151,r149,rfl,hs150⟩:=vts_int hs147
  obtain rfl:=vts_nil hs150
  refine sv (v:=.agg #[.string t148,vI x151]) rfl rfl rfl (ho145 _ _ _ _ true rfl rfl rfl rfl ag63 sz63 (.inl rfl)) rfl ?_
  refine sc_ (H:=H131) (vs:=[vP n1 0,.agg #[.string t148,vI x151]]) (fv:=.func (.func 67) #[] #[]) rfl rfl rfl rfl rfl rfl (.cons rfl rfl neP (.cons rfl rfl (by simp [undef]) .nil)) rfl ?_
  refine WV.mono (wv_f0 Try.call67 (top_putGsTool_ok t148 x151 n1 _ _ w134 hb139 (by omega))) ?_
  rintro v154 H155 ⟨k156,w152,hb153,rfl⟩
  have n157:=KG.next k156
  have l158:=HB.le hb139 k156
  refine wo_nil ?_
  try refine q_eq (e':=.normal) rfl ?_
  refine tqk ⟨[(0,vP n1 0),(1,as1),(2,.func (.func 67) #[] #[]),(6,vI x130)],31,[],H155⟩ rfl ?_
  refine w_region (mv (vI x130) rfl rfl ?_)
  refine sv_int rfl rfl rfl (opv_bin rfl rfl rfl rfl rfl rfl) ?_
  intro x161 h162
  try replace h162:x161=x130 + 1:=wr_ex h162 (by omega) (by omega)
  refine mv (vI x161) rfl rfl ?_
  refine wo_nil ?_
  refine tq_n ⟨((slen as1:Int) - x161).toNat,by omega,⟨[(0,vP n1 0),(1,as1),(2,.func (.func 67) #[] #[]),(6,vI x161)],31,[],H155⟩,subk rfl,x161,H155,by omega,by omega,HB.mono hb153 (by omega),KG.trans (KG.trans KG.refl k136) k156,w152,l135.trans l158,rfl,rfl⟩
 ·
  refine sv (v:=.bool false) rfl rfl rfl (opv_bin rfl rfl rfl rfl rfl (cmpF rfl c142)) rfl ?_
  refine wo_nil (tq_n (wk ⟨[(0,vP n1 0),(1,as1),(2,.func (.func 67) #[] #[]),(6,vI x130),(21,.bool false)],31,[],H131⟩ rfl ?_))
  refine w_cond (t:=false) rfl rfl (fun h => by cases h) (fun _ => ?_)
  refine w_exit (tq_e (tq_e ?_))
  try refine q_eq (e':=.normal) rfl ?_
  exact ⟨.inl rfl,rfl,[],.nil,KG.trans (KG.trans KG.refl k129) k136,w134,HB.mono hb139 (by omega),rfl⟩

theorem top_putGsTools_ok (as1:Value) (n1 k:Nat) (H:SH) (wt:WT H) (hvas1:VT H (.sl false [.str,.int .i64]) as1) (hb:HB H n1 k) (hk:k + (2 * LIM + 1) ≤ CAP):WC Try.prog 51 [vP n1 0,as1] H (fun v H' => KG n1 H H'∧WT H'∧HB H' n1 (k + (2 * LIM + 1))∧v=(.tuple #[])):=by
 have hlt:=hb.lt
 refine wc_of_body Try.func51 rfl ?_
 refine wk ⟨[(0,vP n1 0),(1,as1)],7,[],H⟩ rfl ?_
 refine w_region (mv (vP n1 0) rfl rfl ?_)
 refine mv as1 rfl rfl ?_
 refine sc_ (H:=H) (vs:=[vP n1 0,as1,.func (.func 67) #[] #[]]) (fv:=.func (.func 66) #[] #[]) rfl rfl rfl rfl rfl rfl (.cons rfl rfl neP (.cons rfl rfl (vt_ne hvas1) (.cons rfl rfl (by simp [undef]) .nil))) rfl ?_
 refine WV.mono (wv_f0 Try.call66 (top_GsTool_67_ok as1 n1 _ _ wt hvas1 hb (by omega))) ?_
 rintro v103 H104 ⟨k105,w101,hb102,rfl⟩
 have n106:=KG.next k105
 have l107:=HB.le hb k105
 refine wo_nil ?_
 exact ⟨.inl rfl,rfl,[],.nil,KG.trans KG.refl k105,w101,HB.mono hb102 (by omega),rfl⟩

theorem top_putGsSpace_ok (ax1 ax2:Int) (ax3 ax4:Int) (ax5 ax6 ax7:Int) (as8 as9:Value) (n1 k:Nat) (H:SH) (wt:WT H) (hvas8:VT H (.sl false [.int .i64,.int .i64]) as8) (hvas9:VT H (.sl false [.str,.int .i64]) as9) (hb:HB H n1 k) (hk:k + (4 * LIM + 9) ≤ CAP):WC Try.prog 28 [vP n1 0,.agg #[vI ax1,vI ax2,vI ax3,vI ax4,vI ax5,vI ax6,vI ax7,as8,as9]] H (fun v H' => KG n1 H H'∧WT H'∧HB H' n1 (k + (4 * LIM + 9))∧v=(.tuple #[])):=by
 have hlt:=hb.lt
 refine wc_of_body Try.func28 rfl ?_
 refine wk ⟨[(0,vP n1 0),(1,.agg #[vI ax1,vI ax2,vI ax3,vI ax4,vI ax5,vI ax6,vI ax7,as8,as9])],28,[],H⟩ rfl ?_
 refine w_seq (w_region (sv_new (H:=H) (v:=vP H.next 0) (x:=.row #[vI ax1,vI ax2,vI ax3,vI ax4,vI ax5,vI ax6,vI ax7,as8,as9] .raw) rfl rfl rfl rfl (opv_boxE (v:=.agg #[vI ax1,vI ax2,vI ax3,vI ax4,vI ax5,vI ax6,vI ax7,as8,as9]) rfl rfl rfl (by simp [undef]) rfl) ?_))
 intro H101 f102
 refine newL wt f102 fun n105 w103 l104 => ?_
 refine wo_nil (tq_n (wk ⟨[(0,vP n1 0),(3,vP H.next 0)],28,[],H101⟩ rfl ?_))
 refine w_seq (w_region (mv (vP n1 0) rfl rfl ?_))
 refine sv (v:=vP H.next 0) rfl rfl rfl (opv_fieldAddrE rfl rfl rfl Try.underlying27 rfl sz23 (by decide) rfl) rfl ?_
 refine sv (v:=.agg #[vI ax1,vI ax2]) rfl rfl rfl (opv_loadE rfl rfl rfl ag23 sz23 f102.blk rfl (.inl rfl) rfl) rfl ?_
 refine sc_ (H:=H101) (vs:=[vP n1 0,.agg #[vI ax1,vI ax2]]) (fv:=.func (.func 13) #[] #[]) rfl rfl rfl rfl rfl rfl (.cons rfl rfl neP (.cons rfl rfl (by simp [undef]) .nil)) rfl ?_
 refine WV.mono (wv_f0 Try.call13 (top_putSpan_ok ax1 ax2 n1 _ _ w103 (HB.new hb f102) (by omega))) ?_
 rintro v108 H109 ⟨k110,w106,hb107,rfl⟩
 have n111:=KG.next k110
 have l112:=HB.le (HB.new hb f102) k110
 refine wo_nil (tq_n (wk ⟨[(0,vP n1 0),(3,vP H.next 0)],28,[],H109⟩ rfl ?_))
 refine w_seq (w_region (mv (vP n1 0) rfl rfl ?_))
 refine sv (v:=vP H.next 2) rfl rfl rfl (opv_fieldAddrE rfl rfl rfl Try.underlying27 rfl sz23 (by decide) rfl) rfl ?_
 refine sv (v:=.agg #[vI ax3,vI ax4]) rfl rfl rfl (opv_loadE rfl rfl rfl ag23 sz23 (KG.get k110 f102.blk (by omega) (by omega)) rfl (.inl rfl) rfl) rfl ?_
 refine sc_ (H:=H109) (vs:=[vP n1 0,.agg #[vI ax3,vI ax4]]) (fv:=.func (.func 13) #[] #[]) rfl rfl rfl rfl rfl rfl (.cons rfl rfl neP (.cons rfl rfl (by simp [undef]) .nil)) rfl ?_
 refine WV.mono (wv_f0 Try.call13 (top_putSpan_ok ax3 ax4 n1 _ _ w106 hb107 (by omega))) ?_
 rintro v117 H118 ⟨k119,w115,hb116,rfl⟩
 have n120:=KG.next k119
 have l121:=HB.le hb107 k119
 refine wo_nil (tq_n (wk ⟨[(0,vP n1 0),(3,vP H.next 0)],28,[],H118⟩ rfl ?_))
 refine w_seq (w_region (mv (vP n1 0) rfl rfl ?_))
 refine sv (v:=vP H.next 4) rfl rfl rfl (opv_fieldAddrE rfl rfl rfl Try.underlying27 rfl sz23 (by decide) rfl) rfl ?_
 refine sv (v:=.agg #[vI ax5,vI ax6]) rfl rfl rfl (opv_loadE rfl rfl rfl ag23 sz23 (KG.get k119 (KG.get k110 f102.blk (by omega) (by omega)) (by omega) (by omega)) rfl (.inl rfl) rfl) rfl ?_
 refine sc_ (H:=H118) (vs:=[vP n1 0,.agg #[vI ax5,vI ax6]]) (fv:=.func (.func 13) #[] #[]) rfl rfl rfl rfl rfl rfl (.cons rfl rfl neP (.cons rfl rfl (by simp [undef]) .nil)) rfl ?_
 refine WV.mono (wv_f0 Try.call13 (top_putSpan_ok ax5 ax6 n1 _ _ w115 hb116 (by omega))) ?_
 rintro v126 H127 ⟨k128,w124,hb125,rfl⟩
 have n129:=KG.next k128
 have l130:=HB.le hb116 k128
 refine wo_nil (tq_n (wk ⟨[(0,vP n1 0),(3,vP H.next 0)],28,[],H127⟩ rfl ?_))
 refine w_seq (w_region (mv (vP n1 0) rfl rfl ?_))
 refine sv (v:=vP H.next 6) rfl rfl rfl (opv_fieldAddrE rfl rfl rfl Try.underlying27 rfl sz3 (by decide) rfl) rfl ?_
 refine sv (v:=vI ax7) rfl rfl rfl (opv_loadE rfl rfl rfl ag3 sz3 (KG.get k128 (KG.get k119 (KG.get k110 f102.blk (by omega) (by omega)) (by omega) (by omega)) (by omega) (by omega)) rfl (.inr rfl) rfl) rfl ?_
 refine sc_ (H:=H127) (vs:=[vP n1 0,vI ax7]) (fv:=.func (.func 8) #[] #[]) rfl rfl rfl rfl rfl rfl (.cons rfl rfl neP (.cons rfl rfl neI .nil)) rfl ?_
 refine WV.mono (wv_f0 Try.call8 (top_putInt_ok ax7 n1 _ _ w124 hb125 (by omega))) ?_
 rintro v135 H136 ⟨k137,w133,hb134,rfl⟩
 have n138:=KG.next k137
 have l139:=HB.le hb125 k137
 refine wo_nil (tq_n (wk ⟨[(0,vP n1 0),(3,vP H.next 0)],28,[],H136⟩ rfl ?_))
 refine w_seq (w_region (mv (vP n1 0) rfl rfl ?_))
 refine sv (v:=vP H.next 7) rfl rfl rfl (opv_fieldAddrE rfl rfl rfl Try.underlying27 rfl sz24 (by decide) rfl) rfl ?_
 refine sv (v:=as8) rfl rfl rfl (opv_loadE rfl rfl rfl ag24 sz24 (KG.get k137 (KG.get k128 (KG.get k119 (KG.get k110 f102.blk (by omega) (by omega)) (by omega) (by omega)) (by omega) (by omega)) (by omega) (by omega)) rfl (.inr rfl) rfl) rfl ?_
 refine sc_ (H:=H136) (vs:=[vP n1 0,as8]) (fv:=.func (.func 50) #[] #[]) rfl rfl rfl rfl rfl rfl (.cons rfl rfl neP (.cons rfl rfl (vt_ne (hvas8.mono ((((l104.trans l112).trans l121).trans l130).trans l139))) .nil)) rfl ?_
 refine WV.mono (wv_f0 Try.call50 (top_putSpans_ok as8 n1 _ _ w133 (hvas8.mono ((((l104.trans l112).trans l121).trans l130).trans l139)) hb134 (by omega))) ?_
 rintro v144 H145 ⟨k146,w142,hb143,rfl⟩
 have n147:=KG.next k146
 have l148:=HB.le hb134 k146
 refine wo_nil (tq_n (wk ⟨[(0,vP n1 0),(3,vP H.next 0)],28,[],H145⟩ rfl ?_))
 refine w_region (mv (vP n1 0) rfl rfl ?_)
 refine sv (v:=vP H.next 8) rfl rfl rfl (opv_fieldAddrE rfl rfl rfl Try.underlying27 rfl sz25 (by decide) rfl) rfl ?_
 refine sv (v:=as9) rfl rfl rfl (opv_loadE rfl rfl rfl ag25 sz25 (KG.get k146 (KG.get k137 (KG.get k128 (KG.get k119 (KG.get k110 f102.blk (by omega) (by omega)) (by omega) (by omega)) (by omega) (by omega)) (by omega) (by omega)) (by omega) (by omega)) rfl (.inr rfl) rfl) rfl ?_
 refine sc_ (H:=H145) (vs:=[vP n1 0,as9]) (fv:=.func (.func 51) #[] #[]) rfl rfl rfl rfl rfl rfl (.cons rfl rfl neP (.cons rfl rfl (vt_ne (hvas9.mono (((((l104.trans l112).trans l121).trans l130).trans l139).trans l148))) .nil)) rfl ?_
 refine WV.mono (wv_f0 Try.call51 (top_putGsTools_ok as9 n1 _ _ w142 (hvas9.mono (((((l104.trans l112).trans l121).trans l130).trans l139).trans l148)) hb143 (by omega))) ?_
 rintro v153 H154 ⟨k155,w151,hb152,rfl⟩
 have n156:=KG.next k155
 have l157:=HB.le hb143 k155
 refine wo_nil ?_
 exact ⟨.inl rfl,rfl,[],.nil,KG.trans (KG.trans (KG.trans (KG.trans (KG.trans (KG.trans (KG.new KG.refl f102) k110) k119) k128) k137) k146) k155,w151,HB.mono hb152 (by omega),rfl⟩

theorem top_putGsReading_ok (ax1 ax2 ax3:Int) (n1 k:Nat) (H:SH) (wt:WT H) (hb:HB H n1 k) (hk:k + (0 * LIM + 3) ≤ CAP):WC Try.prog 53 [vP n1 0,.agg #[vI ax1,vI ax2,vI ax3]] H (fun v H' => KG n1 H H'∧WT H'∧HB H' n1 (k + (0 * LIM + 3))∧v=(.tuple #[])):=by
 have hlt:=hb.lt
 refine wc_of_body Try.func53 rfl ?_
 refine wk ⟨[(0,vP n1 0),(1,.agg #[vI ax1,vI ax2,vI ax3])],16,[],H⟩ rfl ?_
 refine w_seq (w_region (sv_new (H:=H) (v:=vP H.next 0) (x:=.row #[vI ax1,vI ax2,vI ax3] .raw) rfl rfl rfl rfl (opv_boxE (v:=.agg #[vI ax1,vI ax2,vI ax3]) rfl rfl rfl (by simp [undef]) rfl) ?_))
 intro H101 f102
 refine newL wt f102 fun n105 w103 l104 => ?_
 refine wo_nil (tq_n (wk ⟨[(0,vP n1 0),(3,vP H.next 0)],16,[],H101⟩ rfl ?_))
 refine w_seq (w_region (mv (vP n1 0) rfl rfl ?_))
 refine sv (v:=vP H.next 0) rfl rfl rfl (opv_fieldAddrE rfl rfl rfl Try.underlying88 rfl sz3 (by decide) rfl) rfl ?_
 refine sv (v:=vI ax1) rfl rfl rfl (opv_loadE rfl rfl rfl ag3 sz3 f102.blk rfl (.inr rfl) rfl) rfl ?_
 refine sc_ (H:=H101) (vs:=[vP n1 0,vI ax1]) (fv:=.func (.func 8) #[] #[]) rfl rfl rfl rfl rfl rfl (.cons rfl rfl neP (.cons rfl rfl neI .nil)) rfl ?_
 refine WV.mono (wv_f0 Try.call8 (top_putInt_ok ax1 n1 _ _ w103 (HB.new hb f102) (by omega))) ?_
 rintro v108 H109 ⟨k110,w106,hb107,rfl⟩
 have n111:=KG.next k110
 have l112:=HB.le (HB.new hb f102) k110
 refine wo_nil (tq_n (wk ⟨[(0,vP n1 0),(3,vP H.next 0)],16,[],H109⟩ rfl ?_))
 refine w_seq (w_region (mv (vP n1 0) rfl rfl ?_))
 refine sv (v:=vP H.next 1) rfl rfl rfl (opv_fieldAddrE rfl rfl rfl Try.underlying88 rfl sz3 (by decide) rfl) rfl ?_
 refine sv (v:=vI ax2) rfl rfl rfl (opv_loadE rfl rfl rfl ag3 sz3 (KG.get k110 f102.blk (by omega) (by omega)) rfl (.inr rfl) rfl) rfl ?_
 refine sc_ (H:=H109) (vs:=[vP n1 0,vI ax2]) (fv:=.func (.func 8) #[] #[]) rfl rfl rfl rfl rfl rfl (.cons rfl rfl neP (.cons rfl rfl neI .nil)) rfl ?_
 refine WV.mono (wv_f0 Try.call8 (top_putInt_ok ax2 n1 _ _ w106 hb107 (by omega))) ?_
 rintro v117 H118 ⟨k119,w115,hb116,rfl⟩
 have n120:=KG.next k119
 have l121:=HB.le hb107 k119
 refine wo_nil (tq_n (wk ⟨[(0,vP n1 0),(3,vP H.next 0)],16,[],H118⟩ rfl ?_))
 refine w_region (mv (vP n1 0) rfl rfl ?_)
 refine sv (v:=vP H.next 2) rfl rfl rfl (opv_fieldAddrE rfl rfl rfl Try.underlying88 rfl sz3 (by decide) rfl) rfl ?_
 refine sv (v:=vI ax3) rfl rfl rfl (opv_loadE rfl rfl rfl ag3 sz3 (KG.get k119 (KG.get k110 f102.blk (by omega) (by omega)) (by omega) (by omega)) rfl (.inr rfl) rfl) rfl ?_
 refine sc_ (H:=H118) (vs:=[vP n1 0,vI ax3]) (fv:=.func (.func 8) #[] #[]) rfl rfl rfl rfl rfl rfl (.cons rfl rfl neP (.cons rfl rfl neI .nil)) rfl ?_
 refine WV.mono (wv_f0 Try.call8 (top_putInt_ok ax3 n1 _ _ w115 hb116 (by omega))) ?_
 rintro v126 H127 ⟨k128,w124,hb125,rfl⟩
 have n129:=KG.next k128
 have l130:=HB.le hb116 k128
 refine wo_nil ?_
 exact ⟨.inl rfl,rfl,[],.nil,KG.trans (KG.trans (KG.trans (KG.new KG.refl f102) k110) k119) k128,w124,HB.mono hb125 (by omega),rfl⟩

theorem top_GsReading_53_ok (as1:Value) (n1 k:Nat) (H:SH) (wt:WT H) (hvas1:VT H (.sl false [.int .i64,.int .i64,.int .i64]) as1) (hb:HB H n1 k) (hk:k + (3 * LIM + 1) ≤ CAP):WC Try.prog 52 [vP n1 0,as1,.func (.func 53) #[] #[]] H (fun v H' => KG n1 H H'∧WT H'∧HB H' n1 (k + (3 * LIM + 1))∧v=(.tuple #[])):=by
 have hlt:=hb.lt
 refine wc_of_body Try.func52 rfl ?_
 have hL:slen as1 ≤ LIM:=vt_lim hvas1
 refine wk ⟨[(0,vP n1 0),(1,as1),(2,.func (.func 53) #[] #[])],31,[],H⟩ rfl ?_
 refine w_seq (w_region (mv (vP n1 0) rfl rfl ?_))
 refine mv (vP n1 0) rfl rfl ?_
 refine sv (v:=vP n1 0) rfl rfl rfl (opv_nilCheck_ptr rfl rfl rfl) rfl ?_
 refine sv (v:=vP n1 0) rfl rfl rfl (opv_fieldAddrE rfl rfl rfl Try.underlying34 rfl sz31 (by decide) rfl) rfl ?_
 have hb101:=hb
 obtain ⟨s102,s103,c104,c105,hb106,l107,l108⟩:=id hb101
 refine sv (v:=s102) rfl rfl rfl (opv_loadE rfl rfl rfl ag31 sz31 hb106.blk rfl (.inr rfl) rfl) rfl ?_
 refine mv as1 rfl rfl ?_
 have c109:slen as1 ≤ 1073741824:=vt_lim hvas1
 refine sv (v:=(vI (slen as1:Int))) rfl rfl rfl (t_len hvas1 rfl rfl rfl Try.underlying28) rfl ?_
 refine sv_new (H:=H) (v:=.slice (some ⟨H.next,0,none⟩) 1 1) (x:=(.row #[(vI (slen as1:Int))] .raw)) rfl rfl rfl rfl (opv_buildSliceE (vs:=[(0,(vI (slen as1:Int)))]) rfl (.cons rfl rfl neI .nil) Try.underlying31 sz3 ze3 rfl (by decide) (by decide) rfl rfl rfl) ?_
 intro H110 f111
 refine newL wt f111 fun n114 w112 l113 => ?_
 refine sv_push (H:=H110) (b:=false) (v:=s102) (c:=c104) (n:=H.next) (e:=(vI (slen as1:Int))) (by_:=8) rfl rfl rfl rfl w112 (GV.new hb106.g1 f111) rfl rfl rfl rfl rfl f111.blk ⟨_,rfl⟩ Try.underlying31 Try.underlying31 rfl sz3 tin3 rfl ze3 rfl l107 (by omega) (by decide) (by decide) ?_
 intro s115 H116 g117 w118 l119 k120 n121 ap122
 refine sv (v:=vP n1 0) rfl rfl rfl (opv_nilCheck_ptr rfl rfl rfl) rfl ?_
 refine sv (v:=vP n1 0) rfl rfl rfl (opv_fieldAddrE rfl rfl rfl Try.underlying34 rfl sz31 (by decide) rfl) rfl ?_
 refine sv_put (H:=H116) (n:=n1) (v:=undef) (x:=some (.row #[s115,s103] .raw)) rfl rfl rfl rfl (opv_storeC (u:=s115) rfl rfl rfl rfl rfl (GV.ne g117) sz31 (GV.cells g117) rfl (GV.leafs g117) (push_get k120 (GV.new hb106.g1 f111) ((f111.get n1 (by omega)).trans hb106.blk) (by omega)) rfl rfl) ?_
 intro H123 f124
 refine putL w118 f124 (push_get k120 (GV.new hb106.g1 f111) ((f111.get n1 (by omega)).trans hb106.blk) (by omega)) fun n127 w125 l126 => ?_
 obtain ⟨hb128,k129⟩:=hb_done1 hb106 l107 l108 f111 g117 k120 ap122 f124
 refine wo_nil (tq_n (wk ⟨[(0,vP n1 0),(1,as1),(2,.func (.func 53) #[] #[])],31,[],H123⟩ rfl ?_))
 refine w_seq (w_region (mv (vI 0) rfl rfl ?_))
 refine wo_nil (tq_n (wk ⟨[(0,vP n1 0),(1,as1),(2,.func (.func 53) #[] #[]),(6,vI 0)],31,[],H123⟩ rfl ?_))
 refine w_block (w_loopS (fun m137 s138 => ∃ (x130:Int) (H131:SH),(0 ≤ x130)∧(x130 ≤ (slen as1:Int))∧HB H131 n1 (k + (0 * LIM + 1) + (x130).toNat * 3)∧KG n1 H123 H131∧WT H131∧Le H123 H131∧m137=((slen as1:Int) - x130).toNat∧s138=⟨[(0,vP n1 0),(1,as1),(2,.func (.func 53) #[] #[]),(6,vI x130)],31,[],H131⟩) (n:=((slen as1:Int) - 0).toNat) ⟨⟨[(0,vP n1 0),(1,as1),(2,.func (.func 53) #[] #[]),(6,vI 0)],31,[],H123⟩,subk rfl,0,H123,by omega,by omega,HB.mono hb128 (by omega),KG.refl,w125,Le.refl _,rfl,rfl⟩ ?_)
 rintro m137 s138 ⟨x130,H131,i132,i133,hb139,k136,w134,l135,rfl,rfl⟩
 have n140:=KG.next k136
 refine w_seq (w_seq (w_region (mv (vI x130) rfl rfl ?_)))
 refine mv as1 rfl rfl ?_
 have c141:slen as1 ≤ 1073741824:=vt_lim (hvas1.mono ((HB.le hb101 k129).trans l135))
 refine sv (v:=(vI (slen as1:Int))) rfl rfl rfl (t_len (hvas1.mono ((HB.le hb101 k129).trans l135)) rfl rfl rfl Try.underlying28) rfl ?_
 by_cases c142:x130 < (slen as1:Int)
 ·
  refine sv (v:=.bool true) rfl rfl rfl (opv_bin rfl rfl rfl rfl rfl (cmpT rfl c142)) rfl ?_
  refine wo_nil (tq_n (wk ⟨[(0,vP n1 0),(1,as1),(2,.func (.func 53) #[] #[]),(6,vI x130),(21,.bool true)],31,[],H131⟩ rfl ?_))
  refine w_cond (t:=true) rfl rfl (fun _ => ?_) (fun h => by cases h)
  refine w_skip (tq_n (wk ⟨[(0,vP n1 0),(1,as1),(2,.func (.func 53) #[] #[]),(6,vI x130)],31,[],H131⟩ rfl ?_))
  refine w_seq (w_block (w_region (mv (.func (.func 53) #[] #[]) rfl rfl ?_)))
  refine mv (vP n1 0) rfl rfl ?_
  refine mv as1 rfl rfl ?_
  refine mv (vI x130) rfl rfl ?_
  refine sv (v:=.pointer (some ⟨snm as1,sof as1 + (x130).toNat * 3,none⟩)) rfl rfl rfl (t_index (z:=3) (hvas1.mono ((HB.le hb101 k129).trans l135)) rfl rfl rfl rfl rfl Try.underlying28 sz88 (by omega) (by omega)) rfl ?_
  obtain ⟨vs143,hs144,ho145⟩:=t_load (P:=Try.prog) w134 (hvas1.mono ((HB.le hb101 k129).trans l135)) (i:=(x130).toNat) (off:=0) (w:=3) (by omega) (by decide)
  replace hs144:VTs H131 [.int .i64,.int .i64,.int .i64] vs143:=hs144
  obtain ⟨x148,r146,rfl,hs147⟩:=vts_int hs144
  obtain ⟨x151,r149,rfl,hs150⟩:=vts_int hs147
  obtain ⟨x154,r152,rfl,hs153⟩:=vts_int hs150
  obtain rfl:=vts_nil hs153
  refine sv (v:=.agg #[vI x148,vI x151,vI x154]) rfl rfl rfl (ho145 _ _ _ _ true rfl rfl rfl rfl ag88 sz88 (.inl rfl)) rfl ?_
  refine sc_ (H:=H131) (vs:=[vP n1 0,.agg #[vI x148,vI x151,vI x154]]) (fv:=.func (.func 53) #[] #[]) rfl rfl rfl rfl rfl rfl (.cons rfl rfl neP (.cons rfl rfl (by simp [undef]) .nil)) rfl ?_
  refine WV.mono (wv_f0 Try.call53 (top_putGsReading_ok x148 x151 x154 n1 _ _ w134 hb139 (by omega))) ?_
  rintro v157 H158 ⟨k159,w155,hb156,rfl⟩
  have n160:=KG.next k159
  have l161:=HB.le hb139 k159
  refine wo_nil ?_
  try refine q_eq (e':=.normal) rfl ?_
  refine tqk ⟨[(0,vP n1 0),(1,as1),(2,.func (.func 53) #[] #[]),(6,vI x130)],31,[],H158⟩ rfl ?_
  refine w_region (mv (vI x130) rfl rfl ?_)
  refine sv_int rfl rfl rfl (opv_bin rfl rfl rfl rfl rfl rfl) ?_
  intro x164 h165
  try replace h165:x164=x130 + 1:=wr_ex h165 (by omega) (by omega)
  refine mv (vI x164) rfl rfl ?_
  refine wo_nil ?_
  refine tq_n ⟨((slen as1:Int) - x164).toNat,by omega,⟨[(0,vP n1 0),(1,as1),(2,.func (.func 53) #[] #[]),(6,vI x164)],31,[],H158⟩,subk rfl,x164,H158,by omega,by omega,HB.mono hb156 (by omega),KG.trans (KG.trans KG.refl k136) k159,w155,l135.trans l161,rfl,rfl⟩
 ·
  refine sv (v:=.bool false) rfl rfl rfl (opv_bin rfl rfl rfl rfl rfl (cmpF rfl c142)) rfl ?_
  refine wo_nil (tq_n (wk ⟨[(0,vP n1 0),(1,as1),(2,.func (.func 53) #[] #[]),(6,vI x130),(21,.bool false)],31,[],H131⟩ rfl ?_))
  refine w_cond (t:=false) rfl rfl (fun h => by cases h) (fun _ => ?_)
  refine w_exit (tq_e (tq_e ?_))
  try refine q_eq (e':=.normal) rfl ?_
  exact ⟨.inl rfl,rfl,[],.nil,KG.trans (KG.trans KG.refl k129) k136,w134,HB.mono hb139 (by omega),rfl⟩

theorem top_putGsReadings_ok (as1:Value) (n1 k:Nat) (H:SH) (wt:WT H) (hvas1:VT H (.sl false [.int .i64,.int .i64,.int .i64]) as1) (hb:HB H n1 k) (hk:k + (3 * LIM + 1) ≤ CAP):WC Try.prog 29 [vP n1 0,as1] H (fun v H' => KG n1 H H'∧WT H'∧HB H' n1 (k + (3 * LIM + 1))∧v=(.tuple #[])):=by
 have hlt:=hb.lt
 refine wc_of_body Try.func29 rfl ?_
 refine wk ⟨[(0,vP n1 0),(1,as1)],7,[],H⟩ rfl ?_
 refine w_region (mv (vP n1 0) rfl rfl ?_)
 refine mv as1 rfl rfl ?_
 refine sc_ (H:=H) (vs:=[vP n1 0,as1,.func (.func 53) #[] #[]]) (fv:=.func (.func 52) #[] #[]) rfl rfl rfl rfl rfl rfl (.cons rfl rfl neP (.cons rfl rfl (vt_ne hvas1) (.cons rfl rfl (by simp [undef]) .nil))) rfl ?_
 refine WV.mono (wv_f0 Try.call52 (top_GsReading_53_ok as1 n1 _ _ wt hvas1 hb (by omega))) ?_
 rintro v103 H104 ⟨k105,w101,hb102,rfl⟩
 have n106:=KG.next k105
 have l107:=HB.le hb k105
 refine wo_nil ?_
 exact ⟨.inl rfl,rfl,[],.nil,KG.trans KG.refl k105,w101,HB.mono hb102 (by omega),rfl⟩

theorem top_putErrno_ok (ax1:Int) (n1 k:Nat) (H:SH) (wt:WT H) (hb:HB H n1 k) (hk:k + (0 * LIM + 1) ≤ CAP):WC Try.prog 9 [vP n1 0,vI ax1] H (fun v H' => KG n1 H H'∧WT H'∧HB H' n1 (k + (0 * LIM + 1))∧v=(.tuple #[])):=by
 have hlt:=hb.lt
 refine wc_of_body Try.func9 rfl ?_
 refine wk ⟨[(0,vP n1 0),(1,vI ax1)],14,[],H⟩ rfl ?_
 refine w_region (mv (vP n1 0) rfl rfl ?_)
 refine mv (vP n1 0) rfl rfl ?_
 refine sv (v:=vP n1 0) rfl rfl rfl (opv_nilCheck_ptr rfl rfl rfl) rfl ?_
 refine sv (v:=vP n1 0) rfl rfl rfl (opv_fieldAddrE rfl rfl rfl Try.underlying34 rfl sz31 (by decide) rfl) rfl ?_
 have hb101:=hb
 obtain ⟨s102,s103,c104,c105,hb106,l107,l108⟩:=id hb101
 refine sv (v:=s102) rfl rfl rfl (opv_loadE rfl rfl rfl ag31 sz31 hb106.blk rfl (.inr rfl) rfl) rfl ?_
 refine mv (vI ax1) rfl rfl ?_
 refine sv_new (H:=H) (v:=.slice (some ⟨H.next,0,none⟩) 1 1) (x:=.row #[vI ax1] .raw) rfl rfl rfl rfl (opv_buildSliceE (vs:=[(0,vI ax1)]) rfl (.cons rfl rfl neI .nil) Try.underlying31 sz3 ze3 rfl (by decide) (by decide) rfl rfl rfl) ?_
 intro H109 f110
 refine newL wt f110 fun n113 w111 l112 => ?_
 refine sv_push (H:=H109) (b:=false) (v:=s102) (c:=c104) (n:=H.next) (e:=vI ax1) (by_:=8) rfl rfl rfl rfl w111 (GV.new hb106.g1 f110) rfl rfl rfl rfl rfl f110.blk ⟨_,rfl⟩ Try.underlying31 Try.underlying31 rfl sz3 tin3 rfl ze3 rfl l107 (by omega) (by decide) (by decide) ?_
 intro s114 H115 g116 w117 l118 k119 n120 ap121
 refine sv (v:=vP n1 0) rfl rfl rfl (opv_nilCheck_ptr rfl rfl rfl) rfl ?_
 refine sv (v:=vP n1 0) rfl rfl rfl (opv_fieldAddrE rfl rfl rfl Try.underlying34 rfl sz31 (by decide) rfl) rfl ?_
 refine sv_put (H:=H115) (n:=n1) (v:=undef) (x:=some (.row #[s114,s103] .raw)) rfl rfl rfl rfl (opv_storeC (u:=s114) rfl rfl rfl rfl rfl (GV.ne g116) sz31 (GV.cells g116) rfl (GV.leafs g116) (push_get k119 (GV.new hb106.g1 f110) ((f110.get n1 (by omega)).trans hb106.blk) (by omega)) rfl rfl) ?_
 intro H122 f123
 refine putL w117 f123 (push_get k119 (GV.new hb106.g1 f110) ((f110.get n1 (by omega)).trans hb106.blk) (by omega)) fun n126 w124 l125 => ?_
 obtain ⟨hb127,k128⟩:=hb_done1 hb106 l107 l108 f110 g116 k119 ap121 f123
 refine wo_nil ?_
 exact ⟨.inl rfl,rfl,[],.nil,KG.trans KG.refl k128,w124,HB.mono hb127 (by omega),rfl⟩

theorem top_puts_int_8_ok (as1:Value) (n1 k:Nat) (H:SH) (wt:WT H) (hvas1:VT H (.sl false [.int .i64]) as1) (hb:HB H n1 k) (hk:k + (1 * LIM + 1) ≤ CAP):WC Try.prog 40 [vP n1 0,as1,.func (.func 8) #[] #[]] H (fun v H' => KG n1 H H'∧WT H'∧HB H' n1 (k + (1 * LIM + 1))∧v=(.tuple #[])):=by
 have hlt:=hb.lt
 refine wc_of_body Try.func40 rfl ?_
 have hL:slen as1 ≤ LIM:=vt_lim hvas1
 refine wk ⟨[(0,vP n1 0),(1,as1),(2,.func (.func 8) #[] #[])],31,[],H⟩ rfl ?_
 refine w_seq (w_region (mv (vP n1 0) rfl rfl ?_))
 refine mv (vP n1 0) rfl rfl ?_
 refine sv (v:=vP n1 0) rfl rfl rfl (opv_nilCheck_ptr rfl rfl rfl) rfl ?_
 refine sv (v:=vP n1 0) rfl rfl rfl (opv_fieldAddrE rfl rfl rfl Try.underlying34 rfl sz31 (by decide) rfl) rfl ?_
 have hb101:=hb
 obtain ⟨s102,s103,c104,c105,hb106,l107,l108⟩:=id hb101
 refine sv (v:=s102) rfl rfl rfl (opv_loadE rfl rfl rfl ag31 sz31 hb106.blk rfl (.inr rfl) rfl) rfl ?_
 refine mv as1 rfl rfl ?_
 have c109:slen as1 ≤ 1073741824:=vt_lim hvas1
 refine sv (v:=(vI (slen as1:Int))) rfl rfl rfl (t_len hvas1 rfl rfl rfl Try.underlying31) rfl ?_
 refine sv_new (H:=H) (v:=.slice (some ⟨H.next,0,none⟩) 1 1) (x:=(.row #[(vI (slen as1:Int))] .raw)) rfl rfl rfl rfl (opv_buildSliceE (vs:=[(0,(vI (slen as1:Int)))]) rfl (.cons rfl rfl neI .nil) Try.underlying31 sz3 ze3 rfl (by decide) (by decide) rfl rfl rfl) ?_
 intro H110 f111
 refine newL wt f111 fun n114 w112 l113 => ?_
 refine sv_push (H:=H110) (b:=false) (v:=s102) (c:=c104) (n:=H.next) (e:=(vI (slen as1:Int))) (by_:=8) rfl rfl rfl rfl w112 (GV.new hb106.g1 f111) rfl rfl rfl rfl rfl f111.blk ⟨_,rfl⟩ Try.underlying31 Try.underlying31 rfl sz3 tin3 rfl ze3 rfl l107 (by omega) (by decide) (by decide) ?_
 intro s115 H116 g117 w118 l119 k120 n121 ap122
 refine sv (v:=vP n1 0) rfl rfl rfl (opv_nilCheck_ptr rfl rfl rfl) rfl ?_
 refine sv (v:=vP n1 0) rfl rfl rfl (opv_fieldAddrE rfl rfl rfl Try.underlying34 rfl sz31 (by decide) rfl) rfl ?_
 refine sv_put (H:=H116) (n:=n1) (v:=undef) (x:=some (.row #[s115,s103] .raw)) rfl rfl rfl rfl (opv_storeC (u:=s115) rfl rfl rfl rfl rfl (GV.ne g117) sz31 (GV.cells g117) rfl (GV.leafs g117) (push_get k120 (GV.new hb106.g1 f111) ((f111.get n1 (by omega)).trans hb106.blk) (by omega)) rfl rfl) ?_
 intro H123 f124
 refine putL w118 f124 (push_get k120 (GV.new hb106.g1 f111) ((f111.get n1 (by omega)).trans hb106.blk) (by omega)) fun n127 w125 l126 => ?_
 obtain ⟨hb128,k129⟩:=hb_done1 hb106 l107 l108 f111 g117 k120 ap122 f124
 refine wo_nil (tq_n (wk ⟨[(0,vP n1 0),(1,as1),(2,.func (.func 8) #[] #[])],31,[],H123⟩ rfl ?_))
 refine w_seq (w_region (mv (vI 0) rfl rfl ?_))
 refine wo_nil (tq_n (wk ⟨[(0,vP n1 0),(1,as1),(2,.func (.func 8) #[] #[]),(6,vI 0)],31,[],H123⟩ rfl ?_))
 refine w_block (w_loopS (fun m137 s138 => ∃ (x130:Int) (H131:SH),(0 ≤ x130)∧(x130 ≤ (slen as1:Int))∧HB H131 n1 (k + (0 * LIM + 1) + (x130).toNat * 1)∧KG n1 H123 H131∧WT H131∧Le H123 H131∧m137=((slen as1:Int) - x130).toNat∧s138=⟨[(0,vP n1 0),(1,as1),(2,.func (.func 8) #[] #[]),(6,vI x130)],31,[],H131⟩) (n:=((slen as1:Int) - 0).toNat) ⟨⟨[(0,vP n1 0),(1,as1),(2,.func (.func 8) #[] #[]),(6,vI 0)],31,[],H123⟩,subk rfl,0,H123,by omega,by omega,HB.mono hb128 (by omega),KG.refl,w125,Le.refl _,rfl,rfl⟩ ?_)
 rintro m137 s138 ⟨x130,H131,i132,i133,hb139,k136,w134,l135,rfl,rfl⟩
 have n140:=KG.next k136
 refine w_seq (w_seq (w_region (mv (vI x130) rfl rfl ?_)))
 refine mv as1 rfl rfl ?_
 have c141:slen as1 ≤ 1073741824:=vt_lim (hvas1.mono ((HB.le hb101 k129).trans l135))
 refine sv (v:=(vI (slen as1:Int))) rfl rfl rfl (t_len (hvas1.mono ((HB.le hb101 k129).trans l135)) rfl rfl rfl Try.underlying31) rfl ?_
 by_cases c142:x130 < (slen as1:Int)
 ·
  refine sv (v:=.bool true) rfl rfl rfl (opv_bin rfl rfl rfl rfl rfl (cmpT rfl c142)) rfl ?_
  refine wo_nil (tq_n (wk ⟨[(0,vP n1 0),(1,as1),(2,.func (.func 8) #[] #[]),(6,vI x130),(21,.bool true)],31,[],H131⟩ rfl ?_))
  refine w_cond (t:=true) rfl rfl (fun _ => ?_) (fun h => by cases h)
  refine w_skip (tq_n (wk ⟨[(0,vP n1 0),(1,as1),(2,.func (.func 8) #[] #[]),(6,vI x130)],31,[],H131⟩ rfl ?_))
  refine w_seq (w_block (w_region (mv (.func (.func 8) #[] #[]) rfl rfl ?_)))
  refine mv (vP n1 0) rfl rfl ?_
  refine mv as1 rfl rfl ?_
  refine mv (vI x130) rfl rfl ?_
  refine sv (v:=.pointer (some ⟨snm as1,sof as1 + (x130).toNat * 1,none⟩)) rfl rfl rfl (t_index (z:=1) (hvas1.mono ((HB.le hb101 k129).trans l135)) rfl rfl rfl rfl rfl Try.underlying31 sz3 (by omega) (by omega)) rfl ?_
  obtain ⟨vs143,hs144,ho145⟩:=t_load (P:=Try.prog) w134 (hvas1.mono ((HB.le hb101 k129).trans l135)) (i:=(x130).toNat) (off:=0) (w:=1) (by omega) (by decide)
  replace hs144:VTs H131 [.int .i64] vs143:=hs144
  obtain ⟨x148,r146,rfl,hs147⟩:=vts_int hs144
  obtain rfl:=vts_nil hs147
  refine sv (v:=vI x148) rfl rfl rfl (ho145 _ _ _ _ false rfl rfl rfl rfl ag3 sz3 (.inr rfl)) rfl ?_
  refine sc_ (H:=H131) (vs:=[vP n1 0,vI x148]) (fv:=.func (.func 8) #[] #[]) rfl rfl rfl rfl rfl rfl (.cons rfl rfl neP (.cons rfl rfl neI .nil)) rfl ?_
  refine WV.mono (wv_f0 Try.call8 (top_putInt_ok x148 n1 _ _ w134 hb139 (by omega))) ?_
  rintro v151 H152 ⟨k153,w149,hb150,rfl⟩
  have n154:=KG.next k153
  have l155:=HB.le hb139 k153
  refine wo_nil ?_
  try refine q_eq (e':=.normal) rfl ?_
  refine tqk ⟨[(0,vP n1 0),(1,as1),(2,.func (.func 8) #[] #[]),(6,vI x130)],31,[],H152⟩ rfl ?_
  refine w_region (mv (vI x130) rfl rfl ?_)
  refine sv_int rfl rfl rfl (opv_bin rfl rfl rfl rfl rfl rfl) ?_
  intro x158 h159
  try replace h159:x158=x130 + 1:=wr_ex h159 (by omega) (by omega)
  refine mv (vI x158) rfl rfl ?_
  refine wo_nil ?_
  refine tq_n ⟨((slen as1:Int) - x158).toNat,by omega,⟨[(0,vP n1 0),(1,as1),(2,.func (.func 8) #[] #[]),(6,vI x158)],31,[],H152⟩,subk rfl,x158,H152,by omega,by omega,HB.mono hb150 (by omega),KG.trans (KG.trans KG.refl k136) k153,w149,l135.trans l155,rfl,rfl⟩
 ·
  refine sv (v:=.bool false) rfl rfl rfl (opv_bin rfl rfl rfl rfl rfl (cmpF rfl c142)) rfl ?_
  refine wo_nil (tq_n (wk ⟨[(0,vP n1 0),(1,as1),(2,.func (.func 8) #[] #[]),(6,vI x130),(21,.bool false)],31,[],H131⟩ rfl ?_))
  refine w_cond (t:=false) rfl rfl (fun h => by cases h) (fun _ => ?_)
  refine w_exit (tq_e (tq_e ?_))
  try refine q_eq (e':=.normal) rfl ?_
  exact ⟨.inl rfl,rfl,[],.nil,KG.trans (KG.trans KG.refl k129) k136,w134,HB.mono hb139 (by omega),rfl⟩

theorem top_putInts_ok (as1:Value) (n1 k:Nat) (H:SH) (wt:WT H) (hvas1:VT H (.sl false [.int .i64]) as1) (hb:HB H n1 k) (hk:k + (1 * LIM + 1) ≤ CAP):WC Try.prog 18 [vP n1 0,as1] H (fun v H' => KG n1 H H'∧WT H'∧HB H' n1 (k + (1 * LIM + 1))∧v=(.tuple #[])):=by
 have hlt:=hb.lt
 refine wc_of_body Try.func18 rfl ?_
 refine wk ⟨[(0,vP n1 0),(1,as1)],7,[],H⟩ rfl ?_
 refine w_region (mv (vP n1 0) rfl rfl ?_)
 refine mv as1 rfl rfl ?_
 refine sc_ (H:=H) (vs:=[vP n1 0,as1,.func (.func 8) #[] #[]]) (fv:=.func (.func 40) #[] #[]) rfl rfl rfl rfl rfl rfl (.cons rfl rfl neP (.cons rfl rfl (vt_ne hvas1) (.cons rfl rfl (by simp [undef]) .nil))) rfl ?_
 refine WV.mono (wv_f0 Try.call40 (top_puts_int_8_ok as1 n1 _ _ wt hvas1 hb (by omega))) ?_
 rintro v103 H104 ⟨k105,w101,hb102,rfl⟩
 have n106:=KG.next k105
 have l107:=HB.le hb k105
 refine wo_nil ?_
 exact ⟨.inl rfl,rfl,[],.nil,KG.trans KG.refl k105,w101,HB.mono hb102 (by omega),rfl⟩
end Go.Proofs.Orl

namespace Go.Proofs.Orl
open Go Go.MapKept
set_option maxRecDepth 10000
set_option maxHeartbeats 4000000
theorem ag28:aggT Try.prog 28=some false:=by kernel_rfl
theorem sz28:szT Try.prog 28=some 1:=by kernel_rfl
theorem ze31:zeroT Try.prog 31=some (.slice none 0 0):=by kernel_rfl
theorem top_c6_ok (n0:Nat) (ax1 ax2:Int) (ax3 ax4:Int) (ax5 ax6 ax7:Int) (as8 as9 as10:Value) (ax11 ax12:Int) (ax13 ax14 ax15:Int) (n1 k:Nat) (H:SH) (wt:WT H) (hvas8:VT H (.sl false [.int .i64,.int .i64]) as8) (hvas9:VT H (.sl false [.str,.int .i64]) as9) (hvas10:VT H (.sl false [.int .i64,.int .i64,.int .i64]) as10) (hkn0:H.get n0=some (.row #[vI ax1,vI ax2,vI ax3,vI ax4,vI ax5,vI ax6,vI ax7,as8,as9,as10,vI ax11,vI ax12,vI ax13,vI ax14,vI ax15] .raw)) (hln0:n0 < H.next) (hne:n0 ≠ n1) (hb:HB H n1 k) (hk:k + (0 * LIM + 3) ≤ CAP):WC Try.prog 6 [vP n1 0,vP n0 0] H (fun v H' => KG n1 H H'∧WT H'∧HB H' n1 (k + (0 * LIM + 3))∧v=(.func (.func 10) #[] #[])):=by
 have hlt:=hb.lt
 refine wc_of_body Try.func6 rfl ?_
 refine wk ⟨[(0,vP n1 0),(1,vP n0 0)],23,[],H⟩ rfl ?_
 refine w_seq (w_region (mv .nilFunc rfl rfl ?_))
 refine wo_nil (tq_n (wk ⟨[(0,vP n1 0),(1,vP n0 0)],23,[],H⟩ rfl ?_))
 refine w_seq (w_region (sv (v:=vP n0 0) rfl rfl rfl (opv_fieldAddrE rfl rfl rfl Try.underlying30 rfl sz27 (by decide) rfl) rfl ?_))
 refine sv (v:=.agg #[vI ax1,vI ax2,vI ax3,vI ax4,vI ax5,vI ax6,vI ax7,as8,as9]) rfl rfl rfl (opv_loadE rfl rfl rfl ag27 sz27 hkn0 rfl (.inl rfl) rfl) rfl ?_
 refine sc_ (H:=H) (vs:=[.agg #[vI ax1,vI ax2,vI ax3,vI ax4,vI ax5,vI ax6,vI ax7,as8,as9]]) (fv:=.func (.func 7) #[] #[]) rfl rfl rfl rfl rfl rfl (.cons rfl rfl (by simp [undef]) .nil) rfl ?_
 refine WV.mono (wv_f0 Try.call7 (gas_Check ax1 ax2 ax3 ax4 ax5 ax6 ax7 as8 as9 _ wt hvas8 hvas9)) ?_
 rintro v105 H106 ⟨k107,w101,rx10102,rx11103,rx12104,rfl⟩
 refine kpL k107 fun n109 l108 => ?_
 refine mv (.tuple #[vI rx10102,vI rx11103,vI rx12104]) rfl rfl ?_
 refine sv (v:=vI rx10102) rfl rfl rfl (opv_extract rfl rfl rfl rfl) rfl ?_
 refine sv (v:=vI rx11103) rfl rfl rfl (opv_extract rfl rfl rfl rfl) rfl ?_
 refine sv (v:=vI rx12104) rfl rfl rfl (opv_extract rfl rfl rfl rfl) rfl ?_
 refine mv (vI rx10102) rfl rfl ?_
 refine mv (vI rx11103) rfl rfl ?_
 refine mv (vI rx12104) rfl rfl ?_
 refine wo_nil (tq_n (wk ⟨[(0,vP n1 0),(4,vI rx10102),(5,vI rx11103),(6,vI rx12104)],23,[],H106⟩ rfl ?_))
 refine w_seq (w_region (mv (vP n1 0) rfl rfl ?_))
 refine mv (vI rx10102) rfl rfl ?_
 refine sc_ (H:=H106) (vs:=[vP n1 0,vI rx10102]) (fv:=.func (.func 8) #[] #[]) rfl rfl rfl rfl rfl rfl (.cons rfl rfl neP (.cons rfl rfl neI .nil)) rfl ?_
 refine WV.mono (wv_f0 Try.call8 (top_putInt_ok rx10102 n1 _ _ w101 (HB.keep hb k107) (by omega))) ?_
 rintro v112 H113 ⟨k114,w110,hb111,rfl⟩
 have n115:=KG.next k114
 have l116:=HB.le (HB.keep hb k107) k114
 refine wo_nil (tq_n (wk ⟨[(0,vP n1 0),(5,vI rx11103),(6,vI rx12104)],23,[],H113⟩ rfl ?_))
 refine w_seq (w_region (mv (vP n1 0) rfl rfl ?_))
 refine mv (vI rx11103) rfl rfl ?_
 refine sc_ (H:=H113) (vs:=[vP n1 0,vI rx11103]) (fv:=.func (.func 8) #[] #[]) rfl rfl rfl rfl rfl rfl (.cons rfl rfl neP (.cons rfl rfl neI .nil)) rfl ?_
 refine WV.mono (wv_f0 Try.call8 (top_putInt_ok rx11103 n1 _ _ w110 hb111 (by omega))) ?_
 rintro v121 H122 ⟨k123,w119,hb120,rfl⟩
 have n124:=KG.next k123
 have l125:=HB.le hb111 k123
 refine wo_nil (tq_n (wk ⟨[(0,vP n1 0),(6,vI rx12104)],23,[],H122⟩ rfl ?_))
 refine w_seq (w_region (mv (vP n1 0) rfl rfl ?_))
 refine mv (vI rx12104) rfl rfl ?_
 refine sc_ (H:=H122) (vs:=[vP n1 0,vI rx12104]) (fv:=.func (.func 9) #[] #[]) rfl rfl rfl rfl rfl rfl (.cons rfl rfl neP (.cons rfl rfl neI .nil)) rfl ?_
 refine WV.mono (wv_f0 Try.call9 (top_putErrno_ok rx12104 n1 _ _ w119 hb120 (by omega))) ?_
 rintro v130 H131 ⟨k132,w128,hb129,rfl⟩
 have n133:=KG.next k132
 have l134:=HB.le hb120 k132
 refine wo_nil (tq_n (wk ⟨[],23,[],H131⟩ rfl ?_))
 refine w_seq (w_region (mv (.func (.func 10) #[] #[]) rfl rfl ?_))
 refine wo_nil (tq_n (wk ⟨[(3,.func (.func 10) #[] #[])],23,[],H131⟩ rfl ?_))
 refine w_ret ?_
 exact ⟨.inr rfl,rfl,[.func (.func 10) #[] #[]],.cons (resV_tmp rfl (by simp [undef])) .nil,KG.trans (KG.trans (KG.trans (KG.keep KG.refl k107) k114) k123) k132,w128,HB.mono hb129 (by omega),rfl⟩

theorem top_w10_ok (H:SH) (wt:WT H):WC Try.prog 10 [] H (fun v H' => KW H H'∧WT H'∧Le H H'∧v=(.tuple #[])):=by
 refine wc_of_body Try.func10 rfl ?_
 refine wk ⟨[],0,[],H⟩ rfl ?_
 refine w_skip ?_
 exact ⟨.inl rfl,rfl,[],.nil,KW.refl,wt,Le.refl _,rfl⟩

theorem top_callw6 {old:Array Obj} (ax1 ax2:Int) (ax3 ax4:Int) (ax5 ax6 ax7:Int) (as8 as9 as10:Value) (ax11 ax12:Int) (ax13 ax14 ax15:Int) (hvas8:OT old.size old (.sl false [.int .i64,.int .i64]) as8) (hvas9:OT old.size old (.sl false [.str,.int .i64]) as9) (hvas10:OT old.size old (.sl false [.int .i64,.int .i64,.int .i64]) as10):CallW Try.prog 6 old #[vI ax1,vI ax2,vI ax3,vI ax4,vI ax5,vI ax6,vI ax7,as8,as9,as10,vI ax11,vI ax12,vI ax13,vI ax14,vI ax15]:=by
  refine callW (K:=0 + (0 * LIM + 3)) (by unfold LIM; omega) ((top_c6_ok old.size ax1 ax2 ax3 ax4 ax5 ax6 ax7 as8 as9 as10 ax11 ax12 ax13 ax14 ax15 (old.size + 1) 0 (A0 old _) a0_wt (.old hvas8) (.old hvas9) (.old hvas10) a0_x (by rw [a0_next]; omega) (by omega) a0_hb (by unfold LIM CAP; omega)).mono ?_)
  rintro v A1 ⟨kg,w,hb,rfl⟩
  exact ⟨kg,hb,10,[],rfl,Try.call10,(top_w10_ok  (rowH A1) (rowH_wt w)  ).mono fun _ _ h => h.1⟩

theorem top_c11_ok (n0:Nat) (ax1 ax2:Int) (ax3 ax4:Int) (ax5 ax6 ax7:Int) (as8 as9 as10:Value) (ax11 ax12:Int) (ax13 ax14 ax15:Int) (n1 k:Nat) (H:SH) (wt:WT H) (hvas8:VT H (.sl false [.int .i64,.int .i64]) as8) (hvas9:VT H (.sl false [.str,.int .i64]) as9) (hvas10:VT H (.sl false [.int .i64,.int .i64,.int .i64]) as10) (hkn0:H.get n0=some (.row #[vI ax1,vI ax2,vI ax3,vI ax4,vI ax5,vI ax6,vI ax7,as8,as9,as10,vI ax11,vI ax12,vI ax13,vI ax14,vI ax15] .raw)) (hln0:n0 < H.next) (hne:n0 ≠ n1) (hb:HB H n1 k) (hk:k + (0 * LIM + 3) ≤ CAP):WC Try.prog 11 [vP n1 0,vP n0 0] H (fun v H' => KG n1 H H'∧WT H'∧HB H' n1 (k + (0 * LIM + 3))∧v=(.func (.func 10) #[] #[])):=by
 have hlt:=hb.lt
 refine wc_of_body Try.func11 rfl ?_
 refine wk ⟨[(0,vP n1 0),(1,vP n0 0)],22,[],H⟩ rfl ?_
 refine w_seq (w_region (mv .nilFunc rfl rfl ?_))
 refine wo_nil (tq_n (wk ⟨[(0,vP n1 0),(1,vP n0 0)],22,[],H⟩ rfl ?_))
 refine w_seq (w_region (sv (v:=vP n0 0) rfl rfl rfl (opv_fieldAddrE rfl rfl rfl Try.underlying30 rfl sz27 (by decide) rfl) rfl ?_))
 refine sv (v:=.agg #[vI ax1,vI ax2,vI ax3,vI ax4,vI ax5,vI ax6,vI ax7,as8,as9]) rfl rfl rfl (opv_loadE rfl rfl rfl ag27 sz27 hkn0 rfl (.inl rfl) rfl) rfl ?_
 refine sv (v:=vP n0 9) rfl rfl rfl (opv_fieldAddrE rfl rfl rfl Try.underlying30 rfl sz28 (by decide) rfl) rfl ?_
 refine sv (v:=as10) rfl rfl rfl (opv_loadE rfl rfl rfl ag28 sz28 hkn0 rfl (.inr rfl) rfl) rfl ?_
 refine sv (v:=vP n0 10) rfl rfl rfl (opv_fieldAddrE rfl rfl rfl Try.underlying30 rfl sz3 (by decide) rfl) rfl ?_
 refine sv (v:=vI ax11) rfl rfl rfl (opv_loadE rfl rfl rfl ag3 sz3 hkn0 rfl (.inr rfl) rfl) rfl ?_
 refine sc_ (H:=H) (vs:=[.agg #[vI ax1,vI ax2,vI ax3,vI ax4,vI ax5,vI ax6,vI ax7,as8,as9],as10,vI ax11]) (fv:=.func (.func 12) #[] #[]) rfl rfl rfl rfl rfl rfl (.cons rfl rfl (by simp [undef]) (.cons rfl rfl (vt_ne hvas10) (.cons rfl rfl neI .nil))) rfl ?_
 refine WV.mono (wv_f0 Try.call12 (gas_Level ax1 ax2 ax3 ax4 ax5 ax6 ax7 as8 as9 as10 ax11 _ wt hvas8 hvas9 hvas10)) ?_
 rintro v105 H106 ⟨k107,w101,rx12102,rx13103,rx14104,rfl⟩
 refine kpL k107 fun n109 l108 => ?_
 refine mv (.tuple #[.agg #[vI rx12102,vI rx13103],vI rx14104]) rfl rfl ?_
 refine sv (v:=.agg #[vI rx12102,vI rx13103]) rfl rfl rfl (opv_extract rfl rfl rfl rfl) rfl ?_
 refine sv (v:=vI rx14104) rfl rfl rfl (opv_extract rfl rfl rfl rfl) rfl ?_
 refine sv_new (H:=H106) (v:=vP H106.next 0) (x:=.row #[vI 0,vI 0] .raw) rfl rfl rfl rfl (opv_alloc rfl ze23 rfl) ?_
 intro H110 f111
 refine newL w101 f111 fun n114 w112 l113 => ?_
 refine sv_put (H:=H110) (n:=H106.next) (v:=undef) (x:=some (.row #[vI rx12102,vI rx13103] .raw)) rfl rfl rfl rfl (opv_storeC (u:=.agg #[vI rx12102,vI rx13103]) rfl rfl rfl rfl rfl (by simp [undef]) sz23 rfl rfl rfl f111.blk rfl rfl) ?_
 intro H115 f116
 refine putL w112 f116 f111.blk fun n119 w117 l118 => ?_
 refine mv (vI rx14104) rfl rfl ?_
 refine wo_nil (tq_n (wk ⟨[(0,vP n1 0),(4,vP H106.next 0),(5,vI rx14104)],22,[],H115⟩ rfl ?_))
 refine w_seq (w_region (mv (vP n1 0) rfl rfl ?_))
 refine sv (v:=.agg #[vI rx12102,vI rx13103]) rfl rfl rfl (opv_loadE rfl rfl rfl ag23 sz23 f116.blk rfl (.inl rfl) rfl) rfl ?_
 refine sc_ (H:=H115) (vs:=[vP n1 0,.agg #[vI rx12102,vI rx13103]]) (fv:=.func (.func 13) #[] #[]) rfl rfl rfl rfl rfl rfl (.cons rfl rfl neP (.cons rfl rfl (by simp [undef]) .nil)) rfl ?_
 refine WV.mono (wv_f0 Try.call13 (top_putSpan_ok rx12102 rx13103 n1 _ _ w117 (HB.put (HB.new (HB.keep hb k107) f111) f116 f111.blk (by simp) (by omega)) (by omega))) ?_
 rintro v122 H123 ⟨k124,w120,hb121,rfl⟩
 have n125:=KG.next k124
 have l126:=HB.le (HB.put (HB.new (HB.keep hb k107) f111) f116 f111.blk (by simp) (by omega)) k124
 refine wo_nil (tq_n (wk ⟨[(0,vP n1 0),(5,vI rx14104)],22,[],H123⟩ rfl ?_))
 refine w_seq (w_region (mv (vP n1 0) rfl rfl ?_))
 refine mv (vI rx14104) rfl rfl ?_
 refine sc_ (H:=H123) (vs:=[vP n1 0,vI rx14104]) (fv:=.func (.func 9) #[] #[]) rfl rfl rfl rfl rfl rfl (.cons rfl rfl neP (.cons rfl rfl neI .nil)) rfl ?_
 refine WV.mono (wv_f0 Try.call9 (top_putErrno_ok rx14104 n1 _ _ w120 hb121 (by omega))) ?_
 rintro v131 H132 ⟨k133,w129,hb130,rfl⟩
 have n134:=KG.next k133
 have l135:=HB.le hb121 k133
 refine wo_nil (tq_n (wk ⟨[],22,[],H132⟩ rfl ?_))
 refine w_seq (w_region (mv (.func (.func 10) #[] #[]) rfl rfl ?_))
 refine wo_nil (tq_n (wk ⟨[(3,.func (.func 10) #[] #[])],22,[],H132⟩ rfl ?_))
 refine w_ret ?_
 exact ⟨.inr rfl,rfl,[.func (.func 10) #[] #[]],.cons (resV_tmp rfl (by simp [undef])) .nil,KG.trans (KG.trans (KG.put (KG.new (KG.keep KG.refl k107) f111) f116 (by omega)) k124) k133,w129,HB.mono hb130 (by omega),rfl⟩

theorem top_callw11 {old:Array Obj} (ax1 ax2:Int) (ax3 ax4:Int) (ax5 ax6 ax7:Int) (as8 as9 as10:Value) (ax11 ax12:Int) (ax13 ax14 ax15:Int) (hvas8:OT old.size old (.sl false [.int .i64,.int .i64]) as8) (hvas9:OT old.size old (.sl false [.str,.int .i64]) as9) (hvas10:OT old.size old (.sl false [.int .i64,.int .i64,.int .i64]) as10):CallW Try.prog 11 old #[vI ax1,vI ax2,vI ax3,vI ax4,vI ax5,vI ax6,vI ax7,as8,as9,as10,vI ax11,vI ax12,vI ax13,vI ax14,vI ax15]:=by
  refine callW (K:=0 + (0 * LIM + 3)) (by unfold LIM; omega) ((top_c11_ok old.size ax1 ax2 ax3 ax4 ax5 ax6 ax7 as8 as9 as10 ax11 ax12 ax13 ax14 ax15 (old.size + 1) 0 (A0 old _) a0_wt (.old hvas8) (.old hvas9) (.old hvas10) a0_x (by rw [a0_next]; omega) (by omega) a0_hb (by unfold LIM CAP; omega)).mono ?_)
  rintro v A1 ⟨kg,w,hb,rfl⟩
  exact ⟨kg,hb,10,[],rfl,Try.call10,(top_w10_ok  (rowH A1) (rowH_wt w)  ).mono fun _ _ h => h.1⟩

theorem top_c14_ok (n0:Nat) (ax1 ax2:Int) (ax3 ax4:Int) (ax5 ax6 ax7:Int) (as8 as9 as10:Value) (ax11 ax12:Int) (ax13 ax14 ax15:Int) (n1 k:Nat) (H:SH) (wt:WT H) (hvas8:VT H (.sl false [.int .i64,.int .i64]) as8) (hvas9:VT H (.sl false [.str,.int .i64]) as9) (hvas10:VT H (.sl false [.int .i64,.int .i64,.int .i64]) as10) (hkn0:H.get n0=some (.row #[vI ax1,vI ax2,vI ax3,vI ax4,vI ax5,vI ax6,vI ax7,as8,as9,as10,vI ax11,vI ax12,vI ax13,vI ax14,vI ax15] .raw)) (hln0:n0 < H.next) (hne:n0 ≠ n1) (hb:HB H n1 k) (hk:k + (0 * LIM + 2) ≤ CAP):WC Try.prog 14 [vP n1 0,vP n0 0] H (fun v H' => KG n1 H H'∧WT H'∧HB H' n1 (k + (0 * LIM + 2))∧v=(.func (.func 10) #[] #[])):=by
 have hlt:=hb.lt
 refine wc_of_body Try.func14 rfl ?_
 refine wk ⟨[(0,vP n1 0),(1,vP n0 0)],22,[],H⟩ rfl ?_
 refine w_seq (w_region (mv .nilFunc rfl rfl ?_))
 refine wo_nil (tq_n (wk ⟨[(0,vP n1 0),(1,vP n0 0)],22,[],H⟩ rfl ?_))
 refine w_seq (w_region (sv (v:=vP n0 0) rfl rfl rfl (opv_fieldAddrE rfl rfl rfl Try.underlying30 rfl sz27 (by decide) rfl) rfl ?_))
 refine sv (v:=.agg #[vI ax1,vI ax2,vI ax3,vI ax4,vI ax5,vI ax6,vI ax7,as8,as9]) rfl rfl rfl (opv_loadE rfl rfl rfl ag27 sz27 hkn0 rfl (.inl rfl) rfl) rfl ?_
 refine sv (v:=vP n0 9) rfl rfl rfl (opv_fieldAddrE rfl rfl rfl Try.underlying30 rfl sz28 (by decide) rfl) rfl ?_
 refine sv (v:=as10) rfl rfl rfl (opv_loadE rfl rfl rfl ag28 sz28 hkn0 rfl (.inr rfl) rfl) rfl ?_
 refine sv (v:=vP n0 10) rfl rfl rfl (opv_fieldAddrE rfl rfl rfl Try.underlying30 rfl sz3 (by decide) rfl) rfl ?_
 refine sv (v:=vI ax11) rfl rfl rfl (opv_loadE rfl rfl rfl ag3 sz3 hkn0 rfl (.inr rfl) rfl) rfl ?_
 refine sc_ (H:=H) (vs:=[.agg #[vI ax1,vI ax2,vI ax3,vI ax4,vI ax5,vI ax6,vI ax7,as8,as9],as10,vI ax11]) (fv:=.func (.func 15) #[] #[]) rfl rfl rfl rfl rfl rfl (.cons rfl rfl (by simp [undef]) (.cons rfl rfl (vt_ne hvas10) (.cons rfl rfl neI .nil))) rfl ?_
 refine WV.mono (wv_f0 Try.call15 (gas_Until ax1 ax2 ax3 ax4 ax5 ax6 ax7 as8 as9 as10 ax11 _ wt hvas8 hvas9 hvas10)) ?_
 rintro v104 H105 ⟨k106,w101,rx12102,rx13103,rfl⟩
 refine kpL k106 fun n108 l107 => ?_
 refine mv (.tuple #[vI rx12102,vI rx13103]) rfl rfl ?_
 refine sv (v:=vI rx12102) rfl rfl rfl (opv_extract rfl rfl rfl rfl) rfl ?_
 refine sv (v:=vI rx13103) rfl rfl rfl (opv_extract rfl rfl rfl rfl) rfl ?_
 refine mv (vI rx12102) rfl rfl ?_
 refine mv (vI rx13103) rfl rfl ?_
 refine wo_nil (tq_n (wk ⟨[(0,vP n1 0),(4,vI rx12102),(5,vI rx13103)],22,[],H105⟩ rfl ?_))
 refine w_seq (w_region (mv (vP n1 0) rfl rfl ?_))
 refine mv (vI rx12102) rfl rfl ?_
 refine sc_ (H:=H105) (vs:=[vP n1 0,vI rx12102]) (fv:=.func (.func 8) #[] #[]) rfl rfl rfl rfl rfl rfl (.cons rfl rfl neP (.cons rfl rfl neI .nil)) rfl ?_
 refine WV.mono (wv_f0 Try.call8 (top_putInt_ok rx12102 n1 _ _ w101 (HB.keep hb k106) (by omega))) ?_
 rintro v111 H112 ⟨k113,w109,hb110,rfl⟩
 have n114:=KG.next k113
 have l115:=HB.le (HB.keep hb k106) k113
 refine wo_nil (tq_n (wk ⟨[(0,vP n1 0),(5,vI rx13103)],22,[],H112⟩ rfl ?_))
 refine w_seq (w_region (mv (vP n1 0) rfl rfl ?_))
 refine mv (vI rx13103) rfl rfl ?_
 refine sc_ (H:=H112) (vs:=[vP n1 0,vI rx13103]) (fv:=.func (.func 9) #[] #[]) rfl rfl rfl rfl rfl rfl (.cons rfl rfl neP (.cons rfl rfl neI .nil)) rfl ?_
 refine WV.mono (wv_f0 Try.call9 (top_putErrno_ok rx13103 n1 _ _ w109 hb110 (by omega))) ?_
 rintro v120 H121 ⟨k122,w118,hb119,rfl⟩
 have n123:=KG.next k122
 have l124:=HB.le hb110 k122
 refine wo_nil (tq_n (wk ⟨[],22,[],H121⟩ rfl ?_))
 refine w_seq (w_region (mv (.func (.func 10) #[] #[]) rfl rfl ?_))
 refine wo_nil (tq_n (wk ⟨[(3,.func (.func 10) #[] #[])],22,[],H121⟩ rfl ?_))
 refine w_ret ?_
 exact ⟨.inr rfl,rfl,[.func (.func 10) #[] #[]],.cons (resV_tmp rfl (by simp [undef])) .nil,KG.trans (KG.trans (KG.keep KG.refl k106) k113) k122,w118,HB.mono hb119 (by omega),rfl⟩

theorem top_callw14 {old:Array Obj} (ax1 ax2:Int) (ax3 ax4:Int) (ax5 ax6 ax7:Int) (as8 as9 as10:Value) (ax11 ax12:Int) (ax13 ax14 ax15:Int) (hvas8:OT old.size old (.sl false [.int .i64,.int .i64]) as8) (hvas9:OT old.size old (.sl false [.str,.int .i64]) as9) (hvas10:OT old.size old (.sl false [.int .i64,.int .i64,.int .i64]) as10):CallW Try.prog 14 old #[vI ax1,vI ax2,vI ax3,vI ax4,vI ax5,vI ax6,vI ax7,as8,as9,as10,vI ax11,vI ax12,vI ax13,vI ax14,vI ax15]:=by
  refine callW (K:=0 + (0 * LIM + 2)) (by unfold LIM; omega) ((top_c14_ok old.size ax1 ax2 ax3 ax4 ax5 ax6 ax7 as8 as9 as10 ax11 ax12 ax13 ax14 ax15 (old.size + 1) 0 (A0 old _) a0_wt (.old hvas8) (.old hvas9) (.old hvas10) a0_x (by rw [a0_next]; omega) (by omega) a0_hb (by unfold LIM CAP; omega)).mono ?_)
  rintro v A1 ⟨kg,w,hb,rfl⟩
  exact ⟨kg,hb,10,[],rfl,Try.call10,(top_w10_ok  (rowH A1) (rowH_wt w)  ).mono fun _ _ h => h.1⟩

theorem top_c16_ok (n0:Nat) (ax1 ax2:Int) (ax3 ax4:Int) (ax5 ax6 ax7:Int) (as8 as9 as10:Value) (ax11 ax12:Int) (ax13 ax14 ax15:Int) (n1 k:Nat) (H:SH) (wt:WT H) (hvas8:VT H (.sl false [.int .i64,.int .i64]) as8) (hvas9:VT H (.sl false [.str,.int .i64]) as9) (hvas10:VT H (.sl false [.int .i64,.int .i64,.int .i64]) as10) (hkn0:H.get n0=some (.row #[vI ax1,vI ax2,vI ax3,vI ax4,vI ax5,vI ax6,vI ax7,as8,as9,as10,vI ax11,vI ax12,vI ax13,vI ax14,vI ax15] .raw)) (hln0:n0 < H.next) (hne:n0 ≠ n1) (hb:HB H n1 k) (hk:k + (1 * LIM + 2) ≤ CAP):WC Try.prog 16 [vP n1 0,vP n0 0] H (fun v H' => KG n1 H H'∧WT H'∧HB H' n1 (k + (1 * LIM + 2))∧∃ (p16:Nat) (rs17:Value),v=(.func (.func 19) #[] #[vP p16 0])∧VT H' (.sl true [.int .i64]) rs17∧(H'.get p16=some (.row #[rs17] .raw)∧H.next ≤ p16∧p16 < H'.next)):=by
 have hlt:=hb.lt
 refine wc_of_body Try.func16 rfl ?_
 refine wk ⟨[(0,vP n1 0),(1,vP n0 0)],23,[],H⟩ rfl ?_
 refine w_seq (w_region (mv .nilFunc rfl rfl ?_))
 refine wo_nil (tq_n (wk ⟨[(0,vP n1 0),(1,vP n0 0)],23,[],H⟩ rfl ?_))
 refine w_seq (w_region (sv (v:=vP n0 0) rfl rfl rfl (opv_fieldAddrE rfl rfl rfl Try.underlying30 rfl sz27 (by decide) rfl) rfl ?_))
 refine sv (v:=.agg #[vI ax1,vI ax2,vI ax3,vI ax4,vI ax5,vI ax6,vI ax7,as8,as9]) rfl rfl rfl (opv_loadE rfl rfl rfl ag27 sz27 hkn0 rfl (.inl rfl) rfl) rfl ?_
 refine sv (v:=vP n0 9) rfl rfl rfl (opv_fieldAddrE rfl rfl rfl Try.underlying30 rfl sz28 (by decide) rfl) rfl ?_
 refine sv (v:=as10) rfl rfl rfl (opv_loadE rfl rfl rfl ag28 sz28 hkn0 rfl (.inr rfl) rfl) rfl ?_
 refine sv (v:=vP n0 10) rfl rfl rfl (opv_fieldAddrE rfl rfl rfl Try.underlying30 rfl sz3 (by decide) rfl) rfl ?_
 refine sv (v:=vI ax11) rfl rfl rfl (opv_loadE rfl rfl rfl ag3 sz3 hkn0 rfl (.inr rfl) rfl) rfl ?_
 refine sc_ (H:=H) (vs:=[.agg #[vI ax1,vI ax2,vI ax3,vI ax4,vI ax5,vI ax6,vI ax7,as8,as9],as10,vI ax11]) (fv:=.func (.func 17) #[] #[]) rfl rfl rfl rfl rfl rfl (.cons rfl rfl (by simp [undef]) (.cons rfl rfl (vt_ne hvas10) (.cons rfl rfl neI .nil))) rfl ?_
 refine WV.mono (wv_f0 Try.call17 (gas_Refusal ax1 ax2 ax3 ax4 ax5 ax6 ax7 as8 as9 as10 ax11 _ wt hvas8 hvas9 hvas10)) ?_
 rintro v105 H106 ⟨k107,w101,rl102,hv103,rx13104,rfl⟩
 have n108:=k107.next
 have l109:=k107.le
 refine mv (.tuple #[rl102,vI rx13104]) rfl rfl ?_
 refine sv (v:=rl102) rfl rfl rfl (opv_extract rfl rfl rfl rfl) rfl ?_
 refine sv (v:=vI rx13104) rfl rfl rfl (opv_extract rfl rfl rfl rfl) rfl ?_
 refine sv_new (H:=H106) (v:=vP H106.next 0) (x:=.row #[.slice none 0 0] .raw) rfl rfl rfl rfl (opv_alloc rfl ze31 rfl) ?_
 intro H110 f111
 refine newL w101 f111 fun n114 w112 l113 => ?_
 refine sv_put (H:=H110) (n:=H106.next) (v:=undef) (x:=some (.row #[rl102] .raw)) rfl rfl rfl rfl (opv_storeC (u:=rl102) rfl rfl rfl rfl rfl (vt_ne (hv103.mono l113)) sz31 (vt_cells (hv103.mono l113)) rfl (leafs_one (vt_cells (hv103.mono l113)) (vt_one (hv103.mono l113))) f111.blk rfl rfl) ?_
 intro H115 f116
 refine putL w112 f116 f111.blk fun n119 w117 l118 => ?_
 refine mv (vI rx13104) rfl rfl ?_
 refine wo_nil (tq_n (wk ⟨[(0,vP n1 0),(4,vP H106.next 0),(5,vI rx13104)],23,[],H115⟩ rfl ?_))
 refine w_seq (w_region (mv (vP n1 0) rfl rfl ?_))
 refine sv (v:=rl102) rfl rfl rfl (opv_loadE rfl rfl rfl ag31 sz31 f116.blk rfl (.inr rfl) rfl) rfl ?_
 refine sc_ (H:=H115) (vs:=[vP n1 0,rl102]) (fv:=.func (.func 18) #[] #[]) rfl rfl rfl rfl rfl rfl (.cons rfl rfl neP (.cons rfl rfl (vt_ne (hv103.mono (l113.trans l118))) .nil)) rfl ?_
 refine WV.mono (wv_f0 Try.call18 (top_putInts_ok rl102 n1 _ _ w117 (vt_ro (hv103.mono (l113.trans l118))) (HB.put (HB.new (HB.keep hb k107) f111) f116 f111.blk (by simp) (by omega)) (by omega))) ?_
 rintro v122 H123 ⟨k124,w120,hb121,rfl⟩
 have n125:=KG.next k124
 have l126:=HB.le (HB.put (HB.new (HB.keep hb k107) f111) f116 f111.blk (by simp) (by omega)) k124
 refine wo_nil (tq_n (wk ⟨[(0,vP n1 0),(4,vP H106.next 0),(5,vI rx13104)],23,[],H123⟩ rfl ?_))
 refine w_seq (w_region (mv (vP n1 0) rfl rfl ?_))
 refine mv (vI rx13104) rfl rfl ?_
 refine sc_ (H:=H123) (vs:=[vP n1 0,vI rx13104]) (fv:=.func (.func 9) #[] #[]) rfl rfl rfl rfl rfl rfl (.cons rfl rfl neP (.cons rfl rfl neI .nil)) rfl ?_
 refine WV.mono (wv_f0 Try.call9 (top_putErrno_ok rx13104 n1 _ _ w120 hb121 (by omega))) ?_
 rintro v131 H132 ⟨k133,w129,hb130,rfl⟩
 have n134:=KG.next k133
 have l135:=HB.le hb121 k133
 refine wo_nil (tq_n (wk ⟨[(4,vP H106.next 0)],23,[],H132⟩ rfl ?_))
 refine w_seq (w_region (sv (v:=.func (.func 19) #[] #[vP H106.next 0]) rfl rfl rfl (opv_makeFunc (vs:=[]) (us:=[vP H106.next 0]) rfl (.func _) .nil (.cons rfl rfl neP .nil)) rfl ?_))
 refine mv (.func (.func 19) #[] #[vP H106.next 0]) rfl rfl ?_
 refine wo_nil (tq_n (wk ⟨[(3,.func (.func 19) #[] #[vP H106.next 0])],23,[],H132⟩ rfl ?_))
 refine w_ret ?_
 exact ⟨.inr rfl,rfl,[.func (.func 19) #[] #[vP H106.next 0]],.cons (resV_tmp rfl (by simp [undef])) .nil,KG.trans (KG.trans (KG.put (KG.new (KG.keep KG.refl k107) f111) f116 (by omega)) k124) k133,w129,HB.mono hb130 (by omega),H106.next,rl102,rfl,hv103.mono (((l113.trans l118).trans l126).trans l135),⟨KG.get k133 (KG.get k124 f116.blk (by omega) (by omega)) (by omega) (by omega),by (try dsimp only); omega,by (try dsimp only); omega⟩⟩

theorem top_wipeInt_vp_ok (n kk:Nat) (H:SH) (wt:WT H) (hpn:VP H n kk [.int .i64]):WC Try.prog 42 [.pointer (some ⟨n,kk,none⟩)] H (fun v H' => KW H H'∧WT H'∧Le H H'∧v=(.tuple #[])):=by
 refine wc_of_body Try.func42 rfl ?_
 refine wk ⟨[(0,.pointer (some ⟨n,kk,none⟩))],4,[],H⟩ rfl ?_
 refine w_region (mv (.pointer (some ⟨n,kk,none⟩)) rfl rfl ?_)
 refine sv (v:=.pointer (some ⟨n,kk,none⟩)) rfl rfl rfl (opv_nilCheck_ptr rfl rfl rfl) rfl ?_
 refine sv_storeP (H:=H) (u:=vI (-77)) (us:=[vI (-77)]) rfl rfl rfl rfl wt hpn rfl rfl rfl rfl rfl neI sz3 rfl rfl rfl rfl ⟨.int _ _,trivial⟩ ?_
 intro H101 w102 l103 k104 n105
 refine wo_nil ?_
 exact ⟨.inl rfl,rfl,[],.nil,KW.trans KW.refl k104,w102,l103,rfl⟩

theorem top_wipes_int_42_ok (as1:Value) (H:SH) (wt:WT H) (hvas1:VT H (.sl true [.int .i64]) as1):WC Try.prog 41 [as1,.func (.func 42) #[] #[]] H (fun v H' => KW H H'∧WT H'∧Le H H'∧v=(.tuple #[])):=by
 refine wc_of_body Try.func41 rfl ?_
 have hL:slen as1 ≤ 1073741824:=vt_lim hvas1
 refine wk ⟨[(0,as1),(1,.func (.func 42) #[] #[])],16,[],H⟩ rfl ?_
 refine w_seq (w_region (mv (vI 0) rfl rfl ?_))
 refine wo_nil (tq_n (wk ⟨[(0,as1),(1,.func (.func 42) #[] #[]),(4,vI 0)],16,[],H⟩ rfl ?_))
 refine w_block (w_loopS (fun m108 s109 => ∃ (x101:Int) (H102:SH),(0 ≤ x101)∧(x101 ≤ (slen as1:Int))∧KW H H102∧WT H102∧Le H H102∧m108=((slen as1:Int) - x101).toNat∧s109=⟨[(0,as1),(1,.func (.func 42) #[] #[]),(4,vI x101)],16,[],H102⟩) (n:=((slen as1:Int) - 0).toNat) ⟨⟨[(0,as1),(1,.func (.func 42) #[] #[]),(4,vI 0)],16,[],H⟩,subk rfl,0,H,by omega,by omega,KW.refl,wt,Le.refl _,rfl,rfl⟩ ?_)
 rintro m108 s109 ⟨x101,H102,i103,i104,k107,w105,l106,rfl,rfl⟩
 have n111:=KW.next k107
 refine w_seq (w_seq (w_region (mv (vI x101) rfl rfl ?_)))
 refine mv as1 rfl rfl ?_
 have c112:slen as1 ≤ 1073741824:=vt_lim (hvas1.mono l106)
 refine sv (v:=(vI (slen as1:Int))) rfl rfl rfl (t_len (hvas1.mono l106) rfl rfl rfl Try.underlying31) rfl ?_
 by_cases c113:x101 < (slen as1:Int)
 ·
  refine sv (v:=.bool true) rfl rfl rfl (opv_bin rfl rfl rfl rfl rfl (cmpT rfl c113)) rfl ?_
  refine wo_nil (tq_n (wk ⟨[(0,as1),(1,.func (.func 42) #[] #[]),(4,vI x101),(8,.bool true)],16,[],H102⟩ rfl ?_))
  refine w_cond (t:=true) rfl rfl (fun _ => ?_) (fun h => by cases h)
  refine w_skip (tq_n (wk ⟨[(0,as1),(1,.func (.func 42) #[] #[]),(4,vI x101)],16,[],H102⟩ rfl ?_))
  refine w_seq (w_block (w_region (mv (.func (.func 42) #[] #[]) rfl rfl ?_)))
  refine mv as1 rfl rfl ?_
  refine mv (vI x101) rfl rfl ?_
  refine sv (v:=.pointer (some ⟨snm as1,sof as1 + (x101).toNat * 1,none⟩)) rfl rfl rfl (t_index (z:=1) (hvas1.mono l106) rfl rfl rfl rfl rfl Try.underlying31 sz3 (by omega) (by omega)) rfl ?_
  refine sc_ (H:=H102) (vs:=[.pointer (some ⟨snm as1,sof as1 + (x101).toNat * 1,none⟩)]) (fv:=.func (.func 42) #[] #[]) rfl rfl rfl rfl rfl rfl (.cons rfl rfl (by simp [undef]) .nil) rfl ?_
  refine WV.mono (wv_f0 Try.call42 (top_wipeInt_vp_ok (snm as1) (sof as1 + (x101).toNat * 1) _ w105 (vp_el (hvas1.mono l106) (i:=Int.toNat x101) (by omega)))) ?_
  rintro v116 H117 ⟨k118,w114,l115,rfl⟩
  have n119:=KW.next k118
  refine wo_nil ?_
  try refine q_eq (e':=.normal) rfl ?_
  refine tqk ⟨[(0,as1),(1,.func (.func 42) #[] #[]),(4,vI x101)],16,[],H117⟩ rfl ?_
  refine w_region (mv (vI x101) rfl rfl ?_)
  refine sv_int rfl rfl rfl (opv_bin rfl rfl rfl rfl rfl rfl) ?_
  intro x122 h123
  try replace h123:x122=x101 + 1:=wr_ex h123 (by omega) (by omega)
  refine mv (vI x122) rfl rfl ?_
  refine wo_nil ?_
  refine tq_n ⟨((slen as1:Int) - x122).toNat,by omega,⟨[(0,as1),(1,.func (.func 42) #[] #[]),(4,vI x122)],16,[],H117⟩,subk rfl,x122,H117,by omega,by omega,KW.trans (KW.trans KW.refl k107) k118,w114,l106.trans l115,rfl,rfl⟩
 ·
  refine sv (v:=.bool false) rfl rfl rfl (opv_bin rfl rfl rfl rfl rfl (cmpF rfl c113)) rfl ?_
  refine wo_nil (tq_n (wk ⟨[(0,as1),(1,.func (.func 42) #[] #[]),(4,vI x101),(8,.bool false)],16,[],H102⟩ rfl ?_))
  refine w_cond (t:=false) rfl rfl (fun h => by cases h) (fun _ => ?_)
  refine w_exit (tq_e (tq_e ?_))
  try refine q_eq (e':=.normal) rfl ?_
  exact ⟨.inl rfl,rfl,[],.nil,KW.trans KW.refl k107,w105,l106,rfl⟩

theorem top_wipeInts_ok (p:Nat) (as124:Value) (H:SH) (wt:WT H) (hvas124:VT H (.sl true [.int .i64]) as124) (hkp:H.get p=some (.row #[as124] .raw)) (hlp:p < H.next):WC Try.prog 20 [vP p 0] H (fun v H' => KW H H'∧WT H'∧Le H H'∧v=(.tuple #[])):=by
 refine wc_of_body Try.func20 rfl ?_
 refine wk ⟨[(0,vP p 0)],6,[],H⟩ rfl ?_
 refine w_region (mv (vP p 0) rfl rfl ?_)
 refine sv (v:=vP p 0) rfl rfl rfl (opv_nilCheck_ptr rfl rfl rfl) rfl ?_
 refine sv (v:=as124) rfl rfl rfl (opv_loadE rfl rfl rfl ag31 sz31 hkp rfl (.inr rfl) rfl) rfl ?_
 refine sc_ (H:=H) (vs:=[as124,.func (.func 42) #[] #[]]) (fv:=.func (.func 41) #[] #[]) rfl rfl rfl rfl rfl rfl (.cons rfl rfl (vt_ne hvas124) (.cons rfl rfl (by simp [undef]) .nil)) rfl ?_
 refine WV.mono (wv_f0 Try.call41 (top_wipes_int_42_ok as124 _ wt hvas124)) ?_
 rintro v103 H104 ⟨k105,w101,l102,rfl⟩
 have n106:=KW.next k105
 refine wo_nil ?_
 exact ⟨.inl rfl,rfl,[],.nil,KW.trans KW.refl k105,w101,l102,rfl⟩

theorem top_w19_ok (p51:Nat) (a52:Value) (H:SH) (wt:WT H) (hva52:VT H (.sl true [.int .i64]) a52) (hkp51:H.get p51=some (.row #[a52] .raw)) (hlp51:p51 < H.next):WC Try.prog 19 [vP p51 0] H (fun v H' => KW H H'∧WT H'∧Le H H'∧v=(.tuple #[])):=by
 refine wc_of_body Try.func19 rfl ?_
 refine wk ⟨[(0,vP p51 0)],2,[],H⟩ rfl ?_
 refine w_region (sc_ (H:=H) (vs:=[vP p51 0]) (fv:=.func (.func 20) #[] #[]) rfl rfl rfl rfl rfl rfl (.cons rfl rfl neP .nil) rfl ?_)
 refine WV.mono (wv_f0 Try.call20 (top_wipeInts_ok p51 a52 _ wt hva52 hkp51 (by omega))) ?_
 rintro v103 H104 ⟨k105,w101,l102,rfl⟩
 have n106:=KW.next k105
 refine wo_nil ?_
 exact ⟨.inl rfl,rfl,[],.nil,KW.trans KW.refl k105,w101,l102,rfl⟩

theorem top_callw16 {old:Array Obj} (ax1 ax2:Int) (ax3 ax4:Int) (ax5 ax6 ax7:Int) (as8 as9 as10:Value) (ax11 ax12:Int) (ax13 ax14 ax15:Int) (hvas8:OT old.size old (.sl false [.int .i64,.int .i64]) as8) (hvas9:OT old.size old (.sl false [.str,.int .i64]) as9) (hvas10:OT old.size old (.sl false [.int .i64,.int .i64,.int .i64]) as10):CallW Try.prog 16 old #[vI ax1,vI ax2,vI ax3,vI ax4,vI ax5,vI ax6,vI ax7,as8,as9,as10,vI ax11,vI ax12,vI ax13,vI ax14,vI ax15]:=by
  refine callW (K:=0 + (1 * LIM + 2)) (by unfold LIM; omega) ((top_c16_ok old.size ax1 ax2 ax3 ax4 ax5 ax6 ax7 as8 as9 as10 ax11 ax12 ax13 ax14 ax15 (old.size + 1) 0 (A0 old _) a0_wt (.old hvas8) (.old hvas9) (.old hvas10) a0_x (by rw [a0_next]; omega) (by omega) a0_hb (by unfold LIM CAP; omega)).mono ?_)
  rintro v A1 ⟨kg,w,hb,p16,rs17,rfl,hrrs17,⟨hpp16,_,hlp16⟩⟩
  exact ⟨kg,hb,19,[vP p16 0],rfl,Try.call19,(top_w19_ok p16 rs17 (rowH A1) (rowH_wt w) (hrrs17.mono (rowH_le A1)) (rowH_row hpp16) (by rw [(rowH_sub A1).next]; exact hlp16)).mono fun _ _ h => h.1⟩

theorem top_c21_ok (n0:Nat) (ax1 ax2:Int) (ax3 ax4:Int) (ax5 ax6 ax7:Int) (as8 as9 as10:Value) (ax11 ax12:Int) (ax13 ax14 ax15:Int) (n1 k:Nat) (H:SH) (wt:WT H) (hvas8:VT H (.sl false [.int .i64,.int .i64]) as8) (hvas9:VT H (.sl false [.str,.int .i64]) as9) (hvas10:VT H (.sl false [.int .i64,.int .i64,.int .i64]) as10) (hkn0:H.get n0=some (.row #[vI ax1,vI ax2,vI ax3,vI ax4,vI ax5,vI ax6,vI ax7,as8,as9,as10,vI ax11,vI ax12,vI ax13,vI ax14,vI ax15] .raw)) (hln0:n0 < H.next) (hne:n0 ≠ n1) (hb:HB H n1 k) (hk:k + (0 * LIM + 2) ≤ CAP):WC Try.prog 21 [vP n1 0,vP n0 0] H (fun v H' => KG n1 H H'∧WT H'∧HB H' n1 (k + (0 * LIM + 2))∧v=(.func (.func 10) #[] #[])):=by
 have hlt:=hb.lt
 refine wc_of_body Try.func21 rfl ?_
 refine wk ⟨[(0,vP n1 0),(1,vP n0 0)],24,[],H⟩ rfl ?_
 refine w_seq (w_region (mv .nilFunc rfl rfl ?_))
 refine wo_nil (tq_n (wk ⟨[(0,vP n1 0),(1,vP n0 0)],24,[],H⟩ rfl ?_))
 refine w_seq (w_region (sv (v:=vP n0 0) rfl rfl rfl (opv_fieldAddrE rfl rfl rfl Try.underlying30 rfl sz27 (by decide) rfl) rfl ?_))
 refine sv (v:=.agg #[vI ax1,vI ax2,vI ax3,vI ax4,vI ax5,vI ax6,vI ax7,as8,as9]) rfl rfl rfl (opv_loadE rfl rfl rfl ag27 sz27 hkn0 rfl (.inl rfl) rfl) rfl ?_
 refine sv (v:=vP n0 11) rfl rfl rfl (opv_fieldAddrE rfl rfl rfl Try.underlying30 rfl sz3 (by decide) rfl) rfl ?_
 refine sv (v:=vI ax12) rfl rfl rfl (opv_loadE rfl rfl rfl ag3 sz3 hkn0 rfl (.inr rfl) rfl) rfl ?_
 refine sv (v:=vP n0 12) rfl rfl rfl (opv_fieldAddrE rfl rfl rfl Try.underlying30 rfl sz3 (by decide) rfl) rfl ?_
 refine sv (v:=vI ax13) rfl rfl rfl (opv_loadE rfl rfl rfl ag3 sz3 hkn0 rfl (.inr rfl) rfl) rfl ?_
 refine sv (v:=vP n0 10) rfl rfl rfl (opv_fieldAddrE rfl rfl rfl Try.underlying30 rfl sz3 (by decide) rfl) rfl ?_
 refine sv (v:=vI ax11) rfl rfl rfl (opv_loadE rfl rfl rfl ag3 sz3 hkn0 rfl (.inr rfl) rfl) rfl ?_
 refine sc_ (H:=H) (vs:=[.agg #[vI ax1,vI ax2,vI ax3,vI ax4,vI ax5,vI ax6,vI ax7,as8,as9],vI ax12,vI ax13,vI ax11]) (fv:=.func (.func 22) #[] #[]) rfl rfl rfl rfl rfl rfl (.cons rfl rfl (by simp [undef]) (.cons rfl rfl neI (.cons rfl rfl neI (.cons rfl rfl neI .nil)))) rfl ?_
 refine WV.mono (wv_f0 Try.call22 (gas_Holds ax1 ax2 ax3 ax4 ax5 ax6 ax7 as8 as9 ax12 ax13 ax11 _ wt hvas8 hvas9)) ?_
 rintro v104 H105 ⟨k106,w101,rx13102,rx14103,rfl⟩
 refine kpL k106 fun n108 l107 => ?_
 refine mv (.tuple #[vI rx13102,vI rx14103]) rfl rfl ?_
 refine sv (v:=vI rx13102) rfl rfl rfl (opv_extract rfl rfl rfl rfl) rfl ?_
 refine sv (v:=vI rx14103) rfl rfl rfl (opv_extract rfl rfl rfl rfl) rfl ?_
 refine mv (vI rx13102) rfl rfl ?_
 refine mv (vI rx14103) rfl rfl ?_
 refine wo_nil (tq_n (wk ⟨[(0,vP n1 0),(4,vI rx13102),(5,vI rx14103)],24,[],H105⟩ rfl ?_))
 refine w_seq (w_region (mv (vP n1 0) rfl rfl ?_))
 refine mv (vI rx13102) rfl rfl ?_
 refine sc_ (H:=H105) (vs:=[vP n1 0,vI rx13102]) (fv:=.func (.func 8) #[] #[]) rfl rfl rfl rfl rfl rfl (.cons rfl rfl neP (.cons rfl rfl neI .nil)) rfl ?_
 refine WV.mono (wv_f0 Try.call8 (top_putInt_ok rx13102 n1 _ _ w101 (HB.keep hb k106) (by omega))) ?_
 rintro v111 H112 ⟨k113,w109,hb110,rfl⟩
 have n114:=KG.next k113
 have l115:=HB.le (HB.keep hb k106) k113
 refine wo_nil (tq_n (wk ⟨[(0,vP n1 0),(5,vI rx14103)],24,[],H112⟩ rfl ?_))
 refine w_seq (w_region (mv (vP n1 0) rfl rfl ?_))
 refine mv (vI rx14103) rfl rfl ?_
 refine sc_ (H:=H112) (vs:=[vP n1 0,vI rx14103]) (fv:=.func (.func 9) #[] #[]) rfl rfl rfl rfl rfl rfl (.cons rfl rfl neP (.cons rfl rfl neI .nil)) rfl ?_
 refine WV.mono (wv_f0 Try.call9 (top_putErrno_ok rx14103 n1 _ _ w109 hb110 (by omega))) ?_
 rintro v120 H121 ⟨k122,w118,hb119,rfl⟩
 have n123:=KG.next k122
 have l124:=HB.le hb110 k122
 refine wo_nil (tq_n (wk ⟨[],24,[],H121⟩ rfl ?_))
 refine w_seq (w_region (mv (.func (.func 10) #[] #[]) rfl rfl ?_))
 refine wo_nil (tq_n (wk ⟨[(3,.func (.func 10) #[] #[])],24,[],H121⟩ rfl ?_))
 refine w_ret ?_
 exact ⟨.inr rfl,rfl,[.func (.func 10) #[] #[]],.cons (resV_tmp rfl (by simp [undef])) .nil,KG.trans (KG.trans (KG.keep KG.refl k106) k113) k122,w118,HB.mono hb119 (by omega),rfl⟩

theorem top_callw21 {old:Array Obj} (ax1 ax2:Int) (ax3 ax4:Int) (ax5 ax6 ax7:Int) (as8 as9 as10:Value) (ax11 ax12:Int) (ax13 ax14 ax15:Int) (hvas8:OT old.size old (.sl false [.int .i64,.int .i64]) as8) (hvas9:OT old.size old (.sl false [.str,.int .i64]) as9) (hvas10:OT old.size old (.sl false [.int .i64,.int .i64,.int .i64]) as10):CallW Try.prog 21 old #[vI ax1,vI ax2,vI ax3,vI ax4,vI ax5,vI ax6,vI ax7,as8,as9,as10,vI ax11,vI ax12,vI ax13,vI ax14,vI ax15]:=by
  refine callW (K:=0 + (0 * LIM + 2)) (by unfold LIM; omega) ((top_c21_ok old.size ax1 ax2 ax3 ax4 ax5 ax6 ax7 as8 as9 as10 ax11 ax12 ax13 ax14 ax15 (old.size + 1) 0 (A0 old _) a0_wt (.old hvas8) (.old hvas9) (.old hvas10) a0_x (by rw [a0_next]; omega) (by omega) a0_hb (by unfold LIM CAP; omega)).mono ?_)
  rintro v A1 ⟨kg,w,hb,rfl⟩
  exact ⟨kg,hb,10,[],rfl,Try.call10,(top_w10_ok  (rowH A1) (rowH_wt w)  ).mono fun _ _ h => h.1⟩

theorem top_c23_ok (n0:Nat) (ax1 ax2:Int) (ax3 ax4:Int) (ax5 ax6 ax7:Int) (as8 as9 as10:Value) (ax11 ax12:Int) (ax13 ax14 ax15:Int) (n1 k:Nat) (H:SH) (wt:WT H) (hvas8:VT H (.sl false [.int .i64,.int .i64]) as8) (hvas9:VT H (.sl false [.str,.int .i64]) as9) (hvas10:VT H (.sl false [.int .i64,.int .i64,.int .i64]) as10) (hkn0:H.get n0=some (.row #[vI ax1,vI ax2,vI ax3,vI ax4,vI ax5,vI ax6,vI ax7,as8,as9,as10,vI ax11,vI ax12,vI ax13,vI ax14,vI ax15] .raw)) (hln0:n0 < H.next) (hne:n0 ≠ n1) (hb:HB H n1 k) (hk:k + (1 * LIM + 2) ≤ CAP):WC Try.prog 23 [vP n1 0,vP n0 0] H (fun v H' => KG n1 H H'∧WT H'∧HB H' n1 (k + (1 * LIM + 2))∧∃ (p16:Nat) (rs17:Value),v=(.func (.func 25) #[] #[vP p16 0])∧VT H' (.sl true [.int .i64]) rs17∧(H'.get p16=some (.row #[rs17] .raw)∧H.next ≤ p16∧p16 < H'.next)):=by
 have hlt:=hb.lt
 refine wc_of_body Try.func23 rfl ?_
 refine wk ⟨[(0,vP n1 0),(1,vP n0 0)],27,[],H⟩ rfl ?_
 refine w_seq (w_region (mv .nilFunc rfl rfl ?_))
 refine wo_nil (tq_n (wk ⟨[(0,vP n1 0),(1,vP n0 0)],27,[],H⟩ rfl ?_))
 refine w_seq (w_region (sv (v:=vP n0 0) rfl rfl rfl (opv_fieldAddrE rfl rfl rfl Try.underlying30 rfl sz27 (by decide) rfl) rfl ?_))
 refine sv (v:=.agg #[vI ax1,vI ax2,vI ax3,vI ax4,vI ax5,vI ax6,vI ax7,as8,as9]) rfl rfl rfl (opv_loadE rfl rfl rfl ag27 sz27 hkn0 rfl (.inl rfl) rfl) rfl ?_
 refine sv (v:=vP n0 11) rfl rfl rfl (opv_fieldAddrE rfl rfl rfl Try.underlying30 rfl sz3 (by decide) rfl) rfl ?_
 refine sv (v:=vI ax12) rfl rfl rfl (opv_loadE rfl rfl rfl ag3 sz3 hkn0 rfl (.inr rfl) rfl) rfl ?_
 refine sv (v:=vP n0 12) rfl rfl rfl (opv_fieldAddrE rfl rfl rfl Try.underlying30 rfl sz3 (by decide) rfl) rfl ?_
 refine sv (v:=vI ax13) rfl rfl rfl (opv_loadE rfl rfl rfl ag3 sz3 hkn0 rfl (.inr rfl) rfl) rfl ?_
 refine sv (v:=vP n0 13) rfl rfl rfl (opv_fieldAddrE rfl rfl rfl Try.underlying30 rfl sz3 (by decide) rfl) rfl ?_
 refine sv (v:=vI ax14) rfl rfl rfl (opv_loadE rfl rfl rfl ag3 sz3 hkn0 rfl (.inr rfl) rfl) rfl ?_
 refine sv (v:=vP n0 14) rfl rfl rfl (opv_fieldAddrE rfl rfl rfl Try.underlying30 rfl sz3 (by decide) rfl) rfl ?_
 refine sv (v:=vI ax15) rfl rfl rfl (opv_loadE rfl rfl rfl ag3 sz3 hkn0 rfl (.inr rfl) rfl) rfl ?_
 refine sc_ (H:=H) (vs:=[.agg #[vI ax1,vI ax2,vI ax3,vI ax4,vI ax5,vI ax6,vI ax7,as8,as9],vI ax12,vI ax13,vI ax14,vI ax15]) (fv:=.func (.func 24) #[] #[]) rfl rfl rfl rfl rfl rfl (.cons rfl rfl (by simp [undef]) (.cons rfl rfl neI (.cons rfl rfl neI (.cons rfl rfl neI (.cons rfl rfl neI .nil))))) rfl ?_
 refine WV.mono (wv_f0 Try.call24 (gas_Fewest ax1 ax2 ax3 ax4 ax5 ax6 ax7 as8 as9 ax12 ax13 ax14 ax15 _ wt hvas8 hvas9)) ?_
 rintro v105 H106 ⟨k107,w101,rl102,hv103,rx15104,rfl⟩
 have n108:=k107.next
 have l109:=k107.le
 refine mv (.tuple #[rl102,vI rx15104]) rfl rfl ?_
 refine sv (v:=rl102) rfl rfl rfl (opv_extract rfl rfl rfl rfl) rfl ?_
 refine sv (v:=vI rx15104) rfl rfl rfl (opv_extract rfl rfl rfl rfl) rfl ?_
 refine sv_new (H:=H106) (v:=vP H106.next 0) (x:=.row #[.slice none 0 0] .raw) rfl rfl rfl rfl (opv_alloc rfl ze31 rfl) ?_
 intro H110 f111
 refine newL w101 f111 fun n114 w112 l113 => ?_
 refine sv_put (H:=H110) (n:=H106.next) (v:=undef) (x:=some (.row #[rl102] .raw)) rfl rfl rfl rfl (opv_storeC (u:=rl102) rfl rfl rfl rfl rfl (vt_ne (hv103.mono l113)) sz31 (vt_cells (hv103.mono l113)) rfl (leafs_one (vt_cells (hv103.mono l113)) (vt_one (hv103.mono l113))) f111.blk rfl rfl) ?_
 intro H115 f116
 refine putL w112 f116 f111.blk fun n119 w117 l118 => ?_
 refine mv (vI rx15104) rfl rfl ?_
 refine wo_nil (tq_n (wk ⟨[(0,vP n1 0),(4,vP H106.next 0),(5,vI rx15104)],27,[],H115⟩ rfl ?_))
 refine w_seq (w_region (mv (vP n1 0) rfl rfl ?_))
 refine sv (v:=rl102) rfl rfl rfl (opv_loadE rfl rfl rfl ag31 sz31 f116.blk rfl (.inr rfl) rfl) rfl ?_
 refine sc_ (H:=H115) (vs:=[vP n1 0,rl102]) (fv:=.func (.func 18) #[] #[]) rfl rfl rfl rfl rfl rfl (.cons rfl rfl neP (.cons rfl rfl (vt_ne (hv103.mono (l113.trans l118))) .nil)) rfl ?_
 refine WV.mono (wv_f0 Try.call18 (top_putInts_ok rl102 n1 _ _ w117 (vt_ro (hv103.mono (l113.trans l118))) (HB.put (HB.new (HB.keep hb k107) f111) f116 f111.blk (by simp) (by omega)) (by omega))) ?_
 rintro v122 H123 ⟨k124,w120,hb121,rfl⟩
 have n125:=KG.next k124
 have l126:=HB.le (HB.put (HB.new (HB.keep hb k107) f111) f116 f111.blk (by simp) (by omega)) k124
 refine wo_nil (tq_n (wk ⟨[(0,vP n1 0),(4,vP H106.next 0),(5,vI rx15104)],27,[],H123⟩ rfl ?_))
 refine w_seq (w_region (mv (vP n1 0) rfl rfl ?_))
 refine mv (vI rx15104) rfl rfl ?_
 refine sc_ (H:=H123) (vs:=[vP n1 0,vI rx15104]) (fv:=.func (.func 9) #[] #[]) rfl rfl rfl rfl rfl rfl (.cons rfl rfl neP (.cons rfl rfl neI .nil)) rfl ?_
 refine WV.mono (wv_f0 Try.call9 (top_putErrno_ok rx15104 n1 _ _ w120 hb121 (by omega))) ?_
 rintro v131 H132 ⟨k133,w129,hb130,rfl⟩
 have n134:=KG.next k133
 have l135:=HB.le hb121 k133
 refine wo_nil (tq_n (wk ⟨[(4,vP H106.next 0)],27,[],H132⟩ rfl ?_))
 refine w_seq (w_region (sv (v:=.func (.func 25) #[] #[vP H106.next 0]) rfl rfl rfl (opv_makeFunc (vs:=[]) (us:=[vP H106.next 0]) rfl (.func _) .nil (.cons rfl rfl neP .nil)) rfl ?_))
 refine mv (.func (.func 25) #[] #[vP H106.next 0]) rfl rfl ?_
 refine wo_nil (tq_n (wk ⟨[(3,.func (.func 25) #[] #[vP H106.next 0])],27,[],H132⟩ rfl ?_))
 refine w_ret ?_
 exact ⟨.inr rfl,rfl,[.func (.func 25) #[] #[vP H106.next 0]],.cons (resV_tmp rfl (by simp [undef])) .nil,KG.trans (KG.trans (KG.put (KG.new (KG.keep KG.refl k107) f111) f116 (by omega)) k124) k133,w129,HB.mono hb130 (by omega),H106.next,rl102,rfl,hv103.mono (((l113.trans l118).trans l126).trans l135),⟨KG.get k133 (KG.get k124 f116.blk (by omega) (by omega)) (by omega) (by omega),by (try dsimp only); omega,by (try dsimp only); omega⟩⟩

theorem top_w25_ok (p51:Nat) (a52:Value) (H:SH) (wt:WT H) (hva52:VT H (.sl true [.int .i64]) a52) (hkp51:H.get p51=some (.row #[a52] .raw)) (hlp51:p51 < H.next):WC Try.prog 25 [vP p51 0] H (fun v H' => KW H H'∧WT H'∧Le H H'∧v=(.tuple #[])):=by
 refine wc_of_body Try.func25 rfl ?_
 refine wk ⟨[(0,vP p51 0)],2,[],H⟩ rfl ?_
 refine w_region (sc_ (H:=H) (vs:=[vP p51 0]) (fv:=.func (.func 20) #[] #[]) rfl rfl rfl rfl rfl rfl (.cons rfl rfl neP .nil) rfl ?_)
 refine WV.mono (wv_f0 Try.call20 (top_wipeInts_ok p51 a52 _ wt hva52 hkp51 (by omega))) ?_
 rintro v103 H104 ⟨k105,w101,l102,rfl⟩
 have n106:=KW.next k105
 refine wo_nil ?_
 exact ⟨.inl rfl,rfl,[],.nil,KW.trans KW.refl k105,w101,l102,rfl⟩

theorem top_callw23 {old:Array Obj} (ax1 ax2:Int) (ax3 ax4:Int) (ax5 ax6 ax7:Int) (as8 as9 as10:Value) (ax11 ax12:Int) (ax13 ax14 ax15:Int) (hvas8:OT old.size old (.sl false [.int .i64,.int .i64]) as8) (hvas9:OT old.size old (.sl false [.str,.int .i64]) as9) (hvas10:OT old.size old (.sl false [.int .i64,.int .i64,.int .i64]) as10):CallW Try.prog 23 old #[vI ax1,vI ax2,vI ax3,vI ax4,vI ax5,vI ax6,vI ax7,as8,as9,as10,vI ax11,vI ax12,vI ax13,vI ax14,vI ax15]:=by
  refine callW (K:=0 + (1 * LIM + 2)) (by unfold LIM; omega) ((top_c23_ok old.size ax1 ax2 ax3 ax4 ax5 ax6 ax7 as8 as9 as10 ax11 ax12 ax13 ax14 ax15 (old.size + 1) 0 (A0 old _) a0_wt (.old hvas8) (.old hvas9) (.old hvas10) a0_x (by rw [a0_next]; omega) (by omega) a0_hb (by unfold LIM CAP; omega)).mono ?_)
  rintro v A1 ⟨kg,w,hb,p16,rs17,rfl,hrrs17,⟨hpp16,_,hlp16⟩⟩
  exact ⟨kg,hb,25,[vP p16 0],rfl,Try.call25,(top_w25_ok p16 rs17 (rowH A1) (rowH_wt w) (hrrs17.mono (rowH_le A1)) (rowH_row hpp16) (by rw [(rowH_sub A1).next]; exact hlp16)).mono fun _ _ h => h.1⟩

theorem top_all_ok (ax1 ax2:Int) (ax3 ax4:Int) (ax5 ax6 ax7:Int) (as8 as9 as10:Value) (ax11 ax12:Int) (ax13 ax14 ax15:Int) (n1 k:Nat) (H:SH) (wt:WT H) (hvas8:VT H (.sl false [.int .i64,.int .i64]) as8) (hvas9:VT H (.sl false [.str,.int .i64]) as9) (hvas10:VT H (.sl false [.int .i64,.int .i64,.int .i64]) as10) (hb:HB H n1 k) (hk:k + (7 * LIM + 15) ≤ CAP):WC Try.prog 4 [.agg #[vI ax1,vI ax2,vI ax3,vI ax4,vI ax5,vI ax6,vI ax7,as8,as9,as10,vI ax11,vI ax12,vI ax13,vI ax14,vI ax15],vP n1 0] H (fun v H' => KG n1 H H'∧WT H'∧HB H' n1 (k + (7 * LIM + 15))∧v=(.tuple #[])):=by
 have hlt:=hb.lt
 refine wc_of_body Try.func4 rfl ?_
 refine wk ⟨[(0,.agg #[vI ax1,vI ax2,vI ax3,vI ax4,vI ax5,vI ax6,vI ax7,as8,as9,as10,vI ax11,vI ax12,vI ax13,vI ax14,vI ax15]),(1,vP n1 0)],32,[],H⟩ rfl ?_
 refine w_seq (w_region (sv_new (H:=H) (v:=vP H.next 0) (x:=.row #[vI ax1,vI ax2,vI ax3,vI ax4,vI ax5,vI ax6,vI ax7,as8,as9,as10,vI ax11,vI ax12,vI ax13,vI ax14,vI ax15] .raw) rfl rfl rfl rfl (opv_boxE (v:=.agg #[vI ax1,vI ax2,vI ax3,vI ax4,vI ax5,vI ax6,vI ax7,as8,as9,as10,vI ax11,vI ax12,vI ax13,vI ax14,vI ax15]) rfl rfl rfl (by simp [undef]) rfl) ?_))
 intro H101 f102
 refine newL wt f102 fun n105 w103 l104 => ?_
 refine wo_nil (tq_n (wk ⟨[(1,vP n1 0),(2,vP H.next 0)],32,[],H101⟩ rfl ?_))
 refine w_seq (w_region (mv (vP n1 0) rfl rfl ?_))
 refine sv (v:=vP H.next 0) rfl rfl rfl (opv_fieldAddrE rfl rfl rfl Try.underlying30 rfl sz27 (by decide) rfl) rfl ?_
 refine sv (v:=.agg #[vI ax1,vI ax2,vI ax3,vI ax4,vI ax5,vI ax6,vI ax7,as8,as9]) rfl rfl rfl (opv_loadE rfl rfl rfl ag27 sz27 f102.blk rfl (.inl rfl) rfl) rfl ?_
 refine sc_ (H:=H101) (vs:=[vP n1 0,.agg #[vI ax1,vI ax2,vI ax3,vI ax4,vI ax5,vI ax6,vI ax7,as8,as9]]) (fv:=.func (.func 28) #[] #[]) rfl rfl rfl rfl rfl rfl (.cons rfl rfl neP (.cons rfl rfl (by simp [undef]) .nil)) rfl ?_
 refine WV.mono (wv_f0 Try.call28 (top_putGsSpace_ok ax1 ax2 ax3 ax4 ax5 ax6 ax7 as8 as9 n1 _ _ w103 (hvas8.mono l104) (hvas9.mono l104) (HB.new hb f102) (by omega))) ?_
 rintro v108 H109 ⟨k110,w106,hb107,rfl⟩
 have n111:=KG.next k110
 have l112:=HB.le (HB.new hb f102) k110
 refine wo_nil (tq_n (wk ⟨[(1,vP n1 0),(2,vP H.next 0)],32,[],H109⟩ rfl ?_))
 refine w_seq (w_region (mv (vP n1 0) rfl rfl ?_))
 refine sv (v:=vP H.next 9) rfl rfl rfl (opv_fieldAddrE rfl rfl rfl Try.underlying30 rfl sz28 (by decide) rfl) rfl ?_
 refine sv (v:=as10) rfl rfl rfl (opv_loadE rfl rfl rfl ag28 sz28 (KG.get k110 f102.blk (by omega) (by omega)) rfl (.inr rfl) rfl) rfl ?_
 refine sc_ (H:=H109) (vs:=[vP n1 0,as10]) (fv:=.func (.func 29) #[] #[]) rfl rfl rfl rfl rfl rfl (.cons rfl rfl neP (.cons rfl rfl (vt_ne (hvas10.mono (l104.trans l112))) .nil)) rfl ?_
 refine WV.mono (wv_f0 Try.call29 (top_putGsReadings_ok as10 n1 _ _ w106 (hvas10.mono (l104.trans l112)) hb107 (by omega))) ?_
 rintro v117 H118 ⟨k119,w115,hb116,rfl⟩
 have n120:=KG.next k119
 have l121:=HB.le hb107 k119
 refine wo_nil (tq_n (wk ⟨[(1,vP n1 0),(2,vP H.next 0)],32,[],H118⟩ rfl ?_))
 refine w_seq (w_region (mv (vP n1 0) rfl rfl ?_))
 refine sv (v:=vP H.next 10) rfl rfl rfl (opv_fieldAddrE rfl rfl rfl Try.underlying30 rfl sz3 (by decide) rfl) rfl ?_
 refine sv (v:=vI ax11) rfl rfl rfl (opv_loadE rfl rfl rfl ag3 sz3 (KG.get k119 (KG.get k110 f102.blk (by omega) (by omega)) (by omega) (by omega)) rfl (.inr rfl) rfl) rfl ?_
 refine sc_ (H:=H118) (vs:=[vP n1 0,vI ax11]) (fv:=.func (.func 8) #[] #[]) rfl rfl rfl rfl rfl rfl (.cons rfl rfl neP (.cons rfl rfl neI .nil)) rfl ?_
 refine WV.mono (wv_f0 Try.call8 (top_putInt_ok ax11 n1 _ _ w115 hb116 (by omega))) ?_
 rintro v126 H127 ⟨k128,w124,hb125,rfl⟩
 have n129:=KG.next k128
 have l130:=HB.le hb116 k128
 refine wo_nil (tq_n (wk ⟨[(1,vP n1 0),(2,vP H.next 0)],32,[],H127⟩ rfl ?_))
 refine w_seq (w_region (mv (vP n1 0) rfl rfl ?_))
 refine sv (v:=vP H.next 11) rfl rfl rfl (opv_fieldAddrE rfl rfl rfl Try.underlying30 rfl sz3 (by decide) rfl) rfl ?_
 refine sv (v:=vI ax12) rfl rfl rfl (opv_loadE rfl rfl rfl ag3 sz3 (KG.get k128 (KG.get k119 (KG.get k110 f102.blk (by omega) (by omega)) (by omega) (by omega)) (by omega) (by omega)) rfl (.inr rfl) rfl) rfl ?_
 refine sc_ (H:=H127) (vs:=[vP n1 0,vI ax12]) (fv:=.func (.func 8) #[] #[]) rfl rfl rfl rfl rfl rfl (.cons rfl rfl neP (.cons rfl rfl neI .nil)) rfl ?_
 refine WV.mono (wv_f0 Try.call8 (top_putInt_ok ax12 n1 _ _ w124 hb125 (by omega))) ?_
 rintro v135 H136 ⟨k137,w133,hb134,rfl⟩
 have n138:=KG.next k137
 have l139:=HB.le hb125 k137
 refine wo_nil (tq_n (wk ⟨[(1,vP n1 0),(2,vP H.next 0)],32,[],H136⟩ rfl ?_))
 refine w_seq (w_region (mv (vP n1 0) rfl rfl ?_))
 refine sv (v:=vP H.next 12) rfl rfl rfl (opv_fieldAddrE rfl rfl rfl Try.underlying30 rfl sz3 (by decide) rfl) rfl ?_
 refine sv (v:=vI ax13) rfl rfl rfl (opv_loadE rfl rfl rfl ag3 sz3 (KG.get k137 (KG.get k128 (KG.get k119 (KG.get k110 f102.blk (by omega) (by omega)) (by omega) (by omega)) (by omega) (by omega)) (by omega) (by omega)) rfl (.inr rfl) rfl) rfl ?_
 refine sc_ (H:=H136) (vs:=[vP n1 0,vI ax13]) (fv:=.func (.func 8) #[] #[]) rfl rfl rfl rfl rfl rfl (.cons rfl rfl neP (.cons rfl rfl neI .nil)) rfl ?_
 refine WV.mono (wv_f0 Try.call8 (top_putInt_ok ax13 n1 _ _ w133 hb134 (by omega))) ?_
 rintro v144 H145 ⟨k146,w142,hb143,rfl⟩
 have n147:=KG.next k146
 have l148:=HB.le hb134 k146
 refine wo_nil (tq_n (wk ⟨[(1,vP n1 0),(2,vP H.next 0)],32,[],H145⟩ rfl ?_))
 refine w_seq (w_region (mv (vP n1 0) rfl rfl ?_))
 refine sv (v:=vP H.next 13) rfl rfl rfl (opv_fieldAddrE rfl rfl rfl Try.underlying30 rfl sz3 (by decide) rfl) rfl ?_
 refine sv (v:=vI ax14) rfl rfl rfl (opv_loadE rfl rfl rfl ag3 sz3 (KG.get k146 (KG.get k137 (KG.get k128 (KG.get k119 (KG.get k110 f102.blk (by omega) (by omega)) (by omega) (by omega)) (by omega) (by omega)) (by omega) (by omega)) (by omega) (by omega)) rfl (.inr rfl) rfl) rfl ?_
 refine sc_ (H:=H145) (vs:=[vP n1 0,vI ax14]) (fv:=.func (.func 8) #[] #[]) rfl rfl rfl rfl rfl rfl (.cons rfl rfl neP (.cons rfl rfl neI .nil)) rfl ?_
 refine WV.mono (wv_f0 Try.call8 (top_putInt_ok ax14 n1 _ _ w142 hb143 (by omega))) ?_
 rintro v153 H154 ⟨k155,w151,hb152,rfl⟩
 have n156:=KG.next k155
 have l157:=HB.le hb143 k155
 refine wo_nil (tq_n (wk ⟨[(1,vP n1 0),(2,vP H.next 0)],32,[],H154⟩ rfl ?_))
 refine w_region (mv (vP n1 0) rfl rfl ?_)
 refine sv (v:=vP H.next 14) rfl rfl rfl (opv_fieldAddrE rfl rfl rfl Try.underlying30 rfl sz3 (by decide) rfl) rfl ?_
 refine sv (v:=vI ax15) rfl rfl rfl (opv_loadE rfl rfl rfl ag3 sz3 (KG.get k155 (KG.get k146 (KG.get k137 (KG.get k128 (KG.get k119 (KG.get k110 f102.blk (by omega) (by omega)) (by omega) (by omega)) (by omega) (by omega)) (by omega) (by omega)) (by omega) (by omega)) (by omega) (by omega)) rfl (.inr rfl) rfl) rfl ?_
 refine sc_ (H:=H154) (vs:=[vP n1 0,vI ax15]) (fv:=.func (.func 8) #[] #[]) rfl rfl rfl rfl rfl rfl (.cons rfl rfl neP (.cons rfl rfl neI .nil)) rfl ?_
 refine WV.mono (wv_f0 Try.call8 (top_putInt_ok ax15 n1 _ _ w151 hb152 (by omega))) ?_
 rintro v162 H163 ⟨k164,w160,hb161,rfl⟩
 have n165:=KG.next k164
 have l166:=HB.le hb152 k164
 refine wo_nil ?_
 exact ⟨.inl rfl,rfl,[],.nil,KG.trans (KG.trans (KG.trans (KG.trans (KG.trans (KG.trans (KG.trans (KG.new KG.refl f102) k110) k119) k128) k137) k146) k155) k164,w160,HB.mono hb161 (by omega),rfl⟩

theorem top_allw {old:Array Obj} (ax1 ax2:Int) (ax3 ax4:Int) (ax5 ax6 ax7:Int) (as8 as9 as10:Value) (ax11 ax12:Int) (ax13 ax14 ax15:Int) (hvas8:OT old.size old (.sl false [.int .i64,.int .i64]) as8) (hvas9:OT old.size old (.sl false [.str,.int .i64]) as9) (hvas10:OT old.size old (.sl false [.int .i64,.int .i64,.int .i64]) as10):AllW Try.prog 4 old #[vI ax1,vI ax2,vI ax3,vI ax4,vI ax5,vI ax6,vI ax7,as8,as9,as10,vI ax11,vI ax12,vI ax13,vI ax14,vI ax15]:=by
  exact allW (K:=0 + (7 * LIM + 15)) (by unfold LIM; omega) ((top_all_ok ax1 ax2 ax3 ax4 ax5 ax6 ax7 as8 as9 as10 ax11 ax12 ax13 ax14 ax15 (old.size + 1) 0 (A0 old _) a0_wt (.old hvas8) (.old hvas9) (.old hvas10) a0_hb (by unfold LIM CAP; omega)).mono fun _ _ h => ⟨h.1,h.2.2.1⟩)
end Go.Proofs.Orl
