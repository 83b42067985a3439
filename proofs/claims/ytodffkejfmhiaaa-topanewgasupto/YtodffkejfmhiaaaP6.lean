/- Part 6 of the proof of TopAnewGas: every call of the package puts the same twice, and changes no argument. Conditions: those of the statement, and no others. -/
import Derived.Test.YtodffkejfmhiaaaP5
import Derived.Test.YtodffkejfmhiaaaP1
import Derived.Test.YtodffkejfmhiaaaP2
import Derived.Test.YtodffkejfmhiaaaRows
import Derived.WalkKit
import Derived.ProofKit
import Derived.OpenShut
import Derived.JoinedCond
namespace Go.Proofs.Orl
open Go Go.MapKept
set_option maxRecDepth 10000
set_option maxHeartbeats 4000000
theorem ag34:aggT Try.prog 34=some true:=by kernel_rfl
theorem sz34:szT Try.prog 34=some 2:=by kernel_rfl
theorem ze34:zeroT Try.prog 34=some (.agg #[.slice none 0 0,.slice none 0 0]):=by kernel_rfl
theorem top_same_ok (s1 s2:Value) (t1 t2:Value) (c1:Array Value) (c2:Array Value) (H:SH) (wt:WT H) (hcs1:CV H false s1 c1) (hcs2:CV H true s2 c2) (hct1:CV H false t1 c1) (hct2:CV H true t2 c2):WC Try.prog 26 [.agg #[s1,s2],.agg #[t1,t2]] H (fun v H' => Keep H H'∧WT H'∧v=(.bool true)):=by
 refine wc_of_body Try.func26 rfl ?_
 have hsz1:=hcs1.1.1
 have hsz2:=hcs2.1.1
 refine wk ⟨[(0,.agg #[s1,s2]),(1,.agg #[t1,t2])],59,[],H⟩ rfl ?_
 refine w_seq (w_region (sv_new (H:=H) (v:=vP H.next 0) (x:=.row #[s1,s2] .raw) rfl rfl rfl rfl (opv_boxE (v:=.agg #[s1,s2]) rfl rfl rfl (by simp [undef]) rfl) ?_))
 intro H101 f102
 refine newL wt f102 fun n105 w103 l104 => ?_
 refine sv_new (H:=H101) (v:=vP H101.next 0) (x:=.row #[t1,t2] .raw) rfl rfl rfl rfl (opv_boxE (v:=.agg #[t1,t2]) rfl rfl rfl (by simp [undef]) rfl) ?_
 intro H106 f107
 refine newL w103 f107 fun n110 w108 l109 => ?_
 refine mv (.bool false) rfl rfl ?_
 refine wo_nil (tq_n (wk ⟨[(2,vP H.next 0),(3,vP H101.next 0)],59,[],H106⟩ rfl ?_))
 refine w_seq (w_seq (w_region (sv (v:=vP H.next 0) rfl rfl rfl (opv_fieldAddrE rfl rfl rfl Try.underlying34 rfl sz31 (by decide) rfl) rfl ?_)))
 refine sv (v:=s1) rfl rfl rfl (opv_loadE rfl rfl rfl ag31 sz31 ((f107.get H.next (by omega)).trans f102.blk) rfl (.inr rfl) rfl) rfl ?_
 refine sv (v:=(vI (c1.size:Int))) rfl rfl rfl (cv_len (CV.keep hcs1 (f102.keep.trans f107.keep)) rfl rfl rfl Try.underlying31) rfl ?_
 refine sv (v:=vP H101.next 0) rfl rfl rfl (opv_fieldAddrE rfl rfl rfl Try.underlying34 rfl sz31 (by decide) rfl) rfl ?_
 refine sv (v:=t1) rfl rfl rfl (opv_loadE rfl rfl rfl ag31 sz31 f107.blk rfl (.inr rfl) rfl) rfl ?_
 refine sv (v:=(vI (c1.size:Int))) rfl rfl rfl (cv_len (CV.keep hct1 (f102.keep.trans f107.keep)) rfl rfl rfl Try.underlying31) rfl ?_
 refine sv (v:=.bool false) rfl rfl rfl (opv_bin rfl rfl rfl rfl rfl (neF rfl)) rfl ?_
 refine mv (.bool false) rfl rfl ?_
 refine sv (v:=vP H.next 1) rfl (wants_g rfl rfl rfl rfl rfl) rfl (opv_fieldAddrE rfl rfl rfl Try.underlying34 rfl sz32 (by decide) rfl) rfl ?_
 refine sv (v:=s2) rfl (wants_g rfl rfl rfl rfl rfl) rfl (opv_loadE rfl rfl rfl ag32 sz32 ((f107.get H.next (by omega)).trans f102.blk) rfl (.inr rfl) rfl) rfl ?_
 refine sv (v:=(vI (c2.size:Int))) rfl (wants_g rfl rfl rfl rfl rfl) rfl (cv_len (CV.keep hcs2 (f102.keep.trans f107.keep)) rfl rfl rfl Try.underlying32) rfl ?_
 refine sv (v:=vP H101.next 1) rfl (wants_g rfl rfl rfl rfl rfl) rfl (opv_fieldAddrE rfl rfl rfl Try.underlying34 rfl sz32 (by decide) rfl) rfl ?_
 refine sv (v:=t2) rfl (wants_g rfl rfl rfl rfl rfl) rfl (opv_loadE rfl rfl rfl ag32 sz32 f107.blk rfl (.inr rfl) rfl) rfl ?_
 refine sv (v:=(vI (c2.size:Int))) rfl (wants_g rfl rfl rfl rfl rfl) rfl (cv_len (CV.keep hct2 (f102.keep.trans f107.keep)) rfl rfl rfl Try.underlying32) rfl ?_
 refine sv (v:=.bool false) rfl (wants_g rfl rfl rfl rfl rfl) rfl (opv_bin rfl rfl rfl rfl rfl (neF rfl)) rfl ?_
 refine sv (v:=.bool false) rfl rfl rfl (opv_pick (b:=false) rfl rfl rfl rfl rfl rfl) rfl ?_
 refine wo_nil (tq_n (wk ⟨[(2,vP H.next 0),(3,vP H101.next 0),(22,.bool false)],59,[],H106⟩ rfl ?_))
 refine w_cond (t:=false) rfl rfl (fun h => by cases h) (fun _ => ?_)
 refine w_skip (tq_n (wk ⟨[(2,vP H.next 0),(3,vP H101.next 0)],59,[],H106⟩ rfl ?_))
 refine w_seq (w_seq (w_region (mv (vI 0) rfl rfl ?_)))
 refine wo_nil (tq_n (wk ⟨[(2,vP H.next 0),(3,vP H101.next 0),(5,vI 0)],59,[],H106⟩ rfl ?_))
 refine w_block (w_loopS (fun m118 s119 => ∃ (x111:Int) (H112:SH),(0 ≤ x111)∧(x111 ≤ (c1.size:Int))∧WT H112∧Le H106 H112∧KeepX (fun _ => False) H106 H112∧m118=((c1.size:Int) - x111).toNat∧s119=⟨[(2,vP H.next 0),(3,vP H101.next 0),(5,vI x111)],59,[],H112⟩) (n:=((c1.size:Int) - 0).toNat) ⟨⟨[(2,vP H.next 0),(3,vP H101.next 0),(5,vI 0)],59,[],H106⟩,subk rfl,0,H106,by omega,by omega,w108,Le.refl _,KeepX.refl (fun _ => False) H106,rfl,rfl⟩ ?_)
 rintro m118 s119 ⟨x111,H112,i113,i114,w115,l116,k117,rfl,rfl⟩
 have n120:=k117.next
 refine w_seq (w_seq (w_region (mv (vI x111) rfl rfl ?_)))
 refine sv (v:=vP H.next 0) rfl rfl rfl (opv_fieldAddrE rfl rfl rfl Try.underlying34 rfl sz31 (by decide) rfl) rfl ?_
 refine sv (v:=s1) rfl rfl rfl (opv_loadE rfl rfl rfl ag31 sz31 ((k117.get H.next (by omega) id).trans ((f107.get H.next (by omega)).trans f102.blk)) rfl (.inr rfl) rfl) rfl ?_
 refine sv (v:=(vI (c1.size:Int))) rfl rfl rfl (cv_len (CV.keep hcs1 (((((KeepX.refl (fun _ => False) H).new_ f102).new_ f107).trans k117 (fun _ h => h.elim)).k (fun _ h => h.elim))) rfl rfl rfl Try.underlying31) rfl ?_
 by_cases c121:x111 < (c1.size:Int)
 ·
  refine sv (v:=.bool true) rfl rfl rfl (opv_bin rfl rfl rfl rfl rfl (cmpT rfl c121)) rfl ?_
  refine wo_nil (tq_n (wk ⟨[(2,vP H.next 0),(3,vP H101.next 0),(5,vI x111),(27,.bool true)],59,[],H112⟩ rfl ?_))
  refine w_cond (t:=true) rfl rfl (fun _ => ?_) (fun h => by cases h)
  refine w_skip (tq_n (wk ⟨[(2,vP H.next 0),(3,vP H101.next 0),(5,vI x111)],59,[],H112⟩ rfl ?_))
  refine w_seq (w_block (w_seq (w_draw_start ?_)))
  intro C0
  have C122:=ch_val (i:=0) (p:=0) (ks:=[2]) (v:=vP H.next 0) (A:=H112) (H:=H112) C0 rfl rfl rfl rfl rfl rfl (opv_fieldAddrE rfl rfl rfl Try.underlying34 rfl sz31 (by decide) rfl)
  have C123:=ch_val (i:=1) (p:=0) (ks:=[30]) (v:=s1) (A:=H112) (H:=H112) C122 rfl rfl rfl rfl rfl rfl (opv_loadE rfl rfl rfl ag31 sz31 ((k117.get H.next (by omega) id).trans ((f107.get H.next (by omega)).trans f102.blk)) rfl (.inr rfl) rfl)
  have C124:=ch_val (i:=2) (p:=0) (ks:=[5]) (v:=vI x111) (A:=H112) (H:=H112) C123 rfl rfl rfl rfl rfl rfl (opv_move (.inl rfl) rfl rfl)
  have C125:=ch_val (i:=3) (p:=0) (ks:=[31,32]) (v:=.pointer (some ⟨snm s1,Int.toNat x111,none⟩)) (A:=H112) (H:=H112) C124 rfl rfl rfl rfl rfl rfl (cv_index (CV.keep hcs1 (((((KeepX.refl (fun _ => False) H).new_ f102).new_ f107).trans k117 (fun _ h => h.elim)).k (fun _ h => h.elim))) rfl rfl rfl rfl rfl Try.underlying31 sz3 (by omega) (by omega))
  obtain ⟨x126,h127⟩:=lv_int (hcs1.1.2 (Int.toNat x111) (by omega))
  have C128:=ch_val (i:=4) (p:=0) (ks:=[33]) (v:=vI x126) (A:=H112) (H:=H112) C125 rfl rfl rfl rfl rfl rfl (cv_loadE (CV.keep hcs1 (((((KeepX.refl (fun _ => False) H).new_ f102).new_ f107).trans k117 (fun _ h => h.elim)).k (fun _ h => h.elim))) h127 (by omega) rfl rfl rfl rfl ag3 sz3)
  have C129:=ch_val (i:=5) (p:=0) (ks:=[3]) (v:=vP H101.next 0) (A:=H112) (H:=H112) C128 rfl rfl rfl rfl rfl rfl (opv_fieldAddrE rfl rfl rfl Try.underlying34 rfl sz31 (by decide) rfl)
  have C130:=ch_val (i:=6) (p:=0) (ks:=[35]) (v:=t1) (A:=H112) (H:=H112) C129 rfl rfl rfl rfl rfl rfl (opv_loadE rfl rfl rfl ag31 sz31 ((k117.get H101.next (by omega) id).trans f107.blk) rfl (.inr rfl) rfl)
  have C131:=ch_val (i:=7) (p:=0) (ks:=[5]) (v:=vI x111) (A:=H112) (H:=H112) C130 rfl rfl rfl rfl rfl rfl (opv_move (.inl rfl) rfl rfl)
  have C132:=ch_val (i:=8) (p:=0) (ks:=[36,37]) (v:=.pointer (some ⟨snm t1,Int.toNat x111,none⟩)) (A:=H112) (H:=H112) C131 rfl rfl rfl rfl rfl rfl (cv_index (CV.keep hct1 (((((KeepX.refl (fun _ => False) H).new_ f102).new_ f107).trans k117 (fun _ h => h.elim)).k (fun _ h => h.elim))) rfl rfl rfl rfl rfl Try.underlying31 sz3 (by omega) (by omega))
  have C133:=ch_val (i:=9) (p:=0) (ks:=[38]) (v:=vI x126) (A:=H112) (H:=H112) C132 rfl rfl rfl rfl rfl rfl (cv_loadE (CV.keep hct1 (((((KeepX.refl (fun _ => False) H).new_ f102).new_ f107).trans k117 (fun _ h => h.elim)).k (fun _ h => h.elim))) h127 (by omega) rfl rfl rfl rfl ag3 sz3)
  refine w_draw (tl:=[10]) rfl [0,1,0,7,15,0,32,0,224,480,1023] C133 (by kernel_rfl) (by kernel_rfl) ?_
  refine wonorm (g:=[(2,vP H.next 0),(3,vP H101.next 0),(5,vI x111),(34,vI x126),(39,vI x126)]) (n:=59) (ds:=[]) (H:=H112) (lsub_cons rfl (lsub_cons rfl (lsub_cons rfl (lsub_cons rfl (lsub_cons rfl (lsub_nil _)))))) rfl rfl rfl ?_
  refine sv (v:=.bool false) rfl rfl rfl (opv_bin rfl rfl rfl rfl rfl (neF rfl)) rfl ?_
  refine wo_nil (tq_n (wk ⟨[(2,vP H.next 0),(3,vP H101.next 0),(5,vI x111),(40,.bool false)],59,[],H112⟩ rfl ?_))
  refine w_cond (t:=false) rfl rfl (fun h => by cases h) (fun _ => ?_)
  refine w_skip ?_
  try refine q_eq (e':=.normal) rfl ?_
  refine tqk ⟨[(2,vP H.next 0),(3,vP H101.next 0),(5,vI x111)],59,[],H112⟩ rfl ?_
  refine w_region (mv (vI x111) rfl rfl ?_)
  refine sv_int rfl rfl rfl (opv_bin rfl rfl rfl rfl rfl rfl) ?_
  intro x134 h135
  try replace h135:x134=x111 + 1:=wr_ex h135 (by omega) (by omega)
  refine mv (vI x134) rfl rfl ?_
  refine wo_nil ?_
  refine tq_n ⟨((c1.size:Int) - x134).toNat,by omega,⟨[(2,vP H.next 0),(3,vP H101.next 0),(5,vI x134)],59,[],H112⟩,subk rfl,x134,H112,by omega,by omega,w115,l116,(KeepX.refl (fun _ => False) H106).trans k117 (fun _ h => h.elim),rfl,rfl⟩
 ·
  refine sv (v:=.bool false) rfl rfl rfl (opv_bin rfl rfl rfl rfl rfl (cmpF rfl c121)) rfl ?_
  refine wo_nil (tq_n (wk ⟨[(2,vP H.next 0),(3,vP H101.next 0),(5,vI x111),(27,.bool false)],59,[],H112⟩ rfl ?_))
  refine w_cond (t:=false) rfl rfl (fun h => by cases h) (fun _ => ?_)
  refine w_exit (tq_e (tq_e ?_))
  try refine q_eq (e':=.normal) rfl ?_
  refine tqk ⟨[(2,vP H.next 0),(3,vP H101.next 0)],59,[],H112⟩ rfl ?_
  refine w_seq (w_seq (w_region (mv (vI 0) rfl rfl ?_)))
  refine wo_nil (tq_n (wk ⟨[(2,vP H.next 0),(3,vP H101.next 0),(6,vI 0)],59,[],H112⟩ rfl ?_))
  refine w_block (w_loopS (fun m143 s144 => ∃ (x136:Int) (H137:SH),(0 ≤ x136)∧(x136 ≤ (c2.size:Int))∧WT H137∧Le H112 H137∧KeepX (fun _ => False) H112 H137∧m143=((c2.size:Int) - x136).toNat∧s144=⟨[(2,vP H.next 0),(3,vP H101.next 0),(6,vI x136)],59,[],H137⟩) (n:=((c2.size:Int) - 0).toNat) ⟨⟨[(2,vP H.next 0),(3,vP H101.next 0),(6,vI 0)],59,[],H112⟩,subk rfl,0,H112,by omega,by omega,w115,Le.refl _,KeepX.refl (fun _ => False) H112,rfl,rfl⟩ ?_)
  rintro m143 s144 ⟨x136,H137,i138,i139,w140,l141,k142,rfl,rfl⟩
  have n145:=k142.next
  refine w_seq (w_seq (w_region (mv (vI x136) rfl rfl ?_)))
  refine sv (v:=vP H.next 1) rfl rfl rfl (opv_fieldAddrE rfl rfl rfl Try.underlying34 rfl sz32 (by decide) rfl) rfl ?_
  refine sv (v:=s2) rfl rfl rfl (opv_loadE rfl rfl rfl ag32 sz32 ((k142.get H.next (by omega) id).trans ((k117.get H.next (by omega) id).trans ((f107.get H.next (by omega)).trans f102.blk))) rfl (.inr rfl) rfl) rfl ?_
  refine sv (v:=(vI (c2.size:Int))) rfl rfl rfl (cv_len (CV.keep hcs2 ((((((KeepX.refl (fun _ => False) H).new_ f102).new_ f107).trans k117 (fun _ h => h.elim)).trans k142 (fun _ h => h.elim)).k (fun _ h => h.elim))) rfl rfl rfl Try.underlying32) rfl ?_
  by_cases c146:x136 < (c2.size:Int)
  ·
   refine sv (v:=.bool true) rfl rfl rfl (opv_bin rfl rfl rfl rfl rfl (cmpT rfl c146)) rfl ?_
   refine wo_nil (tq_n (wk ⟨[(2,vP H.next 0),(3,vP H101.next 0),(6,vI x136),(45,.bool true)],59,[],H137⟩ rfl ?_))
   refine w_cond (t:=true) rfl rfl (fun _ => ?_) (fun h => by cases h)
   refine w_skip (tq_n (wk ⟨[(2,vP H.next 0),(3,vP H101.next 0),(6,vI x136)],59,[],H137⟩ rfl ?_))
   refine w_seq (w_block (w_seq (w_draw_start ?_)))
   intro C0
   have C147:=ch_val (i:=0) (p:=0) (ks:=[2]) (v:=vP H.next 1) (A:=H137) (H:=H137) C0 rfl rfl rfl rfl rfl rfl (opv_fieldAddrE rfl rfl rfl Try.underlying34 rfl sz32 (by decide) rfl)
   have C148:=ch_val (i:=1) (p:=0) (ks:=[48]) (v:=s2) (A:=H137) (H:=H137) C147 rfl rfl rfl rfl rfl rfl (opv_loadE rfl rfl rfl ag32 sz32 ((k142.get H.next (by omega) id).trans ((k117.get H.next (by omega) id).trans ((f107.get H.next (by omega)).trans f102.blk))) rfl (.inr rfl) rfl)
   have C149:=ch_val (i:=2) (p:=0) (ks:=[6]) (v:=vI x136) (A:=H137) (H:=H137) C148 rfl rfl rfl rfl rfl rfl (opv_move (.inl rfl) rfl rfl)
   have C150:=ch_val (i:=3) (p:=0) (ks:=[49,50]) (v:=.pointer (some ⟨snm s2,Int.toNat x136,none⟩)) (A:=H137) (H:=H137) C149 rfl rfl rfl rfl rfl rfl (cv_index (CV.keep hcs2 ((((((KeepX.refl (fun _ => False) H).new_ f102).new_ f107).trans k117 (fun _ h => h.elim)).trans k142 (fun _ h => h.elim)).k (fun _ h => h.elim))) rfl rfl rfl rfl rfl Try.underlying32 sz9 (by omega) (by omega))
   obtain ⟨t151,h152⟩:=lv_str (hcs2.1.2 (Int.toNat x136) (by omega))
   have C153:=ch_val (i:=4) (p:=0) (ks:=[51]) (v:=.string t151) (A:=H137) (H:=H137) C150 rfl rfl rfl rfl rfl rfl (cv_loadE (CV.keep hcs2 ((((((KeepX.refl (fun _ => False) H).new_ f102).new_ f107).trans k117 (fun _ h => h.elim)).trans k142 (fun _ h => h.elim)).k (fun _ h => h.elim))) h152 (by omega) rfl rfl rfl rfl ag9 sz9)
   have C154:=ch_val (i:=5) (p:=0) (ks:=[3]) (v:=vP H101.next 1) (A:=H137) (H:=H137) C153 rfl rfl rfl rfl rfl rfl (opv_fieldAddrE rfl rfl rfl Try.underlying34 rfl sz32 (by decide) rfl)
   have C155:=ch_val (i:=6) (p:=0) (ks:=[53]) (v:=t2) (A:=H137) (H:=H137) C154 rfl rfl rfl rfl rfl rfl (opv_loadE rfl rfl rfl ag32 sz32 ((k142.get H101.next (by omega) id).trans ((k117.get H101.next (by omega) id).trans f107.blk)) rfl (.inr rfl) rfl)
   have C156:=ch_val (i:=7) (p:=0) (ks:=[6]) (v:=vI x136) (A:=H137) (H:=H137) C155 rfl rfl rfl rfl rfl rfl (opv_move (.inl rfl) rfl rfl)
   have C157:=ch_val (i:=8) (p:=0) (ks:=[54,55]) (v:=.pointer (some ⟨snm t2,Int.toNat x136,none⟩)) (A:=H137) (H:=H137) C156 rfl rfl rfl rfl rfl rfl (cv_index (CV.keep hct2 ((((((KeepX.refl (fun _ => False) H).new_ f102).new_ f107).trans k117 (fun _ h => h.elim)).trans k142 (fun _ h => h.elim)).k (fun _ h => h.elim))) rfl rfl rfl rfl rfl Try.underlying32 sz9 (by omega) (by omega))
   have C158:=ch_val (i:=9) (p:=0) (ks:=[56]) (v:=.string t151) (A:=H137) (H:=H137) C157 rfl rfl rfl rfl rfl rfl (cv_loadE (CV.keep hct2 ((((((KeepX.refl (fun _ => False) H).new_ f102).new_ f107).trans k117 (fun _ h => h.elim)).trans k142 (fun _ h => h.elim)).k (fun _ h => h.elim))) h152 (by omega) rfl rfl rfl rfl ag9 sz9)
   refine w_draw (tl:=[10]) rfl [0,1,0,7,15,0,32,0,224,480,1023] C158 (by kernel_rfl) (by kernel_rfl) ?_
   refine wonorm (g:=[(2,vP H.next 0),(3,vP H101.next 0),(6,vI x136),(52,.string t151),(57,.string t151)]) (n:=59) (ds:=[]) (H:=H137) (lsub_cons rfl (lsub_cons rfl (lsub_cons rfl (lsub_cons rfl (lsub_cons rfl (lsub_nil _)))))) rfl rfl rfl ?_
   refine sv (v:=.bool false) rfl rfl rfl (opv_neStrS rfl rfl rfl rfl rfl) rfl ?_
   refine wo_nil (tq_n (wk ⟨[(2,vP H.next 0),(3,vP H101.next 0),(6,vI x136),(58,.bool false)],59,[],H137⟩ rfl ?_))
   refine w_cond (t:=false) rfl rfl (fun h => by cases h) (fun _ => ?_)
   refine w_skip ?_
   try refine q_eq (e':=.normal) rfl ?_
   refine tqk ⟨[(2,vP H.next 0),(3,vP H101.next 0),(6,vI x136)],59,[],H137⟩ rfl ?_
   refine w_region (mv (vI x136) rfl rfl ?_)
   refine sv_int rfl rfl rfl (opv_bin rfl rfl rfl rfl rfl rfl) ?_
   intro x159 h160
   try replace h160:x159=x136 + 1:=wr_ex h160 (by omega) (by omega)
   refine mv (vI x159) rfl rfl ?_
   refine wo_nil ?_
   refine tq_n ⟨((c2.size:Int) - x159).toNat,by omega,⟨[(2,vP H.next 0),(3,vP H101.next 0),(6,vI x159)],59,[],H137⟩,subk rfl,x159,H137,by omega,by omega,w140,l141,(KeepX.refl (fun _ => False) H112).trans k142 (fun _ h => h.elim),rfl,rfl⟩
  ·
   refine sv (v:=.bool false) rfl rfl rfl (opv_bin rfl rfl rfl rfl rfl (cmpF rfl c146)) rfl ?_
   refine wo_nil (tq_n (wk ⟨[(2,vP H.next 0),(3,vP H101.next 0),(6,vI x136),(45,.bool false)],59,[],H137⟩ rfl ?_))
   refine w_cond (t:=false) rfl rfl (fun h => by cases h) (fun _ => ?_)
   refine w_exit (tq_e (tq_e ?_))
   try refine q_eq (e':=.normal) rfl ?_
   refine tqk ⟨[],59,[],H137⟩ rfl ?_
   refine w_seq (w_region (mv (.bool true) rfl rfl ?_))
   refine wo_nil (tq_n (wk ⟨[(4,.bool true)],59,[],H137⟩ rfl ?_))
   refine w_ret ?_
   refine ⟨.inr rfl,rfl,[.bool true],.cons (resV_tmp rfl (by simp [undef])) .nil,(((((KeepX.refl (fun _ => False) H).new_ f102).new_ f107).trans k117 (fun _ h => h.elim)).trans k142 (fun _ h => h.elim)).k (fun _ h => h.elim),w140,rfl⟩

theorem top_again_ok {old:Array Obj} {xr:Array Value} {kf:Nat} (hkf : ∀ args w,(callFunc kf args).run Try.prog w=.ok (.enter kf args) w) (hx:OldR old xr) (hc:CallW Try.prog kf old xr) (nx:Nat) (H:SH) (wt:WT H) (ho:H.old=old) (h1:H.get nx=some (.row xr .raw)) (b1:old.size ≤ nx) (l1:nx < H.next) (v1:H.live nx):WC Try.prog 5 [.func (.func kf) #[] #[vP nx 0]] H (fun v H' => Keep H H'∧WT H'∧v=(.bool true)):=by
 have hB0:old.size ≤ H.next:=by have:=wt.base; unfold SH.B at this; rw [ho] at this; exact this
 refine wc_of_body Try.func5 rfl ?_
 refine wk ⟨[(0,.func (.func kf) #[] #[vP nx 0])],15,[],H⟩ rfl ?_
 refine w_seq (w_region (mv (.bool false) rfl rfl ?_))
 refine wo_nil (tq_n (wk ⟨[(0,.func (.func kf) #[] #[vP nx 0])],15,[],H⟩ rfl ?_))
 refine w_seq (w_region (sv_new (H:=H) (v:=vP H.next 0) (x:=.row #[.slice none 0 0,.slice none 0 0] .raw) rfl rfl rfl rfl (opv_alloc rfl ze34 rfl) ?_))
 intro H101 f102
 refine newL wt f102 fun n105 w103 l104 => ?_
 refine sv_new (H:=H101) (v:=vP H101.next 0) (x:=.row #[.slice none 0 0,.slice none 0 0] .raw) rfl rfl rfl rfl (opv_alloc rfl ze34 rfl) ?_
 intro H106 f107
 refine newL w103 f107 fun n110 w108 l109 => ?_
 refine wo_nil (tq_n (wk ⟨[(0,.func (.func kf) #[] #[vP nx 0]),(3,vP H.next 0),(4,vP H101.next 0)],15,[],H106⟩ rfl ?_))
 refine w_seq (w_region (mv (.func (.func kf) #[] #[vP nx 0]) rfl rfl ?_))
 have hga:=((f107.get H.next (by omega)).trans f102.blk)
 have hgb:=f107.blk
 obtain ⟨fw,cap,K1,wv,K2,v3,K3,T1,hfw,T2,T3,w3,l3,kx3,s1,s2,t1,t2,c1,c2,ga,gb,cv1,cv2,dv1,dv2⟩:=again_core (nx:=nx) (a:=H.next) (b:=H101.next) hx hc w108 ((l104.trans l109).old.trans ho) ((f107.get nx (by omega)).trans ((f102.get nx (by omega)).trans h1)) hga hgb (by omega) (by omega) (by omega) b1 (by omega) (by omega) (by omega) (by omega) (by omega) ((f107.live _).2 (.inl ((f102.live _).2 (.inl v1)))) ((f107.live _).2 (.inl ((f102.live _).2 (.inr rfl)))) ((f107.live _).2 (.inr rfl))
 refine sc_ (H:=H106) (vs:=[vP H.next 0]) (fv:=.func (.func kf) #[] #[vP nx 0]) rfl rfl rfl rfl rfl rfl (.cons rfl rfl neP .nil) rfl ?_
 refine ⟨_,K1,.func (first:=[]) (cap:=[vP nx 0]) hkf T1,?_⟩
 refine mv (.func (.func fw) #[] (List.toArray cap)) rfl rfl ?_
 refine wo_nil (tq_n (wk ⟨[(0,.func (.func kf) #[] #[vP nx 0]),(3,vP H.next 0),(4,vP H101.next 0),(5,.func (.func fw) #[] (List.toArray cap))],15,[],K1⟩ rfl ?_))
 refine w_seq (w_region (mv (.func (.func fw) #[] (List.toArray cap)) rfl rfl ?_))
 refine sc_ (H:=K1) (vs:=[]) (fv:=.func (.func fw) #[] (List.toArray cap)) rfl rfl rfl rfl rfl rfl .nil rfl ?_
 refine ⟨_,K2,.func (first:=[]) (args:=[]) hfw T2,?_⟩
 refine wo_nil (tq_n (wk ⟨[(0,.func (.func kf) #[] #[vP nx 0]),(3,vP H.next 0),(4,vP H101.next 0)],15,[],K2⟩ rfl ?_))
 refine w_seq (w_region (mv (.func (.func kf) #[] #[vP nx 0]) rfl rfl ?_))
 refine sc_ (H:=K2) (vs:=[vP H101.next 0]) (fv:=.func (.func kf) #[] #[vP nx 0]) rfl rfl rfl rfl rfl rfl (.cons rfl rfl neP .nil) rfl ?_
 refine ⟨_,K3,.func (first:=[]) (cap:=[vP nx 0]) hkf T3,?_⟩
 have n3:=kx3.next
 refine wo_nil (tq_n (wk ⟨[(3,vP H.next 0),(4,vP H101.next 0)],15,[],K3⟩ rfl ?_))
 refine w_seq (w_region (sv (v:=.agg #[s1,s2]) rfl rfl rfl (opv_loadE rfl rfl rfl ag34 sz34 ga rfl (.inl rfl) rfl) rfl ?_))
 refine sv (v:=.agg #[t1,t2]) rfl rfl rfl (opv_loadE rfl rfl rfl ag34 sz34 gb rfl (.inl rfl) rfl) rfl ?_
 refine sc_ (H:=K3) (vs:=[.agg #[s1,s2],.agg #[t1,t2]]) (fv:=.func (.func 26) #[] #[]) rfl rfl rfl rfl rfl rfl (.cons rfl rfl (by simp [undef]) (.cons rfl rfl (by simp [undef]) .nil)) rfl ?_
 refine WV.mono (wv_f0 Try.call26 (top_same_ok s1 s2 t1 t2 c1 c2 _ w3 cv1 cv2 dv1 dv2)) ?_
 rintro v112 H113 ⟨k114,w111,rfl⟩
 refine kpL k114 fun n116 l115 => ?_
 refine mv (.bool true) rfl rfl ?_
 refine wo_nil (tq_n (wk ⟨[(2,.bool true)],15,[],H113⟩ rfl ?_))
 refine w_ret ?_
 refine ⟨.inr rfl,rfl,[.bool true],.cons (resV_tmp rfl (by simp [undef])) .nil,((((((KeepX.refl (fun _ => False) H).new_ f102).new_ f107).trans kx3 (by intro m hm; (try simp only [false_or,or_false] at hm ⊢); (try dsimp only at hm ⊢); first | omega | (right; omega) | (left; left; omega) | (left; right; omega))).keep k114).k (fun _ h => h.elim)),w111,rfl⟩
end Go.Proofs.Orl

namespace Go.Proofs.Orl
open Go Go.MapKept
set_option maxRecDepth 10000
set_option maxHeartbeats 4000000
theorem ag30:aggT Try.prog 30=some true:=by kernel_rfl
theorem sz30:szT Try.prog 30=some 15:=by kernel_rfl
theorem top_Awake_ok (H:SH) (wt:WT H):WC Try.prog 27 [] H (fun v H' => Keep H H'∧WT H'∧v=(.bool true)):=awake_run wt

theorem top_main_ok (ax1 ax2:Int) (ax3 ax4:Int) (ax5 ax6 ax7:Int) (as8 as9 as10:Value) (ax11 ax12:Int) (ax13 ax14 ax15:Int) (H:SH) (wt:WT H) (hvas8:VT H (.sl false [.int .i64,.int .i64]) as8) (hvas9:VT H (.sl false [.str,.int .i64]) as9) (hvas10:VT H (.sl false [.int .i64,.int .i64,.int .i64]) as10) (otas8:OT H.old.size H.old (.sl false [.int .i64,.int .i64]) as8) (otas9:OT H.old.size H.old (.sl false [.str,.int .i64]) as9) (otas10:OT H.old.size H.old (.sl false [.int .i64,.int .i64,.int .i64]) as10):WC Try.prog 3 [.agg #[vI ax1,vI ax2,vI ax3,vI ax4,vI ax5,vI ax6,vI ax7,as8,as9,as10,vI ax11,vI ax12,vI ax13,vI ax14,vI ax15]] H (fun v H' => Keep H H'∧WT H'∧v=(.bool true)):=by
 have hx:OldR H.old #[vI ax1,vI ax2,vI ax3,vI ax4,vI ax5,vI ax6,vI ax7,as8,as9,as10,vI ax11,vI ax12,vI ax13,vI ax14,vI ax15]:=oldR_ofL ⟨old_int _ _,⟨old_int _ _,⟨old_int _ _,⟨old_int _ _,⟨old_int _ _,⟨old_int _ _,⟨old_int _ _,⟨otas8.oldV,⟨otas9.oldV,⟨otas10.oldV,⟨old_int _ _,⟨old_int _ _,⟨old_int _ _,⟨old_int _ _,⟨old_int _ _,trivial⟩⟩⟩⟩⟩⟩⟩⟩⟩⟩⟩⟩⟩⟩⟩
 obtain ⟨C1,C2,hall⟩:=all_core hx (top_allw ax1 ax2 ax3 ax4 ax5 ax6 ax7 as8 as9 as10 ax11 ax12 ax13 ax14 ax15 otas8 otas9 otas10)
 have hw6:=top_callw6 ax1 ax2 ax3 ax4 ax5 ax6 ax7 as8 as9 as10 ax11 ax12 ax13 ax14 ax15 otas8 otas9 otas10
 have hw11:=top_callw11 ax1 ax2 ax3 ax4 ax5 ax6 ax7 as8 as9 as10 ax11 ax12 ax13 ax14 ax15 otas8 otas9 otas10
 have hw14:=top_callw14 ax1 ax2 ax3 ax4 ax5 ax6 ax7 as8 as9 as10 ax11 ax12 ax13 ax14 ax15 otas8 otas9 otas10
 have hw16:=top_callw16 ax1 ax2 ax3 ax4 ax5 ax6 ax7 as8 as9 as10 ax11 ax12 ax13 ax14 ax15 otas8 otas9 otas10
 have hw21:=top_callw21 ax1 ax2 ax3 ax4 ax5 ax6 ax7 as8 as9 as10 ax11 ax12 ax13 ax14 ax15 otas8 otas9 otas10
 have hw23:=top_callw23 ax1 ax2 ax3 ax4 ax5 ax6 ax7 as8 as9 as10 ax11 ax12 ax13 ax14 ax15 otas8 otas9 otas10
 have hB0:H.old.size ≤ H.next:=wt.base
 refine wc_of_body Try.func3 rfl ?_
 refine wk ⟨[(0,.agg #[vI ax1,vI ax2,vI ax3,vI ax4,vI ax5,vI ax6,vI ax7,as8,as9,as10,vI ax11,vI ax12,vI ax13,vI ax14,vI ax15])],41,[],H⟩ rfl ?_
 refine w_seq (w_region (sv_new (H:=H) (v:=vP H.next 0) (x:=.row #[vI ax1,vI ax2,vI ax3,vI ax4,vI ax5,vI ax6,vI ax7,as8,as9,as10,vI ax11,vI ax12,vI ax13,vI ax14,vI ax15] .raw) rfl rfl rfl rfl (opv_boxE (v:=.agg #[vI ax1,vI ax2,vI ax3,vI ax4,vI ax5,vI ax6,vI ax7,as8,as9,as10,vI ax11,vI ax12,vI ax13,vI ax14,vI ax15]) rfl rfl rfl (by simp [undef]) rfl) ?_))
 intro H101 f102
 refine newL wt f102 fun n105 w103 l104 => ?_
 refine mv (.bool false) rfl rfl ?_
 refine wo_nil (tq_n (wk ⟨[(1,vP H.next 0)],41,[],H101⟩ rfl ?_))
 refine w_seq (w_region (sv_new (H:=H101) (v:=vP H101.next 0) (x:=.row #[.slice none 0 0,.slice none 0 0] .raw) rfl rfl rfl rfl (opv_alloc rfl ze34 rfl) ?_))
 intro H106 f107
 refine newL w103 f107 fun n110 w108 l109 => ?_
 refine sv_new (H:=H106) (v:=vP H106.next 0) (x:=.row #[.slice none 0 0,.slice none 0 0] .raw) rfl rfl rfl rfl (opv_alloc rfl ze34 rfl) ?_
 intro H111 f112
 refine newL w108 f112 fun n115 w113 l114 => ?_
 refine wo_nil (tq_n (wk ⟨[(1,vP H.next 0),(3,vP H101.next 0),(4,vP H106.next 0)],41,[],H111⟩ rfl ?_))
 refine w_seq (w_region (sv (v:=.agg #[vI ax1,vI ax2,vI ax3,vI ax4,vI ax5,vI ax6,vI ax7,as8,as9,as10,vI ax11,vI ax12,vI ax13,vI ax14,vI ax15]) rfl rfl rfl (opv_loadE rfl rfl rfl ag30 sz30 ((f112.get H.next (by omega)).trans ((f107.get H.next (by omega)).trans f102.blk)) rfl (.inl rfl) rfl) rfl ?_))
 refine sc_ (H:=H111) (vs:=[.agg #[vI ax1,vI ax2,vI ax3,vI ax4,vI ax5,vI ax6,vI ax7,as8,as9,as10,vI ax11,vI ax12,vI ax13,vI ax14,vI ax15],vP H101.next 0]) (fv:=.func (.func 4) #[] #[]) rfl rfl rfl rfl rfl rfl (.cons rfl rfl (by simp [undef]) (.cons rfl rfl neP .nil)) rfl ?_
 refine WV.mono (wv_f0 Try.call4 (hall _ H.next H101.next w113 (((l104.trans l109).trans l114).old) ((f112.get H.next (by omega)).trans ((f107.get H.next (by omega)).trans f102.blk)) ((f112.get H101.next (by omega)).trans f107.blk) (by omega) (by omega) (by omega) (by omega) (by omega) ((f112.live _).2 (.inl ((f107.live _).2 (.inl ((f102.live _).2 (.inr rfl)))))) ((f112.live _).2 (.inl ((f107.live _).2 (.inr rfl)))))) ?_
 rintro v123 H124 ⟨k125,l116,k117,s118,s119,g120,cv121,cv122⟩
 have n126:=k117.next
 refine wo_nil (tq_n (wk ⟨[(1,vP H.next 0),(3,vP H101.next 0),(4,vP H106.next 0)],41,[],H124⟩ rfl ?_))
 refine w_seq (w_region (sv (v:=.func (.func 6) #[] #[vP H.next 0]) rfl rfl rfl (opv_makeFunc (vs:=[]) (us:=[vP H.next 0]) rfl (.func _) .nil (.cons rfl rfl neP .nil)) rfl ?_))
 refine sc_ (H:=H124) (vs:=[.func (.func 6) #[] #[vP H.next 0]]) (fv:=.func (.func 5) #[] #[]) rfl rfl rfl rfl rfl rfl (.cons rfl rfl (by simp [undef]) .nil) rfl ?_
 refine WV.mono (wv_f0 Try.call5 (top_again_ok Try.call6 hx hw6 H.next _ k125 ((((l104.trans l109).trans l114).trans l116).old) ((k117.get H.next (by omega) (by (try dsimp only); omega)).trans ((f112.get H.next (by omega)).trans ((f107.get H.next (by omega)).trans f102.blk))) (by omega) (by omega) (KeepX.live k117 _ ((f112.live _).2 (.inl ((f107.live _).2 (.inl ((f102.live _).2 (.inr rfl))))))))) ?_
 rintro v128 H129 ⟨k130,w127,rfl⟩
 have n131:=k130.next
 have l132:=k130.le
 refine mv (.bool true) rfl rfl ?_
 refine sv (v:=.func (.func 11) #[] #[vP H.next 0]) rfl (wants_g rfl rfl rfl rfl rfl) rfl (opv_makeFunc (vs:=[]) (us:=[vP H.next 0]) rfl (.func _) .nil (.cons rfl rfl neP .nil)) rfl ?_
 refine sc_ (H:=H129) (vs:=[.func (.func 11) #[] #[vP H.next 0]]) (fv:=.func (.func 5) #[] #[]) rfl (wants_g rfl rfl rfl rfl rfl) rfl rfl rfl rfl (.cons rfl rfl (by simp [undef]) .nil) rfl ?_
 refine WV.mono (wv_f0 Try.call5 (top_again_ok Try.call11 hx hw11 H.next _ w127 (((((l104.trans l109).trans l114).trans l116).trans l132).old) ((k130.get H.next (by omega)).trans ((k117.get H.next (by omega) (by (try dsimp only); omega)).trans ((f112.get H.next (by omega)).trans ((f107.get H.next (by omega)).trans f102.blk)))) (by omega) (by omega) (k130.live _ (KeepX.live k117 _ ((f112.live _).2 (.inl ((f107.live _).2 (.inl ((f102.live _).2 (.inr rfl)))))))))) ?_
 rintro v134 H135 ⟨k136,w133,rfl⟩
 have n137:=k136.next
 have l138:=k136.le
 refine sv (v:=.bool true) rfl rfl rfl (opv_pick (b:=true) rfl rfl rfl rfl rfl rfl) rfl ?_
 refine mv (.bool true) rfl rfl ?_
 refine sv (v:=.func (.func 14) #[] #[vP H.next 0]) rfl (wants_g rfl rfl rfl rfl rfl) rfl (opv_makeFunc (vs:=[]) (us:=[vP H.next 0]) rfl (.func _) .nil (.cons rfl rfl neP .nil)) rfl ?_
 refine sc_ (H:=H135) (vs:=[.func (.func 14) #[] #[vP H.next 0]]) (fv:=.func (.func 5) #[] #[]) rfl (wants_g rfl rfl rfl rfl rfl) rfl rfl rfl rfl (.cons rfl rfl (by simp [undef]) .nil) rfl ?_
 refine WV.mono (wv_f0 Try.call5 (top_again_ok Try.call14 hx hw14 H.next _ w133 ((((((l104.trans l109).trans l114).trans l116).trans l132).trans l138).old) ((k136.get H.next (by omega)).trans ((k130.get H.next (by omega)).trans ((k117.get H.next (by omega) (by (try dsimp only); omega)).trans ((f112.get H.next (by omega)).trans ((f107.get H.next (by omega)).trans f102.blk))))) (by omega) (by omega) (k136.live _ (k130.live _ (KeepX.live k117 _ ((f112.live _).2 (.inl ((f107.live _).2 (.inl ((f102.live _).2 (.inr rfl))))))))))) ?_
 rintro v140 H141 ⟨k142,w139,rfl⟩
 have n143:=k142.next
 have l144:=k142.le
 refine sv (v:=.bool true) rfl rfl rfl (opv_pick (b:=true) rfl rfl rfl rfl rfl rfl) rfl ?_
 refine mv (.bool true) rfl rfl ?_
 refine sv (v:=.func (.func 16) #[] #[vP H.next 0]) rfl (wants_g rfl rfl rfl rfl rfl) rfl (opv_makeFunc (vs:=[]) (us:=[vP H.next 0]) rfl (.func _) .nil (.cons rfl rfl neP .nil)) rfl ?_
 refine sc_ (H:=H141) (vs:=[.func (.func 16) #[] #[vP H.next 0]]) (fv:=.func (.func 5) #[] #[]) rfl (wants_g rfl rfl rfl rfl rfl) rfl rfl rfl rfl (.cons rfl rfl (by simp [undef]) .nil) rfl ?_
 refine WV.mono (wv_f0 Try.call5 (top_again_ok Try.call16 hx hw16 H.next _ w139 (((((((l104.trans l109).trans l114).trans l116).trans l132).trans l138).trans l144).old) ((k142.get H.next (by omega)).trans ((k136.get H.next (by omega)).trans ((k130.get H.next (by omega)).trans ((k117.get H.next (by omega) (by (try dsimp only); omega)).trans ((f112.get H.next (by omega)).trans ((f107.get H.next (by omega)).trans f102.blk)))))) (by omega) (by omega) (k142.live _ (k136.live _ (k130.live _ (KeepX.live k117 _ ((f112.live _).2 (.inl ((f107.live _).2 (.inl ((f102.live _).2 (.inr rfl)))))))))))) ?_
 rintro v146 H147 ⟨k148,w145,rfl⟩
 have n149:=k148.next
 have l150:=k148.le
 refine sv (v:=.bool true) rfl rfl rfl (opv_pick (b:=true) rfl rfl rfl rfl rfl rfl) rfl ?_
 refine mv (.bool true) rfl rfl ?_
 refine sv (v:=.func (.func 21) #[] #[vP H.next 0]) rfl (wants_g rfl rfl rfl rfl rfl) rfl (opv_makeFunc (vs:=[]) (us:=[vP H.next 0]) rfl (.func _) .nil (.cons rfl rfl neP .nil)) rfl ?_
 refine sc_ (H:=H147) (vs:=[.func (.func 21) #[] #[vP H.next 0]]) (fv:=.func (.func 5) #[] #[]) rfl (wants_g rfl rfl rfl rfl rfl) rfl rfl rfl rfl (.cons rfl rfl (by simp [undef]) .nil) rfl ?_
 refine WV.mono (wv_f0 Try.call5 (top_again_ok Try.call21 hx hw21 H.next _ w145 ((((((((l104.trans l109).trans l114).trans l116).trans l132).trans l138).trans l144).trans l150).old) ((k148.get H.next (by omega)).trans ((k142.get H.next (by omega)).trans ((k136.get H.next (by omega)).trans ((k130.get H.next (by omega)).trans ((k117.get H.next (by omega) (by (try dsimp only); omega)).trans ((f112.get H.next (by omega)).trans ((f107.get H.next (by omega)).trans f102.blk))))))) (by omega) (by omega) (k148.live _ (k142.live _ (k136.live _ (k130.live _ (KeepX.live k117 _ ((f112.live _).2 (.inl ((f107.live _).2 (.inl ((f102.live _).2 (.inr rfl))))))))))))) ?_
 rintro v152 H153 ⟨k154,w151,rfl⟩
 have n155:=k154.next
 have l156:=k154.le
 refine sv (v:=.bool true) rfl rfl rfl (opv_pick (b:=true) rfl rfl rfl rfl rfl rfl) rfl ?_
 refine mv (.bool true) rfl rfl ?_
 refine sv (v:=.func (.func 23) #[] #[vP H.next 0]) rfl (wants_g rfl rfl rfl rfl rfl) rfl (opv_makeFunc (vs:=[]) (us:=[vP H.next 0]) rfl (.func _) .nil (.cons rfl rfl neP .nil)) rfl ?_
 refine sc_ (H:=H153) (vs:=[.func (.func 23) #[] #[vP H.next 0]]) (fv:=.func (.func 5) #[] #[]) rfl (wants_g rfl rfl rfl rfl rfl) rfl rfl rfl rfl (.cons rfl rfl (by simp [undef]) .nil) rfl ?_
 refine WV.mono (wv_f0 Try.call5 (top_again_ok Try.call23 hx hw23 H.next _ w151 (((((((((l104.trans l109).trans l114).trans l116).trans l132).trans l138).trans l144).trans l150).trans l156).old) ((k154.get H.next (by omega)).trans ((k148.get H.next (by omega)).trans ((k142.get H.next (by omega)).trans ((k136.get H.next (by omega)).trans ((k130.get H.next (by omega)).trans ((k117.get H.next (by omega) (by (try dsimp only); omega)).trans ((f112.get H.next (by omega)).trans ((f107.get H.next (by omega)).trans f102.blk)))))))) (by omega) (by omega) (k154.live _ (k148.live _ (k142.live _ (k136.live _ (k130.live _ (KeepX.live k117 _ ((f112.live _).2 (.inl ((f107.live _).2 (.inl ((f102.live _).2 (.inr rfl)))))))))))))) ?_
 rintro v158 H159 ⟨k160,w157,rfl⟩
 have n161:=k160.next
 have l162:=k160.le
 refine sv (v:=.bool true) rfl rfl rfl (opv_pick (b:=true) rfl rfl rfl rfl rfl rfl) rfl ?_
 refine mv (.bool true) rfl rfl ?_
 refine wo_nil (tq_n (wk ⟨[(1,vP H.next 0),(3,vP H101.next 0),(4,vP H106.next 0),(5,.bool true)],41,[],H159⟩ rfl ?_))
 refine w_seq (w_region (sv (v:=.agg #[vI ax1,vI ax2,vI ax3,vI ax4,vI ax5,vI ax6,vI ax7,as8,as9,as10,vI ax11,vI ax12,vI ax13,vI ax14,vI ax15]) rfl rfl rfl (opv_loadE rfl rfl rfl ag30 sz30 ((k160.get H.next (by omega)).trans ((k154.get H.next (by omega)).trans ((k148.get H.next (by omega)).trans ((k142.get H.next (by omega)).trans ((k136.get H.next (by omega)).trans ((k130.get H.next (by omega)).trans ((k117.get H.next (by omega) (by (try dsimp only); omega)).trans ((f112.get H.next (by omega)).trans ((f107.get H.next (by omega)).trans f102.blk))))))))) rfl (.inl rfl) rfl) rfl ?_))
 refine sc_ (H:=H159) (vs:=[.agg #[vI ax1,vI ax2,vI ax3,vI ax4,vI ax5,vI ax6,vI ax7,as8,as9,as10,vI ax11,vI ax12,vI ax13,vI ax14,vI ax15],vP H106.next 0]) (fv:=.func (.func 4) #[] #[]) rfl rfl rfl rfl rfl rfl (.cons rfl rfl (by simp [undef]) (.cons rfl rfl neP .nil)) rfl ?_
 refine WV.mono (wv_f0 Try.call4 (hall _ H.next H106.next w157 ((((((((((l104.trans l109).trans l114).trans l116).trans l132).trans l138).trans l144).trans l150).trans l156).trans l162).old) ((k160.get H.next (by omega)).trans ((k154.get H.next (by omega)).trans ((k148.get H.next (by omega)).trans ((k142.get H.next (by omega)).trans ((k136.get H.next (by omega)).trans ((k130.get H.next (by omega)).trans ((k117.get H.next (by omega) (by (try dsimp only); omega)).trans ((f112.get H.next (by omega)).trans ((f107.get H.next (by omega)).trans f102.blk))))))))) ((k160.get H106.next (by omega)).trans ((k154.get H106.next (by omega)).trans ((k148.get H106.next (by omega)).trans ((k142.get H106.next (by omega)).trans ((k136.get H106.next (by omega)).trans ((k130.get H106.next (by omega)).trans ((k117.get H106.next (by omega) (by (try dsimp only); omega)).trans f112.blk))))))) (by omega) (by omega) (by omega) (by omega) (by omega) (k160.live _ (k154.live _ (k148.live _ (k142.live _ (k136.live _ (k130.live _ (KeepX.live k117 _ ((f112.live _).2 (.inl ((f107.live _).2 (.inl ((f102.live _).2 (.inr rfl))))))))))))) (k160.live _ (k154.live _ (k148.live _ (k142.live _ (k136.live _ (k130.live _ (KeepX.live k117 _ ((f112.live _).2 (.inr rfl))))))))))) ?_
 rintro v170 H171 ⟨k172,l163,k164,s165,s166,g167,cv168,cv169⟩
 have n173:=k164.next
 refine wo_nil (tq_n (wk ⟨[(3,vP H101.next 0),(4,vP H106.next 0),(5,.bool true)],41,[],H171⟩ rfl ?_))
 refine w_seq (w_region (mv (.bool true) rfl rfl ?_))
 refine mv (.bool true) rfl rfl ?_
 refine sv (v:=.agg #[s118,s119]) rfl (wants_g rfl rfl rfl rfl rfl) rfl (opv_loadE rfl rfl rfl ag34 sz34 ((k164.get H101.next (by omega) (by (try dsimp only); omega)).trans ((k160.get H101.next (by omega)).trans ((k154.get H101.next (by omega)).trans ((k148.get H101.next (by omega)).trans ((k142.get H101.next (by omega)).trans ((k136.get H101.next (by omega)).trans ((k130.get H101.next (by omega)).trans g120))))))) rfl (.inl rfl) rfl) rfl ?_
 refine sv (v:=.agg #[s165,s166]) rfl (wants_g rfl rfl rfl rfl rfl) rfl (opv_loadE rfl rfl rfl ag34 sz34 g167 rfl (.inl rfl) rfl) rfl ?_
 refine sc_ (H:=H171) (vs:=[.agg #[s118,s119],.agg #[s165,s166]]) (fv:=.func (.func 26) #[] #[]) rfl (wants_g rfl rfl rfl rfl rfl) rfl rfl rfl rfl (.cons rfl rfl (by simp [undef]) (.cons rfl rfl (by simp [undef]) .nil)) rfl ?_
 refine WV.mono (wv_f0 Try.call26 (top_same_ok s118 s119 s165 s166 C1 C2 _ k172 (CV.boxX (CV.keep cv121 (((((k130.trans k136).trans k142).trans k148).trans k154).trans k160)) k164 ((k160.get H106.next (by omega)).trans ((k154.get H106.next (by omega)).trans ((k148.get H106.next (by omega)).trans ((k142.get H106.next (by omega)).trans ((k136.get H106.next (by omega)).trans ((k130.get H106.next (by omega)).trans ((k117.get H106.next (by omega) (by (try dsimp only); omega)).trans f112.blk)))))))) (CV.boxX (CV.keep cv122 (((((k130.trans k136).trans k142).trans k148).trans k154).trans k160)) k164 ((k160.get H106.next (by omega)).trans ((k154.get H106.next (by omega)).trans ((k148.get H106.next (by omega)).trans ((k142.get H106.next (by omega)).trans ((k136.get H106.next (by omega)).trans ((k130.get H106.next (by omega)).trans ((k117.get H106.next (by omega) (by (try dsimp only); omega)).trans f112.blk)))))))) cv168 cv169)) ?_
 rintro v175 H176 ⟨k177,w174,rfl⟩
 refine kpL k177 fun n179 l178 => ?_
 refine sv (v:=.bool true) rfl rfl rfl (opv_pick (b:=true) rfl rfl rfl rfl rfl rfl) rfl ?_
 refine mv (.bool true) rfl rfl ?_
 refine sc_ (H:=H176) (vs:=[]) (fv:=.func (.func 27) #[] #[]) rfl (wants_g rfl rfl rfl rfl rfl) rfl rfl rfl rfl .nil rfl ?_
 refine WV.mono (wv_f0 Try.call27 (top_Awake_ok _ w174)) ?_
 rintro v181 H182 ⟨k183,w180,rfl⟩
 refine kpL k183 fun n185 l184 => ?_
 refine sv (v:=.bool true) rfl rfl rfl (opv_pick (b:=true) rfl rfl rfl rfl rfl rfl) rfl ?_
 refine mv (.bool true) rfl rfl ?_
 refine wo_nil (tq_n (wk ⟨[(2,.bool true)],41,[],H182⟩ rfl ?_))
 refine w_ret ?_
 refine ⟨.inr rfl,rfl,[.bool true],.cons (resV_tmp rfl (by simp [undef])) .nil,(((((((((((((((KeepX.refl (fun _ => False) H).new_ f102).new_ f107).new_ f112).trans k117 (by intro m hm; (try simp only [false_or,or_false] at hm ⊢); (try dsimp only at hm ⊢); first | omega | (right; omega) | (left; left; omega) | (left; right; omega))).keep k130).keep k136).keep k142).keep k148).keep k154).keep k160).trans k164 (by intro m hm; (try simp only [false_or,or_false] at hm ⊢); (try dsimp only at hm ⊢); first | omega | (right; omega) | (left; left; omega) | (left; right; omega))).keep k177).keep k183).k (fun _ h => h.elim)),w180,rfl⟩
end Go.Proofs.Orl

namespace Go.Proofs.Ytodffkejfmhiaaa.topAnewGas
open Go Go.ChangeShapes Go.WideShapes Go.ChangeAt Go.RowKit Go.Proofs.Orl
set_option maxRecDepth 100000
theorem own:ownKnob Try.prog.godebug=none:=by kernel_rfl
theorem laid:laidOutB Try.prog=true:=by kernel_rfl
theorem readable:Try.prog.readableRec 30=true:=by kernel_rfl
theorem inside:30 < Try.prog.types.size:=of_decide_eq_true (by kernel_rfl)
theorem tys:tyF Try.prog 60 30=some [.int .i64,.int .i64,.int .i64,.int .i64,.int .i64,.int .i64,.int .i64,.sl false [.int .i64,.int .i64],.sl false [.str,.int .i64],.sl false [.int .i64,.int .i64,.int .i64],.int .i64,.int .i64,.int .i64,.int .i64,.int .i64]:=by kernel_rfl
theorem cts:Try.prog.cellTypes Try.prog.depth 30=some [3,3,3,3,3,3,3,24,25,28,3,3,3,3,3]:=by kernel_rfl
theorem bulk1 {H:Type} (d:DataW H):1 ≤ Rows.uptoBulk d:=by
  cases d with
  | lit l => cases l <;> simp [Rows.uptoBulk]
  | _ => simp [Rows.uptoBulk]
theorem bk (H:Type):Bk H Rows.uptoBulk Rows.uptoBulkAll:=by
  refine ⟨fun l => ?_,fun d l hd => ?_,fun a b => by simp [Rows.uptoBulk],fun a => by simp [Rows.uptoBulk]⟩
  · induction l with
    | nil => simp
    | cons d l ih => have:=bulk1 d; simp only [Rows.uptoBulkAll,List.length_cons]; omega
  · induction l with
    | nil => cases hd
    | cons e l ih =>
      simp only [Rows.uptoBulkAll]
      rcases List.mem_cons.1 hd with rfl | hd
      · omega
      · have:=ih hd; omega
theorem split {cs:Array Value} (h:cs.toList.length=15) : ∃ c0 c1 c2 c3 c4 c5 c6 c7 c8 c9 c10 c11 c12 c13 c14,cs=#[c0,c1,c2,c3,c4,c5,c6,c7,c8,c9,c10,c11,c12,c13,c14]:=by
  obtain ⟨l⟩:=cs
  match l,h with
  | [c0,c1,c2,c3,c4,c5,c6,c7,c8,c9,c10,c11,c12,c13,c14],_ => exact ⟨c0,c1,c2,c3,c4,c5,c6,c7,c8,c9,c10,c11,c12,c13,c14,rfl⟩
theorem walk (W:World) (ax1:Int) (ax2:Int) (ax3:Int) (ax4:Int) (ax5:Int) (ax6:Int) (ax7:Int) (as8:Value) (as9:Value) (as10:Value) (ax11:Int) (ax12:Int) (ax13:Int) (ax14:Int) (ax15:Int) (otas8:OT W.heap.size W.heap (.sl false [.int .i64,.int .i64]) as8) (otas9:OT W.heap.size W.heap (.sl false [.str,.int .i64]) as9) (otas10:OT W.heap.size W.heap (.sl false [.int .i64,.int .i64,.int .i64]) as10):Calls Try.prog 3 #[.agg #[vI ax1,vI ax2,vI ax3,vI ax4,vI ax5,vI ax6,vI ax7,as8,as9,as10,vI ax11,vI ax12,vI ax13,vI ax14,vI ax15]] W fun e W' => e=.returned (.bool true)∧W'.os=W.os∧W'.output=W.output∧∀ b,b < W.heap.size→W'.heap[b]? = W.heap[b]?:=by
  obtain ⟨v,H',hT,_,_,rfl⟩:=top_main_ok ax1 ax2 ax3 ax4 ax5 ax6 ax7 as8 as9 as10 ax11 ax12 ax13 ax14 ax15 (E0 W.heap) e0_wt (.old otas8) (.old otas9) (.old otas10) otas8 otas9 otas10
  exact calls_true hT (fun v hv => by
    rw [List.mem_singleton.1 hv]
    exact oldV_agg (oldR_ofL ⟨old_int _ _,⟨old_int _ _,⟨old_int _ _,⟨old_int _ _,⟨old_int _ _,⟨old_int _ _,⟨old_int _ _,⟨otas8.oldV,⟨otas9.oldV,⟨otas10.oldV,⟨old_int _ _,⟨old_int _ _,⟨old_int _ _,⟨old_int _ _,⟨old_int _ _,trivial⟩⟩⟩⟩⟩⟩⟩⟩⟩⟩⟩⟩⟩⟩⟩))
theorem contract (H:Type) (enc:TypeId × Value→H) (W:World) (base:Nat) (args:Array Value) (ds gs:List (DataW H)) (before:List MemPlace)
    (hval : ∀ (j:Nat) t v,Try.f3.params[j]? = some t→args[j]? = some v→Value.okWide Try.prog W .any base t v)
    (hW:DataW.Whole enc Try.prog Try.f3.params.toList Rows.topAnewGasSpec.vars false W args.toList ds gs before) (hk:Rows.uptoSmall H (ds++gs) = true) :
    Calls Try.prog 3 args W fun e W' => ∃ v,e=.returned v∧Rows.topAnewGasSpec.post enc Try.prog Try.f3 false true false false W args v W':=by
  have hW':=hW
  obtain ⟨p,q,hA0,hV,rfl,hfz,hnd⟩:=hW
  have hA:DataW.TrodAll enc Try.prog W 0 (fun _ => true) true Try.f3.params.toList args.toList ds p:=hA0
  rw [Try.params3] at hA hval
  obtain ⟨v0,vs0,d0,ds0,p0,q0,hargs,rfl,rfl,h0,r0⟩:=trodAll_cons hA
  obtain ⟨rfl,rfl,rfl⟩:=trodAll_nil r0
  obtain rfl:args=#[v0]:=by cases args; simp_all
  obtain ⟨rfl,rfl⟩:=trodVars_none hV
  have hv:=hval 0 30 v0 rfl rfl
  simp only [Value.okWide,Try.underlying30] at hv
  obtain ⟨cs,rfl,hsz,hrow⟩:=hv
  have h0k:=h0
  obtain ⟨fuel,h0⟩:=h0
  have hb:Rows.uptoBulk d0 ≤ LIM:=by
    have h1:Rows.uptoBulkAll ([d0]++[]) ≤ 1048576:=of_decide_eq_true hk
    simp only [List.append_nil,Rows.uptoBulkAll] at h1
    unfold LIM; omega
  obtain ⟨hlen,hP⟩:=(tyF_spec (bk H) 60).1 30 _ tys fuel cs.toList (d0,p0) h0 hb
  obtain ⟨c0,c1,c2,c3,c4,c5,c6,c7,c8,c9,c10,c11,c12,c13,c14,rfl⟩:=split (by simpa using hlen)
  have q0:PT W (.int .i64) c0:=hP 0 (by decide)
  obtain ⟨x0,rfl⟩:=pt_int q0
  have q1:PT W (.int .i64) c1:=hP 1 (by decide)
  obtain ⟨x1,rfl⟩:=pt_int q1
  have q2:PT W (.int .i64) c2:=hP 2 (by decide)
  obtain ⟨x2,rfl⟩:=pt_int q2
  have q3:PT W (.int .i64) c3:=hP 3 (by decide)
  obtain ⟨x3,rfl⟩:=pt_int q3
  have q4:PT W (.int .i64) c4:=hP 4 (by decide)
  obtain ⟨x4,rfl⟩:=pt_int q4
  have q5:PT W (.int .i64) c5:=hP 5 (by decide)
  obtain ⟨x5,rfl⟩:=pt_int q5
  have q6:PT W (.int .i64) c6:=hP 6 (by decide)
  obtain ⟨x6,rfl⟩:=pt_int q6
  have q7:PT W (.sl false [.int .i64,.int .i64]) c7:=hP 7 (by decide)
  have o7:=pt_sl q7 Try.underlying24 (cell_ok hrow cts (i:=7) rfl rfl)
  have q8:PT W (.sl false [.str,.int .i64]) c8:=hP 8 (by decide)
  have o8:=pt_sl q8 Try.underlying25 (cell_ok hrow cts (i:=8) rfl rfl)
  have q9:PT W (.sl false [.int .i64,.int .i64,.int .i64]) c9:=hP 9 (by decide)
  have o9:=pt_sl q9 Try.underlying28 (cell_ok hrow cts (i:=9) rfl rfl)
  have q10:PT W (.int .i64) c10:=hP 10 (by decide)
  obtain ⟨x10,rfl⟩:=pt_int q10
  have q11:PT W (.int .i64) c11:=hP 11 (by decide)
  obtain ⟨x11,rfl⟩:=pt_int q11
  have q12:PT W (.int .i64) c12:=hP 12 (by decide)
  obtain ⟨x12,rfl⟩:=pt_int q12
  have q13:PT W (.int .i64) c13:=hP 13 (by decide)
  obtain ⟨x13,rfl⟩:=pt_int q13
  have q14:PT W (.int .i64) c14:=hP 14 (by decide)
  obtain ⟨x14,rfl⟩:=pt_int q14
  refine (walk W x0 x1 x2 x3 x4 x5 x6 c7 c8 c9 x10 x11 x12 x13 x14 o7 o8 o9).mono fun e W' ⟨he,h1,h2,h3⟩ => ?_
  subst he
  exact ⟨_,rfl,post_true (t:=30) (tb:=4) (p0:=p0) Try.params3 rfl Try.underlying4 rfl rfl hW' h0k rfl rfl (by simp) laid readable inside h1 h2 h3⟩
theorem lifted (os:Os) (started:os.Started) (H:Type) (enc:TypeId × Value→H) (F:Stop.Interp) :
    ReturnsInHanded {} Try.checked os 3 .any ((Rows.OpenSpec.upto Rows.topAnewGasSpec).pre6 enc Try.prog Try.f3 Rows.topAnewGasUptoRow.domain false) (((Rows.OpenSpec.upto Rows.topAnewGasSpec).at F).post enc Try.prog Try.f3 false true false false):=by
  refine returnsInHanded_of_cond (C:=Try.checked) (s:=Rows.OpenSpec.upto Rows.topAnewGasSpec) (k:=Rows.uptoSmall) rfl own started (by kernel_rfl) Try.func3
    (OpenSpec.witness (enc:=enc) (C:=Try.checked) (s:=Rows.OpenSpec.upto Rows.topAnewGasSpec) (k:=Rows.uptoSmall) rfl false ⟨#[],#[.agg #[.int .i64 0,.int .i64 0,.int .i64 0,.int .i64 0,.int .i64 0,.int .i64 0,.int .i64 0,.slice none 0 0,.slice none 0 0,.slice none 0 0,.int .i64 0,.int .i64 0,.int .i64 0,.int .i64 0,.int .i64 0]],[]⟩ 12 (by kernel_rfl) (by kernel_rfl) (by kernel_rfl)
      (x:=([.agg [.agg [.agg [.lit (.int .i64 0),.lit (.int .i64 0)],.agg [.lit (.int .i64 0),.lit (.int .i64 0)],.agg [.lit (.int .i64 0),.lit (.int .i64 0)],.lit (.int .i64 0),.nil,.nil],.nil,.lit (.int .i64 0),.lit (.int .i64 0),.lit (.int .i64 0),.lit (.int .i64 0),.lit (.int .i64 0)]],[],[])) (by kernel_rfl) rfl (by kernel_rfl)) ?_
  intro W base args ds gs before hval hW _ hk _
  exact contract H enc W base args ds gs before hval hW hk

theorem proved:Rows.TopAnewGasUptoSaid :=
  OpenClaim.holds_of_cond 3 Try.f3 rfl rfl rfl rfl rfl rfl rfl ⟨rfl,rfl,rfl,rfl,rfl⟩ rfl rfl rfl rfl rfl (by kernel_rfl) Try.func3 (by kernel_rfl)
    (of_decide_eq_true (by kernel_rfl)) (by unfold Func.isWrapper; first | (rw [if_pos (by decide +kernel)]; kernel_rfl) | (rw [if_neg (by decide +kernel)]; exact ⟨rfl,rfl⟩))
    (fun os started H enc _ F => lifted os started H enc F)
end Go.Proofs.Ytodffkejfmhiaaa.topAnewGas
