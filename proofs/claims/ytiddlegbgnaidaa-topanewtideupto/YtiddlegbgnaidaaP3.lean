/- Part 3 of the proof of TopAnewTide: every call of the package puts the same twice, and changes no argument. Conditions: those of the statement, and no others. -/
import Derived.Test.YtiddlegbgnaidaaP2
namespace Go.Proofs.Orl
open Go
set_option maxRecDepth 10000
set_option maxHeartbeats 4000000
theorem ag24:aggT Try.prog 24=some false:=by kernel_rfl
theorem ag74:aggT Try.prog 74=some true:=by kernel_rfl
theorem ag77:aggT Try.prog 77=some true:=by kernel_rfl
theorem pl74:placesT Try.prog 74=some [(0,2),(2,1),(3,1)]:=by kernel_rfl
theorem sz24:szT Try.prog 24=some 1:=by kernel_rfl
theorem sz74:szT Try.prog 74=some 4:=by kernel_rfl
theorem sz77:szT Try.prog 77=some 5:=by kernel_rfl
theorem tin74:Try.prog.info? 74=some Try.t74:=by kernel_rfl
theorem ze74:zeroT Try.prog 74=some (.agg #[vI 0,vI 0,vI 0,vI 0]):=by kernel_rfl
theorem ze77:zeroT Try.prog 77=some (.agg #[vI 0,vI 0,vI 0,vI 0,vI 0]):=by kernel_rfl
theorem tide_str1_ok (a0 b0:Int) (c0 d0:Int) (H:SH) (wt:WT H):WC Try.prog 58 [.agg #[vI a0,vI b0,vI c0,vI d0]] H (fun v H' => Keep H H'∧WT H'∧∃ (rb:Bool),v=(.bool rb)∧((rb=true∧(a0 < c0∨b0 < c0∨d0 < a0∨d0 < b0))∨(rb=false∧¬ (a0 < c0∨b0 < c0∨d0 < a0∨d0 < b0)))):=by
 refine wc_of_body Try.func58 rfl ?_
 refine wk ⟨[(0,.agg #[vI a0,vI b0,vI c0,vI d0])],25,[],H⟩ rfl ?_
 refine w_seq (w_region (sv_new (H:=H) (v:=vP H.next 0) (x:=.row #[vI a0,vI b0,vI c0,vI d0] .raw) rfl rfl rfl rfl (opv_boxE (v:=.agg #[vI a0,vI b0,vI c0,vI d0]) rfl rfl rfl (by simp [undef]) rfl) ?_))
 intro H101 f102
 refine newL wt f102 fun n105 w103 l104 => ?_
 refine mv (.bool false) rfl rfl ?_
 refine wo_nil (tq_n (wk ⟨[(1,vP H.next 0)],25,[],H101⟩ rfl ?_))
 refine w_seq (w_region (sv (v:=vP H.next 0) rfl rfl rfl (opv_fieldAddrE rfl rfl rfl Try.underlying74 rfl sz23 (by decide) rfl) rfl ?_))
 refine sv (v:=vP H.next 0) rfl rfl rfl (opv_fieldAddrE rfl rfl rfl Try.underlying23 rfl sz3 (by decide) rfl) rfl ?_
 refine sv (v:=vI a0) rfl rfl rfl (opv_loadE rfl rfl rfl ag3 sz3 f102.blk rfl (.inr rfl) rfl) rfl ?_
 refine sv (v:=vP H.next 0) rfl rfl rfl (opv_fieldAddrE rfl rfl rfl Try.underlying74 rfl sz23 (by decide) rfl) rfl ?_
 refine sv (v:=vP H.next 1) rfl rfl rfl (opv_fieldAddrE rfl rfl rfl Try.underlying23 rfl sz3 (by decide) rfl) rfl ?_
 refine sv (v:=vI b0) rfl rfl rfl (opv_loadE rfl rfl rfl ag3 sz3 f102.blk rfl (.inr rfl) rfl) rfl ?_
 refine sv_int rfl rfl rfl (opv_min rfl rfl rfl rfl rfl) ?_
 intro x106 h107
 replace h107:=ite_or h107
 refine sv (v:=vP H.next 2) rfl rfl rfl (opv_fieldAddrE rfl rfl rfl Try.underlying74 rfl sz3 (by decide) rfl) rfl ?_
 refine sv (v:=vI c0) rfl rfl rfl (opv_loadE rfl rfl rfl ag3 sz3 f102.blk rfl (.inr rfl) rfl) rfl ?_
 by_cases c108:x106 < c0
 ·
  refine sv (v:=.bool true) rfl rfl rfl (opv_bin rfl rfl rfl rfl rfl (cmpT rfl c108)) rfl ?_
  refine mv (.bool true) rfl rfl ?_
  refine ss rfl (wants_g rfl rfl rfl rfl rfl) rfl rfl ?_
  refine ss rfl (wants_g rfl rfl rfl rfl rfl) rfl rfl ?_
  refine ss rfl (wants_g rfl rfl rfl rfl rfl) rfl rfl ?_
  refine ss rfl (wants_g rfl rfl rfl rfl rfl) rfl rfl ?_
  refine ss rfl (wants_g rfl rfl rfl rfl rfl) rfl rfl ?_
  refine ss rfl (wants_g rfl rfl rfl rfl rfl) rfl rfl ?_
  refine ss rfl (wants_g rfl rfl rfl rfl rfl) rfl rfl ?_
  refine ss rfl (wants_g rfl rfl rfl rfl rfl) rfl rfl ?_
  refine ss rfl (wants_g rfl rfl rfl rfl rfl) rfl rfl ?_
  refine ss rfl (wants_g rfl rfl rfl rfl rfl) rfl rfl ?_
  refine sv (v:=.bool true) rfl rfl rfl (opv_pick (b:=true) rfl rfl rfl rfl rfl rfl) rfl ?_
  refine mv (.bool true) rfl rfl ?_
  refine wo_nil (tq_n (wk ⟨[(2,.bool true)],25,[],H101⟩ rfl ?_))
  refine w_ret ?_
  refine ⟨.inr rfl,rfl,[.bool true],.cons (resV_tmp rfl (by simp [undef])) .nil,((KeepX.refl (fun _ => False) H).new_ f102).k (fun _ h => h.elim),w103,true,rfl,(.inl ⟨rfl,by omega⟩)⟩
 ·
  refine sv (v:=.bool false) rfl rfl rfl (opv_bin rfl rfl rfl rfl rfl (cmpF rfl c108)) rfl ?_
  refine mv (.bool false) rfl rfl ?_
  refine sv (v:=vP H.next 0) rfl (wants_g rfl rfl rfl rfl rfl) rfl (opv_fieldAddrE rfl rfl rfl Try.underlying74 rfl sz23 (by decide) rfl) rfl ?_
  refine sv (v:=vP H.next 0) rfl (wants_g rfl rfl rfl rfl rfl) rfl (opv_fieldAddrE rfl rfl rfl Try.underlying23 rfl sz3 (by decide) rfl) rfl ?_
  refine sv (v:=vI a0) rfl (wants_g rfl rfl rfl rfl rfl) rfl (opv_loadE rfl rfl rfl ag3 sz3 f102.blk rfl (.inr rfl) rfl) rfl ?_
  refine sv (v:=vP H.next 0) rfl (wants_g rfl rfl rfl rfl rfl) rfl (opv_fieldAddrE rfl rfl rfl Try.underlying74 rfl sz23 (by decide) rfl) rfl ?_
  refine sv (v:=vP H.next 1) rfl (wants_g rfl rfl rfl rfl rfl) rfl (opv_fieldAddrE rfl rfl rfl Try.underlying23 rfl sz3 (by decide) rfl) rfl ?_
  refine sv (v:=vI b0) rfl (wants_g rfl rfl rfl rfl rfl) rfl (opv_loadE rfl rfl rfl ag3 sz3 f102.blk rfl (.inr rfl) rfl) rfl ?_
  refine sv_int rfl (wants_g rfl rfl rfl rfl rfl) rfl (opv_max rfl rfl rfl rfl rfl) ?_
  intro x109 h110
  replace h110:=ite_or h110
  refine sv (v:=vP H.next 3) rfl (wants_g rfl rfl rfl rfl rfl) rfl (opv_fieldAddrE rfl rfl rfl Try.underlying74 rfl sz3 (by decide) rfl) rfl ?_
  refine sv (v:=vI d0) rfl (wants_g rfl rfl rfl rfl rfl) rfl (opv_loadE rfl rfl rfl ag3 sz3 f102.blk rfl (.inr rfl) rfl) rfl ?_
  by_cases c111:x109 > d0
  ·
   refine sv (v:=.bool true) rfl (wants_g rfl rfl rfl rfl rfl) rfl (opv_bin rfl rfl rfl rfl rfl (cmpT rfl c111)) rfl ?_
   refine sv (v:=.bool true) rfl rfl rfl (opv_pick (b:=false) rfl rfl rfl rfl rfl rfl) rfl ?_
   refine mv (.bool true) rfl rfl ?_
   refine wo_nil (tq_n (wk ⟨[(2,.bool true)],25,[],H101⟩ rfl ?_))
   refine w_ret ?_
   refine ⟨.inr rfl,rfl,[.bool true],.cons (resV_tmp rfl (by simp [undef])) .nil,((KeepX.refl (fun _ => False) H).new_ f102).k (fun _ h => h.elim),w103,true,rfl,(.inl ⟨rfl,by omega⟩)⟩
  ·
   refine sv (v:=.bool false) rfl (wants_g rfl rfl rfl rfl rfl) rfl (opv_bin rfl rfl rfl rfl rfl (cmpF rfl c111)) rfl ?_
   refine sv (v:=.bool false) rfl rfl rfl (opv_pick (b:=false) rfl rfl rfl rfl rfl rfl) rfl ?_
   refine mv (.bool false) rfl rfl ?_
   refine wo_nil (tq_n (wk ⟨[(2,.bool false)],25,[],H101⟩ rfl ?_))
   refine w_ret ?_
   refine ⟨.inr rfl,rfl,[.bool false],.cons (resV_tmp rfl (by simp [undef])) .nil,((KeepX.refl (fun _ => False) H).new_ f102).k (fun _ h => h.elim),w103,false,rfl,(.inr ⟨rfl,by omega⟩)⟩

theorem tide_str2_ok (a0 b0:Int) (c0 d0:Int) (H:SH) (wt:WT H):WC Try.prog 59 [.agg #[vI a0,vI b0,vI c0,vI d0]] H (fun v H' => Keep H H'∧WT H'∧∃ (rb:Bool),v=(.bool rb)∧((rb=true∧(b0 < a0))∨(rb=false∧¬ (b0 < a0)))):=by
 refine wc_of_body Try.func59 rfl ?_
 refine wk ⟨[(0,.agg #[vI a0,vI b0,vI c0,vI d0])],10,[],H⟩ rfl ?_
 refine w_seq (w_region (sv_new (H:=H) (v:=vP H.next 0) (x:=.row #[vI a0,vI b0,vI c0,vI d0] .raw) rfl rfl rfl rfl (opv_boxE (v:=.agg #[vI a0,vI b0,vI c0,vI d0]) rfl rfl rfl (by simp [undef]) rfl) ?_))
 intro H101 f102
 refine newL wt f102 fun n105 w103 l104 => ?_
 refine mv (.bool false) rfl rfl ?_
 refine wo_nil (tq_n (wk ⟨[(1,vP H.next 0)],10,[],H101⟩ rfl ?_))
 refine w_seq (w_region (sv (v:=vP H.next 0) rfl rfl rfl (opv_fieldAddrE rfl rfl rfl Try.underlying74 rfl sz23 (by decide) rfl) rfl ?_))
 refine sv (v:=vP H.next 0) rfl rfl rfl (opv_fieldAddrE rfl rfl rfl Try.underlying23 rfl sz3 (by decide) rfl) rfl ?_
 refine sv (v:=vI a0) rfl rfl rfl (opv_loadE rfl rfl rfl ag3 sz3 f102.blk rfl (.inr rfl) rfl) rfl ?_
 refine sv (v:=vP H.next 0) rfl rfl rfl (opv_fieldAddrE rfl rfl rfl Try.underlying74 rfl sz23 (by decide) rfl) rfl ?_
 refine sv (v:=vP H.next 1) rfl rfl rfl (opv_fieldAddrE rfl rfl rfl Try.underlying23 rfl sz3 (by decide) rfl) rfl ?_
 refine sv (v:=vI b0) rfl rfl rfl (opv_loadE rfl rfl rfl ag3 sz3 f102.blk rfl (.inr rfl) rfl) rfl ?_
 by_cases c106:a0 > b0
 ·
  refine sv (v:=.bool true) rfl rfl rfl (opv_bin rfl rfl rfl rfl rfl (cmpT rfl c106)) rfl ?_
  refine mv (.bool true) rfl rfl ?_
  refine wo_nil (tq_n (wk ⟨[(2,.bool true)],10,[],H101⟩ rfl ?_))
  refine w_ret ?_
  refine ⟨.inr rfl,rfl,[.bool true],.cons (resV_tmp rfl (by simp [undef])) .nil,((KeepX.refl (fun _ => False) H).new_ f102).k (fun _ h => h.elim),w103,true,rfl,(.inl ⟨rfl,by omega⟩)⟩
 ·
  refine sv (v:=.bool false) rfl rfl rfl (opv_bin rfl rfl rfl rfl rfl (cmpF rfl c106)) rfl ?_
  refine mv (.bool false) rfl rfl ?_
  refine wo_nil (tq_n (wk ⟨[(2,.bool false)],10,[],H101⟩ rfl ?_))
  refine w_ret ?_
  refine ⟨.inr rfl,rfl,[.bool false],.cons (resV_tmp rfl (by simp [undef])) .nil,((KeepX.refl (fun _ => False) H).new_ f102).k (fun _ h => h.elim),w103,false,rfl,(.inr ⟨rfl,by omega⟩)⟩

theorem indexFunc_58_3 (a0 b0:Int) (c0 d0:Int) (a1 b1:Int) (c1 d1:Int) (a2 b2:Int) (c2 d2:Int) (n1:Nat) (H:SH) (wt:WT H) (hkn1:H.get n1=some (.row #[vI a0,vI b0,vI c0,vI d0,vI a1,vI b1,vI c1,vI d1,vI a2,vI b2,vI c2,vI d2] .raw)) (hln1:n1 < H.next):WC Try.prog 68 [.slice (some ⟨n1,0,none⟩) 3 4,.func (.func 58) #[] #[]] H (fun v H' => Keep H H'∧WT H'∧∃ (ri:Int),v=(vI ri)∧(ri < 0→(c0 ≤ a0∧c0 ≤ b0∧a0 ≤ d0∧b0 ≤ d0)∧(c1 ≤ a1∧c1 ≤ b1∧a1 ≤ d1∧b1 ≤ d1)∧(c2 ≤ a2∧c2 ≤ b2∧a2 ≤ d2∧b2 ≤ d2))∧(0 ≤ ri→¬ ((c0 ≤ a0∧c0 ≤ b0∧a0 ≤ d0∧b0 ≤ d0)∧(c1 ≤ a1∧c1 ≤ b1∧a1 ≤ d1∧b1 ≤ d1)∧(c2 ≤ a2∧c2 ≤ b2∧a2 ≤ d2∧b2 ≤ d2)))):=by
 refine wc_of_body Try.func68 rfl ?_
 refine wk ⟨[(0,.slice (some ⟨n1,0,none⟩) 3 4),(1,.func (.func 58) #[] #[])],19,[],H⟩ rfl ?_
 refine w_seq (w_region (mv (vI 0) rfl rfl ?_))
 refine wo_nil (tq_n (wk ⟨[(0,.slice (some ⟨n1,0,none⟩) 3 4),(1,.func (.func 58) #[] #[])],19,[],H⟩ rfl ?_))
 refine w_seq (w_seq (w_region (mv (.slice (some ⟨n1,0,none⟩) 3 4) rfl rfl ?_)))
 refine sv (v:=vI 3) rfl rfl rfl (opv_len_slice rfl rfl rfl Try.underlying108) rfl ?_
 refine mv (vI 0) rfl rfl ?_
 refine wo_nil (tq_n (wk ⟨[(0,.slice (some ⟨n1,0,none⟩) 3 4),(1,.func (.func 58) #[] #[]),(7,vI 3),(8,vI 0)],19,[],H⟩ rfl ?_))
 refine w_block (w_loopU (wl_step ?_))
 refine w_seq (w_region (sv (v:=.bool true) rfl rfl rfl (opv_bin rfl rfl rfl rfl rfl (cmpT rfl (by decide))) rfl ?_))
 refine wo_nil (tq_n (wk ⟨[(0,.slice (some ⟨n1,0,none⟩) 3 4),(1,.func (.func 58) #[] #[]),(7,vI 3),(8,vI 0),(9,.bool true)],19,[],H⟩ rfl ?_))
 refine w_seq (w_cond (t:=true) rfl rfl (fun _ => ?_) (fun h => by cases h))
 refine w_skip (tq_n (wk ⟨[(0,.slice (some ⟨n1,0,none⟩) 3 4),(1,.func (.func 58) #[] #[]),(7,vI 3),(8,vI 0)],19,[],H⟩ rfl ?_))
 refine w_seq (w_block (w_seq (w_region (mv (vI 0) rfl rfl ?_))))
 refine mv (vI 0) rfl rfl ?_
 refine wo_nil (tq_n (wk ⟨[(0,.slice (some ⟨n1,0,none⟩) 3 4),(1,.func (.func 58) #[] #[]),(5,vI 0),(7,vI 3),(8,vI 0)],19,[],H⟩ rfl ?_))
 refine w_seq (w_region (mv (.func (.func 58) #[] #[]) rfl rfl ?_))
 refine mv (.slice (some ⟨n1,0,none⟩) 3 4) rfl rfl ?_
 refine mv (vI 0) rfl rfl ?_
 refine sv (v:=vP n1 0) rfl rfl rfl (opv_indexAddrE rfl rfl rfl rfl rfl Try.underlying108 sz74 (by decide) (by decide) rfl) rfl ?_
 refine sv (v:=.agg #[vI a0,vI b0,vI c0,vI d0]) rfl rfl rfl (opv_loadE rfl rfl rfl ag74 sz74 hkn1 rfl (.inl rfl) rfl) rfl ?_
 refine sc_ (H:=H) (vs:=[.agg #[vI a0,vI b0,vI c0,vI d0]]) (fv:=.func (.func 58) #[] #[]) rfl rfl rfl rfl rfl rfl (.cons rfl rfl (by simp [undef]) .nil) rfl ?_
 refine WV.mono (wv_f0 Try.call58 (tide_str1_ok a0 b0 c0 d0 _ wt)) ?_
 rintro v104 H105 ⟨k106,w101,rb102,rfl,f103⟩
 refine kpL k106 fun n108 l107 => ?_
 refine wo_nil (tq_n (wk ⟨[(0,.slice (some ⟨n1,0,none⟩) 3 4),(1,.func (.func 58) #[] #[]),(5,vI 0),(7,vI 3),(8,vI 0),(16,.bool rb102)],19,[],H105⟩ rfl ?_))
 rcases f103 with ⟨rfl,f103⟩ | ⟨rfl,f103⟩
 ·
  refine w_cond (t:=true) rfl rfl (fun _ => ?_) (fun h => by cases h)
  refine w_seq (w_region (mv (vI 0) rfl rfl ?_))
  refine mv (vI 0) rfl rfl ?_
  refine wo_nil (tq_n (wk ⟨[(4,vI 0)],19,[],H105⟩ rfl ?_))
  refine w_ret ?_
  try refine q_eq (e':=.ret) rfl ?_
  refine tq_r (tq_r ?_)
  try refine q_eq (e':=.ret) rfl ?_
  refine tq_r ?_
  refine ⟨.inr rfl,rfl,[vI 0],.cons (resV_tmp rfl neI) .nil,((KeepX.refl (fun _ => False) H).keep k106).k (fun _ h => h.elim),w101,0,rfl,?_,?_⟩
  · omega
  · omega
 ·
  refine w_cond (t:=false) rfl rfl (fun h => by cases h) (fun _ => ?_)
  refine w_skip ?_
  try refine q_eq (e':=.normal) rfl ?_
  refine tqk ⟨[(0,.slice (some ⟨n1,0,none⟩) 3 4),(1,.func (.func 58) #[] #[]),(7,vI 3),(8,vI 0)],19,[],H105⟩ rfl ?_
  refine w_region (sv (v:=vI 1) rfl rfl rfl (opv_bin rfl rfl rfl rfl rfl rfl) rfl ?_)
  refine mv (vI 1) rfl rfl ?_
  refine wo_nil (tq_n (wl_norm (g:=[(0,.slice (some ⟨n1,0,none⟩) 3 4),(1,.func (.func 58) #[] #[]),(7,vI 3),(8,vI 1)]) (n:=19) (ds:=[]) (H:=H105) (lsub_cons rfl (lsub_cons rfl (lsub_cons rfl (lsub_cons rfl (lsub_nil _))))) rfl rfl rfl ?_))
  refine w_seq (w_region (sv (v:=.bool true) rfl rfl rfl (opv_bin rfl rfl rfl rfl rfl (cmpT rfl (by decide))) rfl ?_))
  refine wo_nil (tq_n (wk ⟨[(0,.slice (some ⟨n1,0,none⟩) 3 4),(1,.func (.func 58) #[] #[]),(7,vI 3),(8,vI 1),(9,.bool true)],19,[],H105⟩ rfl ?_))
  refine w_seq (w_cond (t:=true) rfl rfl (fun _ => ?_) (fun h => by cases h))
  refine w_skip (tq_n (wk ⟨[(0,.slice (some ⟨n1,0,none⟩) 3 4),(1,.func (.func 58) #[] #[]),(7,vI 3),(8,vI 1)],19,[],H105⟩ rfl ?_))
  refine w_seq (w_block (w_seq (w_region (mv (vI 1) rfl rfl ?_))))
  refine mv (vI 1) rfl rfl ?_
  refine wo_nil (tq_n (wk ⟨[(0,.slice (some ⟨n1,0,none⟩) 3 4),(1,.func (.func 58) #[] #[]),(5,vI 1),(7,vI 3),(8,vI 1)],19,[],H105⟩ rfl ?_))
  refine w_seq (w_region (mv (.func (.func 58) #[] #[]) rfl rfl ?_))
  refine mv (.slice (some ⟨n1,0,none⟩) 3 4) rfl rfl ?_
  refine mv (vI 1) rfl rfl ?_
  refine sv (v:=vP n1 4) rfl rfl rfl (opv_indexAddrE rfl rfl rfl rfl rfl Try.underlying108 sz74 (by decide) (by decide) rfl) rfl ?_
  refine sv (v:=.agg #[vI a1,vI b1,vI c1,vI d1]) rfl rfl rfl (opv_loadE rfl rfl rfl ag74 sz74 ((k106.get n1 (by omega)).trans hkn1) rfl (.inl rfl) rfl) rfl ?_
  refine sc_ (H:=H105) (vs:=[.agg #[vI a1,vI b1,vI c1,vI d1]]) (fv:=.func (.func 58) #[] #[]) rfl rfl rfl rfl rfl rfl (.cons rfl rfl (by simp [undef]) .nil) rfl ?_
  refine WV.mono (wv_f0 Try.call58 (tide_str1_ok a1 b1 c1 d1 _ w101)) ?_
  rintro v112 H113 ⟨k114,w109,rb110,rfl,f111⟩
  refine kpL k114 fun n116 l115 => ?_
  refine wo_nil (tq_n (wk ⟨[(0,.slice (some ⟨n1,0,none⟩) 3 4),(1,.func (.func 58) #[] #[]),(5,vI 1),(7,vI 3),(8,vI 1),(16,.bool rb110)],19,[],H113⟩ rfl ?_))
  rcases f111 with ⟨rfl,f111⟩ | ⟨rfl,f111⟩
  ·
   refine w_cond (t:=true) rfl rfl (fun _ => ?_) (fun h => by cases h)
   refine w_seq (w_region (mv (vI 1) rfl rfl ?_))
   refine mv (vI 1) rfl rfl ?_
   refine wo_nil (tq_n (wk ⟨[(4,vI 1)],19,[],H113⟩ rfl ?_))
   refine w_ret ?_
   try refine q_eq (e':=.ret) rfl ?_
   refine tq_r (tq_r ?_)
   try refine q_eq (e':=.ret) rfl ?_
   refine tq_r ?_
   refine ⟨.inr rfl,rfl,[vI 1],.cons (resV_tmp rfl neI) .nil,(((KeepX.refl (fun _ => False) H).keep k106).keep k114).k (fun _ h => h.elim),w109,1,rfl,?_,?_⟩
   · omega
   · omega
  ·
   refine w_cond (t:=false) rfl rfl (fun h => by cases h) (fun _ => ?_)
   refine w_skip ?_
   try refine q_eq (e':=.normal) rfl ?_
   refine tqk ⟨[(0,.slice (some ⟨n1,0,none⟩) 3 4),(1,.func (.func 58) #[] #[]),(7,vI 3),(8,vI 1)],19,[],H113⟩ rfl ?_
   refine w_region (sv (v:=vI 2) rfl rfl rfl (opv_bin rfl rfl rfl rfl rfl rfl) rfl ?_)
   refine mv (vI 2) rfl rfl ?_
   refine wo_nil (tq_n (wl_norm (g:=[(0,.slice (some ⟨n1,0,none⟩) 3 4),(1,.func (.func 58) #[] #[]),(7,vI 3),(8,vI 2)]) (n:=19) (ds:=[]) (H:=H113) (lsub_cons rfl (lsub_cons rfl (lsub_cons rfl (lsub_cons rfl (lsub_nil _))))) rfl rfl rfl ?_))
   refine w_seq (w_region (sv (v:=.bool true) rfl rfl rfl (opv_bin rfl rfl rfl rfl rfl (cmpT rfl (by decide))) rfl ?_))
   refine wo_nil (tq_n (wk ⟨[(0,.slice (some ⟨n1,0,none⟩) 3 4),(1,.func (.func 58) #[] #[]),(7,vI 3),(8,vI 2),(9,.bool true)],19,[],H113⟩ rfl ?_))
   refine w_seq (w_cond (t:=true) rfl rfl (fun _ => ?_) (fun h => by cases h))
   refine w_skip (tq_n (wk ⟨[(0,.slice (some ⟨n1,0,none⟩) 3 4),(1,.func (.func 58) #[] #[]),(7,vI 3),(8,vI 2)],19,[],H113⟩ rfl ?_))
   refine w_seq (w_block (w_seq (w_region (mv (vI 2) rfl rfl ?_))))
   refine mv (vI 2) rfl rfl ?_
   refine wo_nil (tq_n (wk ⟨[(0,.slice (some ⟨n1,0,none⟩) 3 4),(1,.func (.func 58) #[] #[]),(5,vI 2),(7,vI 3),(8,vI 2)],19,[],H113⟩ rfl ?_))
   refine w_seq (w_region (mv (.func (.func 58) #[] #[]) rfl rfl ?_))
   refine mv (.slice (some ⟨n1,0,none⟩) 3 4) rfl rfl ?_
   refine mv (vI 2) rfl rfl ?_
   refine sv (v:=vP n1 8) rfl rfl rfl (opv_indexAddrE rfl rfl rfl rfl rfl Try.underlying108 sz74 (by decide) (by decide) rfl) rfl ?_
   refine sv (v:=.agg #[vI a2,vI b2,vI c2,vI d2]) rfl rfl rfl (opv_loadE rfl rfl rfl ag74 sz74 ((k114.get n1 (by omega)).trans ((k106.get n1 (by omega)).trans hkn1)) rfl (.inl rfl) rfl) rfl ?_
   refine sc_ (H:=H113) (vs:=[.agg #[vI a2,vI b2,vI c2,vI d2]]) (fv:=.func (.func 58) #[] #[]) rfl rfl rfl rfl rfl rfl (.cons rfl rfl (by simp [undef]) .nil) rfl ?_
   refine WV.mono (wv_f0 Try.call58 (tide_str1_ok a2 b2 c2 d2 _ w109)) ?_
   rintro v120 H121 ⟨k122,w117,rb118,rfl,f119⟩
   refine kpL k122 fun n124 l123 => ?_
   refine wo_nil (tq_n (wk ⟨[(0,.slice (some ⟨n1,0,none⟩) 3 4),(1,.func (.func 58) #[] #[]),(5,vI 2),(7,vI 3),(8,vI 2),(16,.bool rb118)],19,[],H121⟩ rfl ?_))
   rcases f119 with ⟨rfl,f119⟩ | ⟨rfl,f119⟩
   ·
    refine w_cond (t:=true) rfl rfl (fun _ => ?_) (fun h => by cases h)
    refine w_seq (w_region (mv (vI 2) rfl rfl ?_))
    refine mv (vI 2) rfl rfl ?_
    refine wo_nil (tq_n (wk ⟨[(4,vI 2)],19,[],H121⟩ rfl ?_))
    refine w_ret ?_
    try refine q_eq (e':=.ret) rfl ?_
    refine tq_r (tq_r ?_)
    try refine q_eq (e':=.ret) rfl ?_
    refine tq_r ?_
    refine ⟨.inr rfl,rfl,[vI 2],.cons (resV_tmp rfl neI) .nil,((((KeepX.refl (fun _ => False) H).keep k106).keep k114).keep k122).k (fun _ h => h.elim),w117,2,rfl,?_,?_⟩
    · omega
    · omega
   ·
    refine w_cond (t:=false) rfl rfl (fun h => by cases h) (fun _ => ?_)
    refine w_skip ?_
    try refine q_eq (e':=.normal) rfl ?_
    refine tqk ⟨[(0,.slice (some ⟨n1,0,none⟩) 3 4),(1,.func (.func 58) #[] #[]),(7,vI 3),(8,vI 2)],19,[],H121⟩ rfl ?_
    refine w_region (sv (v:=vI 3) rfl rfl rfl (opv_bin rfl rfl rfl rfl rfl rfl) rfl ?_)
    refine mv (vI 3) rfl rfl ?_
    refine wo_nil (tq_n (wl_norm (g:=[(0,.slice (some ⟨n1,0,none⟩) 3 4),(1,.func (.func 58) #[] #[]),(7,vI 3),(8,vI 3)]) (n:=19) (ds:=[]) (H:=H121) (lsub_cons rfl (lsub_cons rfl (lsub_cons rfl (lsub_cons rfl (lsub_nil _))))) rfl rfl rfl ?_))
    refine w_seq (w_region (sv (v:=.bool false) rfl rfl rfl (opv_bin rfl rfl rfl rfl rfl (cmpF rfl (by decide))) rfl ?_))
    refine wo_nil (tq_n (wk ⟨[(0,.slice (some ⟨n1,0,none⟩) 3 4),(1,.func (.func 58) #[] #[]),(7,vI 3),(8,vI 3),(9,.bool false)],19,[],H121⟩ rfl ?_))
    refine w_seq (w_cond (t:=false) rfl rfl (fun h => by cases h) (fun _ => ?_))
    refine w_exit (tq_e (tq_e ?_))
    try refine q_eq (e':=.normal) rfl ?_
    refine tqk ⟨[],19,[],H121⟩ rfl ?_
    refine w_seq (w_region (mv (vI (-1)) rfl rfl ?_))
    refine wo_nil (tq_n (wk ⟨[(4,vI (-1))],19,[],H121⟩ rfl ?_))
    refine w_ret ?_
    refine ⟨.inr rfl,rfl,[vI (-1)],.cons (resV_tmp rfl neI) .nil,((((KeepX.refl (fun _ => False) H).keep k106).keep k114).keep k122).k (fun _ h => h.elim),w117,-1,rfl,?_,?_⟩
    · omega
    · omega

theorem containsFunc_58_3 (a0 b0:Int) (c0 d0:Int) (a1 b1:Int) (c1 d1:Int) (a2 b2:Int) (c2 d2:Int) (n1:Nat) (H:SH) (wt:WT H) (hkn1:H.get n1=some (.row #[vI a0,vI b0,vI c0,vI d0,vI a1,vI b1,vI c1,vI d1,vI a2,vI b2,vI c2,vI d2] .raw)) (hln1:n1 < H.next):WC Try.prog 57 [.slice (some ⟨n1,0,none⟩) 3 4,.func (.func 58) #[] #[]] H (fun v H' => Keep H H'∧WT H'∧∃ (rb:Bool),v=(.bool rb)∧((rb=true∧(¬ ((c0 ≤ a0∧c0 ≤ b0∧a0 ≤ d0∧b0 ≤ d0)∧(c1 ≤ a1∧c1 ≤ b1∧a1 ≤ d1∧b1 ≤ d1)∧(c2 ≤ a2∧c2 ≤ b2∧a2 ≤ d2∧b2 ≤ d2))))∨(rb=false∧¬ (¬ ((c0 ≤ a0∧c0 ≤ b0∧a0 ≤ d0∧b0 ≤ d0)∧(c1 ≤ a1∧c1 ≤ b1∧a1 ≤ d1∧b1 ≤ d1)∧(c2 ≤ a2∧c2 ≤ b2∧a2 ≤ d2∧b2 ≤ d2)))))):=by
 refine wc_of_body Try.func57 rfl ?_
 refine wk ⟨[(0,.slice (some ⟨n1,0,none⟩) 3 4),(1,.func (.func 58) #[] #[])],9,[],H⟩ rfl ?_
 refine w_seq (w_region (mv (.bool false) rfl rfl ?_))
 refine wo_nil (tq_n (wk ⟨[(0,.slice (some ⟨n1,0,none⟩) 3 4),(1,.func (.func 58) #[] #[])],9,[],H⟩ rfl ?_))
 refine w_seq (w_region (mv (.slice (some ⟨n1,0,none⟩) 3 4) rfl rfl ?_))
 refine mv (.func (.func 58) #[] #[]) rfl rfl ?_
 refine sc_ (H:=H) (vs:=[.slice (some ⟨n1,0,none⟩) 3 4,.func (.func 58) #[] #[]]) (fv:=.func (.func 68) #[] #[]) rfl rfl rfl rfl rfl rfl (.cons rfl rfl (by simp [undef]) (.cons rfl rfl (by simp [undef]) .nil)) rfl ?_
 refine WV.mono (wv_f0 Try.call68 (indexFunc_58_3 a0 b0 c0 d0 a1 b1 c1 d1 a2 b2 c2 d2 n1 _ wt hkn1 (by omega))) ?_
 rintro v105 H106 ⟨k107,w101,ri102,rfl,f103,f104⟩
 refine kpL k107 fun n109 l108 => ?_
 by_cases c110:ri102 ≥ 0
 ·
  refine sv (v:=.bool true) rfl rfl rfl (opv_bin rfl rfl rfl rfl rfl (cmpT rfl c110)) rfl ?_
  refine mv (.bool true) rfl rfl ?_
  refine wo_nil (tq_n (wk ⟨[(4,.bool true)],9,[],H106⟩ rfl ?_))
  refine w_ret ?_
  refine ⟨.inr rfl,rfl,[.bool true],.cons (resV_tmp rfl (by simp [undef])) .nil,((KeepX.refl (fun _ => False) H).keep k107).k (fun _ h => h.elim),w101,true,rfl,(.inl ⟨rfl,by omega⟩)⟩
 ·
  refine sv (v:=.bool false) rfl rfl rfl (opv_bin rfl rfl rfl rfl rfl (cmpF rfl c110)) rfl ?_
  refine mv (.bool false) rfl rfl ?_
  refine wo_nil (tq_n (wk ⟨[(4,.bool false)],9,[],H106⟩ rfl ?_))
  refine w_ret ?_
  refine ⟨.inr rfl,rfl,[.bool false],.cons (resV_tmp rfl (by simp [undef])) .nil,((KeepX.refl (fun _ => False) H).keep k107).k (fun _ h => h.elim),w101,false,rfl,(.inr ⟨rfl,by omega⟩)⟩

theorem indexFunc_59_3 (a0 b0:Int) (c0 d0:Int) (a1 b1:Int) (c1 d1:Int) (a2 b2:Int) (c2 d2:Int) (n1:Nat) (H:SH) (wt:WT H) (hkn1:H.get n1=some (.row #[vI a0,vI b0,vI c0,vI d0,vI a1,vI b1,vI c1,vI d1,vI a2,vI b2,vI c2,vI d2] .raw)) (hln1:n1 < H.next):WC Try.prog 68 [.slice (some ⟨n1,0,none⟩) 3 4,.func (.func 59) #[] #[]] H (fun v H' => Keep H H'∧WT H'∧∃ (ri:Int),v=(vI ri)∧(ri < 0→(a0 ≤ b0)∧(a1 ≤ b1)∧(a2 ≤ b2))∧(0 ≤ ri→¬ ((a0 ≤ b0)∧(a1 ≤ b1)∧(a2 ≤ b2)))):=by
 refine wc_of_body Try.func68 rfl ?_
 refine wk ⟨[(0,.slice (some ⟨n1,0,none⟩) 3 4),(1,.func (.func 59) #[] #[])],19,[],H⟩ rfl ?_
 refine w_seq (w_region (mv (vI 0) rfl rfl ?_))
 refine wo_nil (tq_n (wk ⟨[(0,.slice (some ⟨n1,0,none⟩) 3 4),(1,.func (.func 59) #[] #[])],19,[],H⟩ rfl ?_))
 refine w_seq (w_seq (w_region (mv (.slice (some ⟨n1,0,none⟩) 3 4) rfl rfl ?_)))
 refine sv (v:=vI 3) rfl rfl rfl (opv_len_slice rfl rfl rfl Try.underlying108) rfl ?_
 refine mv (vI 0) rfl rfl ?_
 refine wo_nil (tq_n (wk ⟨[(0,.slice (some ⟨n1,0,none⟩) 3 4),(1,.func (.func 59) #[] #[]),(7,vI 3),(8,vI 0)],19,[],H⟩ rfl ?_))
 refine w_block (w_loopU (wl_step ?_))
 refine w_seq (w_region (sv (v:=.bool true) rfl rfl rfl (opv_bin rfl rfl rfl rfl rfl (cmpT rfl (by decide))) rfl ?_))
 refine wo_nil (tq_n (wk ⟨[(0,.slice (some ⟨n1,0,none⟩) 3 4),(1,.func (.func 59) #[] #[]),(7,vI 3),(8,vI 0),(9,.bool true)],19,[],H⟩ rfl ?_))
 refine w_seq (w_cond (t:=true) rfl rfl (fun _ => ?_) (fun h => by cases h))
 refine w_skip (tq_n (wk ⟨[(0,.slice (some ⟨n1,0,none⟩) 3 4),(1,.func (.func 59) #[] #[]),(7,vI 3),(8,vI 0)],19,[],H⟩ rfl ?_))
 refine w_seq (w_block (w_seq (w_region (mv (vI 0) rfl rfl ?_))))
 refine mv (vI 0) rfl rfl ?_
 refine wo_nil (tq_n (wk ⟨[(0,.slice (some ⟨n1,0,none⟩) 3 4),(1,.func (.func 59) #[] #[]),(5,vI 0),(7,vI 3),(8,vI 0)],19,[],H⟩ rfl ?_))
 refine w_seq (w_region (mv (.func (.func 59) #[] #[]) rfl rfl ?_))
 refine mv (.slice (some ⟨n1,0,none⟩) 3 4) rfl rfl ?_
 refine mv (vI 0) rfl rfl ?_
 refine sv (v:=vP n1 0) rfl rfl rfl (opv_indexAddrE rfl rfl rfl rfl rfl Try.underlying108 sz74 (by decide) (by decide) rfl) rfl ?_
 refine sv (v:=.agg #[vI a0,vI b0,vI c0,vI d0]) rfl rfl rfl (opv_loadE rfl rfl rfl ag74 sz74 hkn1 rfl (.inl rfl) rfl) rfl ?_
 refine sc_ (H:=H) (vs:=[.agg #[vI a0,vI b0,vI c0,vI d0]]) (fv:=.func (.func 59) #[] #[]) rfl rfl rfl rfl rfl rfl (.cons rfl rfl (by simp [undef]) .nil) rfl ?_
 refine WV.mono (wv_f0 Try.call59 (tide_str2_ok a0 b0 c0 d0 _ wt)) ?_
 rintro v104 H105 ⟨k106,w101,rb102,rfl,f103⟩
 refine kpL k106 fun n108 l107 => ?_
 refine wo_nil (tq_n (wk ⟨[(0,.slice (some ⟨n1,0,none⟩) 3 4),(1,.func (.func 59) #[] #[]),(5,vI 0),(7,vI 3),(8,vI 0),(16,.bool rb102)],19,[],H105⟩ rfl ?_))
 rcases f103 with ⟨rfl,f103⟩ | ⟨rfl,f103⟩
 ·
  refine w_cond (t:=true) rfl rfl (fun _ => ?_) (fun h => by cases h)
  refine w_seq (w_region (mv (vI 0) rfl rfl ?_))
  refine mv (vI 0) rfl rfl ?_
  refine wo_nil (tq_n (wk ⟨[(4,vI 0)],19,[],H105⟩ rfl ?_))
  refine w_ret ?_
  try refine q_eq (e':=.ret) rfl ?_
  refine tq_r (tq_r ?_)
  try refine q_eq (e':=.ret) rfl ?_
  refine tq_r ?_
  refine ⟨.inr rfl,rfl,[vI 0],.cons (resV_tmp rfl neI) .nil,((KeepX.refl (fun _ => False) H).keep k106).k (fun _ h => h.elim),w101,0,rfl,?_,?_⟩
  · omega
  · omega
 ·
  refine w_cond (t:=false) rfl rfl (fun h => by cases h) (fun _ => ?_)
  refine w_skip ?_
  try refine q_eq (e':=.normal) rfl ?_
  refine tqk ⟨[(0,.slice (some ⟨n1,0,none⟩) 3 4),(1,.func (.func 59) #[] #[]),(7,vI 3),(8,vI 0)],19,[],H105⟩ rfl ?_
  refine w_region (sv (v:=vI 1) rfl rfl rfl (opv_bin rfl rfl rfl rfl rfl rfl) rfl ?_)
  refine mv (vI 1) rfl rfl ?_
  refine wo_nil (tq_n (wl_norm (g:=[(0,.slice (some ⟨n1,0,none⟩) 3 4),(1,.func (.func 59) #[] #[]),(7,vI 3),(8,vI 1)]) (n:=19) (ds:=[]) (H:=H105) (lsub_cons rfl (lsub_cons rfl (lsub_cons rfl (lsub_cons rfl (lsub_nil _))))) rfl rfl rfl ?_))
  refine w_seq (w_region (sv (v:=.bool true) rfl rfl rfl (opv_bin rfl rfl rfl rfl rfl (cmpT rfl (by decide))) rfl ?_))
  refine wo_nil (tq_n (wk ⟨[(0,.slice (some ⟨n1,0,none⟩) 3 4),(1,.func (.func 59) #[] #[]),(7,vI 3),(8,vI 1),(9,.bool true)],19,[],H105⟩ rfl ?_))
  refine w_seq (w_cond (t:=true) rfl rfl (fun _ => ?_) (fun h => by cases h))
  refine w_skip (tq_n (wk ⟨[(0,.slice (some ⟨n1,0,none⟩) 3 4),(1,.func (.func 59) #[] #[]),(7,vI 3),(8,vI 1)],19,[],H105⟩ rfl ?_))
  refine w_seq (w_block (w_seq (w_region (mv (vI 1) rfl rfl ?_))))
  refine mv (vI 1) rfl rfl ?_
  refine wo_nil (tq_n (wk ⟨[(0,.slice (some ⟨n1,0,none⟩) 3 4),(1,.func (.func 59) #[] #[]),(5,vI 1),(7,vI 3),(8,vI 1)],19,[],H105⟩ rfl ?_))
  refine w_seq (w_region (mv (.func (.func 59) #[] #[]) rfl rfl ?_))
  refine mv (.slice (some ⟨n1,0,none⟩) 3 4) rfl rfl ?_
  refine mv (vI 1) rfl rfl ?_
  refine sv (v:=vP n1 4) rfl rfl rfl (opv_indexAddrE rfl rfl rfl rfl rfl Try.underlying108 sz74 (by decide) (by decide) rfl) rfl ?_
  refine sv (v:=.agg #[vI a1,vI b1,vI c1,vI d1]) rfl rfl rfl (opv_loadE rfl rfl rfl ag74 sz74 ((k106.get n1 (by omega)).trans hkn1) rfl (.inl rfl) rfl) rfl ?_
  refine sc_ (H:=H105) (vs:=[.agg #[vI a1,vI b1,vI c1,vI d1]]) (fv:=.func (.func 59) #[] #[]) rfl rfl rfl rfl rfl rfl (.cons rfl rfl (by simp [undef]) .nil) rfl ?_
  refine WV.mono (wv_f0 Try.call59 (tide_str2_ok a1 b1 c1 d1 _ w101)) ?_
  rintro v112 H113 ⟨k114,w109,rb110,rfl,f111⟩
  refine kpL k114 fun n116 l115 => ?_
  refine wo_nil (tq_n (wk ⟨[(0,.slice (some ⟨n1,0,none⟩) 3 4),(1,.func (.func 59) #[] #[]),(5,vI 1),(7,vI 3),(8,vI 1),(16,.bool rb110)],19,[],H113⟩ rfl ?_))
  rcases f111 with ⟨rfl,f111⟩ | ⟨rfl,f111⟩
  ·
   refine w_cond (t:=true) rfl rfl (fun _ => ?_) (fun h => by cases h)
   refine w_seq (w_region (mv (vI 1) rfl rfl ?_))
   refine mv (vI 1) rfl rfl ?_
   refine wo_nil (tq_n (wk ⟨[(4,vI 1)],19,[],H113⟩ rfl ?_))
   refine w_ret ?_
   try refine q_eq (e':=.ret) rfl ?_
   refine tq_r (tq_r ?_)
   try refine q_eq (e':=.ret) rfl ?_
   refine tq_r ?_
   refine ⟨.inr rfl,rfl,[vI 1],.cons (resV_tmp rfl neI) .nil,(((KeepX.refl (fun _ => False) H).keep k106).keep k114).k (fun _ h => h.elim),w109,1,rfl,?_,?_⟩
   · omega
   · omega
  ·
   refine w_cond (t:=false) rfl rfl (fun h => by cases h) (fun _ => ?_)
   refine w_skip ?_
   try refine q_eq (e':=.normal) rfl ?_
   refine tqk ⟨[(0,.slice (some ⟨n1,0,none⟩) 3 4),(1,.func (.func 59) #[] #[]),(7,vI 3),(8,vI 1)],19,[],H113⟩ rfl ?_
   refine w_region (sv (v:=vI 2) rfl rfl rfl (opv_bin rfl rfl rfl rfl rfl rfl) rfl ?_)
   refine mv (vI 2) rfl rfl ?_
   refine wo_nil (tq_n (wl_norm (g:=[(0,.slice (some ⟨n1,0,none⟩) 3 4),(1,.func (.func 59) #[] #[]),(7,vI 3),(8,vI 2)]) (n:=19) (ds:=[]) (H:=H113) (lsub_cons rfl (lsub_cons rfl (lsub_cons rfl (lsub_cons rfl (lsub_nil _))))) rfl rfl rfl ?_))
   refine w_seq (w_region (sv (v:=.bool true) rfl rfl rfl (opv_bin rfl rfl rfl rfl rfl (cmpT rfl (by decide))) rfl ?_))
   refine wo_nil (tq_n (wk ⟨[(0,.slice (some ⟨n1,0,none⟩) 3 4),(1,.func (.func 59) #[] #[]),(7,vI 3),(8,vI 2),(9,.bool true)],19,[],H113⟩ rfl ?_))
   refine w_seq (w_cond (t:=true) rfl rfl (fun _ => ?_) (fun h => by cases h))
   refine w_skip (tq_n (wk ⟨[(0,.slice (some ⟨n1,0,none⟩) 3 4),(1,.func (.func 59) #[] #[]),(7,vI 3),(8,vI 2)],19,[],H113⟩ rfl ?_))
   refine w_seq (w_block (w_seq (w_region (mv (vI 2) rfl rfl ?_))))
   refine mv (vI 2) rfl rfl ?_
   refine wo_nil (tq_n (wk ⟨[(0,.slice (some ⟨n1,0,none⟩) 3 4),(1,.func (.func 59) #[] #[]),(5,vI 2),(7,vI 3),(8,vI 2)],19,[],H113⟩ rfl ?_))
   refine w_seq (w_region (mv (.func (.func 59) #[] #[]) rfl rfl ?_))
   refine mv (.slice (some ⟨n1,0,none⟩) 3 4) rfl rfl ?_
   refine mv (vI 2) rfl rfl ?_
   refine sv (v:=vP n1 8) rfl rfl rfl (opv_indexAddrE rfl rfl rfl rfl rfl Try.underlying108 sz74 (by decide) (by decide) rfl) rfl ?_
   refine sv (v:=.agg #[vI a2,vI b2,vI c2,vI d2]) rfl rfl rfl (opv_loadE rfl rfl rfl ag74 sz74 ((k114.get n1 (by omega)).trans ((k106.get n1 (by omega)).trans hkn1)) rfl (.inl rfl) rfl) rfl ?_
   refine sc_ (H:=H113) (vs:=[.agg #[vI a2,vI b2,vI c2,vI d2]]) (fv:=.func (.func 59) #[] #[]) rfl rfl rfl rfl rfl rfl (.cons rfl rfl (by simp [undef]) .nil) rfl ?_
   refine WV.mono (wv_f0 Try.call59 (tide_str2_ok a2 b2 c2 d2 _ w109)) ?_
   rintro v120 H121 ⟨k122,w117,rb118,rfl,f119⟩
   refine kpL k122 fun n124 l123 => ?_
   refine wo_nil (tq_n (wk ⟨[(0,.slice (some ⟨n1,0,none⟩) 3 4),(1,.func (.func 59) #[] #[]),(5,vI 2),(7,vI 3),(8,vI 2),(16,.bool rb118)],19,[],H121⟩ rfl ?_))
   rcases f119 with ⟨rfl,f119⟩ | ⟨rfl,f119⟩
   ·
    refine w_cond (t:=true) rfl rfl (fun _ => ?_) (fun h => by cases h)
    refine w_seq (w_region (mv (vI 2) rfl rfl ?_))
    refine mv (vI 2) rfl rfl ?_
    refine wo_nil (tq_n (wk ⟨[(4,vI 2)],19,[],H121⟩ rfl ?_))
    refine w_ret ?_
    try refine q_eq (e':=.ret) rfl ?_
    refine tq_r (tq_r ?_)
    try refine q_eq (e':=.ret) rfl ?_
    refine tq_r ?_
    refine ⟨.inr rfl,rfl,[vI 2],.cons (resV_tmp rfl neI) .nil,((((KeepX.refl (fun _ => False) H).keep k106).keep k114).keep k122).k (fun _ h => h.elim),w117,2,rfl,?_,?_⟩
    · omega
    · omega
   ·
    refine w_cond (t:=false) rfl rfl (fun h => by cases h) (fun _ => ?_)
    refine w_skip ?_
    try refine q_eq (e':=.normal) rfl ?_
    refine tqk ⟨[(0,.slice (some ⟨n1,0,none⟩) 3 4),(1,.func (.func 59) #[] #[]),(7,vI 3),(8,vI 2)],19,[],H121⟩ rfl ?_
    refine w_region (sv (v:=vI 3) rfl rfl rfl (opv_bin rfl rfl rfl rfl rfl rfl) rfl ?_)
    refine mv (vI 3) rfl rfl ?_
    refine wo_nil (tq_n (wl_norm (g:=[(0,.slice (some ⟨n1,0,none⟩) 3 4),(1,.func (.func 59) #[] #[]),(7,vI 3),(8,vI 3)]) (n:=19) (ds:=[]) (H:=H121) (lsub_cons rfl (lsub_cons rfl (lsub_cons rfl (lsub_cons rfl (lsub_nil _))))) rfl rfl rfl ?_))
    refine w_seq (w_region (sv (v:=.bool false) rfl rfl rfl (opv_bin rfl rfl rfl rfl rfl (cmpF rfl (by decide))) rfl ?_))
    refine wo_nil (tq_n (wk ⟨[(0,.slice (some ⟨n1,0,none⟩) 3 4),(1,.func (.func 59) #[] #[]),(7,vI 3),(8,vI 3),(9,.bool false)],19,[],H121⟩ rfl ?_))
    refine w_seq (w_cond (t:=false) rfl rfl (fun h => by cases h) (fun _ => ?_))
    refine w_exit (tq_e (tq_e ?_))
    try refine q_eq (e':=.normal) rfl ?_
    refine tqk ⟨[],19,[],H121⟩ rfl ?_
    refine w_seq (w_region (mv (vI (-1)) rfl rfl ?_))
    refine wo_nil (tq_n (wk ⟨[(4,vI (-1))],19,[],H121⟩ rfl ?_))
    refine w_ret ?_
    refine ⟨.inr rfl,rfl,[vI (-1)],.cons (resV_tmp rfl neI) .nil,((((KeepX.refl (fun _ => False) H).keep k106).keep k114).keep k122).k (fun _ h => h.elim),w117,-1,rfl,?_,?_⟩
    · omega
    · omega

theorem containsFunc_59_3 (a0 b0:Int) (c0 d0:Int) (a1 b1:Int) (c1 d1:Int) (a2 b2:Int) (c2 d2:Int) (n1:Nat) (H:SH) (wt:WT H) (hkn1:H.get n1=some (.row #[vI a0,vI b0,vI c0,vI d0,vI a1,vI b1,vI c1,vI d1,vI a2,vI b2,vI c2,vI d2] .raw)) (hln1:n1 < H.next):WC Try.prog 57 [.slice (some ⟨n1,0,none⟩) 3 4,.func (.func 59) #[] #[]] H (fun v H' => Keep H H'∧WT H'∧∃ (rb:Bool),v=(.bool rb)∧((rb=true∧(¬ ((a0 ≤ b0)∧(a1 ≤ b1)∧(a2 ≤ b2))))∨(rb=false∧¬ (¬ ((a0 ≤ b0)∧(a1 ≤ b1)∧(a2 ≤ b2)))))):=by
 refine wc_of_body Try.func57 rfl ?_
 refine wk ⟨[(0,.slice (some ⟨n1,0,none⟩) 3 4),(1,.func (.func 59) #[] #[])],9,[],H⟩ rfl ?_
 refine w_seq (w_region (mv (.bool false) rfl rfl ?_))
 refine wo_nil (tq_n (wk ⟨[(0,.slice (some ⟨n1,0,none⟩) 3 4),(1,.func (.func 59) #[] #[])],9,[],H⟩ rfl ?_))
 refine w_seq (w_region (mv (.slice (some ⟨n1,0,none⟩) 3 4) rfl rfl ?_))
 refine mv (.func (.func 59) #[] #[]) rfl rfl ?_
 refine sc_ (H:=H) (vs:=[.slice (some ⟨n1,0,none⟩) 3 4,.func (.func 59) #[] #[]]) (fv:=.func (.func 68) #[] #[]) rfl rfl rfl rfl rfl rfl (.cons rfl rfl (by simp [undef]) (.cons rfl rfl (by simp [undef]) .nil)) rfl ?_
 refine WV.mono (wv_f0 Try.call68 (indexFunc_59_3 a0 b0 c0 d0 a1 b1 c1 d1 a2 b2 c2 d2 n1 _ wt hkn1 (by omega))) ?_
 rintro v105 H106 ⟨k107,w101,ri102,rfl,f103,f104⟩
 refine kpL k107 fun n109 l108 => ?_
 by_cases c110:ri102 ≥ 0
 ·
  refine sv (v:=.bool true) rfl rfl rfl (opv_bin rfl rfl rfl rfl rfl (cmpT rfl c110)) rfl ?_
  refine mv (.bool true) rfl rfl ?_
  refine wo_nil (tq_n (wk ⟨[(4,.bool true)],9,[],H106⟩ rfl ?_))
  refine w_ret ?_
  refine ⟨.inr rfl,rfl,[.bool true],.cons (resV_tmp rfl (by simp [undef])) .nil,((KeepX.refl (fun _ => False) H).keep k107).k (fun _ h => h.elim),w101,true,rfl,(.inl ⟨rfl,by omega⟩)⟩
 ·
  refine sv (v:=.bool false) rfl rfl rfl (opv_bin rfl rfl rfl rfl rfl (cmpF rfl c110)) rfl ?_
  refine mv (.bool false) rfl rfl ?_
  refine wo_nil (tq_n (wk ⟨[(4,.bool false)],9,[],H106⟩ rfl ?_))
  refine w_ret ?_
  refine ⟨.inr rfl,rfl,[.bool false],.cons (resV_tmp rfl (by simp [undef])) .nil,((KeepX.refl (fun _ => False) H).keep k107).k (fun _ h => h.elim),w101,false,rfl,(.inr ⟨rfl,by omega⟩)⟩

theorem strange_3 (a0 b0:Int) (c0 d0:Int) (a1 b1:Int) (c1 d1:Int) (a2 b2:Int) (c2 d2:Int) (n1:Nat) (H:SH) (wt:WT H) (hkn1:H.get n1=some (.row #[vI a0,vI b0,vI c0,vI d0,vI a1,vI b1,vI c1,vI d1,vI a2,vI b2,vI c2,vI d2] .raw)) (hln1:n1 < H.next):WC Try.prog 36 [.slice (some ⟨n1,0,none⟩) 3 4] H (fun v H' => Keep H H'∧WT H'∧∃ (ri:Int),v=(vI ri)∧(ri=0→(c0 ≤ a0∧a0 ≤ b0∧b0 ≤ d0)∧(c1 ≤ a1∧a1 ≤ b1∧b1 ≤ d1)∧(c2 ≤ a2∧a2 ≤ b2∧b2 ≤ d2))):=by
 refine wc_of_body Try.func36 rfl ?_
 refine wk ⟨[(0,.slice (some ⟨n1,0,none⟩) 3 4)],9,[],H⟩ rfl ?_
 refine w_seq (w_region (mv (vI 0) rfl rfl ?_))
 refine wo_nil (tq_n (wk ⟨[(0,.slice (some ⟨n1,0,none⟩) 3 4)],9,[],H⟩ rfl ?_))
 refine w_seq (w_block (w_seq (w_region (mv (.slice (some ⟨n1,0,none⟩) 3 4) rfl rfl ?_))))
 refine sc_ (H:=H) (vs:=[.slice (some ⟨n1,0,none⟩) 3 4,.func (.func 58) #[] #[]]) (fv:=.func (.func 57) #[] #[]) rfl rfl rfl rfl rfl rfl (.cons rfl rfl (by simp [undef]) (.cons rfl rfl (by simp [undef]) .nil)) rfl ?_
 refine WV.mono (wv_f0 Try.call57 (containsFunc_58_3 a0 b0 c0 d0 a1 b1 c1 d1 a2 b2 c2 d2 n1 _ wt hkn1 (by omega))) ?_
 rintro v104 H105 ⟨k106,w101,rb102,rfl,f103⟩
 refine kpL k106 fun n108 l107 => ?_
 refine mv (.bool rb102) rfl rfl ?_
 refine wo_nil (tq_n (wk ⟨[(0,.slice (some ⟨n1,0,none⟩) 3 4),(3,.bool rb102)],9,[],H105⟩ rfl ?_))
 rcases f103 with ⟨rfl,f103⟩ | ⟨rfl,f103⟩
 ·
  refine w_cond (t:=true) rfl rfl (fun _ => ?_) (fun h => by cases h)
  refine w_seq (w_region (mv (vI 7) rfl rfl ?_))
  refine wo_nil (tq_n (wk ⟨[(2,vI 7)],9,[],H105⟩ rfl ?_))
  refine w_ret ?_
  try refine q_eq (e':=.ret) rfl ?_
  refine tq_r ?_
  refine ⟨.inr rfl,rfl,[vI 7],.cons (resV_tmp rfl neI) .nil,((KeepX.refl (fun _ => False) H).keep k106).k (fun _ h => h.elim),w101,7,rfl,?_⟩
  · omega
 ·
  refine w_cond (t:=false) rfl rfl (fun h => by cases h) (fun _ => ?_)
  refine w_seq (w_region (mv (.slice (some ⟨n1,0,none⟩) 3 4) rfl rfl ?_))
  refine sc_ (H:=H105) (vs:=[.slice (some ⟨n1,0,none⟩) 3 4,.func (.func 59) #[] #[]]) (fv:=.func (.func 57) #[] #[]) rfl rfl rfl rfl rfl rfl (.cons rfl rfl (by simp [undef]) (.cons rfl rfl (by simp [undef]) .nil)) rfl ?_
  refine WV.mono (wv_f0 Try.call57 (containsFunc_59_3 a0 b0 c0 d0 a1 b1 c1 d1 a2 b2 c2 d2 n1 _ w101 ((k106.get n1 (by omega)).trans hkn1) (by omega))) ?_
  rintro v112 H113 ⟨k114,w109,rb110,rfl,f111⟩
  refine kpL k114 fun n116 l115 => ?_
  refine mv (.bool rb110) rfl rfl ?_
  refine wo_nil (tq_n (wk ⟨[(6,.bool rb110)],9,[],H113⟩ rfl ?_))
  rcases f111 with ⟨rfl,f111⟩ | ⟨rfl,f111⟩
  ·
   refine w_cond (t:=true) rfl rfl (fun _ => ?_) (fun h => by cases h)
   refine w_seq (w_region (mv (vI 2) rfl rfl ?_))
   refine wo_nil (tq_n (wk ⟨[(2,vI 2)],9,[],H113⟩ rfl ?_))
   refine w_ret ?_
   try refine q_eq (e':=.ret) rfl ?_
   refine tq_r ?_
   refine ⟨.inr rfl,rfl,[vI 2],.cons (resV_tmp rfl neI) .nil,(((KeepX.refl (fun _ => False) H).keep k106).keep k114).k (fun _ h => h.elim),w109,2,rfl,?_⟩
   · omega
  ·
   refine w_cond (t:=false) rfl rfl (fun h => by cases h) (fun _ => ?_)
   refine w_skip ?_
   try refine q_eq (e':=.normal) rfl ?_
   refine tqk ⟨[],9,[],H113⟩ rfl ?_
   refine w_seq (w_region (mv (vI 0) rfl rfl ?_))
   refine wo_nil (tq_n (wk ⟨[(2,vI 0)],9,[],H113⟩ rfl ?_))
   refine w_ret ?_
   refine ⟨.inr rfl,rfl,[vI 0],.cons (resV_tmp rfl neI) .nil,(((KeepX.refl (fun _ => False) H).keep k106).keep k114).k (fun _ h => h.elim),w109,0,rfl,?_⟩
   · omega

theorem indexFunc_58_2 (a0 b0:Int) (c0 d0:Int) (a1 b1:Int) (c1 d1:Int) (n1:Nat) (H:SH) (wt:WT H) (hkn1:H.get n1=some (.row #[vI a0,vI b0,vI c0,vI d0,vI a1,vI b1,vI c1,vI d1] .raw)) (hln1:n1 < H.next):WC Try.prog 68 [.slice (some ⟨n1,0,none⟩) 2 4,.func (.func 58) #[] #[]] H (fun v H' => Keep H H'∧WT H'∧∃ (ri:Int),v=(vI ri)∧(ri < 0→(c0 ≤ a0∧c0 ≤ b0∧a0 ≤ d0∧b0 ≤ d0)∧(c1 ≤ a1∧c1 ≤ b1∧a1 ≤ d1∧b1 ≤ d1))∧(0 ≤ ri→¬ ((c0 ≤ a0∧c0 ≤ b0∧a0 ≤ d0∧b0 ≤ d0)∧(c1 ≤ a1∧c1 ≤ b1∧a1 ≤ d1∧b1 ≤ d1)))):=by
 refine wc_of_body Try.func68 rfl ?_
 refine wk ⟨[(0,.slice (some ⟨n1,0,none⟩) 2 4),(1,.func (.func 58) #[] #[])],19,[],H⟩ rfl ?_
 refine w_seq (w_region (mv (vI 0) rfl rfl ?_))
 refine wo_nil (tq_n (wk ⟨[(0,.slice (some ⟨n1,0,none⟩) 2 4),(1,.func (.func 58) #[] #[])],19,[],H⟩ rfl ?_))
 refine w_seq (w_seq (w_region (mv (.slice (some ⟨n1,0,none⟩) 2 4) rfl rfl ?_)))
 refine sv (v:=vI 2) rfl rfl rfl (opv_len_slice rfl rfl rfl Try.underlying108) rfl ?_
 refine mv (vI 0) rfl rfl ?_
 refine wo_nil (tq_n (wk ⟨[(0,.slice (some ⟨n1,0,none⟩) 2 4),(1,.func (.func 58) #[] #[]),(7,vI 2),(8,vI 0)],19,[],H⟩ rfl ?_))
 refine w_block (w_loopU (wl_step ?_))
 refine w_seq (w_region (sv (v:=.bool true) rfl rfl rfl (opv_bin rfl rfl rfl rfl rfl (cmpT rfl (by decide))) rfl ?_))
 refine wo_nil (tq_n (wk ⟨[(0,.slice (some ⟨n1,0,none⟩) 2 4),(1,.func (.func 58) #[] #[]),(7,vI 2),(8,vI 0),(9,.bool true)],19,[],H⟩ rfl ?_))
 refine w_seq (w_cond (t:=true) rfl rfl (fun _ => ?_) (fun h => by cases h))
 refine w_skip (tq_n (wk ⟨[(0,.slice (some ⟨n1,0,none⟩) 2 4),(1,.func (.func 58) #[] #[]),(7,vI 2),(8,vI 0)],19,[],H⟩ rfl ?_))
 refine w_seq (w_block (w_seq (w_region (mv (vI 0) rfl rfl ?_))))
 refine mv (vI 0) rfl rfl ?_
 refine wo_nil (tq_n (wk ⟨[(0,.slice (some ⟨n1,0,none⟩) 2 4),(1,.func (.func 58) #[] #[]),(5,vI 0),(7,vI 2),(8,vI 0)],19,[],H⟩ rfl ?_))
 refine w_seq (w_region (mv (.func (.func 58) #[] #[]) rfl rfl ?_))
 refine mv (.slice (some ⟨n1,0,none⟩) 2 4) rfl rfl ?_
 refine mv (vI 0) rfl rfl ?_
 refine sv (v:=vP n1 0) rfl rfl rfl (opv_indexAddrE rfl rfl rfl rfl rfl Try.underlying108 sz74 (by decide) (by decide) rfl) rfl ?_
 refine sv (v:=.agg #[vI a0,vI b0,vI c0,vI d0]) rfl rfl rfl (opv_loadE rfl rfl rfl ag74 sz74 hkn1 rfl (.inl rfl) rfl) rfl ?_
 refine sc_ (H:=H) (vs:=[.agg #[vI a0,vI b0,vI c0,vI d0]]) (fv:=.func (.func 58) #[] #[]) rfl rfl rfl rfl rfl rfl (.cons rfl rfl (by simp [undef]) .nil) rfl ?_
 refine WV.mono (wv_f0 Try.call58 (tide_str1_ok a0 b0 c0 d0 _ wt)) ?_
 rintro v104 H105 ⟨k106,w101,rb102,rfl,f103⟩
 refine kpL k106 fun n108 l107 => ?_
 refine wo_nil (tq_n (wk ⟨[(0,.slice (some ⟨n1,0,none⟩) 2 4),(1,.func (.func 58) #[] #[]),(5,vI 0),(7,vI 2),(8,vI 0),(16,.bool rb102)],19,[],H105⟩ rfl ?_))
 rcases f103 with ⟨rfl,f103⟩ | ⟨rfl,f103⟩
 ·
  refine w_cond (t:=true) rfl rfl (fun _ => ?_) (fun h => by cases h)
  refine w_seq (w_region (mv (vI 0) rfl rfl ?_))
  refine mv (vI 0) rfl rfl ?_
  refine wo_nil (tq_n (wk ⟨[(4,vI 0)],19,[],H105⟩ rfl ?_))
  refine w_ret ?_
  try refine q_eq (e':=.ret) rfl ?_
  refine tq_r (tq_r ?_)
  try refine q_eq (e':=.ret) rfl ?_
  refine tq_r ?_
  refine ⟨.inr rfl,rfl,[vI 0],.cons (resV_tmp rfl neI) .nil,((KeepX.refl (fun _ => False) H).keep k106).k (fun _ h => h.elim),w101,0,rfl,?_,?_⟩
  · omega
  · omega
 ·
  refine w_cond (t:=false) rfl rfl (fun h => by cases h) (fun _ => ?_)
  refine w_skip ?_
  try refine q_eq (e':=.normal) rfl ?_
  refine tqk ⟨[(0,.slice (some ⟨n1,0,none⟩) 2 4),(1,.func (.func 58) #[] #[]),(7,vI 2),(8,vI 0)],19,[],H105⟩ rfl ?_
  refine w_region (sv (v:=vI 1) rfl rfl rfl (opv_bin rfl rfl rfl rfl rfl rfl) rfl ?_)
  refine mv (vI 1) rfl rfl ?_
  refine wo_nil (tq_n (wl_norm (g:=[(0,.slice (some ⟨n1,0,none⟩) 2 4),(1,.func (.func 58) #[] #[]),(7,vI 2),(8,vI 1)]) (n:=19) (ds:=[]) (H:=H105) (lsub_cons rfl (lsub_cons rfl (lsub_cons rfl (lsub_cons rfl (lsub_nil _))))) rfl rfl rfl ?_))
  refine w_seq (w_region (sv (v:=.bool true) rfl rfl rfl (opv_bin rfl rfl rfl rfl rfl (cmpT rfl (by decide))) rfl ?_))
  refine wo_nil (tq_n (wk ⟨[(0,.slice (some ⟨n1,0,none⟩) 2 4),(1,.func (.func 58) #[] #[]),(7,vI 2),(8,vI 1),(9,.bool true)],19,[],H105⟩ rfl ?_))
  refine w_seq (w_cond (t:=true) rfl rfl (fun _ => ?_) (fun h => by cases h))
  refine w_skip (tq_n (wk ⟨[(0,.slice (some ⟨n1,0,none⟩) 2 4),(1,.func (.func 58) #[] #[]),(7,vI 2),(8,vI 1)],19,[],H105⟩ rfl ?_))
  refine w_seq (w_block (w_seq (w_region (mv (vI 1) rfl rfl ?_))))
  refine mv (vI 1) rfl rfl ?_
  refine wo_nil (tq_n (wk ⟨[(0,.slice (some ⟨n1,0,none⟩) 2 4),(1,.func (.func 58) #[] #[]),(5,vI 1),(7,vI 2),(8,vI 1)],19,[],H105⟩ rfl ?_))
  refine w_seq (w_region (mv (.func (.func 58) #[] #[]) rfl rfl ?_))
  refine mv (.slice (some ⟨n1,0,none⟩) 2 4) rfl rfl ?_
  refine mv (vI 1) rfl rfl ?_
  refine sv (v:=vP n1 4) rfl rfl rfl (opv_indexAddrE rfl rfl rfl rfl rfl Try.underlying108 sz74 (by decide) (by decide) rfl) rfl ?_
  refine sv (v:=.agg #[vI a1,vI b1,vI c1,vI d1]) rfl rfl rfl (opv_loadE rfl rfl rfl ag74 sz74 ((k106.get n1 (by omega)).trans hkn1) rfl (.inl rfl) rfl) rfl ?_
  refine sc_ (H:=H105) (vs:=[.agg #[vI a1,vI b1,vI c1,vI d1]]) (fv:=.func (.func 58) #[] #[]) rfl rfl rfl rfl rfl rfl (.cons rfl rfl (by simp [undef]) .nil) rfl ?_
  refine WV.mono (wv_f0 Try.call58 (tide_str1_ok a1 b1 c1 d1 _ w101)) ?_
  rintro v112 H113 ⟨k114,w109,rb110,rfl,f111⟩
  refine kpL k114 fun n116 l115 => ?_
  refine wo_nil (tq_n (wk ⟨[(0,.slice (some ⟨n1,0,none⟩) 2 4),(1,.func (.func 58) #[] #[]),(5,vI 1),(7,vI 2),(8,vI 1),(16,.bool rb110)],19,[],H113⟩ rfl ?_))
  rcases f111 with ⟨rfl,f111⟩ | ⟨rfl,f111⟩
  ·
   refine w_cond (t:=true) rfl rfl (fun _ => ?_) (fun h => by cases h)
   refine w_seq (w_region (mv (vI 1) rfl rfl ?_))
   refine mv (vI 1) rfl rfl ?_
   refine wo_nil (tq_n (wk ⟨[(4,vI 1)],19,[],H113⟩ rfl ?_))
   refine w_ret ?_
   try refine q_eq (e':=.ret) rfl ?_
   refine tq_r (tq_r ?_)
   try refine q_eq (e':=.ret) rfl ?_
   refine tq_r ?_
   refine ⟨.inr rfl,rfl,[vI 1],.cons (resV_tmp rfl neI) .nil,(((KeepX.refl (fun _ => False) H).keep k106).keep k114).k (fun _ h => h.elim),w109,1,rfl,?_,?_⟩
   · omega
   · omega
  ·
   refine w_cond (t:=false) rfl rfl (fun h => by cases h) (fun _ => ?_)
   refine w_skip ?_
   try refine q_eq (e':=.normal) rfl ?_
   refine tqk ⟨[(0,.slice (some ⟨n1,0,none⟩) 2 4),(1,.func (.func 58) #[] #[]),(7,vI 2),(8,vI 1)],19,[],H113⟩ rfl ?_
   refine w_region (sv (v:=vI 2) rfl rfl rfl (opv_bin rfl rfl rfl rfl rfl rfl) rfl ?_)
   refine mv (vI 2) rfl rfl ?_
   refine wo_nil (tq_n (wl_norm (g:=[(0,.slice (some ⟨n1,0,none⟩) 2 4),(1,.func (.func 58) #[] #[]),(7,vI 2),(8,vI 2)]) (n:=19) (ds:=[]) (H:=H113) (lsub_cons rfl (lsub_cons rfl (lsub_cons rfl (lsub_cons rfl (lsub_nil _))))) rfl rfl rfl ?_))
   refine w_seq (w_region (sv (v:=.bool false) rfl rfl rfl (opv_bin rfl rfl rfl rfl rfl (cmpF rfl (by decide))) rfl ?_))
   refine wo_nil (tq_n (wk ⟨[(0,.slice (some ⟨n1,0,none⟩) 2 4),(1,.func (.func 58) #[] #[]),(7,vI 2),(8,vI 2),(9,.bool false)],19,[],H113⟩ rfl ?_))
   refine w_seq (w_cond (t:=false) rfl rfl (fun h => by cases h) (fun _ => ?_))
   refine w_exit (tq_e (tq_e ?_))
   try refine q_eq (e':=.normal) rfl ?_
   refine tqk ⟨[],19,[],H113⟩ rfl ?_
   refine w_seq (w_region (mv (vI (-1)) rfl rfl ?_))
   refine wo_nil (tq_n (wk ⟨[(4,vI (-1))],19,[],H113⟩ rfl ?_))
   refine w_ret ?_
   refine ⟨.inr rfl,rfl,[vI (-1)],.cons (resV_tmp rfl neI) .nil,(((KeepX.refl (fun _ => False) H).keep k106).keep k114).k (fun _ h => h.elim),w109,-1,rfl,?_,?_⟩
   · omega
   · omega

theorem containsFunc_58_2 (a0 b0:Int) (c0 d0:Int) (a1 b1:Int) (c1 d1:Int) (n1:Nat) (H:SH) (wt:WT H) (hkn1:H.get n1=some (.row #[vI a0,vI b0,vI c0,vI d0,vI a1,vI b1,vI c1,vI d1] .raw)) (hln1:n1 < H.next):WC Try.prog 57 [.slice (some ⟨n1,0,none⟩) 2 4,.func (.func 58) #[] #[]] H (fun v H' => Keep H H'∧WT H'∧∃ (rb:Bool),v=(.bool rb)∧((rb=true∧(¬ ((c0 ≤ a0∧c0 ≤ b0∧a0 ≤ d0∧b0 ≤ d0)∧(c1 ≤ a1∧c1 ≤ b1∧a1 ≤ d1∧b1 ≤ d1))))∨(rb=false∧¬ (¬ ((c0 ≤ a0∧c0 ≤ b0∧a0 ≤ d0∧b0 ≤ d0)∧(c1 ≤ a1∧c1 ≤ b1∧a1 ≤ d1∧b1 ≤ d1)))))):=by
 refine wc_of_body Try.func57 rfl ?_
 refine wk ⟨[(0,.slice (some ⟨n1,0,none⟩) 2 4),(1,.func (.func 58) #[] #[])],9,[],H⟩ rfl ?_
 refine w_seq (w_region (mv (.bool false) rfl rfl ?_))
 refine wo_nil (tq_n (wk ⟨[(0,.slice (some ⟨n1,0,none⟩) 2 4),(1,.func (.func 58) #[] #[])],9,[],H⟩ rfl ?_))
 refine w_seq (w_region (mv (.slice (some ⟨n1,0,none⟩) 2 4) rfl rfl ?_))
 refine mv (.func (.func 58) #[] #[]) rfl rfl ?_
 refine sc_ (H:=H) (vs:=[.slice (some ⟨n1,0,none⟩) 2 4,.func (.func 58) #[] #[]]) (fv:=.func (.func 68) #[] #[]) rfl rfl rfl rfl rfl rfl (.cons rfl rfl (by simp [undef]) (.cons rfl rfl (by simp [undef]) .nil)) rfl ?_
 refine WV.mono (wv_f0 Try.call68 (indexFunc_58_2 a0 b0 c0 d0 a1 b1 c1 d1 n1 _ wt hkn1 (by omega))) ?_
 rintro v105 H106 ⟨k107,w101,ri102,rfl,f103,f104⟩
 refine kpL k107 fun n109 l108 => ?_
 by_cases c110:ri102 ≥ 0
 ·
  refine sv (v:=.bool true) rfl rfl rfl (opv_bin rfl rfl rfl rfl rfl (cmpT rfl c110)) rfl ?_
  refine mv (.bool true) rfl rfl ?_
  refine wo_nil (tq_n (wk ⟨[(4,.bool true)],9,[],H106⟩ rfl ?_))
  refine w_ret ?_
  refine ⟨.inr rfl,rfl,[.bool true],.cons (resV_tmp rfl (by simp [undef])) .nil,((KeepX.refl (fun _ => False) H).keep k107).k (fun _ h => h.elim),w101,true,rfl,(.inl ⟨rfl,by omega⟩)⟩
 ·
  refine sv (v:=.bool false) rfl rfl rfl (opv_bin rfl rfl rfl rfl rfl (cmpF rfl c110)) rfl ?_
  refine mv (.bool false) rfl rfl ?_
  refine wo_nil (tq_n (wk ⟨[(4,.bool false)],9,[],H106⟩ rfl ?_))
  refine w_ret ?_
  refine ⟨.inr rfl,rfl,[.bool false],.cons (resV_tmp rfl (by simp [undef])) .nil,((KeepX.refl (fun _ => False) H).keep k107).k (fun _ h => h.elim),w101,false,rfl,(.inr ⟨rfl,by omega⟩)⟩

theorem indexFunc_59_2 (a0 b0:Int) (c0 d0:Int) (a1 b1:Int) (c1 d1:Int) (n1:Nat) (H:SH) (wt:WT H) (hkn1:H.get n1=some (.row #[vI a0,vI b0,vI c0,vI d0,vI a1,vI b1,vI c1,vI d1] .raw)) (hln1:n1 < H.next):WC Try.prog 68 [.slice (some ⟨n1,0,none⟩) 2 4,.func (.func 59) #[] #[]] H (fun v H' => Keep H H'∧WT H'∧∃ (ri:Int),v=(vI ri)∧(ri < 0→(a0 ≤ b0)∧(a1 ≤ b1))∧(0 ≤ ri→¬ ((a0 ≤ b0)∧(a1 ≤ b1)))):=by
 refine wc_of_body Try.func68 rfl ?_
 refine wk ⟨[(0,.slice (some ⟨n1,0,none⟩) 2 4),(1,.func (.func 59) #[] #[])],19,[],H⟩ rfl ?_
 refine w_seq (w_region (mv (vI 0) rfl rfl ?_))
 refine wo_nil (tq_n (wk ⟨[(0,.slice (some ⟨n1,0,none⟩) 2 4),(1,.func (.func 59) #[] #[])],19,[],H⟩ rfl ?_))
 refine w_seq (w_seq (w_region (mv (.slice (some ⟨n1,0,none⟩) 2 4) rfl rfl ?_)))
 refine sv (v:=vI 2) rfl rfl rfl (opv_len_slice rfl rfl rfl Try.underlying108) rfl ?_
 refine mv (vI 0) rfl rfl ?_
 refine wo_nil (tq_n (wk ⟨[(0,.slice (some ⟨n1,0,none⟩) 2 4),(1,.func (.func 59) #[] #[]),(7,vI 2),(8,vI 0)],19,[],H⟩ rfl ?_))
 refine w_block (w_loopU (wl_step ?_))
 refine w_seq (w_region (sv (v:=.bool true) rfl rfl rfl (opv_bin rfl rfl rfl rfl rfl (cmpT rfl (by decide))) rfl ?_))
 refine wo_nil (tq_n (wk ⟨[(0,.slice (some ⟨n1,0,none⟩) 2 4),(1,.func (.func 59) #[] #[]),(7,vI 2),(8,vI 0),(9,.bool true)],19,[],H⟩ rfl ?_))
 refine w_seq (w_cond (t:=true) rfl rfl (fun _ => ?_) (fun h => by cases h))
 refine w_skip (tq_n (wk ⟨[(0,.slice (some ⟨n1,0,none⟩) 2 4),(1,.func (.func 59) #[] #[]),(7,vI 2),(8,vI 0)],19,[],H⟩ rfl ?_))
 refine w_seq (w_block (w_seq (w_region (mv (vI 0) rfl rfl ?_))))
 refine mv (vI 0) rfl rfl ?_
 refine wo_nil (tq_n (wk ⟨[(0,.slice (some ⟨n1,0,none⟩) 2 4),(1,.func (.func 59) #[] #[]),(5,vI 0),(7,vI 2),(8,vI 0)],19,[],H⟩ rfl ?_))
 refine w_seq (w_region (mv (.func (.func 59) #[] #[]) rfl rfl ?_))
 refine mv (.slice (some ⟨n1,0,none⟩) 2 4) rfl rfl ?_
 refine mv (vI 0) rfl rfl ?_
 refine sv (v:=vP n1 0) rfl rfl rfl (opv_indexAddrE rfl rfl rfl rfl rfl Try.underlying108 sz74 (by decide) (by decide) rfl) rfl ?_
 refine sv (v:=.agg #[vI a0,vI b0,vI c0,vI d0]) rfl rfl rfl (opv_loadE rfl rfl rfl ag74 sz74 hkn1 rfl (.inl rfl) rfl) rfl ?_
 refine sc_ (H:=H) (vs:=[.agg #[vI a0,vI b0,vI c0,vI d0]]) (fv:=.func (.func 59) #[] #[]) rfl rfl rfl rfl rfl rfl (.cons rfl rfl (by simp [undef]) .nil) rfl ?_
 refine WV.mono (wv_f0 Try.call59 (tide_str2_ok a0 b0 c0 d0 _ wt)) ?_
 rintro v104 H105 ⟨k106,w101,rb102,rfl,f103⟩
 refine kpL k106 fun n108 l107 => ?_
 refine wo_nil (tq_n (wk ⟨[(0,.slice (some ⟨n1,0,none⟩) 2 4),(1,.func (.func 59) #[] #[]),(5,vI 0),(7,vI 2),(8,vI 0),(16,.bool rb102)],19,[],H105⟩ rfl ?_))
 rcases f103 with ⟨rfl,f103⟩ | ⟨rfl,f103⟩
 ·
  refine w_cond (t:=true) rfl rfl (fun _ => ?_) (fun h => by cases h)
  refine w_seq (w_region (mv (vI 0) rfl rfl ?_))
  refine mv (vI 0) rfl rfl ?_
  refine wo_nil (tq_n (wk ⟨[(4,vI 0)],19,[],H105⟩ rfl ?_))
  refine w_ret ?_
  try refine q_eq (e':=.ret) rfl ?_
  refine tq_r (tq_r ?_)
  try refine q_eq (e':=.ret) rfl ?_
  refine tq_r ?_
  refine ⟨.inr rfl,rfl,[vI 0],.cons (resV_tmp rfl neI) .nil,((KeepX.refl (fun _ => False) H).keep k106).k (fun _ h => h.elim),w101,0,rfl,?_,?_⟩
  · omega
  · omega
 ·
  refine w_cond (t:=false) rfl rfl (fun h => by cases h) (fun _ => ?_)
  refine w_skip ?_
  try refine q_eq (e':=.normal) rfl ?_
  refine tqk ⟨[(0,.slice (some ⟨n1,0,none⟩) 2 4),(1,.func (.func 59) #[] #[]),(7,vI 2),(8,vI 0)],19,[],H105⟩ rfl ?_
  refine w_region (sv (v:=vI 1) rfl rfl rfl (opv_bin rfl rfl rfl rfl rfl rfl) rfl ?_)
  refine mv (vI 1) rfl rfl ?_
  refine wo_nil (tq_n (wl_norm (g:=[(0,.slice (some ⟨n1,0,none⟩) 2 4),(1,.func (.func 59) #[] #[]),(7,vI 2),(8,vI 1)]) (n:=19) (ds:=[]) (H:=H105) (lsub_cons rfl (lsub_cons rfl (lsub_cons rfl (lsub_cons rfl (lsub_nil _))))) rfl rfl rfl ?_))
  refine w_seq (w_region (sv (v:=.bool true) rfl rfl rfl (opv_bin rfl rfl rfl rfl rfl (cmpT rfl (by decide))) rfl ?_))
  refine wo_nil (tq_n (wk ⟨[(0,.slice (some ⟨n1,0,none⟩) 2 4),(1,.func (.func 59) #[] #[]),(7,vI 2),(8,vI 1),(9,.bool true)],19,[],H105⟩ rfl ?_))
  refine w_seq (w_cond (t:=true) rfl rfl (fun _ => ?_) (fun h => by cases h))
  refine w_skip (tq_n (wk ⟨[(0,.slice (some ⟨n1,0,none⟩) 2 4),(1,.func (.func 59) #[] #[]),(7,vI 2),(8,vI 1)],19,[],H105⟩ rfl ?_))
  refine w_seq (w_block (w_seq (w_region (mv (vI 1) rfl rfl ?_))))
  refine mv (vI 1) rfl rfl ?_
  refine wo_nil (tq_n (wk ⟨[(0,.slice (some ⟨n1,0,none⟩) 2 4),(1,.func (.func 59) #[] #[]),(5,vI 1),(7,vI 2),(8,vI 1)],19,[],H105⟩ rfl ?_))
  refine w_seq (w_region (mv (.func (.func 59) #[] #[]) rfl rfl ?_))
  refine mv (.slice (some ⟨n1,0,none⟩) 2 4) rfl rfl ?_
  refine mv (vI 1) rfl rfl ?_
  refine sv (v:=vP n1 4) rfl rfl rfl (opv_indexAddrE rfl rfl rfl rfl rfl Try.underlying108 sz74 (by decide) (by decide) rfl) rfl ?_
  refine sv (v:=.agg #[vI a1,vI b1,vI c1,vI d1]) rfl rfl rfl (opv_loadE rfl rfl rfl ag74 sz74 ((k106.get n1 (by omega)).trans hkn1) rfl (.inl rfl) rfl) rfl ?_
  refine sc_ (H:=H105) (vs:=[.agg #[vI a1,vI b1,vI c1,vI d1]]) (fv:=.func (.func 59) #[] #[]) rfl rfl rfl rfl rfl rfl (.cons rfl rfl (by simp [undef]) .nil) rfl ?_
  refine WV.mono (wv_f0 Try.call59 (tide_str2_ok a1 b1 c1 d1 _ w101)) ?_
  rintro v112 H113 ⟨k114,w109,rb110,rfl,f111⟩
  refine kpL k114 fun n116 l115 => ?_
  refine wo_nil (tq_n (wk ⟨[(0,.slice (some ⟨n1,0,none⟩) 2 4),(1,.func (.func 59) #[] #[]),(5,vI 1),(7,vI 2),(8,vI 1),(16,.bool rb110)],19,[],H113⟩ rfl ?_))
  rcases f111 with ⟨rfl,f111⟩ | ⟨rfl,f111⟩
  ·
   refine w_cond (t:=true) rfl rfl (fun _ => ?_) (fun h => by cases h)
   refine w_seq (w_region (mv (vI 1) rfl rfl ?_))
   refine mv (vI 1) rfl rfl ?_
   refine wo_nil (tq_n (wk ⟨[(4,vI 1)],19,[],H113⟩ rfl ?_))
   refine w_ret ?_
   try refine q_eq (e':=.ret) rfl ?_
   refine tq_r (tq_r ?_)
   try refine q_eq (e':=.ret) rfl ?_
   refine tq_r ?_
   refine ⟨.inr rfl,rfl,[vI 1],.cons (resV_tmp rfl neI) .nil,(((KeepX.refl (fun _ => False) H).keep k106).keep k114).k (fun _ h => h.elim),w109,1,rfl,?_,?_⟩
   · omega
   · omega
  ·
   refine w_cond (t:=false) rfl rfl (fun h => by cases h) (fun _ => ?_)
   refine w_skip ?_
   try refine q_eq (e':=.normal) rfl ?_
   refine tqk ⟨[(0,.slice (some ⟨n1,0,none⟩) 2 4),(1,.func (.func 59) #[] #[]),(7,vI 2),(8,vI 1)],19,[],H113⟩ rfl ?_
   refine w_region (sv (v:=vI 2) rfl rfl rfl (opv_bin rfl rfl rfl rfl rfl rfl) rfl ?_)
   refine mv (vI 2) rfl rfl ?_
   refine wo_nil (tq_n (wl_norm (g:=[(0,.slice (some ⟨n1,0,none⟩) 2 4),(1,.func (.func 59) #[] #[]),(7,vI 2),(8,vI 2)]) (n:=19) (ds:=[]) (H:=H113) (lsub_cons rfl (lsub_cons rfl (lsub_cons rfl (lsub_cons rfl (lsub_nil _))))) rfl rfl rfl ?_))
   refine w_seq (w_region (sv (v:=.bool false) rfl rfl rfl (opv_bin rfl rfl rfl rfl rfl (cmpF rfl (by decide))) rfl ?_))
   refine wo_nil (tq_n (wk ⟨[(0,.slice (some ⟨n1,0,none⟩) 2 4),(1,.func (.func 59) #[] #[]),(7,vI 2),(8,vI 2),(9,.bool false)],19,[],H113⟩ rfl ?_))
   refine w_seq (w_cond (t:=false) rfl rfl (fun h => by cases h) (fun _ => ?_))
   refine w_exit (tq_e (tq_e ?_))
   try refine q_eq (e':=.normal) rfl ?_
   refine tqk ⟨[],19,[],H113⟩ rfl ?_
   refine w_seq (w_region (mv (vI (-1)) rfl rfl ?_))
   refine wo_nil (tq_n (wk ⟨[(4,vI (-1))],19,[],H113⟩ rfl ?_))
   refine w_ret ?_
   refine ⟨.inr rfl,rfl,[vI (-1)],.cons (resV_tmp rfl neI) .nil,(((KeepX.refl (fun _ => False) H).keep k106).keep k114).k (fun _ h => h.elim),w109,-1,rfl,?_,?_⟩
   · omega
   · omega

theorem containsFunc_59_2 (a0 b0:Int) (c0 d0:Int) (a1 b1:Int) (c1 d1:Int) (n1:Nat) (H:SH) (wt:WT H) (hkn1:H.get n1=some (.row #[vI a0,vI b0,vI c0,vI d0,vI a1,vI b1,vI c1,vI d1] .raw)) (hln1:n1 < H.next):WC Try.prog 57 [.slice (some ⟨n1,0,none⟩) 2 4,.func (.func 59) #[] #[]] H (fun v H' => Keep H H'∧WT H'∧∃ (rb:Bool),v=(.bool rb)∧((rb=true∧(¬ ((a0 ≤ b0)∧(a1 ≤ b1))))∨(rb=false∧¬ (¬ ((a0 ≤ b0)∧(a1 ≤ b1)))))):=by
 refine wc_of_body Try.func57 rfl ?_
 refine wk ⟨[(0,.slice (some ⟨n1,0,none⟩) 2 4),(1,.func (.func 59) #[] #[])],9,[],H⟩ rfl ?_
 refine w_seq (w_region (mv (.bool false) rfl rfl ?_))
 refine wo_nil (tq_n (wk ⟨[(0,.slice (some ⟨n1,0,none⟩) 2 4),(1,.func (.func 59) #[] #[])],9,[],H⟩ rfl ?_))
 refine w_seq (w_region (mv (.slice (some ⟨n1,0,none⟩) 2 4) rfl rfl ?_))
 refine mv (.func (.func 59) #[] #[]) rfl rfl ?_
 refine sc_ (H:=H) (vs:=[.slice (some ⟨n1,0,none⟩) 2 4,.func (.func 59) #[] #[]]) (fv:=.func (.func 68) #[] #[]) rfl rfl rfl rfl rfl rfl (.cons rfl rfl (by simp [undef]) (.cons rfl rfl (by simp [undef]) .nil)) rfl ?_
 refine WV.mono (wv_f0 Try.call68 (indexFunc_59_2 a0 b0 c0 d0 a1 b1 c1 d1 n1 _ wt hkn1 (by omega))) ?_
 rintro v105 H106 ⟨k107,w101,ri102,rfl,f103,f104⟩
 refine kpL k107 fun n109 l108 => ?_
 by_cases c110:ri102 ≥ 0
 ·
  refine sv (v:=.bool true) rfl rfl rfl (opv_bin rfl rfl rfl rfl rfl (cmpT rfl c110)) rfl ?_
  refine mv (.bool true) rfl rfl ?_
  refine wo_nil (tq_n (wk ⟨[(4,.bool true)],9,[],H106⟩ rfl ?_))
  refine w_ret ?_
  refine ⟨.inr rfl,rfl,[.bool true],.cons (resV_tmp rfl (by simp [undef])) .nil,((KeepX.refl (fun _ => False) H).keep k107).k (fun _ h => h.elim),w101,true,rfl,(.inl ⟨rfl,by omega⟩)⟩
 ·
  refine sv (v:=.bool false) rfl rfl rfl (opv_bin rfl rfl rfl rfl rfl (cmpF rfl c110)) rfl ?_
  refine mv (.bool false) rfl rfl ?_
  refine wo_nil (tq_n (wk ⟨[(4,.bool false)],9,[],H106⟩ rfl ?_))
  refine w_ret ?_
  refine ⟨.inr rfl,rfl,[.bool false],.cons (resV_tmp rfl (by simp [undef])) .nil,((KeepX.refl (fun _ => False) H).keep k107).k (fun _ h => h.elim),w101,false,rfl,(.inr ⟨rfl,by omega⟩)⟩

theorem strange_2 (a0 b0:Int) (c0 d0:Int) (a1 b1:Int) (c1 d1:Int) (n1:Nat) (H:SH) (wt:WT H) (hkn1:H.get n1=some (.row #[vI a0,vI b0,vI c0,vI d0,vI a1,vI b1,vI c1,vI d1] .raw)) (hln1:n1 < H.next):WC Try.prog 36 [.slice (some ⟨n1,0,none⟩) 2 4] H (fun v H' => Keep H H'∧WT H'∧∃ (ri:Int),v=(vI ri)∧(ri=0→(c0 ≤ a0∧a0 ≤ b0∧b0 ≤ d0)∧(c1 ≤ a1∧a1 ≤ b1∧b1 ≤ d1))):=by
 refine wc_of_body Try.func36 rfl ?_
 refine wk ⟨[(0,.slice (some ⟨n1,0,none⟩) 2 4)],9,[],H⟩ rfl ?_
 refine w_seq (w_region (mv (vI 0) rfl rfl ?_))
 refine wo_nil (tq_n (wk ⟨[(0,.slice (some ⟨n1,0,none⟩) 2 4)],9,[],H⟩ rfl ?_))
 refine w_seq (w_block (w_seq (w_region (mv (.slice (some ⟨n1,0,none⟩) 2 4) rfl rfl ?_))))
 refine sc_ (H:=H) (vs:=[.slice (some ⟨n1,0,none⟩) 2 4,.func (.func 58) #[] #[]]) (fv:=.func (.func 57) #[] #[]) rfl rfl rfl rfl rfl rfl (.cons rfl rfl (by simp [undef]) (.cons rfl rfl (by simp [undef]) .nil)) rfl ?_
 refine WV.mono (wv_f0 Try.call57 (containsFunc_58_2 a0 b0 c0 d0 a1 b1 c1 d1 n1 _ wt hkn1 (by omega))) ?_
 rintro v104 H105 ⟨k106,w101,rb102,rfl,f103⟩
 refine kpL k106 fun n108 l107 => ?_
 refine mv (.bool rb102) rfl rfl ?_
 refine wo_nil (tq_n (wk ⟨[(0,.slice (some ⟨n1,0,none⟩) 2 4),(3,.bool rb102)],9,[],H105⟩ rfl ?_))
 rcases f103 with ⟨rfl,f103⟩ | ⟨rfl,f103⟩
 ·
  refine w_cond (t:=true) rfl rfl (fun _ => ?_) (fun h => by cases h)
  refine w_seq (w_region (mv (vI 7) rfl rfl ?_))
  refine wo_nil (tq_n (wk ⟨[(2,vI 7)],9,[],H105⟩ rfl ?_))
  refine w_ret ?_
  try refine q_eq (e':=.ret) rfl ?_
  refine tq_r ?_
  refine ⟨.inr rfl,rfl,[vI 7],.cons (resV_tmp rfl neI) .nil,((KeepX.refl (fun _ => False) H).keep k106).k (fun _ h => h.elim),w101,7,rfl,?_⟩
  · omega
 ·
  refine w_cond (t:=false) rfl rfl (fun h => by cases h) (fun _ => ?_)
  refine w_seq (w_region (mv (.slice (some ⟨n1,0,none⟩) 2 4) rfl rfl ?_))
  refine sc_ (H:=H105) (vs:=[.slice (some ⟨n1,0,none⟩) 2 4,.func (.func 59) #[] #[]]) (fv:=.func (.func 57) #[] #[]) rfl rfl rfl rfl rfl rfl (.cons rfl rfl (by simp [undef]) (.cons rfl rfl (by simp [undef]) .nil)) rfl ?_
  refine WV.mono (wv_f0 Try.call57 (containsFunc_59_2 a0 b0 c0 d0 a1 b1 c1 d1 n1 _ w101 ((k106.get n1 (by omega)).trans hkn1) (by omega))) ?_
  rintro v112 H113 ⟨k114,w109,rb110,rfl,f111⟩
  refine kpL k114 fun n116 l115 => ?_
  refine mv (.bool rb110) rfl rfl ?_
  refine wo_nil (tq_n (wk ⟨[(6,.bool rb110)],9,[],H113⟩ rfl ?_))
  rcases f111 with ⟨rfl,f111⟩ | ⟨rfl,f111⟩
  ·
   refine w_cond (t:=true) rfl rfl (fun _ => ?_) (fun h => by cases h)
   refine w_seq (w_region (mv (vI 2) rfl rfl ?_))
   refine wo_nil (tq_n (wk ⟨[(2,vI 2)],9,[],H113⟩ rfl ?_))
   refine w_ret ?_
   try refine q_eq (e':=.ret) rfl ?_
   refine tq_r ?_
   refine ⟨.inr rfl,rfl,[vI 2],.cons (resV_tmp rfl neI) .nil,(((KeepX.refl (fun _ => False) H).keep k106).keep k114).k (fun _ h => h.elim),w109,2,rfl,?_⟩
   · omega
  ·
   refine w_cond (t:=false) rfl rfl (fun h => by cases h) (fun _ => ?_)
   refine w_skip ?_
   try refine q_eq (e':=.normal) rfl ?_
   refine tqk ⟨[],9,[],H113⟩ rfl ?_
   refine w_seq (w_region (mv (vI 0) rfl rfl ?_))
   refine wo_nil (tq_n (wk ⟨[(2,vI 0)],9,[],H113⟩ rfl ?_))
   refine w_ret ?_
   refine ⟨.inr rfl,rfl,[vI 0],.cons (resV_tmp rfl neI) .nil,(((KeepX.refl (fun _ => False) H).keep k106).keep k114).k (fun _ h => h.elim),w109,0,rfl,?_⟩
   · omega

theorem tide_Check_ok (ax1 ax2:Int) (ax3 ax4 ax5:Int) (as6:Value) (ax7 ax8 ax9:Int) (H:SH) (wt:WT H) (hvas6:VT H (.sl false [.int .i64,.int .i64,.int .i64,.int .i64,.int .i64]) as6):WC Try.prog 7 [.agg #[vI ax1,vI ax2,vI ax3,vI ax4,vI ax5,as6],.agg #[vI ax7,vI ax8,vI ax9]] H (fun v H' => Keep H H'∧WT H'∧∃ (rx10 rx11 rx12:Int),v=(.tuple #[vI rx10,vI rx11,vI rx12])∧(rx12=0→1 ≤ ax1∧ax1 ≤ ax2∧ax2 ≤ 1000000∧-1000000 ≤ ax7∧ax8 ≤ 1000000∧1 ≤ slen as6)∧(rx12=0→∀ k:Nat,k < slen as6→-1000000 ≤ elI H as6 (k * 5 + 1)∧elI H as6 (k * 5 + 2) ≤ 1000000∧-1000000 ≤ elI H as6 (k * 5 + 3)∧elI H as6 (k * 5 + 4) ≤ 1000000)):=by
 refine wc_of_body Try.func7 rfl ?_
 refine wk ⟨[(0,.agg #[vI ax1,vI ax2,vI ax3,vI ax4,vI ax5,as6]),(1,.agg #[vI ax7,vI ax8,vI ax9])],89,[],H⟩ rfl ?_
 refine w_seq (w_region (sv_new (H:=H) (v:=vP H.next 0) (x:=.row #[vI ax1,vI ax2,vI ax3,vI ax4,vI ax5,as6] .raw) rfl rfl rfl rfl (opv_boxE (v:=.agg #[vI ax1,vI ax2,vI ax3,vI ax4,vI ax5,as6]) rfl rfl rfl (by simp [undef]) rfl) ?_))
 intro H101 f102
 refine newL wt f102 fun n105 w103 l104 => ?_
 refine sv_new (H:=H101) (v:=vP H101.next 0) (x:=.row #[vI ax7,vI ax8,vI ax9] .raw) rfl rfl rfl rfl (opv_boxE (v:=.agg #[vI ax7,vI ax8,vI ax9]) rfl rfl rfl (by simp [undef]) rfl) ?_
 intro H106 f107
 refine newL w103 f107 fun n110 w108 l109 => ?_
 refine mv (vI 0) rfl rfl ?_
 refine mv (vI 0) rfl rfl ?_
 refine mv (vI 0) rfl rfl ?_
 refine wo_nil (tq_n (wk ⟨[(2,vP H.next 0),(3,vP H101.next 0)],89,[],H106⟩ rfl ?_))
 refine w_seq (w_seq (w_draw_start ?_))
 intro C0
 have C111:=ch_val (i:=6) (p:=0) (ks:=[2]) (v:=vP H.next 4) (A:=H106) (H:=H106) C0 rfl rfl rfl rfl rfl rfl (opv_fieldAddrE rfl rfl rfl Try.underlying26 rfl sz3 (by decide) rfl)
 have C112:=ch_val (i:=7) (p:=0) (ks:=[15]) (v:=vI ax5) (A:=H106) (H:=H106) C111 rfl rfl rfl rfl rfl rfl (opv_loadE rfl rfl rfl ag3 sz3 ((f107.get H.next (by omega)).trans f102.blk) rfl (.inr rfl) rfl)
 obtain ⟨_,H115,k116,⟨w114,rfl⟩,C113⟩:=ch_call (i:=8) (p:=2) (ks:=[16]) (vs:=[vI ax5]) (fv:=.func (.func 37) #[] #[]) (H:=H106) C112 rfl rfl rfl rfl rfl rfl rfl (.cons rfl rfl neI .nil) rfl (wv_f0 Try.call37 (tide_one_ok ax5 _ w108))
 refine kpL k116 fun n118 l117 => ?_
 have C119:=ch_val (i:=0) (p:=0) (ks:=[2]) (v:=vP H.next 0) (A:=H106) (H:=H115) C113 rfl rfl rfl rfl rfl rfl (opv_fieldAddrE rfl rfl rfl Try.underlying26 rfl sz23 (by decide) rfl)
 have C120:=ch_val (i:=1) (p:=0) (ks:=[9]) (v:=.agg #[vI ax1,vI ax2]) (A:=H106) (H:=H115) C119 rfl rfl rfl rfl rfl rfl (opv_loadE rfl rfl rfl ag23 sz23 ((f107.get H.next (by omega)).trans f102.blk) rfl (.inl rfl) rfl)
 have C121:=ch_val (i:=2) (p:=0) (ks:=[10]) (v:=.agg #[vI ax1,vI ax2,vI 1,vI 200]) (A:=H106) (H:=H115) C120 rfl rfl rfl rfl rfl rfl (opv_buildStE (vs:=[(0,.agg #[vI ax1,vI ax2]),(1,vI 1),(2,vI 200)]) rfl (.cons rfl rfl (by simp [undef]) (.cons rfl rfl neI (.cons rfl rfl neI .nil))) ze74 rfl tin74 Try.underlying74 pl74 rfl rfl)
 have C122:=ch_val (i:=3) (p:=0) (ks:=[2]) (v:=vP H.next 2) (A:=H106) (H:=H115) C121 rfl rfl rfl rfl rfl rfl (opv_fieldAddrE rfl rfl rfl Try.underlying26 rfl sz23 (by decide) rfl)
 have C123:=ch_val (i:=4) (p:=0) (ks:=[12]) (v:=.agg #[vI ax3,vI ax4]) (A:=H106) (H:=H115) C122 rfl rfl rfl rfl rfl rfl (opv_loadE rfl rfl rfl ag23 sz23 ((f107.get H.next (by omega)).trans f102.blk) rfl (.inl rfl) rfl)
 have C124:=ch_val (i:=5) (p:=0) (ks:=[13]) (v:=.agg #[vI ax3,vI ax4,vI (-2000000),vI 2000000]) (A:=H106) (H:=H115) C123 rfl rfl rfl rfl rfl rfl (opv_buildStE (vs:=[(0,.agg #[vI ax3,vI ax4]),(1,vI (-2000000)),(2,vI 2000000)]) rfl (.cons rfl rfl (by simp [undef]) (.cons rfl rfl neI (.cons rfl rfl neI .nil))) ze74 rfl tin74 Try.underlying74 pl74 rfl rfl)
 have C125:=ch_val (i:=9) (p:=3) (ks:=[17]) (v:=.agg #[vI ax5,vI ax5,vI 0,vI 200]) (A:=H115) (H:=H115) C124 rfl rfl rfl rfl rfl rfl (opv_buildStE (vs:=[(0,.agg #[vI ax5,vI ax5]),(1,vI 0),(2,vI 200)]) rfl (.cons rfl rfl (by simp [undef]) (.cons rfl rfl neI (.cons rfl rfl neI .nil))) ze74 rfl tin74 Try.underlying74 pl74 rfl rfl)
 refine w_draw (tl:=[10,11,12]) rfl [0,1,3,0,8,24,0,64,192,448,1023,2047,4095] C125 (by kernel_rfl) (by kernel_rfl) ?_
 refine wonorm (g:=[(2,vP H.next 0),(3,vP H101.next 0),(11,.agg #[vI ax1,vI ax2,vI 1,vI 200]),(14,.agg #[vI ax3,vI ax4,vI (-2000000),vI 2000000]),(18,.agg #[vI ax5,vI ax5,vI 0,vI 200])]) (n:=89) (ds:=[]) (H:=H115) (lsub_cons rfl (lsub_cons rfl (lsub_cons rfl (lsub_cons rfl (lsub_cons rfl (lsub_nil _)))))) rfl rfl rfl ?_
 refine sv_new (H:=H115) (v:=.slice (some ⟨H115.next,0,none⟩) 3 4) (x:=.row #[vI ax1,vI ax2,vI 1,vI 200,vI ax3,vI ax4,vI (-2000000),vI 2000000,vI ax5,vI ax5,vI 0,vI 200] .raw) rfl rfl rfl rfl (opv_buildSliceE (vs:=[(0,.agg #[vI ax1,vI ax2,vI 1,vI 200]),(1,.agg #[vI ax3,vI ax4,vI (-2000000),vI 2000000]),(2,.agg #[vI ax5,vI ax5,vI 0,vI 200])]) rfl (.cons rfl rfl (by simp [undef]) (.cons rfl rfl (by simp [undef]) (.cons rfl rfl (by simp [undef]) .nil))) Try.underlying108 sz74 ze74 rfl (by decide) (by decide) rfl rfl rfl) ?_
 intro H126 f127
 refine newL w114 f127 fun n130 w128 l129 => ?_
 refine sc_ (H:=H126) (vs:=[.slice (some ⟨H115.next,0,none⟩) 3 4]) (fv:=.func (.func 36) #[] #[]) rfl rfl rfl rfl rfl rfl (.cons rfl rfl (by simp [undef]) .nil) rfl ?_
 refine WV.mono (wv_f0 Try.call36 (strange_3 ax1 ax2 1 200 ax3 ax4 (-2000000) 2000000 ax5 ax5 0 200 H115.next _ w128 f127.blk (by omega))) ?_
 rintro v134 H135 ⟨k136,w131,ri132,rfl,f133⟩
 refine kpL k136 fun n138 l137 => ?_
 refine mv (vI ri132) rfl rfl ?_
 refine wo_nil (tq_n (wk ⟨[(2,vP H.next 0),(3,vP H101.next 0),(6,vI ri132)],89,[],H135⟩ rfl ?_))
 refine w_seq (w_region (mv (vI ri132) rfl rfl ?_))
 by_cases c139:ri132=0
 ·
  refine sv (v:=.bool false) rfl rfl rfl (opv_bin rfl rfl rfl rfl rfl (neF c139)) rfl ?_
  refine wo_nil (tq_n (wk ⟨[(2,vP H.next 0),(3,vP H101.next 0),(6,vI ri132),(22,.bool false)],89,[],H135⟩ rfl ?_))
  refine w_cond (t:=false) rfl rfl (fun h => by cases h) (fun _ => ?_)
  refine w_skip (tq_n (wk ⟨[(2,vP H.next 0),(3,vP H101.next 0)],89,[],H135⟩ rfl ?_))
  refine w_seq (w_seq (w_region (sv (v:=vP H.next 5) rfl rfl rfl (opv_fieldAddrE rfl rfl rfl Try.underlying26 rfl sz24 (by decide) rfl) rfl ?_)))
  refine sv (v:=as6) rfl rfl rfl (opv_loadE rfl rfl rfl ag24 sz24 ((k136.get H.next (by omega)).trans ((f127.get H.next (by omega)).trans ((k116.get H.next (by omega)).trans ((f107.get H.next (by omega)).trans f102.blk)))) rfl (.inr rfl) rfl) rfl ?_
  have c140:slen as6 ≤ 1073741824:=vt_lim (hvas6.mono ((((l104.trans l109).trans l117).trans l129).trans l137))
  refine sv (v:=(vI (slen as6:Int))) rfl rfl rfl (t_len (hvas6.mono ((((l104.trans l109).trans l117).trans l129).trans l137)) rfl rfl rfl Try.underlying24) rfl ?_
  by_cases c141 : (slen as6:Int) < 1
  ·
   refine sv (v:=.bool true) rfl rfl rfl (opv_bin rfl rfl rfl rfl rfl (cmpT rfl c141)) rfl ?_
   refine mv (.bool true) rfl rfl ?_
   refine ss rfl (wants_g rfl rfl rfl rfl rfl) rfl rfl ?_
   refine ss rfl (wants_g rfl rfl rfl rfl rfl) rfl rfl ?_
   refine ss rfl (wants_g rfl rfl rfl rfl rfl) rfl rfl ?_
   refine ss rfl (wants_g rfl rfl rfl rfl rfl) rfl rfl ?_
   refine sv (v:=.bool true) rfl rfl rfl (opv_pick (b:=true) rfl rfl rfl rfl rfl rfl) rfl ?_
   refine wo_nil (tq_n (wk ⟨[(2,vP H.next 0),(3,vP H101.next 0),(33,.bool true)],89,[],H135⟩ rfl ?_))
   refine w_cond (t:=true) rfl rfl (fun _ => ?_) (fun h => by cases h)
   refine w_seq (w_region (mv (vI 2) rfl rfl ?_))
   refine mv (vI 0) rfl rfl ?_
   refine mv (vI 3) rfl rfl ?_
   refine wo_nil (tq_n (wk ⟨[(4,vI 2),(5,vI 0),(6,vI 3)],89,[],H135⟩ rfl ?_))
   refine w_ret (tq_r ?_)
   refine ⟨.inr rfl,rfl,[vI 2,vI 0,vI 3],.cons (resV_tmp rfl neI) (.cons (resV_tmp rfl neI) (.cons (resV_tmp rfl neI) .nil)),((((((KeepX.refl (fun _ => False) H).new_ f102).new_ f107).keep k116).new_ f127).keep k136).k (fun _ h => h.elim),w131,2,0,3,rfl,?_,?_⟩
   · omega
   · intro hc; first | (exfalso; omega)
  ·
   refine sv (v:=.bool false) rfl rfl rfl (opv_bin rfl rfl rfl rfl rfl (cmpF rfl c141)) rfl ?_
   refine mv (.bool false) rfl rfl ?_
   refine sv (v:=vP H.next 5) rfl (wants_g rfl rfl rfl rfl rfl) rfl (opv_fieldAddrE rfl rfl rfl Try.underlying26 rfl sz24 (by decide) rfl) rfl ?_
   refine sv (v:=as6) rfl (wants_g rfl rfl rfl rfl rfl) rfl (opv_loadE rfl rfl rfl ag24 sz24 ((k136.get H.next (by omega)).trans ((f127.get H.next (by omega)).trans ((k116.get H.next (by omega)).trans ((f107.get H.next (by omega)).trans f102.blk)))) rfl (.inr rfl) rfl) rfl ?_
   have c142:slen as6 ≤ 1073741824:=vt_lim (hvas6.mono ((((l104.trans l109).trans l117).trans l129).trans l137))
   refine sv (v:=(vI (slen as6:Int))) rfl (wants_g rfl rfl rfl rfl rfl) rfl (t_len (hvas6.mono ((((l104.trans l109).trans l117).trans l129).trans l137)) rfl rfl rfl Try.underlying24) rfl ?_
   by_cases c143 : (slen as6:Int) > 12
   ·
    refine sv (v:=.bool true) rfl (wants_g rfl rfl rfl rfl rfl) rfl (opv_bin rfl rfl rfl rfl rfl (cmpT rfl c143)) rfl ?_
    refine sv (v:=.bool true) rfl rfl rfl (opv_pick (b:=false) rfl rfl rfl rfl rfl rfl) rfl ?_
    refine wo_nil (tq_n (wk ⟨[(2,vP H.next 0),(3,vP H101.next 0),(33,.bool true)],89,[],H135⟩ rfl ?_))
    refine w_cond (t:=true) rfl rfl (fun _ => ?_) (fun h => by cases h)
    refine w_seq (w_region (mv (vI 2) rfl rfl ?_))
    refine mv (vI 0) rfl rfl ?_
    refine mv (vI 3) rfl rfl ?_
    refine wo_nil (tq_n (wk ⟨[(4,vI 2),(5,vI 0),(6,vI 3)],89,[],H135⟩ rfl ?_))
    refine w_ret (tq_r ?_)
    refine ⟨.inr rfl,rfl,[vI 2,vI 0,vI 3],.cons (resV_tmp rfl neI) (.cons (resV_tmp rfl neI) (.cons (resV_tmp rfl neI) .nil)),((((((KeepX.refl (fun _ => False) H).new_ f102).new_ f107).keep k116).new_ f127).keep k136).k (fun _ h => h.elim),w131,2,0,3,rfl,?_,?_⟩
    · omega
    · intro hc; first | (exfalso; omega)
   ·
    refine sv (v:=.bool false) rfl (wants_g rfl rfl rfl rfl rfl) rfl (opv_bin rfl rfl rfl rfl rfl (cmpF rfl c143)) rfl ?_
    refine sv (v:=.bool false) rfl rfl rfl (opv_pick (b:=false) rfl rfl rfl rfl rfl rfl) rfl ?_
    refine wo_nil (tq_n (wk ⟨[(2,vP H.next 0),(3,vP H101.next 0),(33,.bool false)],89,[],H135⟩ rfl ?_))
    refine w_cond (t:=false) rfl rfl (fun h => by cases h) (fun _ => ?_)
    refine w_skip (tq_n (wk ⟨[(2,vP H.next 0),(3,vP H101.next 0)],89,[],H135⟩ rfl ?_))
    refine w_seq (w_seq (w_region (sv (v:=vP H.next 5) rfl rfl rfl (opv_fieldAddrE rfl rfl rfl Try.underlying26 rfl sz24 (by decide) rfl) rfl ?_)))
    refine sv (v:=as6) rfl rfl rfl (opv_loadE rfl rfl rfl ag24 sz24 ((k136.get H.next (by omega)).trans ((f127.get H.next (by omega)).trans ((k116.get H.next (by omega)).trans ((f107.get H.next (by omega)).trans f102.blk)))) rfl (.inr rfl) rfl) rfl ?_
    have c144:slen as6 ≤ 1073741824:=vt_lim (hvas6.mono ((((l104.trans l109).trans l117).trans l129).trans l137))
    refine sv (v:=(vI (slen as6:Int))) rfl rfl rfl (t_len (hvas6.mono ((((l104.trans l109).trans l117).trans l129).trans l137)) rfl rfl rfl Try.underlying24) rfl ?_
    refine mv (vI 0) rfl rfl ?_
    refine wo_nil (tq_n (wk ⟨[(2,vP H.next 0),(3,vP H101.next 0),(35,as6),(36,(vI (slen as6:Int))),(37,vI 0)],89,[],H135⟩ rfl ?_))
    refine w_block (w_loopS (fun m153 s154 => ∃ (x145:Int) (H146:SH),(0 ≤ x145)∧(x145 ≤ (slen as6:Int))∧(∀ k:Nat,(k:Int) < x145→-1000000 ≤ elI H as6 (k * 5 + 1)∧elI H as6 (k * 5 + 2) ≤ 1000000∧-1000000 ≤ elI H as6 (k * 5 + 3)∧elI H as6 (k * 5 + 4) ≤ 1000000)∧WT H146∧Le H135 H146∧KeepX (fun _ => False) H135 H146∧m153=(((slen as6:Int):Int) - x145).toNat∧s154=⟨[(2,vP H.next 0),(3,vP H101.next 0),(35,as6),(36,(vI (slen as6:Int))),(37,vI x145)],89,[],H146⟩) (n:=(((slen as6:Int):Int) - 0).toNat) ⟨⟨[(2,vP H.next 0),(3,vP H101.next 0),(35,as6),(36,(vI (slen as6:Int))),(37,vI 0)],89,[],H135⟩,subk rfl,0,H135,by omega,by omega,(fun k hk => by omega),w131,Le.refl _,KeepX.refl (fun _ => False) H135,rfl,rfl⟩ ?_)
    rintro m153 s154 ⟨x145,H146,i148,i149,ha147,w150,l151,k152,rfl,rfl⟩
    have n155:=k152.next
    refine w_seq (w_region ?_)
    by_cases c156:x145 < (slen as6:Int)
    ·
     refine sv (v:=.bool true) rfl rfl rfl (opv_bin rfl rfl rfl rfl rfl (cmpT rfl c156)) rfl ?_
     refine wo_nil (tq_n (wk ⟨[(2,vP H.next 0),(3,vP H101.next 0),(35,as6),(36,(vI (slen as6:Int))),(37,vI x145),(38,.bool true)],89,[],H146⟩ rfl ?_))
     refine w_seq (w_cond (t:=true) rfl rfl (fun _ => ?_) (fun h => by cases h))
     refine w_skip (tq_n (wk ⟨[(2,vP H.next 0),(3,vP H101.next 0),(35,as6),(36,(vI (slen as6:Int))),(37,vI x145)],89,[],H146⟩ rfl ?_))
     refine w_seq (w_block (w_seq (w_region (mv (vI x145) rfl rfl ?_))))
     refine sv (v:=.pointer (some ⟨snm as6,sof as6 + (x145).toNat * 5,none⟩)) rfl rfl rfl (t_index (z:=5) (hvas6.mono (((((l104.trans l109).trans l117).trans l129).trans l137).trans l151)) rfl rfl rfl rfl rfl Try.underlying24 sz77 (by omega) (by omega)) rfl ?_
     obtain ⟨vs157,hs158,ho159,he160⟩:=t_loadE (P:=Try.prog) w150 (hvas6.mono (((((l104.trans l109).trans l117).trans l129).trans l137).trans l151)) (i:=(x145).toNat) (off:=0) (w:=5) (by omega) (by decide)
     replace hs158:VTs H146 [.int .i64,.int .i64,.int .i64,.int .i64,.int .i64] vs157:=hs158
     obtain ⟨x163,r161,rfl,hs162⟩:=vts_int hs158
     obtain ⟨x166,r164,rfl,hs165⟩:=vts_int hs162
     obtain ⟨x169,r167,rfl,hs168⟩:=vts_int hs165
     obtain ⟨x172,r170,rfl,hs171⟩:=vts_int hs168
     obtain ⟨x175,r173,rfl,hs174⟩:=vts_int hs171
     obtain rfl:=vts_nil hs174
     have q176:elI H as6 ((x145).toNat * 5 + 0) = x163:=elI_of ((((((((KeepX.refl (fun _ => False) H).new_ f102).new_ f107).keep k116).new_ f127).keep k136).trans k152 (fun _ h => h.elim)).k (fun _ h => h.elim)) hvas6 (he160 0 (by decide))
     have q177:elI H as6 ((x145).toNat * 5 + 1) = x166:=elI_of ((((((((KeepX.refl (fun _ => False) H).new_ f102).new_ f107).keep k116).new_ f127).keep k136).trans k152 (fun _ h => h.elim)).k (fun _ h => h.elim)) hvas6 (he160 1 (by decide))
     have q178:elI H as6 ((x145).toNat * 5 + 2) = x169:=elI_of ((((((((KeepX.refl (fun _ => False) H).new_ f102).new_ f107).keep k116).new_ f127).keep k136).trans k152 (fun _ h => h.elim)).k (fun _ h => h.elim)) hvas6 (he160 2 (by decide))
     have q179:elI H as6 ((x145).toNat * 5 + 3) = x172:=elI_of ((((((((KeepX.refl (fun _ => False) H).new_ f102).new_ f107).keep k116).new_ f127).keep k136).trans k152 (fun _ h => h.elim)).k (fun _ h => h.elim)) hvas6 (he160 3 (by decide))
     have q180:elI H as6 ((x145).toNat * 5 + 4) = x175:=elI_of ((((((((KeepX.refl (fun _ => False) H).new_ f102).new_ f107).keep k116).new_ f127).keep k136).trans k152 (fun _ h => h.elim)).k (fun _ h => h.elim)) hvas6 (he160 4 (by decide))
     refine sv (v:=.agg #[vI x163,vI x166,vI x169,vI x172,vI x175]) rfl rfl rfl (ho159 _ _ _ _ true rfl rfl rfl rfl ag77 sz77 (.inl rfl)) rfl ?_
     refine sv_new (H:=H146) (v:=vP H146.next 0) (x:=.row #[vI 0,vI 0,vI 0,vI 0,vI 0] .raw) rfl rfl rfl rfl (opv_alloc rfl ze77 rfl) ?_
     intro H181 f182
     refine newL w150 f182 fun n185 w183 l184 => ?_
     refine mv (vI x145) rfl rfl ?_
     refine sv_put (H:=H181) (n:=H146.next) (v:=undef) (x:=some (.row #[vI x163,vI x166,vI x169,vI x172,vI x175] .raw)) rfl rfl rfl rfl (opv_storeC (u:=.agg #[vI x163,vI x166,vI x169,vI x172,vI x175]) rfl rfl rfl rfl rfl (by simp [undef]) sz77 rfl rfl rfl f182.blk rfl rfl) ?_
     intro H186 f187
     refine putL w183 f187 f182.blk fun n190 w188 l189 => ?_
     refine wo_nil (tq_n (wk ⟨[(2,vP H.next 0),(3,vP H101.next 0),(7,vI x145),(8,vP H146.next 0),(35,as6),(36,(vI (slen as6:Int))),(37,vI x145)],89,[],H186⟩ rfl ?_))
     refine w_seq (w_draw_start ?_)
     intro C0
     have C191:=ch_val (i:=0) (p:=0) (ks:=[8]) (v:=vP H146.next 0) (A:=H186) (H:=H186) C0 rfl rfl rfl rfl rfl rfl (opv_fieldAddrE rfl rfl rfl Try.underlying77 rfl sz3 (by decide) rfl)
     have C192:=ch_val (i:=1) (p:=0) (ks:=[42]) (v:=vI x163) (A:=H186) (H:=H186) C191 rfl rfl rfl rfl rfl rfl (opv_loadE rfl rfl rfl ag3 sz3 f187.blk rfl (.inr rfl) rfl)
     obtain ⟨_,H195,k196,⟨w194,rfl⟩,C193⟩:=ch_call (i:=2) (p:=2) (ks:=[43]) (vs:=[vI x163]) (fv:=.func (.func 37) #[] #[]) (H:=H186) C192 rfl rfl rfl rfl rfl rfl rfl (.cons rfl rfl neI .nil) rfl (wv_f0 Try.call37 (tide_one_ok x163 _ w188))
     refine kpL k196 fun n198 l197 => ?_
     have C199:=ch_val (i:=3) (p:=3) (ks:=[44]) (v:=.agg #[vI x163,vI x163,vI 0,vI 40000]) (A:=H195) (H:=H195) C193 rfl rfl rfl rfl rfl rfl (opv_buildStE (vs:=[(0,.agg #[vI x163,vI x163]),(1,vI 0),(2,vI 40000)]) rfl (.cons rfl rfl (by simp [undef]) (.cons rfl rfl neI (.cons rfl rfl neI .nil))) ze74 rfl tin74 Try.underlying74 pl74 rfl rfl)
     have C200:=ch_val (i:=4) (p:=0) (ks:=[8]) (v:=vP H146.next 1) (A:=H186) (H:=H195) C199 rfl rfl rfl rfl rfl rfl (opv_fieldAddrE rfl rfl rfl Try.underlying77 rfl sz23 (by decide) rfl)
     have C201:=ch_val (i:=5) (p:=0) (ks:=[46]) (v:=.agg #[vI x166,vI x169]) (A:=H186) (H:=H195) C200 rfl rfl rfl rfl rfl rfl (opv_loadE rfl rfl rfl ag23 sz23 f187.blk rfl (.inl rfl) rfl)
     have C202:=ch_val (i:=6) (p:=0) (ks:=[47]) (v:=.agg #[vI x166,vI x169,vI 0,vI 1500]) (A:=H186) (H:=H195) C201 rfl rfl rfl rfl rfl rfl (opv_buildStE (vs:=[(0,.agg #[vI x166,vI x169]),(1,vI 0),(2,vI 1500)]) rfl (.cons rfl rfl (by simp [undef]) (.cons rfl rfl neI (.cons rfl rfl neI .nil))) ze74 rfl tin74 Try.underlying74 pl74 rfl rfl)
     have C203:=ch_val (i:=7) (p:=0) (ks:=[8]) (v:=vP H146.next 3) (A:=H186) (H:=H195) C202 rfl rfl rfl rfl rfl rfl (opv_fieldAddrE rfl rfl rfl Try.underlying77 rfl sz23 (by decide) rfl)
     have C204:=ch_val (i:=8) (p:=0) (ks:=[49]) (v:=.agg #[vI x172,vI x175]) (A:=H186) (H:=H195) C203 rfl rfl rfl rfl rfl rfl (opv_loadE rfl rfl rfl ag23 sz23 f187.blk rfl (.inl rfl) rfl)
     have C205:=ch_val (i:=9) (p:=0) (ks:=[50]) (v:=.agg #[vI x172,vI x175,vI (-200),vI 200]) (A:=H186) (H:=H195) C204 rfl rfl rfl rfl rfl rfl (opv_buildStE (vs:=[(0,.agg #[vI x172,vI x175]),(1,vI (-200)),(2,vI 200)]) rfl (.cons rfl rfl (by simp [undef]) (.cons rfl rfl neI (.cons rfl rfl neI .nil))) ze74 rfl tin74 Try.underlying74 pl74 rfl rfl)
     refine w_draw (tl:=[10,11,12]) rfl [0,1,3,7,0,16,48,0,128,384,1023,2047,4095] C205 (by kernel_rfl) (by kernel_rfl) ?_
     refine wonorm (g:=[(2,vP H.next 0),(3,vP H101.next 0),(7,vI x145),(8,vP H146.next 0),(35,as6),(36,(vI (slen as6:Int))),(37,vI x145),(45,.agg #[vI x163,vI x163,vI 0,vI 40000]),(48,.agg #[vI x166,vI x169,vI 0,vI 1500]),(51,.agg #[vI x172,vI x175,vI (-200),vI 200])]) (n:=89) (ds:=[]) (H:=H195) (lsub_cons rfl (lsub_cons rfl (lsub_cons rfl (lsub_cons rfl (lsub_cons rfl (lsub_cons rfl (lsub_cons rfl (lsub_cons rfl (lsub_cons rfl (lsub_cons rfl (lsub_nil _))))))))))) rfl rfl rfl ?_
     refine sv_new (H:=H195) (v:=.slice (some ⟨H195.next,0,none⟩) 3 4) (x:=.row #[vI x163,vI x163,vI 0,vI 40000,vI x166,vI x169,vI 0,vI 1500,vI x172,vI x175,vI (-200),vI 200] .raw) rfl rfl rfl rfl (opv_buildSliceE (vs:=[(0,.agg #[vI x163,vI x163,vI 0,vI 40000]),(1,.agg #[vI x166,vI x169,vI 0,vI 1500]),(2,.agg #[vI x172,vI x175,vI (-200),vI 200])]) rfl (.cons rfl rfl (by simp [undef]) (.cons rfl rfl (by simp [undef]) (.cons rfl rfl (by simp [undef]) .nil))) Try.underlying108 sz74 ze74 rfl (by decide) (by decide) rfl rfl rfl) ?_
     intro H206 f207
     refine newL w194 f207 fun n210 w208 l209 => ?_
     refine sc_ (H:=H206) (vs:=[.slice (some ⟨H195.next,0,none⟩) 3 4]) (fv:=.func (.func 36) #[] #[]) rfl rfl rfl rfl rfl rfl (.cons rfl rfl (by simp [undef]) .nil) rfl ?_
     refine WV.mono (wv_f0 Try.call36 (strange_3 x163 x163 0 40000 x166 x169 0 1500 x172 x175 (-200) 200 H195.next _ w208 f207.blk (by omega))) ?_
     rintro v214 H215 ⟨k216,w211,ri212,rfl,f213⟩
     refine kpL k216 fun n218 l217 => ?_
     refine mv (vI ri212) rfl rfl ?_
     refine wo_nil (tq_n (wk ⟨[(2,vP H.next 0),(3,vP H101.next 0),(6,vI ri212),(7,vI x145),(8,vP H146.next 0),(35,as6),(36,(vI (slen as6:Int))),(37,vI x145)],89,[],H215⟩ rfl ?_))
     refine w_seq (w_seq (w_draw_start ?_))
     intro C0
     have C219:=ch_val (i:=0) (p:=0) (ks:=[6]) (v:=vI ri212) (A:=H215) (H:=H215) C0 rfl rfl rfl rfl rfl rfl (opv_move (.inl rfl) rfl rfl)
     by_cases c221:ri212=0
     ·
      have C222:=ch_val (i:=1) (p:=0) (ks:=[54]) (v:=.bool true) (A:=H215) (H:=H215) C219 rfl rfl rfl rfl rfl rfl (opv_bin rfl rfl rfl rfl rfl (eqT c221))
      have C223:=ch_val (i:=2) (p:=0) (ks:=[55]) (v:=.bool true) (A:=H215) (H:=H215) C222 rfl rfl rfl rfl rfl rfl (opv_move (.inl rfl) rfl rfl)
      have C224:=ch_val (i:=3) (p:=0) (ks:=[7,56]) (v:=vI x145) (A:=H215) (H:=H215) C223 rfl rfl rfl rfl (wants_g rfl rfl rfl rfl rfl) rfl (opv_move (.inl rfl) rfl rfl)
      by_cases c226:x145 > 0
      ·
       have C227:=ch_val (i:=4) (p:=0) (ks:=[56,57]) (v:=.bool true) (A:=H215) (H:=H215) C224 rfl rfl rfl rfl (wants_g rfl rfl rfl rfl rfl) rfl (opv_bin rfl rfl rfl rfl rfl (cmpT rfl c226))
       have C228:=ch_val (i:=5) (p:=0) (ks:=[56,58]) (v:=.bool true) (A:=H215) (H:=H215) C227 rfl rfl rfl rfl rfl rfl (opv_pick (b:=true) rfl rfl rfl rfl rfl rfl)
       have C229:=ch_val (i:=6) (p:=0) (ks:=[59]) (v:=.bool true) (A:=H215) (H:=H215) C228 rfl rfl rfl rfl rfl rfl (opv_move (.inl rfl) rfl rfl)
       have C230:=ch_val (i:=7) (p:=0) (ks:=[8,60]) (v:=vP H146.next 0) (A:=H215) (H:=H215) C229 rfl rfl rfl rfl (wants_g rfl rfl rfl rfl rfl) rfl (opv_fieldAddrE rfl rfl rfl Try.underlying77 rfl sz3 (by decide) rfl)
       have C231:=ch_val (i:=8) (p:=0) (ks:=[60,61]) (v:=vI x163) (A:=H215) (H:=H215) C230 rfl rfl rfl rfl (wants_g rfl rfl rfl rfl rfl) rfl (opv_loadE rfl rfl rfl ag3 sz3 ((k216.get H146.next (by omega)).trans ((f207.get H146.next (by omega)).trans ((k196.get H146.next (by omega)).trans f187.blk))) rfl (.inr rfl) rfl)
       have C232:=ch_val (i:=9) (p:=0) (ks:=[2,60]) (v:=vP H.next 5) (A:=H215) (H:=H215) C231 rfl rfl rfl rfl (wants_g rfl rfl rfl rfl rfl) rfl (opv_fieldAddrE rfl rfl rfl Try.underlying26 rfl sz24 (by decide) rfl)
       have C233:=ch_val (i:=10) (p:=0) (ks:=[60,63]) (v:=as6) (A:=H215) (H:=H215) C232 rfl rfl rfl rfl (wants_g rfl rfl rfl rfl rfl) rfl (opv_loadE rfl rfl rfl ag24 sz24 ((k216.get H.next (by omega)).trans ((f207.get H.next (by omega)).trans ((k196.get H.next (by omega)).trans ((f187.get H.next (by omega)).trans ((f182.get H.next (by omega)).trans ((k152.get H.next (by omega) id).trans ((k136.get H.next (by omega)).trans ((f127.get H.next (by omega)).trans ((k116.get H.next (by omega)).trans ((f107.get H.next (by omega)).trans f102.blk)))))))))) rfl (.inr rfl) rfl)
       have C234:=ch_val (i:=11) (p:=0) (ks:=[7,60]) (v:=vI x145) (A:=H215) (H:=H215) C233 rfl rfl rfl rfl (wants_g rfl rfl rfl rfl rfl) rfl (opv_move (.inl rfl) rfl rfl)
       obtain ⟨x236,h237⟩ : ∃ x:Int,x=wr (x145 - 1):=⟨_,rfl⟩
       have C235:=ch_val (i:=12) (p:=0) (ks:=[60,65]) (v:=.int .i64 x236) (A:=H215) (H:=H215) C234 rfl rfl rfl rfl (wants_g rfl rfl rfl rfl rfl) rfl (by rw [h237]; exact (opv_bin rfl rfl rfl rfl rfl rfl))
       try replace h237:x236=x145 - 1:=wr_ex h237 (by omega) (by omega)
       have C238:=ch_val (i:=13) (p:=0) (ks:=[60,64,66]) (v:=.pointer (some ⟨snm as6,sof as6 + (x236).toNat * 5,none⟩)) (A:=H215) (H:=H215) C235 rfl rfl rfl rfl (wants_g rfl rfl rfl rfl rfl) rfl (t_index (z:=5) (hvas6.mono ((((((((((l104.trans l109).trans l117).trans l129).trans l137).trans l151).trans l184).trans l189).trans l197).trans l209).trans l217)) rfl rfl rfl rfl rfl Try.underlying24 sz77 (by omega) (by omega))
       have C239:=ch_val (i:=14) (p:=0) (ks:=[60,67]) (v:=.pointer (some ⟨snm as6,sof as6 + (x236).toNat * 5,none⟩)) (A:=H215) (H:=H215) C238 rfl rfl rfl rfl (wants_g rfl rfl rfl rfl rfl) rfl (opv_fieldAddrE rfl rfl rfl Try.underlying77 rfl sz3 (by decide) rfl)
       obtain ⟨vs241,hs242,ho243,he244⟩:=t_loadE (P:=Try.prog) w211 (hvas6.mono ((((((((((l104.trans l109).trans l117).trans l129).trans l137).trans l151).trans l184).trans l189).trans l197).trans l209).trans l217)) (i:=(x236).toNat) (off:=0) (w:=1) (by omega) (by decide)
       replace hs242:VTs H215 [.int .i64] vs241:=hs242
       obtain ⟨x247,r245,rfl,hs246⟩:=vts_int hs242
       obtain rfl:=vts_nil hs246
       have q248:elI H as6 ((x236).toNat * 5 + 0) = x247:=elI_of (((((((((((((KeepX.refl (fun _ => False) H).new_ f102).new_ f107).keep k116).new_ f127).keep k136).trans k152 (fun _ h => h.elim)).new_ f182).put f187 (by first | (right; omega) | (left; (try dsimp only) <;> omega))).keep k196).new_ f207).keep k216).k (fun _ h => h.elim)) hvas6 (he244 0 (by decide))
       have C240:=ch_val (i:=15) (p:=0) (ks:=[60,68]) (v:=vI x247) (A:=H215) (H:=H215) C239 rfl rfl rfl rfl (wants_g rfl rfl rfl rfl rfl) rfl (ho243 _ _ _ _ false rfl rfl rfl rfl ag3 sz3 (.inr rfl))
       refine w_draw (tl:=[16,17]) rfl [0,1,3,7,15,31,63,127,255,127,639,127,2175,7807,15999,32383,65535,131071] C240 (by kernel_rfl) (by kernel_rfl) ?_
       refine wonorm (g:=[(2,vP H.next 0),(3,vP H101.next 0),(6,vI ri212),(7,vI x145),(35,as6),(36,(vI (slen as6:Int))),(37,vI x145),(60,.bool true),(62,vI x163),(69,vI x247)]) (n:=89) (ds:=[]) (H:=H215) (lsub_cons rfl (lsub_cons rfl (lsub_cons rfl (lsub_cons rfl (lsub_cons rfl (lsub_cons rfl (lsub_cons rfl (lsub_cons rfl (lsub_cons rfl (lsub_cons rfl (lsub_nil _))))))))))) rfl rfl rfl ?_
       by_cases c249:x163 < x247
       ·
        refine sv (v:=.bool true) rfl (wants_g rfl rfl rfl rfl rfl) rfl (opv_bin rfl rfl rfl rfl rfl (cmpT rfl c249)) rfl ?_
        refine sv (v:=.bool true) rfl rfl rfl (opv_pick (b:=true) rfl rfl rfl rfl rfl rfl) rfl ?_
        refine wo_nil (tq_n (wk ⟨[(2,vP H.next 0),(3,vP H101.next 0),(6,vI ri212),(7,vI x145),(35,as6),(36,(vI (slen as6:Int))),(37,vI x145),(71,.bool true)],89,[],H215⟩ rfl ?_))
        refine w_cond (t:=true) rfl rfl (fun _ => ?_) (fun h => by cases h)
        refine w_region (mv (vI 2) rfl rfl ?_)
        refine wo_nil (tq_n (wk ⟨[(2,vP H.next 0),(3,vP H101.next 0),(6,vI 2),(7,vI x145),(35,as6),(36,(vI (slen as6:Int))),(37,vI x145)],89,[],H215⟩ rfl ?_))
        refine w_seq (w_region (mv (vI 2) rfl rfl ?_))
        refine sv (v:=.bool true) rfl rfl rfl (opv_bin rfl rfl rfl rfl rfl (neT (by decide))) rfl ?_
        refine wo_nil (tq_n (wk ⟨[(2,vP H.next 0),(3,vP H101.next 0),(6,vI 2),(7,vI x145),(35,as6),(36,(vI (slen as6:Int))),(37,vI x145),(73,.bool true)],89,[],H215⟩ rfl ?_))
        refine w_cond (t:=true) rfl rfl (fun _ => ?_) (fun h => by cases h)
        refine w_seq (w_region (mv (vI x145) rfl rfl ?_))
        refine mv (vI 2) rfl rfl ?_
        refine mv (vI 2) rfl rfl ?_
        refine mv (vI x145) rfl rfl ?_
        refine mv (vI 2) rfl rfl ?_
        refine wo_nil (tq_n (wk ⟨[(4,vI 2),(5,vI x145),(6,vI 2)],89,[],H215⟩ rfl ?_))
        refine w_ret ?_
        try refine q_eq (e':=.ret) rfl ?_
        refine tq_r (tq_r ?_)
        try refine q_eq (e':=.ret) rfl ?_
        refine tq_r ?_
        refine ⟨.inr rfl,rfl,[vI 2,vI x145,vI 2],.cons (resV_tmp rfl neI) (.cons (resV_tmp rfl neI) (.cons (resV_tmp rfl neI) .nil)),(((((((((((((KeepX.refl (fun _ => False) H).new_ f102).new_ f107).keep k116).new_ f127).keep k136).trans k152 (fun _ h => h.elim)).new_ f182).put f187 (by first | (right; omega) | (left; (try dsimp only) <;> omega))).keep k196).new_ f207).keep k216).k (fun _ h => h.elim)),w211,2,x145,2,rfl,?_,?_⟩
        · omega
        · intro hc; first | (exfalso; omega) | (exact fun k hk => ha147 k (by omega)) | (exact fun k hk => ha147 k hk)
       ·
        refine sv (v:=.bool false) rfl (wants_g rfl rfl rfl rfl rfl) rfl (opv_bin rfl rfl rfl rfl rfl (cmpF rfl c249)) rfl ?_
        refine sv (v:=.bool false) rfl rfl rfl (opv_pick (b:=true) rfl rfl rfl rfl rfl rfl) rfl ?_
        refine wo_nil (tq_n (wk ⟨[(2,vP H.next 0),(3,vP H101.next 0),(6,vI ri212),(7,vI x145),(35,as6),(36,(vI (slen as6:Int))),(37,vI x145),(71,.bool false)],89,[],H215⟩ rfl ?_))
        refine w_cond (t:=false) rfl rfl (fun h => by cases h) (fun _ => ?_)
        refine w_skip (tq_n (wk ⟨[(2,vP H.next 0),(3,vP H101.next 0),(6,vI ri212),(7,vI x145),(35,as6),(36,(vI (slen as6:Int))),(37,vI x145)],89,[],H215⟩ rfl ?_))
        refine w_seq (w_region (mv (vI ri212) rfl rfl ?_))
        by_cases c250:ri212=0
        ·
         refine sv (v:=.bool false) rfl rfl rfl (opv_bin rfl rfl rfl rfl rfl (neF c250)) rfl ?_
         refine wo_nil (tq_n (wk ⟨[(2,vP H.next 0),(3,vP H101.next 0),(6,vI ri212),(7,vI x145),(35,as6),(36,(vI (slen as6:Int))),(37,vI x145),(73,.bool false)],89,[],H215⟩ rfl ?_))
         refine w_cond (t:=false) rfl rfl (fun h => by cases h) (fun _ => ?_)
         refine w_skip ?_
         try refine q_eq (e':=.normal) rfl ?_
         refine tqk ⟨[(2,vP H.next 0),(3,vP H101.next 0),(35,as6),(36,(vI (slen as6:Int))),(37,vI x145)],89,[],H215⟩ rfl ?_
         refine w_region (sv_int rfl rfl rfl (opv_bin rfl rfl rfl rfl rfl rfl) ?_)
         intro x251 h252
         try replace h252:x251=x145 + 1:=wr_ex h252 (by omega) (by omega)
         refine mv (vI x251) rfl rfl ?_
         refine wo_nil ?_
         refine tq_n ⟨(((slen as6:Int):Int) - x251).toNat,by omega,⟨[(2,vP H.next 0),(3,vP H101.next 0),(35,as6),(36,(vI (slen as6:Int))),(37,vI x251)],89,[],H215⟩,subk rfl,x251,H215,by omega,by omega,(by intro k hk; by_cases hc : (k:Int) < x145; exact ha147 k hc; have e:k=(x145).toNat:=(by omega); subst e; rw [q177,q178,q179,q180]; omega),w211,((((l151.trans l184).trans l189).trans l197).trans l209).trans l217,(((((((KeepX.refl (fun _ => False) H135).trans k152 (fun _ h => h.elim)).new_ f182).put f187 (by first | (right; omega) | (left; (try dsimp only) <;> omega))).keep k196).new_ f207).keep k216),rfl,rfl⟩
        ·
         refine sv (v:=.bool true) rfl rfl rfl (opv_bin rfl rfl rfl rfl rfl (neT c250)) rfl ?_
         refine wo_nil (tq_n (wk ⟨[(2,vP H.next 0),(3,vP H101.next 0),(6,vI ri212),(7,vI x145),(35,as6),(36,(vI (slen as6:Int))),(37,vI x145),(73,.bool true)],89,[],H215⟩ rfl ?_))
         refine w_cond (t:=true) rfl rfl (fun _ => ?_) (fun h => by cases h)
         refine w_seq (w_region (mv (vI x145) rfl rfl ?_))
         refine mv (vI ri212) rfl rfl ?_
         refine mv (vI 2) rfl rfl ?_
         refine mv (vI x145) rfl rfl ?_
         refine mv (vI ri212) rfl rfl ?_
         refine wo_nil (tq_n (wk ⟨[(4,vI 2),(5,vI x145),(6,vI ri212)],89,[],H215⟩ rfl ?_))
         refine w_ret ?_
         try refine q_eq (e':=.ret) rfl ?_
         refine tq_r (tq_r ?_)
         try refine q_eq (e':=.ret) rfl ?_
         refine tq_r ?_
         refine ⟨.inr rfl,rfl,[vI 2,vI x145,vI ri212],.cons (resV_tmp rfl neI) (.cons (resV_tmp rfl neI) (.cons (resV_tmp rfl neI) .nil)),(((((((((((((KeepX.refl (fun _ => False) H).new_ f102).new_ f107).keep k116).new_ f127).keep k136).trans k152 (fun _ h => h.elim)).new_ f182).put f187 (by first | (right; omega) | (left; (try dsimp only) <;> omega))).keep k196).new_ f207).keep k216).k (fun _ h => h.elim)),w211,2,x145,ri212,rfl,?_,?_⟩
         · omega
         · intro hc; first | (exfalso; omega) | (exact fun k hk => ha147 k (by omega)) | (exact fun k hk => ha147 k hk)
      ·
       have C253:=ch_val (i:=4) (p:=0) (ks:=[56,57]) (v:=.bool false) (A:=H215) (H:=H215) C224 rfl rfl rfl rfl (wants_g rfl rfl rfl rfl rfl) rfl (opv_bin rfl rfl rfl rfl rfl (cmpF rfl c226))
       have C254:=ch_val (i:=5) (p:=0) (ks:=[56,58]) (v:=.bool false) (A:=H215) (H:=H215) C253 rfl rfl rfl rfl rfl rfl (opv_pick (b:=true) rfl rfl rfl rfl rfl rfl)
       have C255:=ch_val (i:=6) (p:=0) (ks:=[59]) (v:=.bool false) (A:=H215) (H:=H215) C254 rfl rfl rfl rfl rfl rfl (opv_move (.inl rfl) rfl rfl)
       have C256:=ch_skip (i:=7) (p:=0) (ks:=[8,60]) (A:=H215) (H:=H215) C255 rfl rfl rfl rfl (wants_g rfl rfl rfl rfl rfl) rfl
       have C257:=ch_skip (i:=8) (p:=0) (ks:=[60,61]) (A:=H215) (H:=H215) C256 rfl rfl rfl rfl (wants_g rfl rfl rfl rfl rfl) rfl
       have C258:=ch_skip (i:=9) (p:=0) (ks:=[2,60]) (A:=H215) (H:=H215) C257 rfl rfl rfl rfl (wants_g rfl rfl rfl rfl rfl) rfl
       have C259:=ch_skip (i:=10) (p:=0) (ks:=[60,63]) (A:=H215) (H:=H215) C258 rfl rfl rfl rfl (wants_g rfl rfl rfl rfl rfl) rfl
       have C260:=ch_skip (i:=11) (p:=0) (ks:=[7,60]) (A:=H215) (H:=H215) C259 rfl rfl rfl rfl (wants_g rfl rfl rfl rfl rfl) rfl
       have C261:=ch_skip (i:=12) (p:=0) (ks:=[60,65]) (A:=H215) (H:=H215) C260 rfl rfl rfl rfl (wants_g rfl rfl rfl rfl rfl) rfl
       have C262:=ch_skip (i:=13) (p:=0) (ks:=[60,64,66]) (A:=H215) (H:=H215) C261 rfl rfl rfl rfl (wants_g rfl rfl rfl rfl rfl) rfl
       have C263:=ch_skip (i:=14) (p:=0) (ks:=[60,67]) (A:=H215) (H:=H215) C262 rfl rfl rfl rfl (wants_g rfl rfl rfl rfl rfl) rfl
       have C264:=ch_skip (i:=15) (p:=0) (ks:=[60,68]) (A:=H215) (H:=H215) C263 rfl rfl rfl rfl (wants_g rfl rfl rfl rfl rfl) rfl
       refine w_draw (tl:=[16,17]) rfl [0,1,3,7,15,31,63,127,255,127,639,127,2175,7807,15999,32383,65535,131071] C264 (by kernel_rfl) (by kernel_rfl) ?_
       refine wonorm (g:=[(2,vP H.next 0),(3,vP H101.next 0),(6,vI ri212),(7,vI x145),(35,as6),(36,(vI (slen as6:Int))),(37,vI x145),(60,.bool false)]) (n:=89) (ds:=[]) (H:=H215) (lsub_cons rfl (lsub_cons rfl (lsub_cons rfl (lsub_cons rfl (lsub_cons rfl (lsub_cons rfl (lsub_cons rfl (lsub_cons rfl (lsub_nil _))))))))) rfl rfl rfl ?_
       refine ss rfl (wants_g rfl rfl rfl rfl rfl) rfl rfl ?_
       refine sv (v:=.bool false) rfl rfl rfl (opv_pick (b:=false) rfl rfl rfl rfl rfl rfl) rfl ?_
       refine wo_nil (tq_n (wk ⟨[(2,vP H.next 0),(3,vP H101.next 0),(6,vI ri212),(7,vI x145),(35,as6),(36,(vI (slen as6:Int))),(37,vI x145),(71,.bool false)],89,[],H215⟩ rfl ?_))
       refine w_cond (t:=false) rfl rfl (fun h => by cases h) (fun _ => ?_)
       refine w_skip (tq_n (wk ⟨[(2,vP H.next 0),(3,vP H101.next 0),(6,vI ri212),(7,vI x145),(35,as6),(36,(vI (slen as6:Int))),(37,vI x145)],89,[],H215⟩ rfl ?_))
       refine w_seq (w_region (mv (vI ri212) rfl rfl ?_))
       by_cases c265:ri212=0
       ·
        refine sv (v:=.bool false) rfl rfl rfl (opv_bin rfl rfl rfl rfl rfl (neF c265)) rfl ?_
        refine wo_nil (tq_n (wk ⟨[(2,vP H.next 0),(3,vP H101.next 0),(6,vI ri212),(7,vI x145),(35,as6),(36,(vI (slen as6:Int))),(37,vI x145),(73,.bool false)],89,[],H215⟩ rfl ?_))
        refine w_cond (t:=false) rfl rfl (fun h => by cases h) (fun _ => ?_)
        refine w_skip ?_
        try refine q_eq (e':=.normal) rfl ?_
        refine tqk ⟨[(2,vP H.next 0),(3,vP H101.next 0),(35,as6),(36,(vI (slen as6:Int))),(37,vI x145)],89,[],H215⟩ rfl ?_
        refine w_region (sv_int rfl rfl rfl (opv_bin rfl rfl rfl rfl rfl rfl) ?_)
        intro x266 h267
        try replace h267:x266=x145 + 1:=wr_ex h267 (by omega) (by omega)
        refine mv (vI x266) rfl rfl ?_
        refine wo_nil ?_
        refine tq_n ⟨(((slen as6:Int):Int) - x266).toNat,by omega,⟨[(2,vP H.next 0),(3,vP H101.next 0),(35,as6),(36,(vI (slen as6:Int))),(37,vI x266)],89,[],H215⟩,subk rfl,x266,H215,by omega,by omega,(by intro k hk; by_cases hc : (k:Int) < x145; exact ha147 k hc; have e:k=(x145).toNat:=(by omega); subst e; rw [q177,q178,q179,q180]; omega),w211,((((l151.trans l184).trans l189).trans l197).trans l209).trans l217,(((((((KeepX.refl (fun _ => False) H135).trans k152 (fun _ h => h.elim)).new_ f182).put f187 (by first | (right; omega) | (left; (try dsimp only) <;> omega))).keep k196).new_ f207).keep k216),rfl,rfl⟩
       ·
        refine sv (v:=.bool true) rfl rfl rfl (opv_bin rfl rfl rfl rfl rfl (neT c265)) rfl ?_
        refine wo_nil (tq_n (wk ⟨[(2,vP H.next 0),(3,vP H101.next 0),(6,vI ri212),(7,vI x145),(35,as6),(36,(vI (slen as6:Int))),(37,vI x145),(73,.bool true)],89,[],H215⟩ rfl ?_))
        refine w_cond (t:=true) rfl rfl (fun _ => ?_) (fun h => by cases h)
        refine w_seq (w_region (mv (vI x145) rfl rfl ?_))
        refine mv (vI ri212) rfl rfl ?_
        refine mv (vI 2) rfl rfl ?_
        refine mv (vI x145) rfl rfl ?_
        refine mv (vI ri212) rfl rfl ?_
        refine wo_nil (tq_n (wk ⟨[(4,vI 2),(5,vI x145),(6,vI ri212)],89,[],H215⟩ rfl ?_))
        refine w_ret ?_
        try refine q_eq (e':=.ret) rfl ?_
        refine tq_r (tq_r ?_)
        try refine q_eq (e':=.ret) rfl ?_
        refine tq_r ?_
        refine ⟨.inr rfl,rfl,[vI 2,vI x145,vI ri212],.cons (resV_tmp rfl neI) (.cons (resV_tmp rfl neI) (.cons (resV_tmp rfl neI) .nil)),(((((((((((((KeepX.refl (fun _ => False) H).new_ f102).new_ f107).keep k116).new_ f127).keep k136).trans k152 (fun _ h => h.elim)).new_ f182).put f187 (by first | (right; omega) | (left; (try dsimp only) <;> omega))).keep k196).new_ f207).keep k216).k (fun _ h => h.elim)),w211,2,x145,ri212,rfl,?_,?_⟩
        · omega
        · intro hc; first | (exfalso; omega) | (exact fun k hk => ha147 k (by omega)) | (exact fun k hk => ha147 k hk)
     ·
      have C268:=ch_val (i:=1) (p:=0) (ks:=[54]) (v:=.bool false) (A:=H215) (H:=H215) C219 rfl rfl rfl rfl rfl rfl (opv_bin rfl rfl rfl rfl rfl (eqF c221))
      have C269:=ch_val (i:=2) (p:=0) (ks:=[55]) (v:=.bool false) (A:=H215) (H:=H215) C268 rfl rfl rfl rfl rfl rfl (opv_move (.inl rfl) rfl rfl)
      have C270:=ch_skip (i:=3) (p:=0) (ks:=[7,56]) (A:=H215) (H:=H215) C269 rfl rfl rfl rfl (wants_g rfl rfl rfl rfl rfl) rfl
      have C271:=ch_skip (i:=4) (p:=0) (ks:=[56,57]) (A:=H215) (H:=H215) C270 rfl rfl rfl rfl (wants_g rfl rfl rfl rfl rfl) rfl
      have C272:=ch_val (i:=5) (p:=0) (ks:=[56,58]) (v:=.bool false) (A:=H215) (H:=H215) C271 rfl rfl rfl rfl rfl rfl (opv_pick (b:=false) rfl rfl rfl rfl rfl rfl)
      have C273:=ch_val (i:=6) (p:=0) (ks:=[59]) (v:=.bool false) (A:=H215) (H:=H215) C272 rfl rfl rfl rfl rfl rfl (opv_move (.inl rfl) rfl rfl)
      have C274:=ch_skip (i:=7) (p:=0) (ks:=[8,60]) (A:=H215) (H:=H215) C273 rfl rfl rfl rfl (wants_g rfl rfl rfl rfl rfl) rfl
      have C275:=ch_skip (i:=8) (p:=0) (ks:=[60,61]) (A:=H215) (H:=H215) C274 rfl rfl rfl rfl (wants_g rfl rfl rfl rfl rfl) rfl
      have C276:=ch_skip (i:=9) (p:=0) (ks:=[2,60]) (A:=H215) (H:=H215) C275 rfl rfl rfl rfl (wants_g rfl rfl rfl rfl rfl) rfl
      have C277:=ch_skip (i:=10) (p:=0) (ks:=[60,63]) (A:=H215) (H:=H215) C276 rfl rfl rfl rfl (wants_g rfl rfl rfl rfl rfl) rfl
      have C278:=ch_skip (i:=11) (p:=0) (ks:=[7,60]) (A:=H215) (H:=H215) C277 rfl rfl rfl rfl (wants_g rfl rfl rfl rfl rfl) rfl
      have C279:=ch_skip (i:=12) (p:=0) (ks:=[60,65]) (A:=H215) (H:=H215) C278 rfl rfl rfl rfl (wants_g rfl rfl rfl rfl rfl) rfl
      have C280:=ch_skip (i:=13) (p:=0) (ks:=[60,64,66]) (A:=H215) (H:=H215) C279 rfl rfl rfl rfl (wants_g rfl rfl rfl rfl rfl) rfl
      have C281:=ch_skip (i:=14) (p:=0) (ks:=[60,67]) (A:=H215) (H:=H215) C280 rfl rfl rfl rfl (wants_g rfl rfl rfl rfl rfl) rfl
      have C282:=ch_skip (i:=15) (p:=0) (ks:=[60,68]) (A:=H215) (H:=H215) C281 rfl rfl rfl rfl (wants_g rfl rfl rfl rfl rfl) rfl
      refine w_draw (tl:=[16,17]) rfl [0,1,3,7,15,31,63,127,255,127,639,127,2175,7807,15999,32383,65535,131071] C282 (by kernel_rfl) (by kernel_rfl) ?_
      refine wonorm (g:=[(2,vP H.next 0),(3,vP H101.next 0),(6,vI ri212),(7,vI x145),(35,as6),(36,(vI (slen as6:Int))),(37,vI x145),(60,.bool false)]) (n:=89) (ds:=[]) (H:=H215) (lsub_cons rfl (lsub_cons rfl (lsub_cons rfl (lsub_cons rfl (lsub_cons rfl (lsub_cons rfl (lsub_cons rfl (lsub_cons rfl (lsub_nil _))))))))) rfl rfl rfl ?_
      refine ss rfl (wants_g rfl rfl rfl rfl rfl) rfl rfl ?_
      refine sv (v:=.bool false) rfl rfl rfl (opv_pick (b:=false) rfl rfl rfl rfl rfl rfl) rfl ?_
      refine wo_nil (tq_n (wk ⟨[(2,vP H.next 0),(3,vP H101.next 0),(6,vI ri212),(7,vI x145),(35,as6),(36,(vI (slen as6:Int))),(37,vI x145),(71,.bool false)],89,[],H215⟩ rfl ?_))
      refine w_cond (t:=false) rfl rfl (fun h => by cases h) (fun _ => ?_)
      refine w_skip (tq_n (wk ⟨[(2,vP H.next 0),(3,vP H101.next 0),(6,vI ri212),(7,vI x145),(35,as6),(36,(vI (slen as6:Int))),(37,vI x145)],89,[],H215⟩ rfl ?_))
      refine w_seq (w_region (mv (vI ri212) rfl rfl ?_))
      by_cases c283:ri212=0
      ·
       refine sv (v:=.bool false) rfl rfl rfl (opv_bin rfl rfl rfl rfl rfl (neF c283)) rfl ?_
       refine wo_nil (tq_n (wk ⟨[(2,vP H.next 0),(3,vP H101.next 0),(6,vI ri212),(7,vI x145),(35,as6),(36,(vI (slen as6:Int))),(37,vI x145),(73,.bool false)],89,[],H215⟩ rfl ?_))
       refine w_cond (t:=false) rfl rfl (fun h => by cases h) (fun _ => ?_)
       refine w_skip ?_
       try refine q_eq (e':=.normal) rfl ?_
       refine tqk ⟨[(2,vP H.next 0),(3,vP H101.next 0),(35,as6),(36,(vI (slen as6:Int))),(37,vI x145)],89,[],H215⟩ rfl ?_
       refine w_region (sv_int rfl rfl rfl (opv_bin rfl rfl rfl rfl rfl rfl) ?_)
       intro x284 h285
       try replace h285:x284=x145 + 1:=wr_ex h285 (by omega) (by omega)
       refine mv (vI x284) rfl rfl ?_
       refine wo_nil ?_
       refine tq_n ⟨(((slen as6:Int):Int) - x284).toNat,by omega,⟨[(2,vP H.next 0),(3,vP H101.next 0),(35,as6),(36,(vI (slen as6:Int))),(37,vI x284)],89,[],H215⟩,subk rfl,x284,H215,by omega,by omega,(by intro k hk; by_cases hc : (k:Int) < x145; exact ha147 k hc; have e:k=(x145).toNat:=(by omega); subst e; rw [q177,q178,q179,q180]; omega),w211,((((l151.trans l184).trans l189).trans l197).trans l209).trans l217,(((((((KeepX.refl (fun _ => False) H135).trans k152 (fun _ h => h.elim)).new_ f182).put f187 (by first | (right; omega) | (left; (try dsimp only) <;> omega))).keep k196).new_ f207).keep k216),rfl,rfl⟩
      ·
       refine sv (v:=.bool true) rfl rfl rfl (opv_bin rfl rfl rfl rfl rfl (neT c283)) rfl ?_
       refine wo_nil (tq_n (wk ⟨[(2,vP H.next 0),(3,vP H101.next 0),(6,vI ri212),(7,vI x145),(35,as6),(36,(vI (slen as6:Int))),(37,vI x145),(73,.bool true)],89,[],H215⟩ rfl ?_))
       refine w_cond (t:=true) rfl rfl (fun _ => ?_) (fun h => by cases h)
       refine w_seq (w_region (mv (vI x145) rfl rfl ?_))
       refine mv (vI ri212) rfl rfl ?_
       refine mv (vI 2) rfl rfl ?_
       refine mv (vI x145) rfl rfl ?_
       refine mv (vI ri212) rfl rfl ?_
       refine wo_nil (tq_n (wk ⟨[(4,vI 2),(5,vI x145),(6,vI ri212)],89,[],H215⟩ rfl ?_))
       refine w_ret ?_
       try refine q_eq (e':=.ret) rfl ?_
       refine tq_r (tq_r ?_)
       try refine q_eq (e':=.ret) rfl ?_
       refine tq_r ?_
       refine ⟨.inr rfl,rfl,[vI 2,vI x145,vI ri212],.cons (resV_tmp rfl neI) (.cons (resV_tmp rfl neI) (.cons (resV_tmp rfl neI) .nil)),(((((((((((((KeepX.refl (fun _ => False) H).new_ f102).new_ f107).keep k116).new_ f127).keep k136).trans k152 (fun _ h => h.elim)).new_ f182).put f187 (by first | (right; omega) | (left; (try dsimp only) <;> omega))).keep k196).new_ f207).keep k216).k (fun _ h => h.elim)),w211,2,x145,ri212,rfl,?_,?_⟩
       · omega
       · intro hc; first | (exfalso; omega) | (exact fun k hk => ha147 k (by omega)) | (exact fun k hk => ha147 k hk)
    ·
     refine sv (v:=.bool false) rfl rfl rfl (opv_bin rfl rfl rfl rfl rfl (cmpF rfl c156)) rfl ?_
     refine wo_nil (tq_n (wk ⟨[(2,vP H.next 0),(3,vP H101.next 0),(35,as6),(36,(vI (slen as6:Int))),(37,vI x145),(38,.bool false)],89,[],H146⟩ rfl ?_))
     refine w_seq (w_cond (t:=false) rfl rfl (fun h => by cases h) (fun _ => ?_))
     refine w_exit (tq_e (tq_e ?_))
     try refine q_eq (e':=.normal) rfl ?_
     refine tqk ⟨[(3,vP H101.next 0)],89,[],H146⟩ rfl ?_
     refine w_seq (w_seq (w_draw_start ?_))
     intro C0
     have C286:=ch_val (i:=3) (p:=0) (ks:=[3]) (v:=vP H101.next 2) (A:=H146) (H:=H146) C0 rfl rfl rfl rfl rfl rfl (opv_fieldAddrE rfl rfl rfl Try.underlying28 rfl sz3 (by decide) rfl)
     have C287:=ch_val (i:=4) (p:=0) (ks:=[80]) (v:=vI ax9) (A:=H146) (H:=H146) C286 rfl rfl rfl rfl rfl rfl (opv_loadE rfl rfl rfl ag3 sz3 ((k152.get H101.next (by omega) id).trans ((k136.get H101.next (by omega)).trans ((f127.get H101.next (by omega)).trans ((k116.get H101.next (by omega)).trans f107.blk)))) rfl (.inr rfl) rfl)
     obtain ⟨_,H290,k291,⟨w289,rfl⟩,C288⟩:=ch_call (i:=5) (p:=2) (ks:=[81]) (vs:=[vI ax9]) (fv:=.func (.func 37) #[] #[]) (H:=H146) C287 rfl rfl rfl rfl rfl rfl rfl (.cons rfl rfl neI .nil) rfl (wv_f0 Try.call37 (tide_one_ok ax9 _ w150))
     refine kpL k291 fun n293 l292 => ?_
     have C294:=ch_val (i:=0) (p:=0) (ks:=[3]) (v:=vP H101.next 0) (A:=H146) (H:=H290) C288 rfl rfl rfl rfl rfl rfl (opv_fieldAddrE rfl rfl rfl Try.underlying28 rfl sz23 (by decide) rfl)
     have C295:=ch_val (i:=1) (p:=0) (ks:=[77]) (v:=.agg #[vI ax7,vI ax8]) (A:=H146) (H:=H290) C294 rfl rfl rfl rfl rfl rfl (opv_loadE rfl rfl rfl ag23 sz23 ((k152.get H101.next (by omega) id).trans ((k136.get H101.next (by omega)).trans ((f127.get H101.next (by omega)).trans ((k116.get H101.next (by omega)).trans f107.blk)))) rfl (.inl rfl) rfl)
     have C296:=ch_val (i:=2) (p:=0) (ks:=[78]) (v:=.agg #[vI ax7,vI ax8,vI 0,vI 1500]) (A:=H146) (H:=H290) C295 rfl rfl rfl rfl rfl rfl (opv_buildStE (vs:=[(0,.agg #[vI ax7,vI ax8]),(1,vI 0),(2,vI 1500)]) rfl (.cons rfl rfl (by simp [undef]) (.cons rfl rfl neI (.cons rfl rfl neI .nil))) ze74 rfl tin74 Try.underlying74 pl74 rfl rfl)
     have C297:=ch_val (i:=6) (p:=3) (ks:=[82]) (v:=.agg #[vI ax9,vI ax9,vI 0,vI 50]) (A:=H290) (H:=H290) C296 rfl rfl rfl rfl rfl rfl (opv_buildStE (vs:=[(0,.agg #[vI ax9,vI ax9]),(1,vI 0),(2,vI 50)]) rfl (.cons rfl rfl (by simp [undef]) (.cons rfl rfl neI (.cons rfl rfl neI .nil))) ze74 rfl tin74 Try.underlying74 pl74 rfl rfl)
     refine w_draw (tl:=[7,8,9]) rfl [0,1,3,0,8,24,56,127,255,511] C297 (by kernel_rfl) (by kernel_rfl) ?_
     refine wonorm (g:=[(79,.agg #[vI ax7,vI ax8,vI 0,vI 1500]),(83,.agg #[vI ax9,vI ax9,vI 0,vI 50])]) (n:=89) (ds:=[]) (H:=H290) (lsub_cons rfl (lsub_cons rfl (lsub_nil _))) rfl rfl rfl ?_
     refine sv_new (H:=H290) (v:=.slice (some ⟨H290.next,0,none⟩) 2 4) (x:=.row #[vI ax7,vI ax8,vI 0,vI 1500,vI ax9,vI ax9,vI 0,vI 50] .raw) rfl rfl rfl rfl (opv_buildSliceE (vs:=[(0,.agg #[vI ax7,vI ax8,vI 0,vI 1500]),(1,.agg #[vI ax9,vI ax9,vI 0,vI 50])]) rfl (.cons rfl rfl (by simp [undef]) (.cons rfl rfl (by simp [undef]) .nil)) Try.underlying108 sz74 ze74 rfl (by decide) (by decide) rfl rfl rfl) ?_
     intro H298 f299
     refine newL w289 f299 fun n302 w300 l301 => ?_
     refine sc_ (H:=H298) (vs:=[.slice (some ⟨H290.next,0,none⟩) 2 4]) (fv:=.func (.func 36) #[] #[]) rfl rfl rfl rfl rfl rfl (.cons rfl rfl (by simp [undef]) .nil) rfl ?_
     refine WV.mono (wv_f0 Try.call36 (strange_2 ax7 ax8 0 1500 ax9 ax9 0 50 H290.next _ w300 f299.blk (by omega))) ?_
     rintro v306 H307 ⟨k308,w303,ri304,rfl,f305⟩
     refine kpL k308 fun n310 l309 => ?_
     refine mv (vI ri304) rfl rfl ?_
     refine wo_nil (tq_n (wk ⟨[(6,vI ri304)],89,[],H307⟩ rfl ?_))
     refine w_seq (w_region (mv (vI ri304) rfl rfl ?_))
     by_cases c311:ri304=0
     ·
      refine sv (v:=.bool false) rfl rfl rfl (opv_bin rfl rfl rfl rfl rfl (neF c311)) rfl ?_
      refine wo_nil (tq_n (wk ⟨[(6,vI ri304),(87,.bool false)],89,[],H307⟩ rfl ?_))
      refine w_cond (t:=false) rfl rfl (fun h => by cases h) (fun _ => ?_)
      refine w_skip (tq_n (wk ⟨[],89,[],H307⟩ rfl ?_))
      refine w_seq (w_region (mv (vI 0) rfl rfl ?_))
      refine mv (vI 0) rfl rfl ?_
      refine mv (vI 0) rfl rfl ?_
      refine wo_nil (tq_n (wk ⟨[(4,vI 0),(5,vI 0),(6,vI 0)],89,[],H307⟩ rfl ?_))
      refine w_ret ?_
      refine ⟨.inr rfl,rfl,[vI 0,vI 0,vI 0],.cons (resV_tmp rfl neI) (.cons (resV_tmp rfl neI) (.cons (resV_tmp rfl neI) .nil)),((((((((((KeepX.refl (fun _ => False) H).new_ f102).new_ f107).keep k116).new_ f127).keep k136).trans k152 (fun _ h => h.elim)).keep k291).new_ f299).keep k308).k (fun _ h => h.elim),w303,0,0,0,rfl,?_,?_⟩
      · omega
      · intro hc; first | (exfalso; omega) | (exact fun k hk => ha147 k (by omega)) | (exact fun k hk => ha147 k hk)
     ·
      refine sv (v:=.bool true) rfl rfl rfl (opv_bin rfl rfl rfl rfl rfl (neT c311)) rfl ?_
      refine wo_nil (tq_n (wk ⟨[(6,vI ri304),(87,.bool true)],89,[],H307⟩ rfl ?_))
      refine w_cond (t:=true) rfl rfl (fun _ => ?_) (fun h => by cases h)
      refine w_seq (w_region (mv (vI ri304) rfl rfl ?_))
      refine mv (vI 3) rfl rfl ?_
      refine mv (vI 0) rfl rfl ?_
      refine mv (vI ri304) rfl rfl ?_
      refine wo_nil (tq_n (wk ⟨[(4,vI 3),(5,vI 0),(6,vI ri304)],89,[],H307⟩ rfl ?_))
      refine w_ret (tq_r ?_)
      refine ⟨.inr rfl,rfl,[vI 3,vI 0,vI ri304],.cons (resV_tmp rfl neI) (.cons (resV_tmp rfl neI) (.cons (resV_tmp rfl neI) .nil)),((((((((((KeepX.refl (fun _ => False) H).new_ f102).new_ f107).keep k116).new_ f127).keep k136).trans k152 (fun _ h => h.elim)).keep k291).new_ f299).keep k308).k (fun _ h => h.elim),w303,3,0,ri304,rfl,?_,?_⟩
      · omega
      · intro hc; first | (exfalso; omega) | (exact fun k hk => ha147 k (by omega)) | (exact fun k hk => ha147 k hk)
 ·
  refine sv (v:=.bool true) rfl rfl rfl (opv_bin rfl rfl rfl rfl rfl (neT c139)) rfl ?_
  refine wo_nil (tq_n (wk ⟨[(2,vP H.next 0),(3,vP H101.next 0),(6,vI ri132),(22,.bool true)],89,[],H135⟩ rfl ?_))
  refine w_cond (t:=true) rfl rfl (fun _ => ?_) (fun h => by cases h)
  refine w_seq (w_region (mv (vI ri132) rfl rfl ?_))
  refine mv (vI 1) rfl rfl ?_
  refine mv (vI 0) rfl rfl ?_
  refine mv (vI ri132) rfl rfl ?_
  refine wo_nil (tq_n (wk ⟨[(4,vI 1),(5,vI 0),(6,vI ri132)],89,[],H135⟩ rfl ?_))
  refine w_ret (tq_r ?_)
  refine ⟨.inr rfl,rfl,[vI 1,vI 0,vI ri132],.cons (resV_tmp rfl neI) (.cons (resV_tmp rfl neI) (.cons (resV_tmp rfl neI) .nil)),((((((KeepX.refl (fun _ => False) H).new_ f102).new_ f107).keep k116).new_ f127).keep k136).k (fun _ h => h.elim),w131,1,0,ri132,rfl,?_,?_⟩
  · omega
  · intro hc; first | (exfalso; omega)
end Go.Proofs.Orl

namespace Go.Proofs.Orl
open Go
set_option maxRecDepth 10000
set_option maxHeartbeats 4000000
theorem ag26:aggT Try.prog 26=some true:=by kernel_rfl
theorem ag28:aggT Try.prog 28=some true:=by kernel_rfl
theorem pl79:placesT Try.prog 79=some [(0,6),(6,3)]:=by kernel_rfl
theorem tin3:Try.prog.info? 3=some Try.t3:=by kernel_rfl
theorem tin79:Try.prog.info? 79=some Try.t79:=by kernel_rfl
theorem tin87:Try.prog.info? 87=some Try.t87:=by kernel_rfl
theorem ze3:zeroT Try.prog 3=some (vI 0):=by kernel_rfl
theorem ze79:zeroT Try.prog 79=some (.agg #[vI 0,vI 0,vI 0,vI 0,vI 0,.slice none 0 0,vI 0,vI 0,vI 0]):=by kernel_rfl
theorem ze87:zeroT Try.prog 87=some (.agg #[vI 0,vI 0,vI 0,vI 0,vI 0,vI 0,vI 0,vI 0]):=by kernel_rfl
theorem tide_error_ok (ax1 ax2:Int) (ax3 ax4 ax5:Int) (as6:Value) (ax7 ax8:Int) (ax9 ax10 ax11:Int) (H:SH) (wt:WT H) (hvas6:VT H (.sl false [.int .i64,.int .i64,.int .i64,.int .i64,.int .i64]) as6):WC Try.prog 49 [.agg #[vI ax1,vI ax2,vI ax3,vI ax4,vI ax5,as6,vI ax7,vI ax8,vI ax9],vI ax10,vI ax11] H (fun v H' => Keep H H'∧WT H'∧∃ (rx12:Int),v=(vI rx12)∧(rx12=0→0 ≤ ax10∧ax10 < (slen as6:Int))):=by
 refine wc_of_body Try.func49 rfl ?_
 refine wk ⟨[(0,.agg #[vI ax1,vI ax2,vI ax3,vI ax4,vI ax5,as6,vI ax7,vI ax8,vI ax9]),(1,vI ax10),(2,vI ax11)],25,[],H⟩ rfl ?_
 refine w_seq (w_region (sv_new (H:=H) (v:=vP H.next 0) (x:=.row #[vI ax1,vI ax2,vI ax3,vI ax4,vI ax5,as6,vI ax7,vI ax8,vI ax9] .raw) rfl rfl rfl rfl (opv_boxE (v:=.agg #[vI ax1,vI ax2,vI ax3,vI ax4,vI ax5,as6,vI ax7,vI ax8,vI ax9]) rfl rfl rfl (by simp [undef]) rfl) ?_))
 intro H101 f102
 refine newL wt f102 fun n105 w103 l104 => ?_
 refine mv (vI 0) rfl rfl ?_
 refine wo_nil (tq_n (wk ⟨[(1,vI ax10),(2,vI ax11),(3,vP H.next 0)],25,[],H101⟩ rfl ?_))
 refine w_seq (w_block (w_seq (w_region (mv (vI ax10) rfl rfl ?_))))
 by_cases c106:ax10 < 0
 ·
  refine sv (v:=.bool true) rfl rfl rfl (opv_bin rfl rfl rfl rfl rfl (cmpT rfl c106)) rfl ?_
  refine mv (.bool true) rfl rfl ?_
  refine ss rfl (wants_g rfl rfl rfl rfl rfl) rfl rfl ?_
  refine ss rfl (wants_g rfl rfl rfl rfl rfl) rfl rfl ?_
  refine ss rfl (wants_g rfl rfl rfl rfl rfl) rfl rfl ?_
  refine ss rfl (wants_g rfl rfl rfl rfl rfl) rfl rfl ?_
  refine ss rfl (wants_g rfl rfl rfl rfl rfl) rfl rfl ?_
  refine ss rfl (wants_g rfl rfl rfl rfl rfl) rfl rfl ?_
  refine sv (v:=.bool true) rfl rfl rfl (opv_pick (b:=true) rfl rfl rfl rfl rfl rfl) rfl ?_
  refine mv (.bool true) rfl rfl ?_
  refine wo_nil (tq_n (wk ⟨[(2,vI ax11),(7,.bool true)],25,[],H101⟩ rfl ?_))
  refine w_cond (t:=true) rfl rfl (fun _ => ?_) (fun h => by cases h)
  refine w_seq (w_region (mv (vI 4) rfl rfl ?_))
  refine wo_nil (tq_n (wk ⟨[(6,vI 4)],25,[],H101⟩ rfl ?_))
  refine w_ret ?_
  try refine q_eq (e':=.ret) rfl ?_
  refine tq_r ?_
  refine ⟨.inr rfl,rfl,[vI 4],.cons (resV_tmp rfl neI) .nil,((KeepX.refl (fun _ => False) H).new_ f102).k (fun _ h => h.elim),w103,4,rfl,?_⟩
  · omega
 ·
  refine sv (v:=.bool false) rfl rfl rfl (opv_bin rfl rfl rfl rfl rfl (cmpF rfl c106)) rfl ?_
  refine mv (.bool false) rfl rfl ?_
  refine sv (v:=vI ax10) rfl (wants_g rfl rfl rfl rfl rfl) rfl (opv_move (.inl rfl) rfl rfl) rfl ?_
  refine sv (v:=vP H.next 0) rfl (wants_g rfl rfl rfl rfl rfl) rfl (opv_fieldAddrE rfl rfl rfl Try.underlying79 rfl sz26 (by decide) rfl) rfl ?_
  refine sv (v:=vP H.next 5) rfl (wants_g rfl rfl rfl rfl rfl) rfl (opv_fieldAddrE rfl rfl rfl Try.underlying26 rfl sz24 (by decide) rfl) rfl ?_
  refine sv (v:=as6) rfl (wants_g rfl rfl rfl rfl rfl) rfl (opv_loadE rfl rfl rfl ag24 sz24 f102.blk rfl (.inr rfl) rfl) rfl ?_
  have c107:slen as6 ≤ 1073741824:=vt_lim (hvas6.mono l104)
  refine sv (v:=(vI (slen as6:Int))) rfl (wants_g rfl rfl rfl rfl rfl) rfl (t_len (hvas6.mono l104) rfl rfl rfl Try.underlying24) rfl ?_
  by_cases c108:ax10 ≥ (slen as6:Int)
  ·
   refine sv (v:=.bool true) rfl (wants_g rfl rfl rfl rfl rfl) rfl (opv_bin rfl rfl rfl rfl rfl (cmpT rfl c108)) rfl ?_
   refine sv (v:=.bool true) rfl rfl rfl (opv_pick (b:=false) rfl rfl rfl rfl rfl rfl) rfl ?_
   refine mv (.bool true) rfl rfl ?_
   refine wo_nil (tq_n (wk ⟨[(2,vI ax11),(7,.bool true)],25,[],H101⟩ rfl ?_))
   refine w_cond (t:=true) rfl rfl (fun _ => ?_) (fun h => by cases h)
   refine w_seq (w_region (mv (vI 4) rfl rfl ?_))
   refine wo_nil (tq_n (wk ⟨[(6,vI 4)],25,[],H101⟩ rfl ?_))
   refine w_ret ?_
   try refine q_eq (e':=.ret) rfl ?_
   refine tq_r ?_
   refine ⟨.inr rfl,rfl,[vI 4],.cons (resV_tmp rfl neI) .nil,((KeepX.refl (fun _ => False) H).new_ f102).k (fun _ h => h.elim),w103,4,rfl,?_⟩
   · omega
  ·
   refine sv (v:=.bool false) rfl (wants_g rfl rfl rfl rfl rfl) rfl (opv_bin rfl rfl rfl rfl rfl (cmpF rfl c108)) rfl ?_
   refine sv (v:=.bool false) rfl rfl rfl (opv_pick (b:=false) rfl rfl rfl rfl rfl rfl) rfl ?_
   refine mv (.bool false) rfl rfl ?_
   refine wo_nil (tq_n (wk ⟨[(2,vI ax11),(7,.bool false)],25,[],H101⟩ rfl ?_))
   refine w_cond (t:=false) rfl rfl (fun h => by cases h) (fun _ => ?_)
   refine w_seq (w_region (mv (vI ax11) rfl rfl ?_))
   by_cases c109:ax11 < 0
   ·
    refine sv (v:=.bool true) rfl rfl rfl (opv_bin rfl rfl rfl rfl rfl (cmpT rfl c109)) rfl ?_
    refine mv (.bool true) rfl rfl ?_
    refine ss rfl (wants_g rfl rfl rfl rfl rfl) rfl rfl ?_
    refine ss rfl (wants_g rfl rfl rfl rfl rfl) rfl rfl ?_
    refine sv (v:=.bool true) rfl rfl rfl (opv_pick (b:=true) rfl rfl rfl rfl rfl rfl) rfl ?_
    refine mv (.bool true) rfl rfl ?_
    refine wo_nil (tq_n (wk ⟨[(18,.bool true)],25,[],H101⟩ rfl ?_))
    refine w_cond (t:=true) rfl rfl (fun _ => ?_) (fun h => by cases h)
    refine w_seq (w_region (mv (vI 7) rfl rfl ?_))
    refine wo_nil (tq_n (wk ⟨[(6,vI 7)],25,[],H101⟩ rfl ?_))
    refine w_ret ?_
    try refine q_eq (e':=.ret) rfl ?_
    refine tq_r ?_
    refine ⟨.inr rfl,rfl,[vI 7],.cons (resV_tmp rfl neI) .nil,((KeepX.refl (fun _ => False) H).new_ f102).k (fun _ h => h.elim),w103,7,rfl,?_⟩
    · omega
   ·
    refine sv (v:=.bool false) rfl rfl rfl (opv_bin rfl rfl rfl rfl rfl (cmpF rfl c109)) rfl ?_
    refine mv (.bool false) rfl rfl ?_
    refine sv (v:=vI ax11) rfl (wants_g rfl rfl rfl rfl rfl) rfl (opv_move (.inl rfl) rfl rfl) rfl ?_
    by_cases c110:ax11 > 40
    ·
     refine sv (v:=.bool true) rfl (wants_g rfl rfl rfl rfl rfl) rfl (opv_bin rfl rfl rfl rfl rfl (cmpT rfl c110)) rfl ?_
     refine sv (v:=.bool true) rfl rfl rfl (opv_pick (b:=false) rfl rfl rfl rfl rfl rfl) rfl ?_
     refine mv (.bool true) rfl rfl ?_
     refine wo_nil (tq_n (wk ⟨[(18,.bool true)],25,[],H101⟩ rfl ?_))
     refine w_cond (t:=true) rfl rfl (fun _ => ?_) (fun h => by cases h)
     refine w_seq (w_region (mv (vI 7) rfl rfl ?_))
     refine wo_nil (tq_n (wk ⟨[(6,vI 7)],25,[],H101⟩ rfl ?_))
     refine w_ret ?_
     try refine q_eq (e':=.ret) rfl ?_
     refine tq_r ?_
     refine ⟨.inr rfl,rfl,[vI 7],.cons (resV_tmp rfl neI) .nil,((KeepX.refl (fun _ => False) H).new_ f102).k (fun _ h => h.elim),w103,7,rfl,?_⟩
     · omega
    ·
     refine sv (v:=.bool false) rfl (wants_g rfl rfl rfl rfl rfl) rfl (opv_bin rfl rfl rfl rfl rfl (cmpF rfl c110)) rfl ?_
     refine sv (v:=.bool false) rfl rfl rfl (opv_pick (b:=false) rfl rfl rfl rfl rfl rfl) rfl ?_
     refine mv (.bool false) rfl rfl ?_
     refine wo_nil (tq_n (wk ⟨[(18,.bool false)],25,[],H101⟩ rfl ?_))
     refine w_cond (t:=false) rfl rfl (fun h => by cases h) (fun _ => ?_)
     refine w_skip ?_
     try refine q_eq (e':=.normal) rfl ?_
     refine tqk ⟨[],25,[],H101⟩ rfl ?_
     refine w_seq (w_region (mv (vI 0) rfl rfl ?_))
     refine wo_nil (tq_n (wk ⟨[(6,vI 0)],25,[],H101⟩ rfl ?_))
     refine w_ret ?_
     refine ⟨.inr rfl,rfl,[vI 0],.cons (resV_tmp rfl neI) .nil,((KeepX.refl (fun _ => False) H).new_ f102).k (fun _ h => h.elim),w103,0,rfl,?_⟩
     · omega

theorem tide_open_ok (ax1 ax2:Int) (ax3 ax4 ax5:Int) (as6:Value) (ax7 ax8:Int) (ax9 ax10 ax11:Int) (H:SH) (wt:WT H) (hvas6:VT H (.sl false [.int .i64,.int .i64,.int .i64,.int .i64,.int .i64]) as6):WC Try.prog 38 [.agg #[vI ax1,vI ax2,vI ax3,vI ax4,vI ax5,as6],.agg #[vI ax7,vI ax8,vI ax9],vI ax10,vI ax11] H (fun v H' => Keep H H'∧WT H'∧∃ (rx21:Int),v=(.tuple #[.agg #[vI ax1,vI ax2,vI ax3,vI ax4,vI ax5,as6,vI ax7,vI ax8,vI ax9],vI rx21])∧(rx21=0→1 ≤ ax1∧ax1 ≤ ax2∧ax2 ≤ 1000000∧-1000000 ≤ ax7∧ax8 ≤ 1000000∧1 ≤ slen as6∧0 ≤ ax10∧ax10 < (slen as6:Int))∧(rx21=0→∀ k:Nat,k < slen as6→-1000000 ≤ elI H as6 (k * 5 + 1)∧elI H as6 (k * 5 + 2) ≤ 1000000∧-1000000 ≤ elI H as6 (k * 5 + 3)∧elI H as6 (k * 5 + 4) ≤ 1000000)):=by
 refine wc_of_body Try.func38 rfl ?_
 refine wk ⟨[(0,.agg #[vI ax1,vI ax2,vI ax3,vI ax4,vI ax5,as6]),(1,.agg #[vI ax7,vI ax8,vI ax9]),(2,vI ax10),(3,vI ax11)],33,[],H⟩ rfl ?_
 refine w_seq (w_region (sv_new (H:=H) (v:=vP H.next 0) (x:=.row #[vI ax1,vI ax2,vI ax3,vI ax4,vI ax5,as6] .raw) rfl rfl rfl rfl (opv_boxE (v:=.agg #[vI ax1,vI ax2,vI ax3,vI ax4,vI ax5,as6]) rfl rfl rfl (by simp [undef]) rfl) ?_))
 intro H101 f102
 refine newL wt f102 fun n105 w103 l104 => ?_
 refine sv_new (H:=H101) (v:=vP H101.next 0) (x:=.row #[vI ax7,vI ax8,vI ax9] .raw) rfl rfl rfl rfl (opv_boxE (v:=.agg #[vI ax7,vI ax8,vI ax9]) rfl rfl rfl (by simp [undef]) rfl) ?_
 intro H106 f107
 refine newL w103 f107 fun n110 w108 l109 => ?_
 refine sv_new (H:=H106) (v:=vP H106.next 0) (x:=.row #[vI 0,vI 0,vI 0,vI 0,vI 0,.slice none 0 0,vI 0,vI 0,vI 0] .raw) rfl rfl rfl rfl (opv_alloc rfl ze79 rfl) ?_
 intro H111 f112
 refine newL w108 f112 fun n115 w113 l114 => ?_
 refine mv (vI 0) rfl rfl ?_
 refine wo_nil (tq_n (wk ⟨[(2,vI ax10),(3,vI ax11),(4,vP H.next 0),(5,vP H101.next 0),(8,vP H106.next 0)],33,[],H111⟩ rfl ?_))
 refine w_seq (w_region (sv (v:=.agg #[vI ax1,vI ax2,vI ax3,vI ax4,vI ax5,as6]) rfl rfl rfl (opv_loadE rfl rfl rfl ag26 sz26 ((f112.get H.next (by omega)).trans ((f107.get H.next (by omega)).trans f102.blk)) rfl (.inl rfl) rfl) rfl ?_))
 refine sv (v:=.agg #[vI ax7,vI ax8,vI ax9]) rfl rfl rfl (opv_loadE rfl rfl rfl ag28 sz28 ((f112.get H101.next (by omega)).trans f107.blk) rfl (.inl rfl) rfl) rfl ?_
 refine sv (v:=.agg #[vI ax1,vI ax2,vI ax3,vI ax4,vI ax5,as6,vI ax7,vI ax8,vI ax9]) rfl rfl rfl (opv_buildStE (vs:=[(0,.agg #[vI ax1,vI ax2,vI ax3,vI ax4,vI ax5,as6]),(1,.agg #[vI ax7,vI ax8,vI ax9])]) rfl (.cons rfl rfl (by simp [undef]) (.cons rfl rfl (by simp [undef]) .nil)) ze79 rfl tin79 Try.underlying79 pl79 rfl rfl) rfl ?_
 refine sv_new (H:=H111) (v:=vP H111.next 0) (x:=.row #[vI 0,vI 0,vI 0,vI 0,vI 0,.slice none 0 0,vI 0,vI 0,vI 0] .raw) rfl rfl rfl rfl (opv_alloc rfl ze79 rfl) ?_
 intro H116 f117
 refine newL w113 f117 fun n120 w118 l119 => ?_
 refine sv_put (H:=H116) (n:=H111.next) (v:=undef) (x:=some (.row #[vI ax1,vI ax2,vI ax3,vI ax4,vI ax5,as6,vI ax7,vI ax8,vI ax9] .raw)) rfl rfl rfl rfl (opv_storeC (u:=.agg #[vI ax1,vI ax2,vI ax3,vI ax4,vI ax5,as6,vI ax7,vI ax8,vI ax9]) rfl rfl rfl rfl rfl (by simp [undef]) sz79 rfl rfl (leafs_of (l:=[vI ax1,vI ax2,vI ax3,vI ax4,vI ax5,as6,vI ax7,vI ax8,vI ax9]) ⟨rfl,rfl,rfl,rfl,rfl,vt_one (hvas6.mono (((l104.trans l109).trans l114).trans l119)),rfl,rfl,rfl,trivial⟩) f117.blk rfl rfl) ?_
 intro H121 f122
 refine putL w118 f122 f117.blk fun n125 w123 l124 => ?_
 refine wo_nil (tq_n (wk ⟨[(2,vI ax10),(3,vI ax11),(4,vP H.next 0),(5,vP H101.next 0),(8,vP H106.next 0),(10,vP H111.next 0)],33,[],H121⟩ rfl ?_))
 refine w_seq (w_seq (w_region (sv (v:=.agg #[vI ax1,vI ax2,vI ax3,vI ax4,vI ax5,as6]) rfl rfl rfl (opv_loadE rfl rfl rfl ag26 sz26 ((f122.get H.next (by omega)).trans ((f117.get H.next (by omega)).trans ((f112.get H.next (by omega)).trans ((f107.get H.next (by omega)).trans f102.blk)))) rfl (.inl rfl) rfl) rfl ?_)))
 refine sv (v:=.agg #[vI ax7,vI ax8,vI ax9]) rfl rfl rfl (opv_loadE rfl rfl rfl ag28 sz28 ((f122.get H101.next (by omega)).trans ((f117.get H101.next (by omega)).trans ((f112.get H101.next (by omega)).trans f107.blk))) rfl (.inl rfl) rfl) rfl ?_
 refine sc_ (H:=H121) (vs:=[.agg #[vI ax1,vI ax2,vI ax3,vI ax4,vI ax5,as6],.agg #[vI ax7,vI ax8,vI ax9]]) (fv:=.func (.func 7) #[] #[]) rfl rfl rfl rfl rfl rfl (.cons rfl rfl (by simp [undef]) (.cons rfl rfl (by simp [undef]) .nil)) rfl ?_
 refine WV.mono (wv_f0 Try.call7 (tide_Check_ok ax1 ax2 ax3 ax4 ax5 as6 ax7 ax8 ax9 _ w123 (hvas6.mono ((((l104.trans l109).trans l114).trans l119).trans l124)))) ?_
 rintro v132 H133 ⟨k134,w126,rx10127,rx11128,rx12129,rfl,f130,f131⟩
 refine kpL k134 fun n136 l135 => ?_
 have g137:rx12129=0→∀ k:Nat,k < slen as6→-1000000 ≤ elI H as6 (k * 5 + 1)∧elI H as6 (k * 5 + 2) ≤ 1000000∧-1000000 ≤ elI H as6 (k * 5 + 3)∧elI H as6 (k * 5 + 4) ≤ 1000000:=fun hc k hk => by have:=f131 hc k hk; simp only [elI_keep (((((((KeepX.refl (fun _ => False) H).new_ f102).new_ f107).new_ f112).new_ f117).put f122 (by first | (right; omega) | (left; (try dsimp only) <;> omega))).k (fun _ h => h.elim)) hvas6] at this; exact this
 refine mv (.tuple #[vI rx10127,vI rx11128,vI rx12129]) rfl rfl ?_
 refine sv (v:=vI rx10127) rfl rfl rfl (opv_extract rfl rfl rfl rfl) rfl ?_
 refine sv (v:=vI rx11128) rfl rfl rfl (opv_extract rfl rfl rfl rfl) rfl ?_
 refine sv (v:=vI rx12129) rfl rfl rfl (opv_extract rfl rfl rfl rfl) rfl ?_
 refine mv (vI rx10127) rfl rfl ?_
 refine mv (vI rx11128) rfl rfl ?_
 refine mv (vI rx12129) rfl rfl ?_
 refine wo_nil (tq_n (wk ⟨[(2,vI ax10),(3,vI ax11),(8,vP H106.next 0),(10,vP H111.next 0),(13,vI rx12129)],33,[],H133⟩ rfl ?_))
 refine w_seq (w_region (mv (vI rx12129) rfl rfl ?_))
 by_cases c138:rx12129=0
 ·
  refine sv (v:=.bool false) rfl rfl rfl (opv_bin rfl rfl rfl rfl rfl (neF c138)) rfl ?_
  refine wo_nil (tq_n (wk ⟨[(2,vI ax10),(3,vI ax11),(8,vP H106.next 0),(10,vP H111.next 0),(13,vI rx12129),(25,.bool false)],33,[],H133⟩ rfl ?_))
  refine w_cond (t:=false) rfl rfl (fun h => by cases h) (fun _ => ?_)
  refine w_skip (tq_n (wk ⟨[(2,vI ax10),(3,vI ax11),(8,vP H106.next 0),(10,vP H111.next 0)],33,[],H133⟩ rfl ?_))
  refine w_seq (w_draw_start ?_)
  intro C0
  have C139:=ch_val (i:=1) (p:=0) (ks:=[10]) (v:=.agg #[vI ax1,vI ax2,vI ax3,vI ax4,vI ax5,as6,vI ax7,vI ax8,vI ax9]) (A:=H133) (H:=H133) C0 rfl rfl rfl rfl rfl rfl (opv_loadE rfl rfl rfl ag79 sz79 ((k134.get H111.next (by omega)).trans f122.blk) rfl (.inl rfl) rfl)
  have C140:=ch_val (i:=2) (p:=0) (ks:=[2]) (v:=vI ax10) (A:=H133) (H:=H133) C139 rfl rfl rfl rfl rfl rfl (opv_move (.inl rfl) rfl rfl)
  have C141:=ch_val (i:=3) (p:=0) (ks:=[3]) (v:=vI ax11) (A:=H133) (H:=H133) C140 rfl rfl rfl rfl rfl rfl (opv_move (.inl rfl) rfl rfl)
  obtain ⟨_,H146,k147,⟨w143,rx12144,rfl,f145⟩,C142⟩:=ch_call (i:=4) (p:=3) (ks:=[29,30,31]) (vs:=[.agg #[vI ax1,vI ax2,vI ax3,vI ax4,vI ax5,as6,vI ax7,vI ax8,vI ax9],vI ax10,vI ax11]) (fv:=.func (.func 49) #[] #[]) (H:=H133) C141 rfl rfl rfl rfl rfl rfl rfl (.cons rfl rfl (by simp [undef]) (.cons rfl rfl neI (.cons rfl rfl neI .nil))) rfl (wv_f0 Try.call49 (tide_error_ok ax1 ax2 ax3 ax4 ax5 as6 ax7 ax8 ax9 ax10 ax11 _ w126 (hvas6.mono (((((l104.trans l109).trans l114).trans l119).trans l124).trans l135))))
  refine kpL k147 fun n149 l148 => ?_
  have C150:=ch_val (i:=0) (p:=0) (ks:=[10]) (v:=.agg #[vI ax1,vI ax2,vI ax3,vI ax4,vI ax5,as6,vI ax7,vI ax8,vI ax9]) (A:=H133) (H:=H146) C142 rfl rfl rfl rfl rfl rfl (opv_loadE rfl rfl rfl ag79 sz79 ((k134.get H111.next (by omega)).trans f122.blk) rfl (.inl rfl) rfl)
  refine w_draw (tl:=[5,6]) rfl [0,0,0,0,14,31,63] C150 (by kernel_rfl) (by kernel_rfl) ?_
  refine wonorm (g:=[(8,vP H106.next 0),(28,.agg #[vI ax1,vI ax2,vI ax3,vI ax4,vI ax5,as6,vI ax7,vI ax8,vI ax9]),(32,vI rx12144)]) (n:=33) (ds:=[]) (H:=H146) (lsub_cons rfl (lsub_cons rfl (lsub_cons rfl (lsub_nil _)))) rfl rfl rfl ?_
  refine sv_put (H:=H146) (n:=H106.next) (v:=undef) (x:=some (.row #[vI ax1,vI ax2,vI ax3,vI ax4,vI ax5,as6,vI ax7,vI ax8,vI ax9] .raw)) rfl rfl rfl rfl (opv_storeC (u:=.agg #[vI ax1,vI ax2,vI ax3,vI ax4,vI ax5,as6,vI ax7,vI ax8,vI ax9]) rfl rfl rfl rfl rfl (by simp [undef]) sz79 rfl rfl (leafs_of (l:=[vI ax1,vI ax2,vI ax3,vI ax4,vI ax5,as6,vI ax7,vI ax8,vI ax9]) ⟨rfl,rfl,rfl,rfl,rfl,vt_one (hvas6.mono ((((((l104.trans l109).trans l114).trans l119).trans l124).trans l135).trans l148)),rfl,rfl,rfl,trivial⟩) ((k147.get H106.next (by omega)).trans ((k134.get H106.next (by omega)).trans ((f122.get H106.next (by omega)).trans ((f117.get H106.next (by omega)).trans f112.blk)))) rfl rfl) ?_
  intro H151 f152
  refine putL w143 f152 ((k147.get H106.next (by omega)).trans ((k134.get H106.next (by omega)).trans ((f122.get H106.next (by omega)).trans ((f117.get H106.next (by omega)).trans f112.blk)))) fun n155 w153 l154 => ?_
  refine mv (vI rx12144) rfl rfl ?_
  refine wo_nil (tq_n (wk ⟨[(8,vP H106.next 0),(9,vI rx12144)],33,[],H151⟩ rfl ?_))
  refine w_ret ?_
  refine ⟨.inr rfl,rfl,[.agg #[vI ax1,vI ax2,vI ax3,vI ax4,vI ax5,as6,vI ax7,vI ax8,vI ax9],vI rx12144],.cons (resV_cellE rfl ag79 sz79 f152.blk rfl (.inl rfl) rfl) (.cons (resV_tmp rfl neI) .nil),((((((((((KeepX.refl (fun _ => False) H).new_ f102).new_ f107).new_ f112).new_ f117).put f122 (by first | (right; omega) | (left; (try dsimp only) <;> omega))).keep k134).keep k147).put f152 (by first | (right; omega) | (left; (try dsimp only) <;> omega))).k (fun _ h => h.elim)),w153,rx12144,rfl,?_,?_⟩
  · omega
  · intro hc; first | (exfalso; omega) | (exact fun k hk => g137 (by omega) k hk)
 ·
  refine sv (v:=.bool true) rfl rfl rfl (opv_bin rfl rfl rfl rfl rfl (neT c138)) rfl ?_
  refine wo_nil (tq_n (wk ⟨[(2,vI ax10),(3,vI ax11),(8,vP H106.next 0),(10,vP H111.next 0),(13,vI rx12129),(25,.bool true)],33,[],H133⟩ rfl ?_))
  refine w_cond (t:=true) rfl rfl (fun _ => ?_) (fun h => by cases h)
  refine w_seq (w_region (sv (v:=.agg #[vI ax1,vI ax2,vI ax3,vI ax4,vI ax5,as6,vI ax7,vI ax8,vI ax9]) rfl rfl rfl (opv_loadE rfl rfl rfl ag79 sz79 ((k134.get H111.next (by omega)).trans f122.blk) rfl (.inl rfl) rfl) rfl ?_))
  refine mv (vI rx12129) rfl rfl ?_
  refine sv_put (H:=H133) (n:=H106.next) (v:=undef) (x:=some (.row #[vI ax1,vI ax2,vI ax3,vI ax4,vI ax5,as6,vI ax7,vI ax8,vI ax9] .raw)) rfl rfl rfl rfl (opv_storeC (u:=.agg #[vI ax1,vI ax2,vI ax3,vI ax4,vI ax5,as6,vI ax7,vI ax8,vI ax9]) rfl rfl rfl rfl rfl (by simp [undef]) sz79 rfl rfl (leafs_of (l:=[vI ax1,vI ax2,vI ax3,vI ax4,vI ax5,as6,vI ax7,vI ax8,vI ax9]) ⟨rfl,rfl,rfl,rfl,rfl,vt_one (hvas6.mono (((((l104.trans l109).trans l114).trans l119).trans l124).trans l135)),rfl,rfl,rfl,trivial⟩) ((k134.get H106.next (by omega)).trans ((f122.get H106.next (by omega)).trans ((f117.get H106.next (by omega)).trans f112.blk))) rfl rfl) ?_
  intro H156 f157
  refine putL w126 f157 ((k134.get H106.next (by omega)).trans ((f122.get H106.next (by omega)).trans ((f117.get H106.next (by omega)).trans f112.blk))) fun n160 w158 l159 => ?_
  refine mv (vI rx12129) rfl rfl ?_
  refine wo_nil (tq_n (wk ⟨[(8,vP H106.next 0),(9,vI rx12129)],33,[],H156⟩ rfl ?_))
  refine w_ret (tq_r ?_)
  refine ⟨.inr rfl,rfl,[.agg #[vI ax1,vI ax2,vI ax3,vI ax4,vI ax5,as6,vI ax7,vI ax8,vI ax9],vI rx12129],.cons (resV_cellE rfl ag79 sz79 f157.blk rfl (.inl rfl) rfl) (.cons (resV_tmp rfl neI) .nil),(((((((((KeepX.refl (fun _ => False) H).new_ f102).new_ f107).new_ f112).new_ f117).put f122 (by first | (right; omega) | (left; (try dsimp only) <;> omega))).keep k134).put f157 (by first | (right; omega) | (left; (try dsimp only) <;> omega))).k (fun _ h => h.elim)),w158,rx12129,rfl,?_,?_⟩
  · omega
  · intro hc; first | (exfalso; omega) | (exact fun k hk => g137 (by omega) k hk)

theorem tide_box_ok (ax1 ax2:Int) (ax3 ax4 ax5:Int) (as6:Value) (ax7 ax8:Int) (ax9 ax10:Int) (H:SH) (wt:WT H) (hvas6:VT H (.sl false [.int .i64,.int .i64,.int .i64,.int .i64,.int .i64]) as6) (h0:0 ≤ ax10) (h1:ax10 < (slen as6:Int)):WC Try.prog 40 [.agg #[vI ax1,vI ax2,vI ax3,vI ax4,vI ax5,as6,vI ax7,vI ax8,vI ax9],vI ax10] H (fun v H' => Keep H H'∧WT H'∧∃ (rx0 rx1:Int) (rx2 rx3:Int),v=(.agg #[vI ax1,vI ax2,vI ax7,vI ax8,vI rx0,vI rx1,vI rx2,vI rx3])):=by
 refine wc_of_body Try.func40 rfl ?_
 refine wk ⟨[(0,.agg #[vI ax1,vI ax2,vI ax3,vI ax4,vI ax5,as6,vI ax7,vI ax8,vI ax9]),(1,vI ax10)],26,[],H⟩ rfl ?_
 refine w_seq (w_region (sv_new (H:=H) (v:=vP H.next 0) (x:=.row #[vI ax1,vI ax2,vI ax3,vI ax4,vI ax5,as6,vI ax7,vI ax8,vI ax9] .raw) rfl rfl rfl rfl (opv_boxE (v:=.agg #[vI ax1,vI ax2,vI ax3,vI ax4,vI ax5,as6,vI ax7,vI ax8,vI ax9]) rfl rfl rfl (by simp [undef]) rfl) ?_))
 intro H101 f102
 refine newL wt f102 fun n105 w103 l104 => ?_
 refine sv_new (H:=H101) (v:=vP H101.next 0) (x:=.row #[vI 0,vI 0,vI 0,vI 0,vI 0,vI 0,vI 0,vI 0] .raw) rfl rfl rfl rfl (opv_alloc rfl ze87 rfl) ?_
 intro H106 f107
 refine newL w103 f107 fun n110 w108 l109 => ?_
 refine wo_nil (tq_n (wk ⟨[(1,vI ax10),(2,vP H.next 0),(4,vP H101.next 0)],26,[],H106⟩ rfl ?_))
 refine w_seq (w_draw_start ?_)
 intro C0
 have C111:=ch_val (i:=0) (p:=0) (ks:=[2]) (v:=vP H.next 0) (A:=H106) (H:=H106) C0 rfl rfl rfl rfl rfl rfl (opv_fieldAddrE rfl rfl rfl Try.underlying79 rfl sz26 (by decide) rfl)
 have C112:=ch_val (i:=1) (p:=0) (ks:=[5]) (v:=vP H.next 0) (A:=H106) (H:=H106) C111 rfl rfl rfl rfl rfl rfl (opv_fieldAddrE rfl rfl rfl Try.underlying26 rfl sz23 (by decide) rfl)
 have C113:=ch_val (i:=2) (p:=0) (ks:=[6]) (v:=.agg #[vI ax1,vI ax2]) (A:=H106) (H:=H106) C112 rfl rfl rfl rfl rfl rfl (opv_loadE rfl rfl rfl ag23 sz23 ((f107.get H.next (by omega)).trans f102.blk) rfl (.inl rfl) rfl)
 have C114:=ch_val (i:=3) (p:=0) (ks:=[2]) (v:=vP H.next 6) (A:=H106) (H:=H106) C113 rfl rfl rfl rfl rfl rfl (opv_fieldAddrE rfl rfl rfl Try.underlying79 rfl sz28 (by decide) rfl)
 have C115:=ch_val (i:=4) (p:=0) (ks:=[8]) (v:=vP H.next 6) (A:=H106) (H:=H106) C114 rfl rfl rfl rfl rfl rfl (opv_fieldAddrE rfl rfl rfl Try.underlying28 rfl sz23 (by decide) rfl)
 have C116:=ch_val (i:=5) (p:=0) (ks:=[9]) (v:=.agg #[vI ax7,vI ax8]) (A:=H106) (H:=H106) C115 rfl rfl rfl rfl rfl rfl (opv_loadE rfl rfl rfl ag23 sz23 ((f107.get H.next (by omega)).trans f102.blk) rfl (.inl rfl) rfl)
 have C117:=ch_val (i:=6) (p:=0) (ks:=[2]) (v:=vP H.next 0) (A:=H106) (H:=H106) C116 rfl rfl rfl rfl rfl rfl (opv_fieldAddrE rfl rfl rfl Try.underlying79 rfl sz26 (by decide) rfl)
 have C118:=ch_val (i:=7) (p:=0) (ks:=[11]) (v:=vP H.next 5) (A:=H106) (H:=H106) C117 rfl rfl rfl rfl rfl rfl (opv_fieldAddrE rfl rfl rfl Try.underlying26 rfl sz24 (by decide) rfl)
 have C119:=ch_val (i:=8) (p:=0) (ks:=[12]) (v:=as6) (A:=H106) (H:=H106) C118 rfl rfl rfl rfl rfl rfl (opv_loadE rfl rfl rfl ag24 sz24 ((f107.get H.next (by omega)).trans f102.blk) rfl (.inr rfl) rfl)
 have C120:=ch_val (i:=9) (p:=0) (ks:=[1]) (v:=vI ax10) (A:=H106) (H:=H106) C119 rfl rfl rfl rfl rfl rfl (opv_move (.inl rfl) rfl rfl)
 have C121:=ch_val (i:=10) (p:=0) (ks:=[13,14]) (v:=.pointer (some ⟨snm as6,sof as6 + (ax10).toNat * 5,none⟩)) (A:=H106) (H:=H106) C120 rfl rfl rfl rfl rfl rfl (t_index (z:=5) (hvas6.mono (l104.trans l109)) rfl rfl rfl rfl rfl Try.underlying24 sz77 (by omega) (by omega))
 have C122:=ch_val (i:=11) (p:=0) (ks:=[15]) (v:=.pointer (some ⟨snm as6,sof as6 + (ax10).toNat * 5 + 1,none⟩)) (A:=H106) (H:=H106) C121 rfl rfl rfl rfl rfl rfl (opv_fieldAddrE rfl rfl rfl Try.underlying77 rfl sz23 (by decide) rfl)
 obtain ⟨vs124,hs125,ho126⟩:=t_load (P:=Try.prog) w108 (hvas6.mono (l104.trans l109)) (i:=(ax10).toNat) (off:=1) (w:=2) (by omega) (by decide)
 replace hs125:VTs H106 [.int .i64,.int .i64] vs124:=hs125
 obtain ⟨x129,r127,rfl,hs128⟩:=vts_int hs125
 obtain ⟨x132,r130,rfl,hs131⟩:=vts_int hs128
 obtain rfl:=vts_nil hs131
 have C123:=ch_val (i:=12) (p:=0) (ks:=[16]) (v:=.agg #[vI x129,vI x132]) (A:=H106) (H:=H106) C122 rfl rfl rfl rfl rfl rfl (ho126 _ _ _ _ true rfl rfl rfl rfl ag23 sz23 (.inl rfl))
 have C133:=ch_val (i:=13) (p:=0) (ks:=[2]) (v:=vP H.next 0) (A:=H106) (H:=H106) C123 rfl rfl rfl rfl rfl rfl (opv_fieldAddrE rfl rfl rfl Try.underlying79 rfl sz26 (by decide) rfl)
 have C134:=ch_val (i:=14) (p:=0) (ks:=[18]) (v:=vP H.next 5) (A:=H106) (H:=H106) C133 rfl rfl rfl rfl rfl rfl (opv_fieldAddrE rfl rfl rfl Try.underlying26 rfl sz24 (by decide) rfl)
 have C135:=ch_val (i:=15) (p:=0) (ks:=[19]) (v:=as6) (A:=H106) (H:=H106) C134 rfl rfl rfl rfl rfl rfl (opv_loadE rfl rfl rfl ag24 sz24 ((f107.get H.next (by omega)).trans f102.blk) rfl (.inr rfl) rfl)
 have C136:=ch_val (i:=16) (p:=0) (ks:=[1]) (v:=vI ax10) (A:=H106) (H:=H106) C135 rfl rfl rfl rfl rfl rfl (opv_move (.inl rfl) rfl rfl)
 have C137:=ch_val (i:=17) (p:=0) (ks:=[20,21]) (v:=.pointer (some ⟨snm as6,sof as6 + (ax10).toNat * 5,none⟩)) (A:=H106) (H:=H106) C136 rfl rfl rfl rfl rfl rfl (t_index (z:=5) (hvas6.mono (l104.trans l109)) rfl rfl rfl rfl rfl Try.underlying24 sz77 (by omega) (by omega))
 have C138:=ch_val (i:=18) (p:=0) (ks:=[22]) (v:=.pointer (some ⟨snm as6,sof as6 + (ax10).toNat * 5 + 3,none⟩)) (A:=H106) (H:=H106) C137 rfl rfl rfl rfl rfl rfl (opv_fieldAddrE rfl rfl rfl Try.underlying77 rfl sz23 (by decide) rfl)
 obtain ⟨vs140,hs141,ho142⟩:=t_load (P:=Try.prog) w108 (hvas6.mono (l104.trans l109)) (i:=(ax10).toNat) (off:=3) (w:=2) (by omega) (by decide)
 replace hs141:VTs H106 [.int .i64,.int .i64] vs140:=hs141
 obtain ⟨x145,r143,rfl,hs144⟩:=vts_int hs141
 obtain ⟨x148,r146,rfl,hs147⟩:=vts_int hs144
 obtain rfl:=vts_nil hs147
 have C139:=ch_val (i:=19) (p:=0) (ks:=[23]) (v:=.agg #[vI x145,vI x148]) (A:=H106) (H:=H106) C138 rfl rfl rfl rfl rfl rfl (ho142 _ _ _ _ true rfl rfl rfl rfl ag23 sz23 (.inl rfl))
 refine w_draw (tl:=[20,21]) rfl [0,1,3,0,8,24,0,64,192,0,960,1984,4032,0,8192,24576,0,122880,253952,516096,1048575,2097151] C139 (by kernel_rfl) (by kernel_rfl) ?_
 refine wonorm (g:=[(4,vP H101.next 0),(7,.agg #[vI ax1,vI ax2]),(10,.agg #[vI ax7,vI ax8]),(17,.agg #[vI x129,vI x132]),(24,.agg #[vI x145,vI x148])]) (n:=26) (ds:=[]) (H:=H106) (lsub_cons rfl (lsub_cons rfl (lsub_cons rfl (lsub_cons rfl (lsub_cons rfl (lsub_nil _)))))) rfl rfl rfl ?_
 refine sv (v:=.agg #[vI ax1,vI ax2,vI ax7,vI ax8,vI x129,vI x132,vI x145,vI x148]) rfl rfl rfl (opv_buildArE (vs:=[(0,.agg #[vI ax1,vI ax2]),(1,.agg #[vI ax7,vI ax8]),(2,.agg #[vI x129,vI x132]),(3,.agg #[vI x145,vI x148])]) rfl (.cons rfl rfl (by simp [undef]) (.cons rfl rfl (by simp [undef]) (.cons rfl rfl (by simp [undef]) (.cons rfl rfl (by simp [undef]) .nil)))) ze87 rfl tin87 Try.underlying87 tin23 rfl rfl rfl) rfl ?_
 refine sv_put (H:=H106) (n:=H101.next) (v:=undef) (x:=some (.row #[vI ax1,vI ax2,vI ax7,vI ax8,vI x129,vI x132,vI x145,vI x148] .raw)) rfl rfl rfl rfl (opv_storeC (u:=.agg #[vI ax1,vI ax2,vI ax7,vI ax8,vI x129,vI x132,vI x145,vI x148]) rfl rfl rfl rfl rfl (by simp [undef]) sz87 rfl rfl rfl f107.blk rfl rfl) ?_
 intro H149 f150
 refine putL w108 f150 f107.blk fun n153 w151 l152 => ?_
 refine wo_nil (tq_n (wk ⟨[(4,vP H101.next 0)],26,[],H149⟩ rfl ?_))
 refine w_ret ?_
 refine ⟨.inr rfl,rfl,[.agg #[vI ax1,vI ax2,vI ax7,vI ax8,vI x129,vI x132,vI x145,vI x148]],.cons (resV_cellE rfl ag87 sz87 f150.blk rfl (.inl rfl) rfl) .nil,(((((KeepX.refl (fun _ => False) H).new_ f102).new_ f107).put f150 (by first | (right; omega) | (left; (try dsimp only) <;> omega))).k (fun _ h => h.elim)),w151,x129,x132,x145,x148,rfl⟩

theorem tide_Stops_ok (ax1 ax2:Int) (ax3 ax4 ax5:Int) (as6:Value) (ax7 ax8:Int) (ax9 ax10 ax11:Int) (H:SH) (wt:WT H) (hvas6:VT H (.sl false [.int .i64,.int .i64,.int .i64,.int .i64,.int .i64]) as6):WC Try.prog 12 [.agg #[vI ax1,vI ax2,vI ax3,vI ax4,vI ax5,as6],.agg #[vI ax7,vI ax8,vI ax9],vI ax10,vI ax11] H (fun v H' => Keep H H'∧WT H'∧∃ (rx12 rx13 rx14:Int),v=(.tuple #[.agg #[vI rx12,vI rx13],vI rx14])):=by
 refine wc_of_body Try.func12 rfl ?_
 refine wk ⟨[(0,.agg #[vI ax1,vI ax2,vI ax3,vI ax4,vI ax5,as6]),(1,.agg #[vI ax7,vI ax8,vI ax9]),(2,vI ax10),(3,vI ax11)],32,[],H⟩ rfl ?_
 refine w_seq (w_region (sv_new (H:=H) (v:=vP H.next 0) (x:=.row #[vI ax1,vI ax2,vI ax3,vI ax4,vI ax5,as6] .raw) rfl rfl rfl rfl (opv_boxE (v:=.agg #[vI ax1,vI ax2,vI ax3,vI ax4,vI ax5,as6]) rfl rfl rfl (by simp [undef]) rfl) ?_))
 intro H101 f102
 refine newL wt f102 fun n105 w103 l104 => ?_
 refine sv_new (H:=H101) (v:=vP H101.next 0) (x:=.row #[vI ax7,vI ax8,vI ax9] .raw) rfl rfl rfl rfl (opv_boxE (v:=.agg #[vI ax7,vI ax8,vI ax9]) rfl rfl rfl (by simp [undef]) rfl) ?_
 intro H106 f107
 refine newL w103 f107 fun n110 w108 l109 => ?_
 refine sv_new (H:=H106) (v:=vP H106.next 0) (x:=.row #[vI 0,vI 0] .raw) rfl rfl rfl rfl (opv_alloc rfl ze23 rfl) ?_
 intro H111 f112
 refine newL w108 f112 fun n115 w113 l114 => ?_
 refine mv (vI 0) rfl rfl ?_
 refine wo_nil (tq_n (wk ⟨[(2,vI ax10),(3,vI ax11),(4,vP H.next 0),(5,vP H101.next 0),(8,vP H106.next 0)],32,[],H111⟩ rfl ?_))
 refine w_seq (w_region (sv (v:=.agg #[vI ax1,vI ax2,vI ax3,vI ax4,vI ax5,as6]) rfl rfl rfl (opv_loadE rfl rfl rfl ag26 sz26 ((f112.get H.next (by omega)).trans ((f107.get H.next (by omega)).trans f102.blk)) rfl (.inl rfl) rfl) rfl ?_))
 refine sv (v:=.agg #[vI ax7,vI ax8,vI ax9]) rfl rfl rfl (opv_loadE rfl rfl rfl ag28 sz28 ((f112.get H101.next (by omega)).trans f107.blk) rfl (.inl rfl) rfl) rfl ?_
 refine mv (vI ax10) rfl rfl ?_
 refine mv (vI ax11) rfl rfl ?_
 refine sc_ (H:=H111) (vs:=[.agg #[vI ax1,vI ax2,vI ax3,vI ax4,vI ax5,as6],.agg #[vI ax7,vI ax8,vI ax9],vI ax10,vI ax11]) (fv:=.func (.func 38) #[] #[]) rfl rfl rfl rfl rfl rfl (.cons rfl rfl (by simp [undef]) (.cons rfl rfl (by simp [undef]) (.cons rfl rfl neI (.cons rfl rfl neI .nil)))) rfl ?_
 refine WV.mono (wv_f0 Try.call38 (tide_open_ok ax1 ax2 ax3 ax4 ax5 as6 ax7 ax8 ax9 ax10 ax11 _ w113 (hvas6.mono ((l104.trans l109).trans l114)))) ?_
 rintro v120 H121 ⟨k122,w116,rx21117,rfl,f118,f119⟩
 refine kpL k122 fun n124 l123 => ?_
 have g125:rx21117=0→∀ k:Nat,k < slen as6→-1000000 ≤ elI H as6 (k * 5 + 1)∧elI H as6 (k * 5 + 2) ≤ 1000000∧-1000000 ≤ elI H as6 (k * 5 + 3)∧elI H as6 (k * 5 + 4) ≤ 1000000:=fun hc k hk => by have:=f119 hc k hk; simp only [elI_keep (((((KeepX.refl (fun _ => False) H).new_ f102).new_ f107).new_ f112).k (fun _ h => h.elim)) hvas6] at this; exact this
 refine mv (.tuple #[.agg #[vI ax1,vI ax2,vI ax3,vI ax4,vI ax5,as6,vI ax7,vI ax8,vI ax9],vI rx21117]) rfl rfl ?_
 refine sv (v:=.agg #[vI ax1,vI ax2,vI ax3,vI ax4,vI ax5,as6,vI ax7,vI ax8,vI ax9]) rfl rfl rfl (opv_extract rfl rfl rfl rfl) rfl ?_
 refine sv (v:=vI rx21117) rfl rfl rfl (opv_extract rfl rfl rfl rfl) rfl ?_
 refine sv_new (H:=H121) (v:=vP H121.next 0) (x:=.row #[vI 0,vI 0,vI 0,vI 0,vI 0,.slice none 0 0,vI 0,vI 0,vI 0] .raw) rfl rfl rfl rfl (opv_alloc rfl ze79 rfl) ?_
 intro H126 f127
 refine newL w116 f127 fun n130 w128 l129 => ?_
 refine sv_put (H:=H126) (n:=H121.next) (v:=undef) (x:=some (.row #[vI ax1,vI ax2,vI ax3,vI ax4,vI ax5,as6,vI ax7,vI ax8,vI ax9] .raw)) rfl rfl rfl rfl (opv_storeC (u:=.agg #[vI ax1,vI ax2,vI ax3,vI ax4,vI ax5,as6,vI ax7,vI ax8,vI ax9]) rfl rfl rfl rfl rfl (by simp [undef]) sz79 rfl rfl (leafs_of (l:=[vI ax1,vI ax2,vI ax3,vI ax4,vI ax5,as6,vI ax7,vI ax8,vI ax9]) ⟨rfl,rfl,rfl,rfl,rfl,vt_one (hvas6.mono ((((l104.trans l109).trans l114).trans l123).trans l129)),rfl,rfl,rfl,trivial⟩) f127.blk rfl rfl) ?_
 intro H131 f132
 refine putL w128 f132 f127.blk fun n135 w133 l134 => ?_
 refine mv (vI rx21117) rfl rfl ?_
 refine wo_nil (tq_n (wk ⟨[(2,vI ax10),(3,vI ax11),(8,vP H106.next 0),(10,vP H121.next 0),(11,vI rx21117)],32,[],H131⟩ rfl ?_))
 refine w_seq (w_seq (w_region (mv (vI rx21117) rfl rfl ?_)))
 by_cases c136:rx21117=0
 ·
  refine sv (v:=.bool false) rfl rfl rfl (opv_bin rfl rfl rfl rfl rfl (neF c136)) rfl ?_
  refine wo_nil (tq_n (wk ⟨[(2,vI ax10),(3,vI ax11),(8,vP H106.next 0),(10,vP H121.next 0),(11,vI rx21117),(21,.bool false)],32,[],H131⟩ rfl ?_))
  refine w_cond (t:=false) rfl rfl (fun h => by cases h) (fun _ => ?_)
  refine w_skip (tq_n (wk ⟨[(2,vI ax10),(3,vI ax11),(8,vP H106.next 0),(10,vP H121.next 0)],32,[],H131⟩ rfl ?_))
  refine w_seq (w_draw_start ?_)
  intro C0
  have C137:=ch_val (i:=0) (p:=0) (ks:=[10]) (v:=.agg #[vI ax1,vI ax2,vI ax3,vI ax4,vI ax5,as6,vI ax7,vI ax8,vI ax9]) (A:=H131) (H:=H131) C0 rfl rfl rfl rfl rfl rfl (opv_loadE rfl rfl rfl ag79 sz79 f132.blk rfl (.inl rfl) rfl)
  have C138:=ch_val (i:=1) (p:=0) (ks:=[2]) (v:=vI ax10) (A:=H131) (H:=H131) C137 rfl rfl rfl rfl rfl rfl (opv_move (.inl rfl) rfl rfl)
  obtain ⟨_,H145,k146,⟨w140,rx0141,rx1142,rx2143,rx3144,rfl⟩,C139⟩:=ch_call (i:=2) (p:=2) (ks:=[24,25]) (vs:=[.agg #[vI ax1,vI ax2,vI ax3,vI ax4,vI ax5,as6,vI ax7,vI ax8,vI ax9],vI ax10]) (fv:=.func (.func 40) #[] #[]) (H:=H131) C138 rfl rfl rfl rfl rfl rfl rfl (.cons rfl rfl (by simp [undef]) (.cons rfl rfl neI .nil)) rfl (wv_f0 Try.call40 (tide_box_ok ax1 ax2 ax3 ax4 ax5 as6 ax7 ax8 ax9 ax10 _ w133 (hvas6.mono (((((l104.trans l109).trans l114).trans l123).trans l129).trans l134)) (by omega) (by omega)))
  refine kpL k146 fun n148 l147 => ?_
  obtain ⟨_,H153,k154,⟨w150,r1151,rfl,⟨hb152,_,_⟩⟩,C149⟩:=ch_call (i:=3) (p:=3) (ks:=[26]) (vs:=[.agg #[vI ax1,vI ax2,vI ax7,vI ax8,vI rx0141,vI rx1142,vI rx2143,vI rx3144]]) (fv:=.func (.func 41) #[] #[]) (H:=H145) C139 rfl rfl rfl rfl rfl rfl rfl (.cons rfl rfl (by simp [undef]) .nil) rfl (wv_f0 Try.call41 (tide_corners_ok ax1 ax2 ax7 ax8 rx0141 rx1142 rx2143 rx3144 _ w140))
  refine kpL k154 fun n156 l155 => ?_
  have C157:=ch_val (i:=4) (p:=0) (ks:=[10]) (v:=.agg #[vI ax1,vI ax2,vI ax3,vI ax4,vI ax5,as6,vI ax7,vI ax8,vI ax9]) (A:=H131) (H:=H153) C149 rfl rfl rfl rfl rfl rfl (opv_loadE rfl rfl rfl ag79 sz79 f132.blk rfl (.inl rfl) rfl)
  have C158:=ch_val (i:=5) (p:=0) (ks:=[3]) (v:=vI ax11) (A:=H131) (H:=H153) C157 rfl rfl rfl rfl rfl rfl (opv_move (.inl rfl) rfl rfl)
  refine w_draw (tl:=[6,7,8,9]) rfl [0,0,3,7,0,0,63,127,255,511] C158 (by kernel_rfl) (by kernel_rfl) ?_
  refine wonorm (g:=[(8,vP H106.next 0),(27,.func (.func 60) #[] #[vP r1151 0]),(28,.agg #[vI ax1,vI ax2,vI ax3,vI ax4,vI ax5,as6,vI ax7,vI ax8,vI ax9]),(29,vI ax11)]) (n:=32) (ds:=[]) (H:=H153) (lsub_cons rfl (lsub_cons rfl (lsub_cons rfl (lsub_cons rfl (lsub_nil _))))) rfl rfl rfl ?_
  refine sc_ (H:=H153) (vs:=[.agg #[vI ax1,vI ax2,vI ax3,vI ax4,vI ax5,as6,vI ax7,vI ax8,vI ax9],vI ax11,vI 0]) (fv:=.func (.func 42) #[] #[]) rfl rfl rfl rfl rfl rfl (.cons rfl rfl (by simp [undef]) (.cons rfl rfl neI (.cons rfl rfl neI .nil))) rfl ?_
  refine WV.mono (wv_f0 Try.call42 (tide_at_ok ax1 ax2 ax3 ax4 ax5 as6 ax7 ax8 ax9 ax11 0 _ w150 (hvas6.mono (((((((l104.trans l109).trans l114).trans l123).trans l129).trans l134).trans l147).trans l155)))) ?_
  rintro v166 H167 ⟨k168,w159,r1160,r2161,r3162,rfl,⟨hb163,_,_⟩,⟨hb164,_,_⟩,⟨hb165,_,_⟩⟩
  refine kpL k168 fun n170 l169 => ?_
  refine sc_ (H:=H167) (vs:=[.func (.func 60) #[] #[vP r1151 0],.func (.func 61) #[] #[vP r1160 0,vP r2161 0,vP r3162 0]]) (fv:=.func (.func 39) #[] #[]) rfl rfl rfl rfl rfl rfl (.cons rfl rfl (by simp [undef]) (.cons rfl rfl (by simp [undef]) .nil)) rfl ?_
  have ok202:FnOK Try.prog (.func (.func 61) #[] #[vP r1160 0,vP r2161 0,vP r3162 0]) [(true,[.int .i64,.int .i64,.int .i64,.int .i64])] [(false,[.int .i64])] (fun l => argI l 0 0 ≠ 0) H167:=by
    refine ⟨⟨by simp [undef],rfl,rfl⟩,?_⟩
    intro H171 k172 w173 as174 ha175 hp176
    have n178:=k172.next
    have l177:=k172.le
    obtain ⟨v179,r180,rfl,⟨us181,hu182,rfl⟩,ha175⟩:=ha175
    replace hu182:VTs H171 [.int .i64,.int .i64,.int .i64,.int .i64] us181:=hu182
    obtain ⟨x185,r183,rfl,hs184⟩:=vts_int hu182
    obtain ⟨x188,r186,rfl,hs187⟩:=vts_int hs184
    obtain ⟨x191,r189,rfl,hs190⟩:=vts_int hs187
    obtain ⟨x194,r192,rfl,hs193⟩:=vts_int hs190
    obtain rfl:=vts_nil hs193
    obtain rfl:r180=[]:=ha175
    replace hp176:x185 ≠ 0:=hp176
    refine WV.mono (wv_fc (cap:=[vP r1160 0,vP r2161 0,vP r3162 0]) Try.call61 (tide_at1_ok x185 x188 x191 x194 r1160 r2161 r3162 0 ax11 ax1 ax2 ax3 ax4 ax5 as6 ax7 ax8 ax9 _ w173 (hvas6.mono (((((((((l104.trans l109).trans l114).trans l123).trans l129).trans l134).trans l147).trans l155).trans l169).trans l177)) ((k172.get r1160 (by omega)).trans hb163) (by omega) ((k172.get r2161 (by omega)).trans hb164) (by omega) ((k172.get r3162 (by omega)).trans hb165) (by omega) (by omega))) ?_
    rintro v197 H198 ⟨k199,w195,rx1196,rfl⟩
    refine kpL k199 fun n201 l200 => ?_
    exact ⟨k199,w195,[vI rx1196],⟨_,_,rfl,⟨[vI rx1196],⟨_,_,rfl,.int _ _,rfl⟩,rfl⟩,rfl⟩,rfl⟩
  have ok234:FnOK Try.prog (.func (.func 61) #[] #[vP r1160 0,vP r2161 0,vP r3162 0]) [(true,[.int .i64,.int .i64,.int .i64,.int .i64])] [(false,[.int .i64])] (fun l => argI l 0 0 ≠ 0) H167:=by
    refine ⟨⟨by simp [undef],rfl,rfl⟩,?_⟩
    intro H203 k204 w205 as206 ha207 hp208
    have n210:=k204.next
    have l209:=k204.le
    obtain ⟨v211,r212,rfl,⟨us213,hu214,rfl⟩,ha207⟩:=ha207
    replace hu214:VTs H203 [.int .i64,.int .i64,.int .i64,.int .i64] us213:=hu214
    obtain ⟨x217,r215,rfl,hs216⟩:=vts_int hu214
    obtain ⟨x220,r218,rfl,hs219⟩:=vts_int hs216
    obtain ⟨x223,r221,rfl,hs222⟩:=vts_int hs219
    obtain ⟨x226,r224,rfl,hs225⟩:=vts_int hs222
    obtain rfl:=vts_nil hs225
    obtain rfl:r212=[]:=ha207
    replace hp208:x217 ≠ 0:=hp208
    refine WV.mono (wv_fc (cap:=[vP r1160 0,vP r2161 0,vP r3162 0]) Try.call61 (tide_at1_ok x217 x220 x223 x226 r1160 r2161 r3162 0 ax11 ax1 ax2 ax3 ax4 ax5 as6 ax7 ax8 ax9 _ w205 (hvas6.mono (((((((((l104.trans l109).trans l114).trans l123).trans l129).trans l134).trans l147).trans l155).trans l169).trans l209)) ((k204.get r1160 (by omega)).trans hb163) (by omega) ((k204.get r2161 (by omega)).trans hb164) (by omega) ((k204.get r3162 (by omega)).trans hb165) (by omega) (by omega))) ?_
    rintro v229 H230 ⟨k231,w227,rx1228,rfl⟩
    refine kpL k231 fun n233 l232 => ?_
    exact ⟨k231,w227,[vI rx1228],⟨_,_,rfl,⟨[vI rx1228],⟨_,_,rfl,.int _ _,rfl⟩,rfl⟩,rfl⟩,rfl⟩
  refine WV.mono (wv_f0 Try.call39 (tide_reach_ok (.func (.func 60) #[] #[vP r1151 0]) (fun m => m=r1151) (fun l => argI l 0 0 ≠ 0) (.func (.func 61) #[] #[vP r1160 0,vP r2161 0,vP r3162 0]) _ w159 (tide_corners_seq r1151 ax1 ax2 ax7 ax8 rx0141 rx1142 rx2143 rx3144 _ w159 ((k168.get r1151 (by omega)).trans hb152) (by omega) (by omega) (by omega)) ok234)) ?_
  rintro v238 H239 ⟨k240,w235,rx1236,rx2237,rfl⟩
  refine kpL k240 fun n242 l241 => ?_
  refine sv_put (H:=H239) (n:=H106.next) (v:=undef) (x:=some (.row #[vI rx1236,vI rx2237] .raw)) rfl rfl rfl rfl (opv_storeC (u:=.agg #[vI rx1236,vI rx2237]) rfl rfl rfl rfl rfl (by simp [undef]) sz23 rfl rfl rfl ((k240.get H106.next (by omega)).trans ((k168.get H106.next (by omega)).trans ((k154.get H106.next (by omega)).trans ((k146.get H106.next (by omega)).trans ((f132.get H106.next (by omega)).trans ((f127.get H106.next (by omega)).trans ((k122.get H106.next (by omega)).trans f112.blk))))))) rfl rfl) ?_
  intro H243 f244
  refine putL w235 f244 ((k240.get H106.next (by omega)).trans ((k168.get H106.next (by omega)).trans ((k154.get H106.next (by omega)).trans ((k146.get H106.next (by omega)).trans ((f132.get H106.next (by omega)).trans ((f127.get H106.next (by omega)).trans ((k122.get H106.next (by omega)).trans f112.blk))))))) fun n247 w245 l246 => ?_
  refine mv (vI 0) rfl rfl ?_
  refine wo_nil (tq_n (wk ⟨[(8,vP H106.next 0),(9,vI 0)],32,[],H243⟩ rfl ?_))
  refine w_ret ?_
  refine ⟨.inr rfl,rfl,[.agg #[vI rx1236,vI rx2237],vI 0],.cons (resV_cellE rfl ag23 sz23 f244.blk rfl (.inl rfl) rfl) (.cons (resV_tmp rfl neI) .nil),(((((((((((((KeepX.refl (fun _ => False) H).new_ f102).new_ f107).new_ f112).keep k122).new_ f127).put f132 (by first | (right; omega) | (left; (try dsimp only) <;> omega))).keep k146).keep k154).keep k168).keep k240).put f244 (by first | (right; omega) | (left; (try dsimp only) <;> omega))).k (fun _ h => h.elim)),w245,rx1236,rx2237,0,rfl⟩
 ·
  refine sv (v:=.bool true) rfl rfl rfl (opv_bin rfl rfl rfl rfl rfl (neT c136)) rfl ?_
  refine wo_nil (tq_n (wk ⟨[(2,vI ax10),(3,vI ax11),(8,vP H106.next 0),(10,vP H121.next 0),(11,vI rx21117),(21,.bool true)],32,[],H131⟩ rfl ?_))
  refine w_cond (t:=true) rfl rfl (fun _ => ?_) (fun h => by cases h)
  refine w_seq (w_region (sv (v:=.agg #[vI 0,vI 0]) rfl rfl rfl (opv_buildStE (vs:=[]) rfl .nil ze23 rfl tin23 Try.underlying23 pl23 rfl rfl) rfl ?_))
  refine mv (vI rx21117) rfl rfl ?_
  refine sv_put (H:=H131) (n:=H106.next) (v:=undef) (x:=some (.row #[vI 0,vI 0] .raw)) rfl rfl rfl rfl (opv_storeC (u:=.agg #[vI 0,vI 0]) rfl rfl rfl rfl rfl (by simp [undef]) sz23 rfl rfl rfl ((f132.get H106.next (by omega)).trans ((f127.get H106.next (by omega)).trans ((k122.get H106.next (by omega)).trans f112.blk))) rfl rfl) ?_
  intro H248 f249
  refine putL w133 f249 ((f132.get H106.next (by omega)).trans ((f127.get H106.next (by omega)).trans ((k122.get H106.next (by omega)).trans f112.blk))) fun n252 w250 l251 => ?_
  refine mv (vI rx21117) rfl rfl ?_
  refine wo_nil (tq_n (wk ⟨[(8,vP H106.next 0),(9,vI rx21117)],32,[],H248⟩ rfl ?_))
  refine w_ret (tq_r ?_)
  refine ⟨.inr rfl,rfl,[.agg #[vI 0,vI 0],vI rx21117],.cons (resV_cellE rfl ag23 sz23 f249.blk rfl (.inl rfl) rfl) (.cons (resV_tmp rfl neI) .nil),(((((((((KeepX.refl (fun _ => False) H).new_ f102).new_ f107).new_ f112).keep k122).new_ f127).put f132 (by first | (right; omega) | (left; (try dsimp only) <;> omega))).put f249 (by first | (right; omega) | (left; (try dsimp only) <;> omega))).k (fun _ h => h.elim)),w250,0,0,rx21117,rfl⟩

theorem tide_Ashore_ok_raw (ax1 ax2:Int) (ax3 ax4 ax5:Int) (as6:Value) (ax7 ax8:Int) (ax9 ax10:Int) (H:SH) (wt:WT H) (hvas6:VT H (.sl false [.int .i64,.int .i64,.int .i64,.int .i64,.int .i64]) as6):WC Try.prog 15 [.agg #[vI ax1,vI ax2,vI ax3,vI ax4,vI ax5,as6],.agg #[vI ax7,vI ax8,vI ax9],vI ax10] H (fun v H' => Keep H H'∧WT H'∧∃ (rl11:Value),AppV H' H.next [.int .i64] rl11∧slen rl11 ≤ LIM∧∃ (rx12:Int),v=(.tuple #[rl11,vI rx12])):=by
 refine wc_of_body Try.func15 rfl ?_
 refine wk ⟨[(0,.agg #[vI ax1,vI ax2,vI ax3,vI ax4,vI ax5,as6]),(1,.agg #[vI ax7,vI ax8,vI ax9]),(2,vI ax10)],39,[],H⟩ rfl ?_
 refine w_seq (w_region (sv_new (H:=H) (v:=vP H.next 0) (x:=.row #[vI ax1,vI ax2,vI ax3,vI ax4,vI ax5,as6] .raw) rfl rfl rfl rfl (opv_boxE (v:=.agg #[vI ax1,vI ax2,vI ax3,vI ax4,vI ax5,as6]) rfl rfl rfl (by simp [undef]) rfl) ?_))
 intro H101 f102
 refine newL wt f102 fun n105 w103 l104 => ?_
 refine sv_new (H:=H101) (v:=vP H101.next 0) (x:=.row #[vI ax7,vI ax8,vI ax9] .raw) rfl rfl rfl rfl (opv_boxE (v:=.agg #[vI ax7,vI ax8,vI ax9]) rfl rfl rfl (by simp [undef]) rfl) ?_
 intro H106 f107
 refine newL w103 f107 fun n110 w108 l109 => ?_
 refine mv (.slice none 0 0) rfl rfl ?_
 refine mv (vI 0) rfl rfl ?_
 refine wo_nil (tq_n (wk ⟨[(2,vI ax10),(3,vP H.next 0),(4,vP H101.next 0),(6,.slice none 0 0)],39,[],H106⟩ rfl ?_))
 refine w_seq (w_region (sv (v:=.agg #[vI ax1,vI ax2,vI ax3,vI ax4,vI ax5,as6]) rfl rfl rfl (opv_loadE rfl rfl rfl ag26 sz26 ((f107.get H.next (by omega)).trans f102.blk) rfl (.inl rfl) rfl) rfl ?_))
 refine sv (v:=.agg #[vI ax7,vI ax8,vI ax9]) rfl rfl rfl (opv_loadE rfl rfl rfl ag28 sz28 f107.blk rfl (.inl rfl) rfl) rfl ?_
 refine mv (vI ax10) rfl rfl ?_
 refine sc_ (H:=H106) (vs:=[.agg #[vI ax1,vI ax2,vI ax3,vI ax4,vI ax5,as6],.agg #[vI ax7,vI ax8,vI ax9],vI 0,vI ax10]) (fv:=.func (.func 38) #[] #[]) rfl rfl rfl rfl rfl rfl (.cons rfl rfl (by simp [undef]) (.cons rfl rfl (by simp [undef]) (.cons rfl rfl neI (.cons rfl rfl neI .nil)))) rfl ?_
 refine WV.mono (wv_f0 Try.call38 (tide_open_ok ax1 ax2 ax3 ax4 ax5 as6 ax7 ax8 ax9 0 ax10 _ w108 (hvas6.mono (l104.trans l109)))) ?_
 rintro v115 H116 ⟨k117,w111,rx21112,rfl,f113,f114⟩
 refine kpL k117 fun n119 l118 => ?_
 have g120:rx21112=0→∀ k:Nat,k < slen as6→-1000000 ≤ elI H as6 (k * 5 + 1)∧elI H as6 (k * 5 + 2) ≤ 1000000∧-1000000 ≤ elI H as6 (k * 5 + 3)∧elI H as6 (k * 5 + 4) ≤ 1000000:=fun hc k hk => by have:=f114 hc k hk; simp only [elI_keep ((((KeepX.refl (fun _ => False) H).new_ f102).new_ f107).k (fun _ h => h.elim)) hvas6] at this; exact this
 refine mv (.tuple #[.agg #[vI ax1,vI ax2,vI ax3,vI ax4,vI ax5,as6,vI ax7,vI ax8,vI ax9],vI rx21112]) rfl rfl ?_
 refine sv (v:=.agg #[vI ax1,vI ax2,vI ax3,vI ax4,vI ax5,as6,vI ax7,vI ax8,vI ax9]) rfl rfl rfl (opv_extract rfl rfl rfl rfl) rfl ?_
 refine sv (v:=vI rx21112) rfl rfl rfl (opv_extract rfl rfl rfl rfl) rfl ?_
 refine sv_new (H:=H116) (v:=vP H116.next 0) (x:=.row #[vI 0,vI 0,vI 0,vI 0,vI 0,.slice none 0 0,vI 0,vI 0,vI 0] .raw) rfl rfl rfl rfl (opv_alloc rfl ze79 rfl) ?_
 intro H121 f122
 refine newL w111 f122 fun n125 w123 l124 => ?_
 refine sv_put (H:=H121) (n:=H116.next) (v:=undef) (x:=some (.row #[vI ax1,vI ax2,vI ax3,vI ax4,vI ax5,as6,vI ax7,vI ax8,vI ax9] .raw)) rfl rfl rfl rfl (opv_storeC (u:=.agg #[vI ax1,vI ax2,vI ax3,vI ax4,vI ax5,as6,vI ax7,vI ax8,vI ax9]) rfl rfl rfl rfl rfl (by simp [undef]) sz79 rfl rfl (leafs_of (l:=[vI ax1,vI ax2,vI ax3,vI ax4,vI ax5,as6,vI ax7,vI ax8,vI ax9]) ⟨rfl,rfl,rfl,rfl,rfl,vt_one (hvas6.mono (((l104.trans l109).trans l118).trans l124)),rfl,rfl,rfl,trivial⟩) f122.blk rfl rfl) ?_
 intro H126 f127
 refine putL w123 f127 f122.blk fun n130 w128 l129 => ?_
 refine mv (vI rx21112) rfl rfl ?_
 refine wo_nil (tq_n (wk ⟨[(2,vI ax10),(6,.slice none 0 0),(7,vI rx21112),(8,vP H116.next 0)],39,[],H126⟩ rfl ?_))
 refine w_seq (w_seq (w_region (mv (vI rx21112) rfl rfl ?_)))
 by_cases c131:rx21112=0
 ·
  refine sv (v:=.bool false) rfl rfl rfl (opv_bin rfl rfl rfl rfl rfl (neF c131)) rfl ?_
  refine wo_nil (tq_n (wk ⟨[(2,vI ax10),(6,.slice none 0 0),(7,vI rx21112),(8,vP H116.next 0),(18,.bool false)],39,[],H126⟩ rfl ?_))
  refine w_cond (t:=false) rfl rfl (fun h => by cases h) (fun _ => ?_)
  refine w_skip (tq_n (wk ⟨[(2,vI ax10),(6,.slice none 0 0),(8,vP H116.next 0)],39,[],H126⟩ rfl ?_))
  refine w_seq (w_seq (w_region (sv (v:=vP H116.next 0) rfl rfl rfl (opv_fieldAddrE rfl rfl rfl Try.underlying79 rfl sz26 (by decide) rfl) rfl ?_)))
  refine sv (v:=vP H116.next 5) rfl rfl rfl (opv_fieldAddrE rfl rfl rfl Try.underlying26 rfl sz24 (by decide) rfl) rfl ?_
  refine sv (v:=as6) rfl rfl rfl (opv_loadE rfl rfl rfl ag24 sz24 f127.blk rfl (.inr rfl) rfl) rfl ?_
  have c132:slen as6 ≤ 1073741824:=vt_lim (hvas6.mono ((((l104.trans l109).trans l118).trans l124).trans l129))
  refine sv (v:=(vI (slen as6:Int))) rfl rfl rfl (t_len (hvas6.mono ((((l104.trans l109).trans l118).trans l124).trans l129)) rfl rfl rfl Try.underlying24) rfl ?_
  refine mv (vI 0) rfl rfl ?_
  refine wo_nil (tq_n (wk ⟨[(2,vI ax10),(6,.slice none 0 0),(8,vP H116.next 0),(23,(vI (slen as6:Int))),(24,vI 0)],39,[],H126⟩ rfl ?_))
  refine w_block (w_loopS (fun m143 s144 => ∃ (l133:Value) (x134:Int) (H135:SH),(0 ≤ x134)∧(x134 ≤ (slen as6:Int))∧((slen l133:Int) ≤ x134)∧AppV H135 H126.next [.int .i64] l133∧WT H135∧Le H126 H135∧KeepX (fun _ => False) H126 H135∧m143=(((slen as6:Int):Int) - x134).toNat∧s144=⟨[(2,vI ax10),(6,l133),(8,vP H116.next 0),(23,(vI (slen as6:Int))),(24,vI x134)],39,[],H135⟩) (n:=(((slen as6:Int):Int) - 0).toNat) ⟨⟨[(2,vI ax10),(6,.slice none 0 0),(8,vP H116.next 0),(23,(vI (slen as6:Int))),(24,vI 0)],39,[],H126⟩,subk rfl,.slice none 0 0,0,H126,by omega,by omega,by simp [slen],AppV.nil,w128,Le.refl _,KeepX.refl (fun _ => False) H126,rfl,rfl⟩ ?_)
  rintro m143 s144 ⟨l133,x134,H135,i136,i137,i138,ha139,w140,l141,k142,rfl,rfl⟩
  have n145:=k142.next
  refine w_seq (w_region ?_)
  by_cases c146:x134 < (slen as6:Int)
  ·
   refine sv (v:=.bool true) rfl rfl rfl (opv_bin rfl rfl rfl rfl rfl (cmpT rfl c146)) rfl ?_
   refine wo_nil (tq_n (wk ⟨[(2,vI ax10),(6,l133),(8,vP H116.next 0),(23,(vI (slen as6:Int))),(24,vI x134),(25,.bool true)],39,[],H135⟩ rfl ?_))
   refine w_seq (w_cond (t:=true) rfl rfl (fun _ => ?_) (fun h => by cases h))
   refine w_skip (tq_n (wk ⟨[(2,vI ax10),(6,l133),(8,vP H116.next 0),(23,(vI (slen as6:Int))),(24,vI x134)],39,[],H135⟩ rfl ?_))
   refine w_seq (w_block (w_seq (w_region (mv (vI x134) rfl rfl ?_))))
   refine mv (vI x134) rfl rfl ?_
   refine wo_nil (tq_n (wk ⟨[(2,vI ax10),(6,l133),(8,vP H116.next 0),(9,vI x134),(23,(vI (slen as6:Int))),(24,vI x134)],39,[],H135⟩ rfl ?_))
   refine w_seq (w_draw_start ?_)
   intro C0
   have C147:=ch_val (i:=1) (p:=0) (ks:=[8]) (v:=.agg #[vI ax1,vI ax2,vI ax3,vI ax4,vI ax5,as6,vI ax7,vI ax8,vI ax9]) (A:=H135) (H:=H135) C0 rfl rfl rfl rfl rfl rfl (opv_loadE rfl rfl rfl ag79 sz79 ((k142.get H116.next (by omega) id).trans f127.blk) rfl (.inl rfl) rfl)
   have C148:=ch_val (i:=2) (p:=0) (ks:=[9]) (v:=vI x134) (A:=H135) (H:=H135) C147 rfl rfl rfl rfl rfl rfl (opv_move (.inl rfl) rfl rfl)
   obtain ⟨_,H155,k156,⟨w150,rx0151,rx1152,rx2153,rx3154,rfl⟩,C149⟩:=ch_call (i:=3) (p:=2) (ks:=[28,29]) (vs:=[.agg #[vI ax1,vI ax2,vI ax3,vI ax4,vI ax5,as6,vI ax7,vI ax8,vI ax9],vI x134]) (fv:=.func (.func 40) #[] #[]) (H:=H135) C148 rfl rfl rfl rfl rfl rfl rfl (.cons rfl rfl (by simp [undef]) (.cons rfl rfl neI .nil)) rfl (wv_f0 Try.call40 (tide_box_ok ax1 ax2 ax3 ax4 ax5 as6 ax7 ax8 ax9 x134 _ w140 (hvas6.mono (((((l104.trans l109).trans l118).trans l124).trans l129).trans l141)) (by omega) (by omega)))
   refine kpL k156 fun n158 l157 => ?_
   have C159:=ch_val (i:=0) (p:=0) (ks:=[8]) (v:=.agg #[vI ax1,vI ax2,vI ax3,vI ax4,vI ax5,as6,vI ax7,vI ax8,vI ax9]) (A:=H135) (H:=H155) C149 rfl rfl rfl rfl rfl rfl (opv_loadE rfl rfl rfl ag79 sz79 ((k142.get H116.next (by omega) id).trans f127.blk) rfl (.inl rfl) rfl)
   have C160:=ch_val (i:=4) (p:=0) (ks:=[2]) (v:=vI ax10) (A:=H135) (H:=H155) C159 rfl rfl rfl rfl rfl rfl (opv_move (.inl rfl) rfl rfl)
   refine w_draw (tl:=[5]) rfl [0,0,0,6,0,31] C160 (by kernel_rfl) (by kernel_rfl) ?_
   refine wonorm (g:=[(2,vI ax10),(6,l133),(8,vP H116.next 0),(9,vI x134),(23,(vI (slen as6:Int))),(24,vI x134),(27,.agg #[vI ax1,vI ax2,vI ax3,vI ax4,vI ax5,as6,vI ax7,vI ax8,vI ax9]),(30,.agg #[vI ax1,vI ax2,vI ax7,vI ax8,vI rx0151,vI rx1152,vI rx2153,vI rx3154]),(31,vI ax10)]) (n:=39) (ds:=[]) (H:=H155) (lsub_cons rfl (lsub_cons rfl (lsub_cons rfl (lsub_cons rfl (lsub_cons rfl (lsub_cons rfl (lsub_cons rfl (lsub_cons rfl (lsub_cons rfl (lsub_nil _)))))))))) rfl rfl rfl ?_
   refine sc_ (H:=H155) (vs:=[.agg #[vI ax1,vI ax2,vI ax3,vI ax4,vI ax5,as6,vI ax7,vI ax8,vI ax9],.agg #[vI ax1,vI ax2,vI ax7,vI ax8,vI rx0151,vI rx1152,vI rx2153,vI rx3154],vI ax10]) (fv:=.func (.func 43) #[] #[]) rfl rfl rfl rfl rfl rfl (.cons rfl rfl (by simp [undef]) (.cons rfl rfl (by simp [undef]) (.cons rfl rfl neI .nil))) rfl ?_
   refine WV.mono (wv_f0 Try.call43 (tide_within_ok ax1 ax2 ax3 ax4 ax5 as6 ax7 ax8 ax9 ax1 ax2 ax7 ax8 rx0151 rx1152 rx2153 rx3154 ax10 _ w150 (hvas6.mono ((((((l104.trans l109).trans l118).trans l124).trans l129).trans l141).trans l157)) (by omega) (by omega))) ?_
   rintro v163 H164 ⟨k165,w161,rb19162,rfl⟩
   refine kpL k165 fun n167 l166 => ?_
   refine wo_nil (tq_n (wk ⟨[(2,vI ax10),(6,l133),(8,vP H116.next 0),(9,vI x134),(23,(vI (slen as6:Int))),(24,vI x134),(32,.bool rb19162)],39,[],H164⟩ rfl ?_))
   rcases rb19162 with _ | _
   ·
    refine w_cond (t:=false) rfl rfl (fun h => by cases h) (fun _ => ?_)
    refine w_skip ?_
    try refine q_eq (e':=.normal) rfl ?_
    refine tqk ⟨[(2,vI ax10),(6,l133),(8,vP H116.next 0),(23,(vI (slen as6:Int))),(24,vI x134)],39,[],H164⟩ rfl ?_
    refine w_region (sv_int rfl rfl rfl (opv_bin rfl rfl rfl rfl rfl rfl) ?_)
    intro x168 h169
    try replace h169:x168=x134 + 1:=wr_ex h169 (by omega) (by omega)
    refine mv (vI x168) rfl rfl ?_
    refine wo_nil ?_
    refine tq_n ⟨(((slen as6:Int):Int) - x168).toNat,by omega,⟨[(2,vI ax10),(6,l133),(8,vP H116.next 0),(23,(vI (slen as6:Int))),(24,vI x168)],39,[],H164⟩,subk rfl,l133,x168,H164,by omega,by omega,by omega,AppV.move ha139 (l157.trans l166) (fun k h1 h2 => ((k165.get k (by omega)).trans (k156.get k (by omega)))),w161,(l141.trans l157).trans l166,(((KeepX.refl (fun _ => False) H126).trans k142 (fun _ h => h.elim)).keep k156).keep k165,rfl,rfl⟩
   ·
    refine w_cond (t:=true) rfl rfl (fun _ => ?_) (fun h => by cases h)
    refine w_region (mv l133 rfl rfl ?_)
    refine mv (vI x134) rfl rfl ?_
    refine sv_new (H:=H164) (v:=.slice (some ⟨H164.next,0,none⟩) 1 1) (x:=.row #[vI x134] .raw) rfl rfl rfl rfl (opv_buildSliceE (vs:=[(0,vI x134)]) rfl (.cons rfl rfl neI .nil) Try.underlying34 sz3 ze3 rfl (by decide) (by decide) rfl rfl rfl) ?_
    intro H170 f171
    refine newL w161 f171 fun n174 w172 l173 => ?_
    refine sv_append (H:=H170) (lo:=H126.next) (e:=[.int .i64]) (v:=l133) (n:=H164.next) (m:=1) (xs:=[vI x134]) (by_:=8) rfl rfl rfl rfl w172 (AppV.move ha139 ((l157.trans l166).trans l173) (fun k h1 h2 => ((f171.get k (by omega)).trans ((k165.get k (by omega)).trans (k156.get k (by omega)))))) rfl rfl rfl rfl rfl f171.blk rfl (by simp) (by decide) rfl ⟨.int _ _,trivial⟩ ⟨rfl,trivial⟩ Try.underlying34 Try.underlying34 rfl sz3 tin3 rfl ze3 rfl (by omega) (by omega) (by decide) ?_
    intro l175 H176 ha177 hl178 w179 l180 k181 n182
    refine mv l175 rfl rfl ?_
    refine wo_nil ?_
    try refine q_eq (e':=.normal) rfl ?_
    refine tqk ⟨[(2,vI ax10),(6,l175),(8,vP H116.next 0),(23,(vI (slen as6:Int))),(24,vI x134)],39,[],H176⟩ rfl ?_
    refine w_region (sv_int rfl rfl rfl (opv_bin rfl rfl rfl rfl rfl rfl) ?_)
    intro x183 h184
    try replace h184:x183=x134 + 1:=wr_ex h184 (by omega) (by omega)
    refine mv (vI x183) rfl rfl ?_
    refine wo_nil ?_
    refine tq_n ⟨(((slen as6:Int):Int) - x183).toNat,by omega,⟨[(2,vI ax10),(6,l175),(8,vP H116.next 0),(23,(vI (slen as6:Int))),(24,vI x183)],39,[],H176⟩,subk rfl,l175,x183,H176,by omega,by omega,by omega,ha177,w179,(((l141.trans l157).trans l166).trans l173).trans l180,((((((KeepX.refl (fun _ => False) H126).trans k142 (fun _ h => h.elim)).keep k156).keep k165).new_ f171).trans k181 (fun k hk => .inr (by have:=ha139.x hk; omega))),rfl,rfl⟩
  ·
   refine sv (v:=.bool false) rfl rfl rfl (opv_bin rfl rfl rfl rfl rfl (cmpF rfl c146)) rfl ?_
   refine wo_nil (tq_n (wk ⟨[(2,vI ax10),(6,l133),(8,vP H116.next 0),(23,(vI (slen as6:Int))),(24,vI x134),(25,.bool false)],39,[],H135⟩ rfl ?_))
   refine w_seq (w_cond (t:=false) rfl rfl (fun h => by cases h) (fun _ => ?_))
   refine w_exit (tq_e (tq_e ?_))
   try refine q_eq (e':=.normal) rfl ?_
   refine tqk ⟨[(6,l133)],39,[],H135⟩ rfl ?_
   refine w_seq (w_region (mv l133 rfl rfl ?_))
   refine mv l133 rfl rfl ?_
   refine mv (vI 0) rfl rfl ?_
   refine wo_nil (tq_n (wk ⟨[(6,l133),(7,vI 0)],39,[],H135⟩ rfl ?_))
   refine w_ret ?_
   refine ⟨.inr rfl,rfl,[l133,vI 0],.cons (resV_tmp rfl ha139.ne) (.cons (resV_tmp rfl neI) .nil),((((((((KeepX.refl (fun _ => False) H).new_ f102).new_ f107).keep k117).new_ f122).put f127 (by first | (right; omega) | (left; (try dsimp only) <;> omega))).trans k142 (fun _ h => h.elim)).k (fun _ h => h.elim)),w140,l133,ha139.lower (by omega),(by unfold LIM; omega),0,rfl⟩
 ·
  refine sv (v:=.bool true) rfl rfl rfl (opv_bin rfl rfl rfl rfl rfl (neT c131)) rfl ?_
  refine wo_nil (tq_n (wk ⟨[(2,vI ax10),(6,.slice none 0 0),(7,vI rx21112),(8,vP H116.next 0),(18,.bool true)],39,[],H126⟩ rfl ?_))
  refine w_cond (t:=true) rfl rfl (fun _ => ?_) (fun h => by cases h)
  refine w_seq (w_region (mv (vI rx21112) rfl rfl ?_))
  refine mv (.slice none 0 0) rfl rfl ?_
  refine mv (vI rx21112) rfl rfl ?_
  refine wo_nil (tq_n (wk ⟨[(6,.slice none 0 0),(7,vI rx21112)],39,[],H126⟩ rfl ?_))
  refine w_ret (tq_r ?_)
  refine ⟨.inr rfl,rfl,[.slice none 0 0,vI rx21112],.cons (resV_tmp rfl (by simp [undef])) (.cons (resV_tmp rfl neI) .nil),(((((((KeepX.refl (fun _ => False) H).new_ f102).new_ f107).keep k117).new_ f122).put f127 (by first | (right; omega) | (left; (try dsimp only) <;> omega))).k (fun _ h => h.elim)),w128,.slice none 0 0,AppV.nil,Nat.zero_le _,rx21112,rfl⟩
theorem tide_Ashore_ok (ax1 ax2:Int) (ax3 ax4 ax5:Int) (as6:Value) (ax7 ax8:Int) (ax9 ax10:Int) (H:SH) (wt:WT H) (hvas6:VT H (.sl false [.int .i64,.int .i64,.int .i64,.int .i64,.int .i64]) as6):WC Try.prog 15 [.agg #[vI ax1,vI ax2,vI ax3,vI ax4,vI ax5,as6],.agg #[vI ax7,vI ax8,vI ax9],vI ax10] H (fun v H' => Keep H H'∧WT H'∧∃ (rl11:Value),VT H' (.sl true [.int .i64]) rl11∧∃ (rx12:Int),v=(.tuple #[rl11,vI rx12])) :=
  WC.tagApp (K:=fun v rl11 => ∃ (rx12:Int),v=(.tuple #[rl11,vI rx12])) (by simp) wt (tide_Ashore_ok_raw ax1 ax2 ax3 ax4 ax5 as6 ax7 ax8 ax9 ax10 H wt hvas6)
end Go.Proofs.Orl

namespace Go.Proofs.Orl
open Go
set_option maxRecDepth 10000
set_option maxHeartbeats 4000000
theorem pl99:placesT Try.prog 99=some [(0,9),(9,1)]:=by kernel_rfl
theorem tin99:Try.prog.info? 99=some Try.t99:=by kernel_rfl
theorem ze99:zeroT Try.prog 99=some (.agg #[vI 0,vI 0,vI 0,vI 0,vI 0,.slice none 0 0,vI 0,vI 0,vI 0,vI 0]):=by kernel_rfl
theorem tide_box2_ok (ax1 ax2:Int) (ax3 ax4 ax5:Int) (as6:Value) (ax7 ax8:Int) (ax9 ax10:Int) (H:SH) (wt:WT H) (hvas6:VT H (.sl false [.int .i64,.int .i64,.int .i64,.int .i64,.int .i64]) as6) (h0:0 ≤ ax10) (h1:ax10 < (slen as6:Int)) (hel0 : ∀ k:Nat,k < slen as6→-1000000 ≤ elI H as6 (k * 5 + 1)∧elI H as6 (k * 5 + 2) ≤ 1000000∧-1000000 ≤ elI H as6 (k * 5 + 3)∧elI H as6 (k * 5 + 4) ≤ 1000000):WC Try.prog 40 [.agg #[vI ax1,vI ax2,vI ax3,vI ax4,vI ax5,as6,vI ax7,vI ax8,vI ax9],vI ax10] H (fun v H' => Keep H H'∧WT H'∧∃ (rx0 rx1:Int) (rx2 rx3:Int),v=(.agg #[vI ax1,vI ax2,vI ax7,vI ax8,vI rx0,vI rx1,vI rx2,vI rx3])∧(-1000000 ≤ rx0∧rx1 ≤ 1000000∧-1000000 ≤ rx2∧rx3 ≤ 1000000)):=by
 refine wc_of_body Try.func40 rfl ?_
 refine wk ⟨[(0,.agg #[vI ax1,vI ax2,vI ax3,vI ax4,vI ax5,as6,vI ax7,vI ax8,vI ax9]),(1,vI ax10)],26,[],H⟩ rfl ?_
 refine w_seq (w_region (sv_new (H:=H) (v:=vP H.next 0) (x:=.row #[vI ax1,vI ax2,vI ax3,vI ax4,vI ax5,as6,vI ax7,vI ax8,vI ax9] .raw) rfl rfl rfl rfl (opv_boxE (v:=.agg #[vI ax1,vI ax2,vI ax3,vI ax4,vI ax5,as6,vI ax7,vI ax8,vI ax9]) rfl rfl rfl (by simp [undef]) rfl) ?_))
 intro H101 f102
 refine newL wt f102 fun n105 w103 l104 => ?_
 refine sv_new (H:=H101) (v:=vP H101.next 0) (x:=.row #[vI 0,vI 0,vI 0,vI 0,vI 0,vI 0,vI 0,vI 0] .raw) rfl rfl rfl rfl (opv_alloc rfl ze87 rfl) ?_
 intro H106 f107
 refine newL w103 f107 fun n110 w108 l109 => ?_
 refine wo_nil (tq_n (wk ⟨[(1,vI ax10),(2,vP H.next 0),(4,vP H101.next 0)],26,[],H106⟩ rfl ?_))
 refine w_seq (w_draw_start ?_)
 intro C0
 have C111:=ch_val (i:=0) (p:=0) (ks:=[2]) (v:=vP H.next 0) (A:=H106) (H:=H106) C0 rfl rfl rfl rfl rfl rfl (opv_fieldAddrE rfl rfl rfl Try.underlying79 rfl sz26 (by decide) rfl)
 have C112:=ch_val (i:=1) (p:=0) (ks:=[5]) (v:=vP H.next 0) (A:=H106) (H:=H106) C111 rfl rfl rfl rfl rfl rfl (opv_fieldAddrE rfl rfl rfl Try.underlying26 rfl sz23 (by decide) rfl)
 have C113:=ch_val (i:=2) (p:=0) (ks:=[6]) (v:=.agg #[vI ax1,vI ax2]) (A:=H106) (H:=H106) C112 rfl rfl rfl rfl rfl rfl (opv_loadE rfl rfl rfl ag23 sz23 ((f107.get H.next (by omega)).trans f102.blk) rfl (.inl rfl) rfl)
 have C114:=ch_val (i:=3) (p:=0) (ks:=[2]) (v:=vP H.next 6) (A:=H106) (H:=H106) C113 rfl rfl rfl rfl rfl rfl (opv_fieldAddrE rfl rfl rfl Try.underlying79 rfl sz28 (by decide) rfl)
 have C115:=ch_val (i:=4) (p:=0) (ks:=[8]) (v:=vP H.next 6) (A:=H106) (H:=H106) C114 rfl rfl rfl rfl rfl rfl (opv_fieldAddrE rfl rfl rfl Try.underlying28 rfl sz23 (by decide) rfl)
 have C116:=ch_val (i:=5) (p:=0) (ks:=[9]) (v:=.agg #[vI ax7,vI ax8]) (A:=H106) (H:=H106) C115 rfl rfl rfl rfl rfl rfl (opv_loadE rfl rfl rfl ag23 sz23 ((f107.get H.next (by omega)).trans f102.blk) rfl (.inl rfl) rfl)
 have C117:=ch_val (i:=6) (p:=0) (ks:=[2]) (v:=vP H.next 0) (A:=H106) (H:=H106) C116 rfl rfl rfl rfl rfl rfl (opv_fieldAddrE rfl rfl rfl Try.underlying79 rfl sz26 (by decide) rfl)
 have C118:=ch_val (i:=7) (p:=0) (ks:=[11]) (v:=vP H.next 5) (A:=H106) (H:=H106) C117 rfl rfl rfl rfl rfl rfl (opv_fieldAddrE rfl rfl rfl Try.underlying26 rfl sz24 (by decide) rfl)
 have C119:=ch_val (i:=8) (p:=0) (ks:=[12]) (v:=as6) (A:=H106) (H:=H106) C118 rfl rfl rfl rfl rfl rfl (opv_loadE rfl rfl rfl ag24 sz24 ((f107.get H.next (by omega)).trans f102.blk) rfl (.inr rfl) rfl)
 have C120:=ch_val (i:=9) (p:=0) (ks:=[1]) (v:=vI ax10) (A:=H106) (H:=H106) C119 rfl rfl rfl rfl rfl rfl (opv_move (.inl rfl) rfl rfl)
 have C121:=ch_val (i:=10) (p:=0) (ks:=[13,14]) (v:=.pointer (some ⟨snm as6,sof as6 + (ax10).toNat * 5,none⟩)) (A:=H106) (H:=H106) C120 rfl rfl rfl rfl rfl rfl (t_index (z:=5) (hvas6.mono (l104.trans l109)) rfl rfl rfl rfl rfl Try.underlying24 sz77 (by omega) (by omega))
 have C122:=ch_val (i:=11) (p:=0) (ks:=[15]) (v:=.pointer (some ⟨snm as6,sof as6 + (ax10).toNat * 5 + 1,none⟩)) (A:=H106) (H:=H106) C121 rfl rfl rfl rfl rfl rfl (opv_fieldAddrE rfl rfl rfl Try.underlying77 rfl sz23 (by decide) rfl)
 obtain ⟨vs124,hs125,ho126,he127⟩:=t_loadE (P:=Try.prog) w108 (hvas6.mono (l104.trans l109)) (i:=(ax10).toNat) (off:=1) (w:=2) (by omega) (by decide)
 replace hs125:VTs H106 [.int .i64,.int .i64] vs124:=hs125
 obtain ⟨x130,r128,rfl,hs129⟩:=vts_int hs125
 obtain ⟨x133,r131,rfl,hs132⟩:=vts_int hs129
 obtain rfl:=vts_nil hs132
 have q134:elI H as6 ((ax10).toNat * 5 + 1) = x130:=elI_of ((((KeepX.refl (fun _ => False) H).new_ f102).new_ f107).k (fun _ h => h.elim)) hvas6 (he127 0 (by decide))
 have q135:elI H as6 ((ax10).toNat * 5 + 2) = x133:=elI_of ((((KeepX.refl (fun _ => False) H).new_ f102).new_ f107).k (fun _ h => h.elim)) hvas6 (he127 1 (by decide))
 have C123:=ch_val (i:=12) (p:=0) (ks:=[16]) (v:=.agg #[vI x130,vI x133]) (A:=H106) (H:=H106) C122 rfl rfl rfl rfl rfl rfl (ho126 _ _ _ _ true rfl rfl rfl rfl ag23 sz23 (.inl rfl))
 have C136:=ch_val (i:=13) (p:=0) (ks:=[2]) (v:=vP H.next 0) (A:=H106) (H:=H106) C123 rfl rfl rfl rfl rfl rfl (opv_fieldAddrE rfl rfl rfl Try.underlying79 rfl sz26 (by decide) rfl)
 have C137:=ch_val (i:=14) (p:=0) (ks:=[18]) (v:=vP H.next 5) (A:=H106) (H:=H106) C136 rfl rfl rfl rfl rfl rfl (opv_fieldAddrE rfl rfl rfl Try.underlying26 rfl sz24 (by decide) rfl)
 have C138:=ch_val (i:=15) (p:=0) (ks:=[19]) (v:=as6) (A:=H106) (H:=H106) C137 rfl rfl rfl rfl rfl rfl (opv_loadE rfl rfl rfl ag24 sz24 ((f107.get H.next (by omega)).trans f102.blk) rfl (.inr rfl) rfl)
 have C139:=ch_val (i:=16) (p:=0) (ks:=[1]) (v:=vI ax10) (A:=H106) (H:=H106) C138 rfl rfl rfl rfl rfl rfl (opv_move (.inl rfl) rfl rfl)
 have C140:=ch_val (i:=17) (p:=0) (ks:=[20,21]) (v:=.pointer (some ⟨snm as6,sof as6 + (ax10).toNat * 5,none⟩)) (A:=H106) (H:=H106) C139 rfl rfl rfl rfl rfl rfl (t_index (z:=5) (hvas6.mono (l104.trans l109)) rfl rfl rfl rfl rfl Try.underlying24 sz77 (by omega) (by omega))
 have C141:=ch_val (i:=18) (p:=0) (ks:=[22]) (v:=.pointer (some ⟨snm as6,sof as6 + (ax10).toNat * 5 + 3,none⟩)) (A:=H106) (H:=H106) C140 rfl rfl rfl rfl rfl rfl (opv_fieldAddrE rfl rfl rfl Try.underlying77 rfl sz23 (by decide) rfl)
 obtain ⟨vs143,hs144,ho145,he146⟩:=t_loadE (P:=Try.prog) w108 (hvas6.mono (l104.trans l109)) (i:=(ax10).toNat) (off:=3) (w:=2) (by omega) (by decide)
 replace hs144:VTs H106 [.int .i64,.int .i64] vs143:=hs144
 obtain ⟨x149,r147,rfl,hs148⟩:=vts_int hs144
 obtain ⟨x152,r150,rfl,hs151⟩:=vts_int hs148
 obtain rfl:=vts_nil hs151
 have q153:elI H as6 ((ax10).toNat * 5 + 3) = x149:=elI_of ((((KeepX.refl (fun _ => False) H).new_ f102).new_ f107).k (fun _ h => h.elim)) hvas6 (he146 0 (by decide))
 have q154:elI H as6 ((ax10).toNat * 5 + 4) = x152:=elI_of ((((KeepX.refl (fun _ => False) H).new_ f102).new_ f107).k (fun _ h => h.elim)) hvas6 (he146 1 (by decide))
 have f155:=hel0 (ax10).toNat (by omega)
 simp only [q134,q135,q153,q154] at f155
 have C142:=ch_val (i:=19) (p:=0) (ks:=[23]) (v:=.agg #[vI x149,vI x152]) (A:=H106) (H:=H106) C141 rfl rfl rfl rfl rfl rfl (ho145 _ _ _ _ true rfl rfl rfl rfl ag23 sz23 (.inl rfl))
 refine w_draw (tl:=[20,21]) rfl [0,1,3,0,8,24,0,64,192,0,960,1984,4032,0,8192,24576,0,122880,253952,516096,1048575,2097151] C142 (by kernel_rfl) (by kernel_rfl) ?_
 refine wonorm (g:=[(4,vP H101.next 0),(7,.agg #[vI ax1,vI ax2]),(10,.agg #[vI ax7,vI ax8]),(17,.agg #[vI x130,vI x133]),(24,.agg #[vI x149,vI x152])]) (n:=26) (ds:=[]) (H:=H106) (lsub_cons rfl (lsub_cons rfl (lsub_cons rfl (lsub_cons rfl (lsub_cons rfl (lsub_nil _)))))) rfl rfl rfl ?_
 refine sv (v:=.agg #[vI ax1,vI ax2,vI ax7,vI ax8,vI x130,vI x133,vI x149,vI x152]) rfl rfl rfl (opv_buildArE (vs:=[(0,.agg #[vI ax1,vI ax2]),(1,.agg #[vI ax7,vI ax8]),(2,.agg #[vI x130,vI x133]),(3,.agg #[vI x149,vI x152])]) rfl (.cons rfl rfl (by simp [undef]) (.cons rfl rfl (by simp [undef]) (.cons rfl rfl (by simp [undef]) (.cons rfl rfl (by simp [undef]) .nil)))) ze87 rfl tin87 Try.underlying87 tin23 rfl rfl rfl) rfl ?_
 refine sv_put (H:=H106) (n:=H101.next) (v:=undef) (x:=some (.row #[vI ax1,vI ax2,vI ax7,vI ax8,vI x130,vI x133,vI x149,vI x152] .raw)) rfl rfl rfl rfl (opv_storeC (u:=.agg #[vI ax1,vI ax2,vI ax7,vI ax8,vI x130,vI x133,vI x149,vI x152]) rfl rfl rfl rfl rfl (by simp [undef]) sz87 rfl rfl rfl f107.blk rfl rfl) ?_
 intro H156 f157
 refine putL w108 f157 f107.blk fun n160 w158 l159 => ?_
 refine wo_nil (tq_n (wk ⟨[(4,vP H101.next 0)],26,[],H156⟩ rfl ?_))
 refine w_ret ?_
 refine ⟨.inr rfl,rfl,[.agg #[vI ax1,vI ax2,vI ax7,vI ax8,vI x130,vI x133,vI x149,vI x152]],.cons (resV_cellE rfl ag87 sz87 f157.blk rfl (.inl rfl) rfl) .nil,(((((KeepX.refl (fun _ => False) H).new_ f102).new_ f107).put f157 (by first | (right; omega) | (left; (try dsimp only) <;> omega))).k (fun _ h => h.elim)),w158,x130,x133,x149,x152,rfl,?_⟩
 · omega

theorem tide_does_ok (ax1 ax2:Int) (ax3 ax4 ax5:Int) (as6:Value) (ax7 ax8:Int) (ax9 ax10 ax11:Int) (H:SH) (wt:WT H) (hvas6:VT H (.sl false [.int .i64,.int .i64,.int .i64,.int .i64,.int .i64]) as6) (h0:1 ≤ ax1) (h1:ax1 ≤ ax2) (h2:0 ≤ ax10) (h3:ax10 < (slen as6:Int)):WC Try.prog 48 [.agg #[vI ax1,vI ax2,vI ax3,vI ax4,vI ax5,as6,vI ax7,vI ax8,vI ax9,vI ax10],vI ax11] H (fun v H' => Keep H H'∧WT H'∧∃ (rb12:Bool),v=(.bool rb12)):=by
 refine wc_of_body Try.func48 rfl ?_
 refine wk ⟨[(0,.agg #[vI ax1,vI ax2,vI ax3,vI ax4,vI ax5,as6,vI ax7,vI ax8,vI ax9,vI ax10]),(1,vI ax11)],14,[],H⟩ rfl ?_
 refine w_seq (w_region (sv_new (H:=H) (v:=vP H.next 0) (x:=.row #[vI ax1,vI ax2,vI ax3,vI ax4,vI ax5,as6,vI ax7,vI ax8,vI ax9,vI ax10] .raw) rfl rfl rfl rfl (opv_boxE (v:=.agg #[vI ax1,vI ax2,vI ax3,vI ax4,vI ax5,as6,vI ax7,vI ax8,vI ax9,vI ax10]) rfl rfl rfl (by simp [undef]) rfl) ?_))
 intro H101 f102
 refine newL wt f102 fun n105 w103 l104 => ?_
 refine mv (.bool false) rfl rfl ?_
 refine wo_nil (tq_n (wk ⟨[(1,vI ax11),(2,vP H.next 0)],14,[],H101⟩ rfl ?_))
 refine w_seq (w_draw_start ?_)
 intro C0
 have C106:=ch_val (i:=2) (p:=0) (ks:=[2]) (v:=vP H.next 0) (A:=H101) (H:=H101) C0 rfl rfl rfl rfl rfl rfl (opv_fieldAddrE rfl rfl rfl Try.underlying99 rfl sz79 (by decide) rfl)
 have C107:=ch_val (i:=3) (p:=0) (ks:=[7]) (v:=.agg #[vI ax1,vI ax2,vI ax3,vI ax4,vI ax5,as6,vI ax7,vI ax8,vI ax9]) (A:=H101) (H:=H101) C106 rfl rfl rfl rfl rfl rfl (opv_loadE rfl rfl rfl ag79 sz79 f102.blk rfl (.inl rfl) rfl)
 have C108:=ch_val (i:=4) (p:=0) (ks:=[2]) (v:=vP H.next 9) (A:=H101) (H:=H101) C107 rfl rfl rfl rfl rfl rfl (opv_fieldAddrE rfl rfl rfl Try.underlying99 rfl sz3 (by decide) rfl)
 have C109:=ch_val (i:=5) (p:=0) (ks:=[9]) (v:=vI ax10) (A:=H101) (H:=H101) C108 rfl rfl rfl rfl rfl rfl (opv_loadE rfl rfl rfl ag3 sz3 f102.blk rfl (.inr rfl) rfl)
 obtain ⟨_,H116,k117,⟨w111,rx0112,rx1113,rx2114,rx3115,rfl⟩,C110⟩:=ch_call (i:=6) (p:=4) (ks:=[8,10]) (vs:=[.agg #[vI ax1,vI ax2,vI ax3,vI ax4,vI ax5,as6,vI ax7,vI ax8,vI ax9],vI ax10]) (fv:=.func (.func 40) #[] #[]) (H:=H101) C109 rfl rfl rfl rfl rfl rfl rfl (.cons rfl rfl (by simp [undef]) (.cons rfl rfl neI .nil)) rfl (wv_f0 Try.call40 (tide_box_ok ax1 ax2 ax3 ax4 ax5 as6 ax7 ax8 ax9 ax10 _ w103 (hvas6.mono l104) (by omega) (by omega)))
 refine kpL k117 fun n119 l118 => ?_
 have C120:=ch_val (i:=0) (p:=0) (ks:=[2]) (v:=vP H.next 0) (A:=H101) (H:=H116) C110 rfl rfl rfl rfl rfl rfl (opv_fieldAddrE rfl rfl rfl Try.underlying99 rfl sz79 (by decide) rfl)
 have C121:=ch_val (i:=1) (p:=0) (ks:=[5]) (v:=.agg #[vI ax1,vI ax2,vI ax3,vI ax4,vI ax5,as6,vI ax7,vI ax8,vI ax9]) (A:=H101) (H:=H116) C120 rfl rfl rfl rfl rfl rfl (opv_loadE rfl rfl rfl ag79 sz79 f102.blk rfl (.inl rfl) rfl)
 have C122:=ch_val (i:=7) (p:=0) (ks:=[1]) (v:=vI ax11) (A:=H101) (H:=H116) C121 rfl rfl rfl rfl rfl rfl (opv_move (.inl rfl) rfl rfl)
 refine w_draw (tl:=[8,9]) rfl [0,1,0,4,0,16,60,0,255,511] C122 (by kernel_rfl) (by kernel_rfl) ?_
 refine wonorm (g:=[(6,.agg #[vI ax1,vI ax2,vI ax3,vI ax4,vI ax5,as6,vI ax7,vI ax8,vI ax9]),(11,.agg #[vI ax1,vI ax2,vI ax7,vI ax8,vI rx0112,vI rx1113,vI rx2114,vI rx3115]),(12,vI ax11)]) (n:=14) (ds:=[]) (H:=H116) (lsub_cons rfl (lsub_cons rfl (lsub_cons rfl (lsub_nil _)))) rfl rfl rfl ?_
 refine sc_ (H:=H116) (vs:=[.agg #[vI ax1,vI ax2,vI ax3,vI ax4,vI ax5,as6,vI ax7,vI ax8,vI ax9],.agg #[vI ax1,vI ax2,vI ax7,vI ax8,vI rx0112,vI rx1113,vI rx2114,vI rx3115],vI ax11]) (fv:=.func (.func 43) #[] #[]) rfl rfl rfl rfl rfl rfl (.cons rfl rfl (by simp [undef]) (.cons rfl rfl (by simp [undef]) (.cons rfl rfl neI .nil))) rfl ?_
 refine WV.mono (wv_f0 Try.call43 (tide_within_ok ax1 ax2 ax3 ax4 ax5 as6 ax7 ax8 ax9 ax1 ax2 ax7 ax8 rx0112 rx1113 rx2114 rx3115 ax11 _ w111 (hvas6.mono (l104.trans l118)) (by omega) (by omega))) ?_
 rintro v125 H126 ⟨k127,w123,rb19124,rfl⟩
 refine kpL k127 fun n129 l128 => ?_
 refine mv (.bool rb19124) rfl rfl ?_
 refine wo_nil (tq_n (wk ⟨[(4,.bool rb19124)],14,[],H126⟩ rfl ?_))
 refine w_ret ?_
 refine ⟨.inr rfl,rfl,[.bool rb19124],.cons (resV_tmp rfl (by simp [undef])) .nil,((((KeepX.refl (fun _ => False) H).new_ f102).keep k117).keep k127).k (fun _ h => h.elim),w123,rb19124,rfl⟩

theorem tide_least_ok (fn1:Value) (H:SH) (wt:WT H) (hffn1:FnOK Try.prog fn1 [(false,[.int .i64])] [(false,[.bool])] (fun _ => True) H):WC Try.prog 47 [fn1] H (fun v H' => Keep H H'∧WT H'∧∃ (rx2:Int),v=(vI rx2)):=by
 refine wc_of_body Try.func47 rfl ?_
 refine wk ⟨[(0,fn1)],12,[],H⟩ rfl ?_
 refine w_seq (w_region (mv (vI 0) rfl rfl ?_))
 refine wo_nil (tq_n (wk ⟨[(0,fn1)],12,[],H⟩ rfl ?_))
 refine w_seq (w_seq (w_region (mv (vI 0) rfl rfl ?_)))
 refine wo_nil (tq_n (wk ⟨[(0,fn1),(4,vI 0)],12,[],H⟩ rfl ?_))
 refine w_block (w_loopS (fun m108 s109 => ∃ (x101:Int) (H102:SH),(0 ≤ x101)∧(x101 ≤ 41)∧WT H102∧Le H H102∧KeepX (fun _ => False) H H102∧m108=((41:Int) - x101).toNat∧s109=⟨[(0,fn1),(4,vI x101)],12,[],H102⟩) (n:=((41:Int) - 0).toNat) ⟨⟨[(0,fn1),(4,vI 0)],12,[],H⟩,subk rfl,0,H,by omega,by omega,wt,Le.refl _,KeepX.refl (fun _ => False) H,rfl,rfl⟩ ?_)
 rintro m108 s109 ⟨x101,H102,i103,i104,w105,l106,k107,rfl,rfl⟩
 have n110:=k107.next
 refine w_seq (w_region ?_)
 by_cases c111:x101 < 41
 ·
  refine sv (v:=.bool true) rfl rfl rfl (opv_bin rfl rfl rfl rfl rfl (cmpT rfl c111)) rfl ?_
  refine wo_nil (tq_n (wk ⟨[(0,fn1),(4,vI x101),(5,.bool true)],12,[],H102⟩ rfl ?_))
  refine w_seq (w_cond (t:=true) rfl rfl (fun _ => ?_) (fun h => by cases h))
  refine w_skip (tq_n (wk ⟨[(0,fn1),(4,vI x101)],12,[],H102⟩ rfl ?_))
  refine w_seq (w_block (w_seq (w_region (mv (vI x101) rfl rfl ?_))))
  refine mv (vI x101) rfl rfl ?_
  refine wo_nil (tq_n (wk ⟨[(0,fn1),(3,vI x101),(4,vI x101)],12,[],H102⟩ rfl ?_))
  refine w_seq (w_region (mv fn1 rfl rfl ?_))
  refine mv (vI x101) rfl rfl ?_
  refine sc_ (H:=H102) (vs:=[vI x101]) (fv:=fn1) rfl rfl rfl rfl rfl rfl (.cons rfl rfl neI .nil) rfl ?_
  refine WV.mono (hffn1.2 _ (((KeepX.refl (fun _ => False) H).trans k107 (fun _ h => h.elim)).k (fun _ h => h.elim)) w105 _ ⟨_,_,rfl,⟨[vI x101],⟨_,_,rfl,.int _ _,rfl⟩,rfl⟩,rfl⟩ trivial) ?_
  rintro v112 H113 ⟨k114,w115,vs116,hv117,rfl⟩
  have n119:=k114.next
  have l118:=k114.le
  obtain ⟨v123,r122,rfl,⟨us120,hu121,rfl⟩,hv117⟩:=hv117
  obtain rfl:r122=[]:=hv117
  replace hu121:VTs H113 [.bool] us120:=hu121
  obtain ⟨b126,r124,rfl,hs125⟩:=vts_bool hu121
  obtain rfl:=vts_nil hs125
  refine wo_nil (tq_n (wk ⟨[(0,fn1),(3,vI x101),(4,vI x101),(9,.bool b126)],12,[],H113⟩ rfl ?_))
  rcases b126 with _ | _
  ·
   refine w_cond (t:=false) rfl rfl (fun h => by cases h) (fun _ => ?_)
   refine w_skip ?_
   try refine q_eq (e':=.normal) rfl ?_
   refine tqk ⟨[(0,fn1),(4,vI x101)],12,[],H113⟩ rfl ?_
   refine w_region (sv_int rfl rfl rfl (opv_bin rfl rfl rfl rfl rfl rfl) ?_)
   intro x127 h128
   try replace h128:x127=x101 + 1:=wr_ex h128 (by omega) (by omega)
   refine mv (vI x127) rfl rfl ?_
   refine wo_nil ?_
   refine tq_n ⟨((41:Int) - x127).toNat,by omega,⟨[(0,fn1),(4,vI x127)],12,[],H113⟩,subk rfl,x127,H113,by omega,by omega,w115,l106.trans l118,((KeepX.refl (fun _ => False) H).trans k107 (fun _ h => h.elim)).keep k114,rfl,rfl⟩
  ·
   refine w_cond (t:=true) rfl rfl (fun _ => ?_) (fun h => by cases h)
   refine w_seq (w_region (mv (vI x101) rfl rfl ?_))
   refine mv (vI x101) rfl rfl ?_
   refine wo_nil (tq_n (wk ⟨[(2,vI x101)],12,[],H113⟩ rfl ?_))
   refine w_ret ?_
   try refine q_eq (e':=.ret) rfl ?_
   refine tq_r (tq_r ?_)
   try refine q_eq (e':=.ret) rfl ?_
   refine tq_r ?_
   refine ⟨.inr rfl,rfl,[vI x101],.cons (resV_tmp rfl neI) .nil,(((KeepX.refl (fun _ => False) H).trans k107 (fun _ h => h.elim)).keep k114).k (fun _ h => h.elim),w115,x101,rfl⟩
 ·
  refine sv (v:=.bool false) rfl rfl rfl (opv_bin rfl rfl rfl rfl rfl (cmpF rfl c111)) rfl ?_
  refine wo_nil (tq_n (wk ⟨[(0,fn1),(4,vI x101),(5,.bool false)],12,[],H102⟩ rfl ?_))
  refine w_seq (w_cond (t:=false) rfl rfl (fun h => by cases h) (fun _ => ?_))
  refine w_exit (tq_e (tq_e ?_))
  try refine q_eq (e':=.normal) rfl ?_
  refine tqk ⟨[],12,[],H102⟩ rfl ?_
  refine w_seq (w_region (mv (vI (-1)) rfl rfl ?_))
  refine wo_nil (tq_n (wk ⟨[(2,vI (-1))],12,[],H102⟩ rfl ?_))
  refine w_ret ?_
  refine ⟨.inr rfl,rfl,[vI (-1)],.cons (resV_tmp rfl neI) .nil,((KeepX.refl (fun _ => False) H).trans k107 (fun _ h => h.elim)).k (fun _ h => h.elim),w105,-1,rfl⟩

theorem tide_Least_ok (ax1 ax2:Int) (ax3 ax4 ax5:Int) (as6:Value) (ax7 ax8:Int) (ax9 ax10:Int) (H:SH) (wt:WT H) (hvas6:VT H (.sl false [.int .i64,.int .i64,.int .i64,.int .i64,.int .i64]) as6):WC Try.prog 20 [.agg #[vI ax1,vI ax2,vI ax3,vI ax4,vI ax5,as6],.agg #[vI ax7,vI ax8,vI ax9],vI ax10] H (fun v H' => Keep H H'∧WT H'∧∃ (rx11 rx12:Int),v=(.tuple #[vI rx11,vI rx12])):=by
 refine wc_of_body Try.func20 rfl ?_
 refine wk ⟨[(0,.agg #[vI ax1,vI ax2,vI ax3,vI ax4,vI ax5,as6]),(1,.agg #[vI ax7,vI ax8,vI ax9]),(2,vI ax10)],29,[],H⟩ rfl ?_
 refine w_seq (w_region (sv_new (H:=H) (v:=vP H.next 0) (x:=.row #[vI ax1,vI ax2,vI ax3,vI ax4,vI ax5,as6] .raw) rfl rfl rfl rfl (opv_boxE (v:=.agg #[vI ax1,vI ax2,vI ax3,vI ax4,vI ax5,as6]) rfl rfl rfl (by simp [undef]) rfl) ?_))
 intro H101 f102
 refine newL wt f102 fun n105 w103 l104 => ?_
 refine sv_new (H:=H101) (v:=vP H101.next 0) (x:=.row #[vI ax7,vI ax8,vI ax9] .raw) rfl rfl rfl rfl (opv_boxE (v:=.agg #[vI ax7,vI ax8,vI ax9]) rfl rfl rfl (by simp [undef]) rfl) ?_
 intro H106 f107
 refine newL w103 f107 fun n110 w108 l109 => ?_
 refine mv (vI 0) rfl rfl ?_
 refine mv (vI 0) rfl rfl ?_
 refine wo_nil (tq_n (wk ⟨[(2,vI ax10),(3,vP H.next 0),(4,vP H101.next 0)],29,[],H106⟩ rfl ?_))
 refine w_seq (w_region (sv (v:=.agg #[vI ax1,vI ax2,vI ax3,vI ax4,vI ax5,as6]) rfl rfl rfl (opv_loadE rfl rfl rfl ag26 sz26 ((f107.get H.next (by omega)).trans f102.blk) rfl (.inl rfl) rfl) rfl ?_))
 refine sv (v:=.agg #[vI ax7,vI ax8,vI ax9]) rfl rfl rfl (opv_loadE rfl rfl rfl ag28 sz28 f107.blk rfl (.inl rfl) rfl) rfl ?_
 refine mv (vI ax10) rfl rfl ?_
 refine sc_ (H:=H106) (vs:=[.agg #[vI ax1,vI ax2,vI ax3,vI ax4,vI ax5,as6],.agg #[vI ax7,vI ax8,vI ax9],vI ax10,vI 0]) (fv:=.func (.func 38) #[] #[]) rfl rfl rfl rfl rfl rfl (.cons rfl rfl (by simp [undef]) (.cons rfl rfl (by simp [undef]) (.cons rfl rfl neI (.cons rfl rfl neI .nil)))) rfl ?_
 refine WV.mono (wv_f0 Try.call38 (tide_open_ok ax1 ax2 ax3 ax4 ax5 as6 ax7 ax8 ax9 ax10 0 _ w108 (hvas6.mono (l104.trans l109)))) ?_
 rintro v115 H116 ⟨k117,w111,rx21112,rfl,f113,f114⟩
 refine kpL k117 fun n119 l118 => ?_
 have g120:rx21112=0→∀ k:Nat,k < slen as6→-1000000 ≤ elI H as6 (k * 5 + 1)∧elI H as6 (k * 5 + 2) ≤ 1000000∧-1000000 ≤ elI H as6 (k * 5 + 3)∧elI H as6 (k * 5 + 4) ≤ 1000000:=fun hc k hk => by have:=f114 hc k hk; simp only [elI_keep ((((KeepX.refl (fun _ => False) H).new_ f102).new_ f107).k (fun _ h => h.elim)) hvas6] at this; exact this
 refine mv (.tuple #[.agg #[vI ax1,vI ax2,vI ax3,vI ax4,vI ax5,as6,vI ax7,vI ax8,vI ax9],vI rx21112]) rfl rfl ?_
 refine sv (v:=.agg #[vI ax1,vI ax2,vI ax3,vI ax4,vI ax5,as6,vI ax7,vI ax8,vI ax9]) rfl rfl rfl (opv_extract rfl rfl rfl rfl) rfl ?_
 refine sv (v:=vI rx21112) rfl rfl rfl (opv_extract rfl rfl rfl rfl) rfl ?_
 refine sv_new (H:=H116) (v:=vP H116.next 0) (x:=.row #[vI 0,vI 0,vI 0,vI 0,vI 0,.slice none 0 0,vI 0,vI 0,vI 0] .raw) rfl rfl rfl rfl (opv_alloc rfl ze79 rfl) ?_
 intro H121 f122
 refine newL w111 f122 fun n125 w123 l124 => ?_
 refine sv_put (H:=H121) (n:=H116.next) (v:=undef) (x:=some (.row #[vI ax1,vI ax2,vI ax3,vI ax4,vI ax5,as6,vI ax7,vI ax8,vI ax9] .raw)) rfl rfl rfl rfl (opv_storeC (u:=.agg #[vI ax1,vI ax2,vI ax3,vI ax4,vI ax5,as6,vI ax7,vI ax8,vI ax9]) rfl rfl rfl rfl rfl (by simp [undef]) sz79 rfl rfl (leafs_of (l:=[vI ax1,vI ax2,vI ax3,vI ax4,vI ax5,as6,vI ax7,vI ax8,vI ax9]) ⟨rfl,rfl,rfl,rfl,rfl,vt_one (hvas6.mono (((l104.trans l109).trans l118).trans l124)),rfl,rfl,rfl,trivial⟩) f122.blk rfl rfl) ?_
 intro H126 f127
 refine putL w123 f127 f122.blk fun n130 w128 l129 => ?_
 refine mv (vI rx21112) rfl rfl ?_
 refine wo_nil (tq_n (wk ⟨[(2,vI ax10),(8,vP H116.next 0),(9,vI rx21112)],29,[],H126⟩ rfl ?_))
 refine w_seq (w_seq (w_region (mv (vI rx21112) rfl rfl ?_)))
 by_cases c131:rx21112=0
 ·
  refine sv (v:=.bool false) rfl rfl rfl (opv_bin rfl rfl rfl rfl rfl (neF c131)) rfl ?_
  refine wo_nil (tq_n (wk ⟨[(2,vI ax10),(8,vP H116.next 0),(9,vI rx21112),(19,.bool false)],29,[],H126⟩ rfl ?_))
  refine w_cond (t:=false) rfl rfl (fun h => by cases h) (fun _ => ?_)
  refine w_skip (tq_n (wk ⟨[(2,vI ax10),(8,vP H116.next 0)],29,[],H126⟩ rfl ?_))
  refine w_seq (w_region (sv (v:=.agg #[vI ax1,vI ax2,vI ax3,vI ax4,vI ax5,as6,vI ax7,vI ax8,vI ax9]) rfl rfl rfl (opv_loadE rfl rfl rfl ag79 sz79 f127.blk rfl (.inl rfl) rfl) rfl ?_))
  refine mv (vI ax10) rfl rfl ?_
  refine sv (v:=.agg #[vI ax1,vI ax2,vI ax3,vI ax4,vI ax5,as6,vI ax7,vI ax8,vI ax9,vI ax10]) rfl rfl rfl (opv_buildStE (vs:=[(0,.agg #[vI ax1,vI ax2,vI ax3,vI ax4,vI ax5,as6,vI ax7,vI ax8,vI ax9]),(1,vI ax10)]) rfl (.cons rfl rfl (by simp [undef]) (.cons rfl rfl neI .nil)) ze99 rfl tin99 Try.underlying99 pl99 rfl rfl) rfl ?_
  refine sv (v:=.func (.func 48) #[.agg #[vI ax1,vI ax2,vI ax3,vI ax4,vI ax5,as6,vI ax7,vI ax8,vI ax9,vI ax10]] #[]) rfl rfl rfl (opv_makeFunc (vs:=[.agg #[vI ax1,vI ax2,vI ax3,vI ax4,vI ax5,as6,vI ax7,vI ax8,vI ax9,vI ax10]]) (us:=[]) rfl (.func _) (.cons rfl rfl (by simp [undef]) .nil) .nil) rfl ?_
  refine sc_ (H:=H126) (vs:=[.func (.func 48) #[.agg #[vI ax1,vI ax2,vI ax3,vI ax4,vI ax5,as6,vI ax7,vI ax8,vI ax9,vI ax10]] #[]]) (fv:=.func (.func 47) #[] #[]) rfl rfl rfl rfl rfl rfl (.cons rfl rfl (by simp [undef]) .nil) rfl ?_
  have ok154:FnOK Try.prog (.func (.func 48) #[.agg #[vI ax1,vI ax2,vI ax3,vI ax4,vI ax5,as6,vI ax7,vI ax8,vI ax9,vI ax10]] #[]) [(false,[.int .i64])] [(false,[.bool])] (fun _ => True) H126:=by
    refine ⟨⟨by simp [undef],rfl,rfl⟩,?_⟩
    intro H132 k133 w134 as135 ha136 hp137
    have n139:=k133.next
    have l138:=k133.le
    obtain ⟨v140,r141,rfl,⟨us142,hu143,rfl⟩,ha136⟩:=ha136
    replace hu143:VTs H132 [.int .i64] us142:=hu143
    obtain ⟨x146,r144,rfl,hs145⟩:=vts_int hu143
    obtain rfl:=vts_nil hs145
    obtain rfl:r141=[]:=ha136
    refine WV.mono (wv_ff (first:=[.agg #[vI ax1,vI ax2,vI ax3,vI ax4,vI ax5,as6,vI ax7,vI ax8,vI ax9,vI ax10]]) Try.call48 (tide_does_ok ax1 ax2 ax3 ax4 ax5 as6 ax7 ax8 ax9 ax10 x146 _ w134 (hvas6.mono (((((l104.trans l109).trans l118).trans l124).trans l129).trans l138)) (by omega) (by omega) (by omega) (by omega))) ?_
    rintro v149 H150 ⟨k151,w147,rb12148,rfl⟩
    refine kpL k151 fun n153 l152 => ?_
    exact ⟨k151,w147,[.bool rb12148],⟨_,_,rfl,⟨[.bool rb12148],⟨_,_,rfl,.bool _,rfl⟩,rfl⟩,rfl⟩,rfl⟩
  refine WV.mono (wv_f0 Try.call47 (tide_least_ok (.func (.func 48) #[.agg #[vI ax1,vI ax2,vI ax3,vI ax4,vI ax5,as6,vI ax7,vI ax8,vI ax9,vI ax10]] #[]) _ w128 ok154)) ?_
  rintro v157 H158 ⟨k159,w155,rx2156,rfl⟩
  refine kpL k159 fun n161 l160 => ?_
  refine mv (vI rx2156) rfl rfl ?_
  refine wo_nil (tq_n (wk ⟨[(10,vI rx2156)],29,[],H158⟩ rfl ?_))
  refine w_seq (w_seq (w_region (mv (vI rx2156) rfl rfl ?_)))
  by_cases c162:rx2156 < 0
  ·
   refine sv (v:=.bool true) rfl rfl rfl (opv_bin rfl rfl rfl rfl rfl (cmpT rfl c162)) rfl ?_
   refine wo_nil (tq_n (wk ⟨[(10,vI rx2156),(27,.bool true)],29,[],H158⟩ rfl ?_))
   refine w_cond (t:=true) rfl rfl (fun _ => ?_) (fun h => by cases h)
   refine w_seq (w_region (mv (vI 0) rfl rfl ?_))
   refine mv (vI 9) rfl rfl ?_
   refine wo_nil (tq_n (wk ⟨[(6,vI 0),(7,vI 9)],29,[],H158⟩ rfl ?_))
   refine w_ret (tq_r ?_)
   refine ⟨.inr rfl,rfl,[vI 0,vI 9],.cons (resV_tmp rfl neI) (.cons (resV_tmp rfl neI) .nil),((((((((KeepX.refl (fun _ => False) H).new_ f102).new_ f107).keep k117).new_ f122).put f127 (by first | (right; omega) | (left; (try dsimp only) <;> omega))).keep k159).k (fun _ h => h.elim)),w155,0,9,rfl⟩
  ·
   refine sv (v:=.bool false) rfl rfl rfl (opv_bin rfl rfl rfl rfl rfl (cmpF rfl c162)) rfl ?_
   refine wo_nil (tq_n (wk ⟨[(10,vI rx2156),(27,.bool false)],29,[],H158⟩ rfl ?_))
   refine w_cond (t:=false) rfl rfl (fun h => by cases h) (fun _ => ?_)
   refine w_skip (tq_n (wk ⟨[(10,vI rx2156)],29,[],H158⟩ rfl ?_))
   refine w_seq (w_region (mv (vI rx2156) rfl rfl ?_))
   refine mv (vI rx2156) rfl rfl ?_
   refine mv (vI 0) rfl rfl ?_
   refine wo_nil (tq_n (wk ⟨[(6,vI rx2156),(7,vI 0)],29,[],H158⟩ rfl ?_))
   refine w_ret ?_
   refine ⟨.inr rfl,rfl,[vI rx2156,vI 0],.cons (resV_tmp rfl neI) (.cons (resV_tmp rfl neI) .nil),((((((((KeepX.refl (fun _ => False) H).new_ f102).new_ f107).keep k117).new_ f122).put f127 (by first | (right; omega) | (left; (try dsimp only) <;> omega))).keep k159).k (fun _ h => h.elim)),w155,rx2156,0,rfl⟩
 ·
  refine sv (v:=.bool true) rfl rfl rfl (opv_bin rfl rfl rfl rfl rfl (neT c131)) rfl ?_
  refine wo_nil (tq_n (wk ⟨[(2,vI ax10),(8,vP H116.next 0),(9,vI rx21112),(19,.bool true)],29,[],H126⟩ rfl ?_))
  refine w_cond (t:=true) rfl rfl (fun _ => ?_) (fun h => by cases h)
  refine w_seq (w_region (mv (vI rx21112) rfl rfl ?_))
  refine mv (vI 0) rfl rfl ?_
  refine mv (vI rx21112) rfl rfl ?_
  refine wo_nil (tq_n (wk ⟨[(6,vI 0),(7,vI rx21112)],29,[],H126⟩ rfl ?_))
  refine w_ret (tq_r ?_)
  refine ⟨.inr rfl,rfl,[vI 0,vI rx21112],.cons (resV_tmp rfl neI) (.cons (resV_tmp rfl neI) .nil),(((((((KeepX.refl (fun _ => False) H).new_ f102).new_ f107).keep k117).new_ f122).put f127 (by first | (right; omega) | (left; (try dsimp only) <;> omega))).k (fun _ h => h.elim)),w128,0,rx21112,rfl⟩

theorem tide_First_ok (ax1 ax2:Int) (ax3 ax4 ax5:Int) (as6:Value) (ax7 ax8:Int) (ax9 ax10:Int) (H:SH) (wt:WT H) (hvas6:VT H (.sl false [.int .i64,.int .i64,.int .i64,.int .i64,.int .i64]) as6):WC Try.prog 22 [.agg #[vI ax1,vI ax2,vI ax3,vI ax4,vI ax5,as6],.agg #[vI ax7,vI ax8,vI ax9],vI ax10] H (fun v H' => Keep H H'∧WT H'∧∃ (rx11 rx12 rx13:Int),v=(.tuple #[vI rx11,vI rx12,vI rx13])):=by
 refine wc_of_body Try.func22 rfl ?_
 refine wk ⟨[(0,.agg #[vI ax1,vI ax2,vI ax3,vI ax4,vI ax5,as6]),(1,.agg #[vI ax7,vI ax8,vI ax9]),(2,vI ax10)],53,[],H⟩ rfl ?_
 refine w_seq (w_region (sv_new (H:=H) (v:=vP H.next 0) (x:=.row #[vI ax1,vI ax2,vI ax3,vI ax4,vI ax5,as6] .raw) rfl rfl rfl rfl (opv_boxE (v:=.agg #[vI ax1,vI ax2,vI ax3,vI ax4,vI ax5,as6]) rfl rfl rfl (by simp [undef]) rfl) ?_))
 intro H101 f102
 refine newL wt f102 fun n105 w103 l104 => ?_
 refine sv_new (H:=H101) (v:=vP H101.next 0) (x:=.row #[vI ax7,vI ax8,vI ax9] .raw) rfl rfl rfl rfl (opv_boxE (v:=.agg #[vI ax7,vI ax8,vI ax9]) rfl rfl rfl (by simp [undef]) rfl) ?_
 intro H106 f107
 refine newL w103 f107 fun n110 w108 l109 => ?_
 refine mv (vI 0) rfl rfl ?_
 refine mv (vI 0) rfl rfl ?_
 refine mv (vI 0) rfl rfl ?_
 refine wo_nil (tq_n (wk ⟨[(2,vI ax10),(3,vP H.next 0),(4,vP H101.next 0)],53,[],H106⟩ rfl ?_))
 refine w_seq (w_region (sv (v:=.agg #[vI ax1,vI ax2,vI ax3,vI ax4,vI ax5,as6]) rfl rfl rfl (opv_loadE rfl rfl rfl ag26 sz26 ((f107.get H.next (by omega)).trans f102.blk) rfl (.inl rfl) rfl) rfl ?_))
 refine sv (v:=.agg #[vI ax7,vI ax8,vI ax9]) rfl rfl rfl (opv_loadE rfl rfl rfl ag28 sz28 f107.blk rfl (.inl rfl) rfl) rfl ?_
 refine sc_ (H:=H106) (vs:=[.agg #[vI ax1,vI ax2,vI ax3,vI ax4,vI ax5,as6],.agg #[vI ax7,vI ax8,vI ax9],vI 0,vI 0]) (fv:=.func (.func 38) #[] #[]) rfl rfl rfl rfl rfl rfl (.cons rfl rfl (by simp [undef]) (.cons rfl rfl (by simp [undef]) (.cons rfl rfl neI (.cons rfl rfl neI .nil)))) rfl ?_
 refine WV.mono (wv_f0 Try.call38 (tide_open_ok ax1 ax2 ax3 ax4 ax5 as6 ax7 ax8 ax9 0 0 _ w108 (hvas6.mono (l104.trans l109)))) ?_
 rintro v115 H116 ⟨k117,w111,rx21112,rfl,f113,f114⟩
 refine kpL k117 fun n119 l118 => ?_
 have g120:rx21112=0→∀ k:Nat,k < slen as6→-1000000 ≤ elI H as6 (k * 5 + 1)∧elI H as6 (k * 5 + 2) ≤ 1000000∧-1000000 ≤ elI H as6 (k * 5 + 3)∧elI H as6 (k * 5 + 4) ≤ 1000000:=fun hc k hk => by have:=f114 hc k hk; simp only [elI_keep ((((KeepX.refl (fun _ => False) H).new_ f102).new_ f107).k (fun _ h => h.elim)) hvas6] at this; exact this
 refine mv (.tuple #[.agg #[vI ax1,vI ax2,vI ax3,vI ax4,vI ax5,as6,vI ax7,vI ax8,vI ax9],vI rx21112]) rfl rfl ?_
 refine sv (v:=.agg #[vI ax1,vI ax2,vI ax3,vI ax4,vI ax5,as6,vI ax7,vI ax8,vI ax9]) rfl rfl rfl (opv_extract rfl rfl rfl rfl) rfl ?_
 refine sv (v:=vI rx21112) rfl rfl rfl (opv_extract rfl rfl rfl rfl) rfl ?_
 refine sv_new (H:=H116) (v:=vP H116.next 0) (x:=.row #[vI 0,vI 0,vI 0,vI 0,vI 0,.slice none 0 0,vI 0,vI 0,vI 0] .raw) rfl rfl rfl rfl (opv_alloc rfl ze79 rfl) ?_
 intro H121 f122
 refine newL w111 f122 fun n125 w123 l124 => ?_
 refine sv_put (H:=H121) (n:=H116.next) (v:=undef) (x:=some (.row #[vI ax1,vI ax2,vI ax3,vI ax4,vI ax5,as6,vI ax7,vI ax8,vI ax9] .raw)) rfl rfl rfl rfl (opv_storeC (u:=.agg #[vI ax1,vI ax2,vI ax3,vI ax4,vI ax5,as6,vI ax7,vI ax8,vI ax9]) rfl rfl rfl rfl rfl (by simp [undef]) sz79 rfl rfl (leafs_of (l:=[vI ax1,vI ax2,vI ax3,vI ax4,vI ax5,as6,vI ax7,vI ax8,vI ax9]) ⟨rfl,rfl,rfl,rfl,rfl,vt_one (hvas6.mono (((l104.trans l109).trans l118).trans l124)),rfl,rfl,rfl,trivial⟩) f122.blk rfl rfl) ?_
 intro H126 f127
 refine putL w123 f127 f122.blk fun n130 w128 l129 => ?_
 refine mv (vI rx21112) rfl rfl ?_
 refine wo_nil (tq_n (wk ⟨[(2,vI ax10),(8,vI rx21112),(9,vP H116.next 0)],53,[],H126⟩ rfl ?_))
 refine w_seq (w_block (w_seq (w_region (mv (vI rx21112) rfl rfl ?_))))
 by_cases c131:rx21112=0
 ·
  refine sv (v:=.bool false) rfl rfl rfl (opv_bin rfl rfl rfl rfl rfl (neF c131)) rfl ?_
  refine mv (.bool false) rfl rfl ?_
  refine wo_nil (tq_n (wk ⟨[(2,vI ax10),(8,vI rx21112),(9,vP H116.next 0),(19,.bool false)],53,[],H126⟩ rfl ?_))
  refine w_cond (t:=false) rfl rfl (fun h => by cases h) (fun _ => ?_)
  refine w_seq (w_region (mv (vI ax10) rfl rfl ?_))
  by_cases c132:ax10 < 0
  ·
   refine sv (v:=.bool true) rfl rfl rfl (opv_bin rfl rfl rfl rfl rfl (cmpT rfl c132)) rfl ?_
   refine mv (.bool true) rfl rfl ?_
   refine ss rfl (wants_g rfl rfl rfl rfl rfl) rfl rfl ?_
   refine ss rfl (wants_g rfl rfl rfl rfl rfl) rfl rfl ?_
   refine sv (v:=.bool true) rfl rfl rfl (opv_pick (b:=true) rfl rfl rfl rfl rfl rfl) rfl ?_
   refine mv (.bool true) rfl rfl ?_
   refine wo_nil (tq_n (wk ⟨[(2,vI ax10),(9,vP H116.next 0),(23,.bool true)],53,[],H126⟩ rfl ?_))
   refine w_cond (t:=true) rfl rfl (fun _ => ?_) (fun h => by cases h)
   refine w_seq (w_region (mv (vI 0) rfl rfl ?_))
   refine mv (vI 0) rfl rfl ?_
   refine mv (vI 7) rfl rfl ?_
   refine wo_nil (tq_n (wk ⟨[(6,vI 0),(7,vI 0),(8,vI 7)],53,[],H126⟩ rfl ?_))
   refine w_ret ?_
   try refine q_eq (e':=.ret) rfl ?_
   refine tq_r ?_
   refine ⟨.inr rfl,rfl,[vI 0,vI 0,vI 7],.cons (resV_tmp rfl neI) (.cons (resV_tmp rfl neI) (.cons (resV_tmp rfl neI) .nil)),(((((((KeepX.refl (fun _ => False) H).new_ f102).new_ f107).keep k117).new_ f122).put f127 (by first | (right; omega) | (left; (try dsimp only) <;> omega))).k (fun _ h => h.elim)),w128,0,0,7,rfl⟩
  ·
   refine sv (v:=.bool false) rfl rfl rfl (opv_bin rfl rfl rfl rfl rfl (cmpF rfl c132)) rfl ?_
   refine mv (.bool false) rfl rfl ?_
   refine sv (v:=vI ax10) rfl (wants_g rfl rfl rfl rfl rfl) rfl (opv_move (.inl rfl) rfl rfl) rfl ?_
   by_cases c133:ax10 > 40000
   ·
    refine sv (v:=.bool true) rfl (wants_g rfl rfl rfl rfl rfl) rfl (opv_bin rfl rfl rfl rfl rfl (cmpT rfl c133)) rfl ?_
    refine sv (v:=.bool true) rfl rfl rfl (opv_pick (b:=false) rfl rfl rfl rfl rfl rfl) rfl ?_
    refine mv (.bool true) rfl rfl ?_
    refine wo_nil (tq_n (wk ⟨[(2,vI ax10),(9,vP H116.next 0),(23,.bool true)],53,[],H126⟩ rfl ?_))
    refine w_cond (t:=true) rfl rfl (fun _ => ?_) (fun h => by cases h)
    refine w_seq (w_region (mv (vI 0) rfl rfl ?_))
    refine mv (vI 0) rfl rfl ?_
    refine mv (vI 7) rfl rfl ?_
    refine wo_nil (tq_n (wk ⟨[(6,vI 0),(7,vI 0),(8,vI 7)],53,[],H126⟩ rfl ?_))
    refine w_ret ?_
    try refine q_eq (e':=.ret) rfl ?_
    refine tq_r ?_
    refine ⟨.inr rfl,rfl,[vI 0,vI 0,vI 7],.cons (resV_tmp rfl neI) (.cons (resV_tmp rfl neI) (.cons (resV_tmp rfl neI) .nil)),(((((((KeepX.refl (fun _ => False) H).new_ f102).new_ f107).keep k117).new_ f122).put f127 (by first | (right; omega) | (left; (try dsimp only) <;> omega))).k (fun _ h => h.elim)),w128,0,0,7,rfl⟩
   ·
    refine sv (v:=.bool false) rfl (wants_g rfl rfl rfl rfl rfl) rfl (opv_bin rfl rfl rfl rfl rfl (cmpF rfl c133)) rfl ?_
    refine sv (v:=.bool false) rfl rfl rfl (opv_pick (b:=false) rfl rfl rfl rfl rfl rfl) rfl ?_
    refine mv (.bool false) rfl rfl ?_
    refine wo_nil (tq_n (wk ⟨[(2,vI ax10),(9,vP H116.next 0),(23,.bool false)],53,[],H126⟩ rfl ?_))
    refine w_cond (t:=false) rfl rfl (fun h => by cases h) (fun _ => ?_)
    refine w_skip ?_
    try refine q_eq (e':=.normal) rfl ?_
    refine tqk ⟨[(2,vI ax10),(9,vP H116.next 0)],53,[],H126⟩ rfl ?_
    refine w_seq (w_seq (w_region (sv (v:=vP H116.next 0) rfl rfl rfl (opv_fieldAddrE rfl rfl rfl Try.underlying79 rfl sz26 (by decide) rfl) rfl ?_)))
    refine sv (v:=vP H116.next 5) rfl rfl rfl (opv_fieldAddrE rfl rfl rfl Try.underlying26 rfl sz24 (by decide) rfl) rfl ?_
    refine sv (v:=as6) rfl rfl rfl (opv_loadE rfl rfl rfl ag24 sz24 f127.blk rfl (.inr rfl) rfl) rfl ?_
    have c134:slen as6 ≤ 1073741824:=vt_lim (hvas6.mono ((((l104.trans l109).trans l118).trans l124).trans l129))
    refine sv (v:=(vI (slen as6:Int))) rfl rfl rfl (t_len (hvas6.mono ((((l104.trans l109).trans l118).trans l124).trans l129)) rfl rfl rfl Try.underlying24) rfl ?_
    refine mv (vI 0) rfl rfl ?_
    refine wo_nil (tq_n (wk ⟨[(2,vI ax10),(9,vP H116.next 0),(32,as6),(33,(vI (slen as6:Int))),(34,vI 0)],53,[],H126⟩ rfl ?_))
    refine w_block (w_loopS (fun m142 s143 => ∃ (x135:Int) (H136:SH),(0 ≤ x135)∧(x135 ≤ (slen as6:Int))∧WT H136∧Le H126 H136∧KeepX (fun _ => False) H126 H136∧m142=(((slen as6:Int):Int) - x135).toNat∧s143=⟨[(2,vI ax10),(9,vP H116.next 0),(32,as6),(33,(vI (slen as6:Int))),(34,vI x135)],53,[],H136⟩) (n:=(((slen as6:Int):Int) - 0).toNat) ⟨⟨[(2,vI ax10),(9,vP H116.next 0),(32,as6),(33,(vI (slen as6:Int))),(34,vI 0)],53,[],H126⟩,subk rfl,0,H126,by omega,by omega,w128,Le.refl _,KeepX.refl (fun _ => False) H126,rfl,rfl⟩ ?_)
    rintro m142 s143 ⟨x135,H136,i137,i138,w139,l140,k141,rfl,rfl⟩
    have n144:=k141.next
    refine w_seq (w_region ?_)
    by_cases c145:x135 < (slen as6:Int)
    ·
     refine sv (v:=.bool true) rfl rfl rfl (opv_bin rfl rfl rfl rfl rfl (cmpT rfl c145)) rfl ?_
     refine wo_nil (tq_n (wk ⟨[(2,vI ax10),(9,vP H116.next 0),(32,as6),(33,(vI (slen as6:Int))),(34,vI x135),(35,.bool true)],53,[],H136⟩ rfl ?_))
     refine w_seq (w_cond (t:=true) rfl rfl (fun _ => ?_) (fun h => by cases h))
     refine w_skip (tq_n (wk ⟨[(2,vI ax10),(9,vP H116.next 0),(32,as6),(33,(vI (slen as6:Int))),(34,vI x135)],53,[],H136⟩ rfl ?_))
     refine w_seq (w_block (w_seq (w_region (mv (vI x135) rfl rfl ?_))))
     refine sv (v:=.pointer (some ⟨snm as6,sof as6 + (x135).toNat * 5,none⟩)) rfl rfl rfl (t_index (z:=5) (hvas6.mono (((((l104.trans l109).trans l118).trans l124).trans l129).trans l140)) rfl rfl rfl rfl rfl Try.underlying24 sz77 (by omega) (by omega)) rfl ?_
     obtain ⟨vs146,hs147,ho148,he149⟩:=t_loadE (P:=Try.prog) w139 (hvas6.mono (((((l104.trans l109).trans l118).trans l124).trans l129).trans l140)) (i:=(x135).toNat) (off:=0) (w:=5) (by omega) (by decide)
     replace hs147:VTs H136 [.int .i64,.int .i64,.int .i64,.int .i64,.int .i64] vs146:=hs147
     obtain ⟨x152,r150,rfl,hs151⟩:=vts_int hs147
     obtain ⟨x155,r153,rfl,hs154⟩:=vts_int hs151
     obtain ⟨x158,r156,rfl,hs157⟩:=vts_int hs154
     obtain ⟨x161,r159,rfl,hs160⟩:=vts_int hs157
     obtain ⟨x164,r162,rfl,hs163⟩:=vts_int hs160
     obtain rfl:=vts_nil hs163
     have q165:elI H as6 ((x135).toNat * 5 + 0) = x152:=elI_of ((((((((KeepX.refl (fun _ => False) H).new_ f102).new_ f107).keep k117).new_ f122).put f127 (by first | (right; omega) | (left; (try dsimp only) <;> omega))).trans k141 (fun _ h => h.elim)).k (fun _ h => h.elim)) hvas6 (he149 0 (by decide))
     have q166:elI H as6 ((x135).toNat * 5 + 1) = x155:=elI_of ((((((((KeepX.refl (fun _ => False) H).new_ f102).new_ f107).keep k117).new_ f122).put f127 (by first | (right; omega) | (left; (try dsimp only) <;> omega))).trans k141 (fun _ h => h.elim)).k (fun _ h => h.elim)) hvas6 (he149 1 (by decide))
     have q167:elI H as6 ((x135).toNat * 5 + 2) = x158:=elI_of ((((((((KeepX.refl (fun _ => False) H).new_ f102).new_ f107).keep k117).new_ f122).put f127 (by first | (right; omega) | (left; (try dsimp only) <;> omega))).trans k141 (fun _ h => h.elim)).k (fun _ h => h.elim)) hvas6 (he149 2 (by decide))
     have q168:elI H as6 ((x135).toNat * 5 + 3) = x161:=elI_of ((((((((KeepX.refl (fun _ => False) H).new_ f102).new_ f107).keep k117).new_ f122).put f127 (by first | (right; omega) | (left; (try dsimp only) <;> omega))).trans k141 (fun _ h => h.elim)).k (fun _ h => h.elim)) hvas6 (he149 3 (by decide))
     have q169:elI H as6 ((x135).toNat * 5 + 4) = x164:=elI_of ((((((((KeepX.refl (fun _ => False) H).new_ f102).new_ f107).keep k117).new_ f122).put f127 (by first | (right; omega) | (left; (try dsimp only) <;> omega))).trans k141 (fun _ h => h.elim)).k (fun _ h => h.elim)) hvas6 (he149 4 (by decide))
     have f170:=fun hc:rx21112=0 => g120 hc (x135).toNat (by omega)
     simp only [q166,q167,q168,q169] at f170
     refine sv (v:=.agg #[vI x152,vI x155,vI x158,vI x161,vI x164]) rfl rfl rfl (ho148 _ _ _ _ true rfl rfl rfl rfl ag77 sz77 (.inl rfl)) rfl ?_
     refine sv_new (H:=H136) (v:=vP H136.next 0) (x:=.row #[vI 0,vI 0,vI 0,vI 0,vI 0] .raw) rfl rfl rfl rfl (opv_alloc rfl ze77 rfl) ?_
     intro H171 f172
     refine newL w139 f172 fun n175 w173 l174 => ?_
     refine mv (vI x135) rfl rfl ?_
     refine sv_put (H:=H171) (n:=H136.next) (v:=undef) (x:=some (.row #[vI x152,vI x155,vI x158,vI x161,vI x164] .raw)) rfl rfl rfl rfl (opv_storeC (u:=.agg #[vI x152,vI x155,vI x158,vI x161,vI x164]) rfl rfl rfl rfl rfl (by simp [undef]) sz77 rfl rfl rfl f172.blk rfl rfl) ?_
     intro H176 f177
     refine putL w173 f177 f172.blk fun n180 w178 l179 => ?_
     refine wo_nil (tq_n (wk ⟨[(2,vI ax10),(9,vP H116.next 0),(10,vI x135),(11,vP H136.next 0),(32,as6),(33,(vI (slen as6:Int))),(34,vI x135)],53,[],H176⟩ rfl ?_))
     refine w_seq (w_seq (w_region (sv (v:=vP H136.next 0) rfl rfl rfl (opv_fieldAddrE rfl rfl rfl Try.underlying77 rfl sz3 (by decide) rfl) rfl ?_)))
     refine sv (v:=vI x152) rfl rfl rfl (opv_loadE rfl rfl rfl ag3 sz3 f177.blk rfl (.inr rfl) rfl) rfl ?_
     refine mv (vI ax10) rfl rfl ?_
     by_cases c181:x152 < ax10
     ·
      refine sv (v:=.bool true) rfl rfl rfl (opv_bin rfl rfl rfl rfl rfl (cmpT rfl c181)) rfl ?_
      refine wo_nil (tq_n (wk ⟨[(2,vI ax10),(9,vP H116.next 0),(10,vI x135),(32,as6),(33,(vI (slen as6:Int))),(34,vI x135),(42,.bool true)],53,[],H176⟩ rfl ?_))
      refine w_cond (t:=true) rfl rfl (fun _ => ?_) (fun h => by cases h)
      refine w_exit (tq_e ?_)
      try refine q_eq (e':=.normal) rfl ?_
      refine tqk ⟨[(2,vI ax10),(9,vP H116.next 0),(32,as6),(33,(vI (slen as6:Int))),(34,vI x135)],53,[],H176⟩ rfl ?_
      refine w_region (sv_int rfl rfl rfl (opv_bin rfl rfl rfl rfl rfl rfl) ?_)
      intro x182 h183
      try replace h183:x182=x135 + 1:=wr_ex h183 (by omega) (by omega)
      refine mv (vI x182) rfl rfl ?_
      refine wo_nil ?_
      refine tq_n ⟨(((slen as6:Int):Int) - x182).toNat,by omega,⟨[(2,vI ax10),(9,vP H116.next 0),(32,as6),(33,(vI (slen as6:Int))),(34,vI x182)],53,[],H176⟩,subk rfl,x182,H176,by omega,by omega,w178,(l140.trans l174).trans l179,((((KeepX.refl (fun _ => False) H126).trans k141 (fun _ h => h.elim)).new_ f172).put f177 (by first | (right; omega) | (left; (try dsimp only) <;> omega))),rfl,rfl⟩
     ·
      refine sv (v:=.bool false) rfl rfl rfl (opv_bin rfl rfl rfl rfl rfl (cmpF rfl c181)) rfl ?_
      refine wo_nil (tq_n (wk ⟨[(2,vI ax10),(9,vP H116.next 0),(10,vI x135),(32,as6),(33,(vI (slen as6:Int))),(34,vI x135),(42,.bool false)],53,[],H176⟩ rfl ?_))
      refine w_cond (t:=false) rfl rfl (fun h => by cases h) (fun _ => ?_)
      refine w_skip (tq_n (wk ⟨[(2,vI ax10),(9,vP H116.next 0),(10,vI x135),(32,as6),(33,(vI (slen as6:Int))),(34,vI x135)],53,[],H176⟩ rfl ?_))
      refine w_seq (w_region (sv (v:=.agg #[vI ax1,vI ax2,vI ax3,vI ax4,vI ax5,as6,vI ax7,vI ax8,vI ax9]) rfl rfl rfl (opv_loadE rfl rfl rfl ag79 sz79 ((f177.get H116.next (by omega)).trans ((f172.get H116.next (by omega)).trans ((k141.get H116.next (by omega) id).trans f127.blk))) rfl (.inl rfl) rfl) rfl ?_))
      refine mv (vI x135) rfl rfl ?_
      refine sv (v:=.agg #[vI ax1,vI ax2,vI ax3,vI ax4,vI ax5,as6,vI ax7,vI ax8,vI ax9,vI x135]) rfl rfl rfl (opv_buildStE (vs:=[(0,.agg #[vI ax1,vI ax2,vI ax3,vI ax4,vI ax5,as6,vI ax7,vI ax8,vI ax9]),(1,vI x135)]) rfl (.cons rfl rfl (by simp [undef]) (.cons rfl rfl neI .nil)) ze99 rfl tin99 Try.underlying99 pl99 rfl rfl) rfl ?_
      refine sv (v:=.func (.func 48) #[.agg #[vI ax1,vI ax2,vI ax3,vI ax4,vI ax5,as6,vI ax7,vI ax8,vI ax9,vI x135]] #[]) rfl rfl rfl (opv_makeFunc (vs:=[.agg #[vI ax1,vI ax2,vI ax3,vI ax4,vI ax5,as6,vI ax7,vI ax8,vI ax9,vI x135]]) (us:=[]) rfl (.func _) (.cons rfl rfl (by simp [undef]) .nil) .nil) rfl ?_
      refine sc_ (H:=H176) (vs:=[.func (.func 48) #[.agg #[vI ax1,vI ax2,vI ax3,vI ax4,vI ax5,as6,vI ax7,vI ax8,vI ax9,vI x135]] #[]]) (fv:=.func (.func 47) #[] #[]) rfl rfl rfl rfl rfl rfl (.cons rfl rfl (by simp [undef]) .nil) rfl ?_
      have ok206:FnOK Try.prog (.func (.func 48) #[.agg #[vI ax1,vI ax2,vI ax3,vI ax4,vI ax5,as6,vI ax7,vI ax8,vI ax9,vI x135]] #[]) [(false,[.int .i64])] [(false,[.bool])] (fun _ => True) H176:=by
        refine ⟨⟨by simp [undef],rfl,rfl⟩,?_⟩
        intro H184 k185 w186 as187 ha188 hp189
        have n191:=k185.next
        have l190:=k185.le
        obtain ⟨v192,r193,rfl,⟨us194,hu195,rfl⟩,ha188⟩:=ha188
        replace hu195:VTs H184 [.int .i64] us194:=hu195
        obtain ⟨x198,r196,rfl,hs197⟩:=vts_int hu195
        obtain rfl:=vts_nil hs197
        obtain rfl:r193=[]:=ha188
        refine WV.mono (wv_ff (first:=[.agg #[vI ax1,vI ax2,vI ax3,vI ax4,vI ax5,as6,vI ax7,vI ax8,vI ax9,vI x135]]) Try.call48 (tide_does_ok ax1 ax2 ax3 ax4 ax5 as6 ax7 ax8 ax9 x135 x198 _ w186 (hvas6.mono ((((((((l104.trans l109).trans l118).trans l124).trans l129).trans l140).trans l174).trans l179).trans l190)) (by omega) (by omega) (by omega) (by omega))) ?_
        rintro v201 H202 ⟨k203,w199,rb12200,rfl⟩
        refine kpL k203 fun n205 l204 => ?_
        exact ⟨k203,w199,[.bool rb12200],⟨_,_,rfl,⟨[.bool rb12200],⟨_,_,rfl,.bool _,rfl⟩,rfl⟩,rfl⟩,rfl⟩
      refine WV.mono (wv_f0 Try.call47 (tide_least_ok (.func (.func 48) #[.agg #[vI ax1,vI ax2,vI ax3,vI ax4,vI ax5,as6,vI ax7,vI ax8,vI ax9,vI x135]] #[]) _ w178 ok206)) ?_
      rintro v209 H210 ⟨k211,w207,rx2208,rfl⟩
      refine kpL k211 fun n213 l212 => ?_
      refine mv (vI rx2208) rfl rfl ?_
      refine wo_nil (tq_n (wk ⟨[(2,vI ax10),(9,vP H116.next 0),(10,vI x135),(12,vI rx2208),(32,as6),(33,(vI (slen as6:Int))),(34,vI x135)],53,[],H210⟩ rfl ?_))
      refine w_seq (w_region (mv (vI rx2208) rfl rfl ?_))
      by_cases c214:rx2208 ≥ 0
      ·
       refine sv (v:=.bool true) rfl rfl rfl (opv_bin rfl rfl rfl rfl rfl (cmpT rfl c214)) rfl ?_
       refine wo_nil (tq_n (wk ⟨[(2,vI ax10),(9,vP H116.next 0),(10,vI x135),(12,vI rx2208),(32,as6),(33,(vI (slen as6:Int))),(34,vI x135),(49,.bool true)],53,[],H210⟩ rfl ?_))
       refine w_cond (t:=true) rfl rfl (fun _ => ?_) (fun h => by cases h)
       refine w_seq (w_region (mv (vI x135) rfl rfl ?_))
       refine mv (vI rx2208) rfl rfl ?_
       refine mv (vI x135) rfl rfl ?_
       refine mv (vI rx2208) rfl rfl ?_
       refine mv (vI 0) rfl rfl ?_
       refine wo_nil (tq_n (wk ⟨[(6,vI x135),(7,vI rx2208),(8,vI 0)],53,[],H210⟩ rfl ?_))
       refine w_ret ?_
       try refine q_eq (e':=.ret) rfl ?_
       refine tq_r (tq_r ?_)
       try refine q_eq (e':=.ret) rfl ?_
       refine tq_r ?_
       refine ⟨.inr rfl,rfl,[vI x135,vI rx2208,vI 0],.cons (resV_tmp rfl neI) (.cons (resV_tmp rfl neI) (.cons (resV_tmp rfl neI) .nil)),(((((((((((KeepX.refl (fun _ => False) H).new_ f102).new_ f107).keep k117).new_ f122).put f127 (by first | (right; omega) | (left; (try dsimp only) <;> omega))).trans k141 (fun _ h => h.elim)).new_ f172).put f177 (by first | (right; omega) | (left; (try dsimp only) <;> omega))).keep k211).k (fun _ h => h.elim)),w207,x135,rx2208,0,rfl⟩
      ·
       refine sv (v:=.bool false) rfl rfl rfl (opv_bin rfl rfl rfl rfl rfl (cmpF rfl c214)) rfl ?_
       refine wo_nil (tq_n (wk ⟨[(2,vI ax10),(9,vP H116.next 0),(10,vI x135),(12,vI rx2208),(32,as6),(33,(vI (slen as6:Int))),(34,vI x135),(49,.bool false)],53,[],H210⟩ rfl ?_))
       refine w_cond (t:=false) rfl rfl (fun h => by cases h) (fun _ => ?_)
       refine w_skip ?_
       try refine q_eq (e':=.normal) rfl ?_
       refine tqk ⟨[(2,vI ax10),(9,vP H116.next 0),(32,as6),(33,(vI (slen as6:Int))),(34,vI x135)],53,[],H210⟩ rfl ?_
       refine w_region (sv_int rfl rfl rfl (opv_bin rfl rfl rfl rfl rfl rfl) ?_)
       intro x215 h216
       try replace h216:x215=x135 + 1:=wr_ex h216 (by omega) (by omega)
       refine mv (vI x215) rfl rfl ?_
       refine wo_nil ?_
       refine tq_n ⟨(((slen as6:Int):Int) - x215).toNat,by omega,⟨[(2,vI ax10),(9,vP H116.next 0),(32,as6),(33,(vI (slen as6:Int))),(34,vI x215)],53,[],H210⟩,subk rfl,x215,H210,by omega,by omega,w207,((l140.trans l174).trans l179).trans l212,(((((KeepX.refl (fun _ => False) H126).trans k141 (fun _ h => h.elim)).new_ f172).put f177 (by first | (right; omega) | (left; (try dsimp only) <;> omega))).keep k211),rfl,rfl⟩
    ·
     refine sv (v:=.bool false) rfl rfl rfl (opv_bin rfl rfl rfl rfl rfl (cmpF rfl c145)) rfl ?_
     refine wo_nil (tq_n (wk ⟨[(2,vI ax10),(9,vP H116.next 0),(32,as6),(33,(vI (slen as6:Int))),(34,vI x135),(35,.bool false)],53,[],H136⟩ rfl ?_))
     refine w_seq (w_cond (t:=false) rfl rfl (fun h => by cases h) (fun _ => ?_))
     refine w_exit (tq_e (tq_e ?_))
     try refine q_eq (e':=.normal) rfl ?_
     refine tqk ⟨[],53,[],H136⟩ rfl ?_
     refine w_seq (w_region (mv (vI 0) rfl rfl ?_))
     refine mv (vI 0) rfl rfl ?_
     refine mv (vI 9) rfl rfl ?_
     refine wo_nil (tq_n (wk ⟨[(6,vI 0),(7,vI 0),(8,vI 9)],53,[],H136⟩ rfl ?_))
     refine w_ret ?_
     refine ⟨.inr rfl,rfl,[vI 0,vI 0,vI 9],.cons (resV_tmp rfl neI) (.cons (resV_tmp rfl neI) (.cons (resV_tmp rfl neI) .nil)),((((((((KeepX.refl (fun _ => False) H).new_ f102).new_ f107).keep k117).new_ f122).put f127 (by first | (right; omega) | (left; (try dsimp only) <;> omega))).trans k141 (fun _ h => h.elim)).k (fun _ h => h.elim)),w139,0,0,9,rfl⟩
 ·
  refine sv (v:=.bool true) rfl rfl rfl (opv_bin rfl rfl rfl rfl rfl (neT c131)) rfl ?_
  refine mv (.bool true) rfl rfl ?_
  refine wo_nil (tq_n (wk ⟨[(2,vI ax10),(8,vI rx21112),(9,vP H116.next 0),(19,.bool true)],53,[],H126⟩ rfl ?_))
  refine w_cond (t:=true) rfl rfl (fun _ => ?_) (fun h => by cases h)
  refine w_seq (w_region (mv (vI rx21112) rfl rfl ?_))
  refine mv (vI 0) rfl rfl ?_
  refine mv (vI 0) rfl rfl ?_
  refine mv (vI rx21112) rfl rfl ?_
  refine wo_nil (tq_n (wk ⟨[(6,vI 0),(7,vI 0),(8,vI rx21112)],53,[],H126⟩ rfl ?_))
  refine w_ret ?_
  try refine q_eq (e':=.ret) rfl ?_
  refine tq_r ?_
  refine ⟨.inr rfl,rfl,[vI 0,vI 0,vI rx21112],.cons (resV_tmp rfl neI) (.cons (resV_tmp rfl neI) (.cons (resV_tmp rfl neI) .nil)),(((((((KeepX.refl (fun _ => False) H).new_ f102).new_ f107).keep k117).new_ f122).put f127 (by first | (right; omega) | (left; (try dsimp only) <;> omega))).k (fun _ h => h.elim)),w128,0,0,rx21112,rfl⟩
end Go.Proofs.Orl
