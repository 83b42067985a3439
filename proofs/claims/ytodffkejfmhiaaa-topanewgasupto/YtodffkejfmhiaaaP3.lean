/- Part 3 of the proof of TopAnewGas: every call of the package puts the same twice, and changes no argument. Conditions: those of the statement, and no others. -/
import Derived.Test.YtodffkejfmhiaaaP2
import Derived.KernelRfl
import Derived.Test.YtodffkejfmhiaaaProg
namespace Go.Proofs.Orl
open Go Go.MapKept
set_option maxRecDepth 10000
set_option maxHeartbeats 4000000
theorem ag3:aggT Try.prog 3=some false:=by kernel_rfl
theorem ag9:aggT Try.prog 9=some false:=by kernel_rfl
theorem ag63:aggT Try.prog 63=some true:=by kernel_rfl
theorem ag65:aggT Try.prog 65=some false:=by kernel_rfl
theorem sz3:szT Try.prog 3=some 1:=by kernel_rfl
theorem sz9:szT Try.prog 9=some 1:=by kernel_rfl
theorem sz63:szT Try.prog 63=some 2:=by kernel_rfl
theorem sz65:szT Try.prog 65=some 1:=by kernel_rfl
theorem ze9:zeroT Try.prog 9=some (.string (⟨#[]⟩)):=by kernel_rfl
abbrev SpQ:Value→Prop:=fun v => ∃ a b:Int,v=.agg #[vI a,vI b]
theorem eg23:Try.prog.eqGuardType Try.prog.depth 23=false:=by kernel_rfl
theorem eqV23 (a b c d:Int) : (eqVal evtt 10000 23 (.agg #[vI a,vI b]) (.agg #[vI c,vI d])) = (match eqI a c with | true => (match eqI b d with | true => some true | false => some false) | false => some false):=by kernel_rfl
theorem eqT23 (a b c d:Int) : ∃ r,∀ w,(Op.equalIn 10000 23 (.agg #[vI a,vI b]) (.agg #[vI c,vI d])).run Try.prog w=.ok r w:=by
  have h:=eqV23 a b c d
  cases h1:eqI a c <;> cases h2:eqI b d <;> rw [h1,h2] at h <;> exact ⟨_,eqVal_spec evttok 10000 23 _ _ _ h⟩
theorem zeA84:zeroT Try.prog 84=some (.agg (arI 62 (fun _ => 0))):=by kernel_rfl

theorem gas_out1 (x0:Int) (n2 n3:Nat) (lo hi:Int) (H:SH) (wt:WT H) (hkn2:H.get n2=some (.row #[vI lo] .raw)) (hln2:n2 < H.next) (hkn3:H.get n3=some (.row #[vI hi] .raw)) (hln3:n3 < H.next):WC Try.prog 55 [vI x0,vP n2 0,vP n3 0] H (fun v H' => Keep H H'∧WT H'∧∃ (rb:Bool),v=(.bool rb)∧((rb=true∧(x0 < lo∨hi < x0))∨(rb=false∧¬ (x0 < lo∨hi < x0)))):=by
 refine wc_of_body Try.func55 rfl ?_
 refine wk ⟨[(0,vI x0),(1,vP n2 0),(2,vP n3 0)],13,[],H⟩ rfl ?_
 refine w_seq (w_region (mv (.bool false) rfl rfl ?_))
 refine wo_nil (tq_n (wk ⟨[(0,vI x0),(1,vP n2 0),(2,vP n3 0)],13,[],H⟩ rfl ?_))
 refine w_seq (w_region (mv (vI x0) rfl rfl ?_))
 refine sv (v:=vI lo) rfl rfl rfl (opv_loadE rfl rfl rfl ag3 sz3 hkn2 rfl (.inr rfl) rfl) rfl ?_
 by_cases c101:x0 < lo
 ·
  refine sv (v:=.bool true) rfl rfl rfl (opv_bin rfl rfl rfl rfl rfl (cmpT rfl c101)) rfl ?_
  refine mv (.bool true) rfl rfl ?_
  refine ss rfl (wants_g rfl rfl rfl rfl rfl) rfl rfl ?_
  refine ss rfl (wants_g rfl rfl rfl rfl rfl) rfl rfl ?_
  refine ss rfl (wants_g rfl rfl rfl rfl rfl) rfl rfl ?_
  refine sv (v:=.bool true) rfl rfl rfl (opv_pick (b:=true) rfl rfl rfl rfl rfl rfl) rfl ?_
  refine mv (.bool true) rfl rfl ?_
  refine wo_nil (tq_n (wk ⟨[(4,.bool true)],13,[],H⟩ rfl ?_))
  refine w_ret ?_
  refine ⟨.inr rfl,rfl,[.bool true],.cons (resV_tmp rfl (by simp [undef])) .nil,Keep.refl _,wt,true,rfl,(.inl ⟨rfl,by omega⟩)⟩
 ·
  refine sv (v:=.bool false) rfl rfl rfl (opv_bin rfl rfl rfl rfl rfl (cmpF rfl c101)) rfl ?_
  refine mv (.bool false) rfl rfl ?_
  refine sv (v:=vI x0) rfl (wants_g rfl rfl rfl rfl rfl) rfl (opv_move (.inl rfl) rfl rfl) rfl ?_
  refine sv (v:=vI hi) rfl (wants_g rfl rfl rfl rfl rfl) rfl (opv_loadE rfl rfl rfl ag3 sz3 hkn3 rfl (.inr rfl) rfl) rfl ?_
  by_cases c102:x0 > hi
  ·
   refine sv (v:=.bool true) rfl (wants_g rfl rfl rfl rfl rfl) rfl (opv_bin rfl rfl rfl rfl rfl (cmpT rfl c102)) rfl ?_
   refine sv (v:=.bool true) rfl rfl rfl (opv_pick (b:=false) rfl rfl rfl rfl rfl rfl) rfl ?_
   refine mv (.bool true) rfl rfl ?_
   refine wo_nil (tq_n (wk ⟨[(4,.bool true)],13,[],H⟩ rfl ?_))
   refine w_ret ?_
   refine ⟨.inr rfl,rfl,[.bool true],.cons (resV_tmp rfl (by simp [undef])) .nil,Keep.refl _,wt,true,rfl,(.inl ⟨rfl,by omega⟩)⟩
  ·
   refine sv (v:=.bool false) rfl (wants_g rfl rfl rfl rfl rfl) rfl (opv_bin rfl rfl rfl rfl rfl (cmpF rfl c102)) rfl ?_
   refine sv (v:=.bool false) rfl rfl rfl (opv_pick (b:=false) rfl rfl rfl rfl rfl rfl) rfl ?_
   refine mv (.bool false) rfl rfl ?_
   refine wo_nil (tq_n (wk ⟨[(4,.bool false)],13,[],H⟩ rfl ?_))
   refine w_ret ?_
   refine ⟨.inr rfl,rfl,[.bool false],.cons (resV_tmp rfl (by simp [undef])) .nil,Keep.refl _,wt,false,rfl,(.inr ⟨rfl,by omega⟩)⟩

theorem gas_ix1 (x0:Int) (n1 n2 n3:Nat) (lo hi:Int) (H:SH) (wt:WT H) (hkn1:H.get n1=some (.row #[vI x0] .raw)) (hln1:n1 < H.next) (hkn2:H.get n2=some (.row #[vI lo] .raw)) (hln2:n2 < H.next) (hkn3:H.get n3=some (.row #[vI hi] .raw)) (hln3:n3 < H.next):WC Try.prog 68 [.slice (some ⟨n1,0,none⟩) 1 1,.func (.func 55) #[] #[vP n2 0,vP n3 0]] H (fun v H' => Keep H H'∧WT H'∧∃ (ri:Int),v=(vI ri)∧(ri < 0→(lo ≤ x0∧x0 ≤ hi))∧(0 ≤ ri→¬ (lo ≤ x0∧x0 ≤ hi))):=by
 refine wc_of_body Try.func68 rfl ?_
 refine wk ⟨[(0,.slice (some ⟨n1,0,none⟩) 1 1),(1,.func (.func 55) #[] #[vP n2 0,vP n3 0])],19,[],H⟩ rfl ?_
 refine w_seq (w_region (mv (vI 0) rfl rfl ?_))
 refine wo_nil (tq_n (wk ⟨[(0,.slice (some ⟨n1,0,none⟩) 1 1),(1,.func (.func 55) #[] #[vP n2 0,vP n3 0])],19,[],H⟩ rfl ?_))
 refine w_seq (w_seq (w_region (mv (.slice (some ⟨n1,0,none⟩) 1 1) rfl rfl ?_)))
 refine sv (v:=vI 1) rfl rfl rfl (opv_len_slice rfl rfl rfl Try.underlying31) rfl ?_
 refine mv (vI 0) rfl rfl ?_
 refine wo_nil (tq_n (wk ⟨[(0,.slice (some ⟨n1,0,none⟩) 1 1),(1,.func (.func 55) #[] #[vP n2 0,vP n3 0]),(7,vI 1),(8,vI 0)],19,[],H⟩ rfl ?_))
 refine w_block (w_loopU (wl_step ?_))
 refine w_seq (w_region (sv (v:=.bool true) rfl rfl rfl (opv_bin rfl rfl rfl rfl rfl (cmpT rfl (by decide))) rfl ?_))
 refine wo_nil (tq_n (wk ⟨[(0,.slice (some ⟨n1,0,none⟩) 1 1),(1,.func (.func 55) #[] #[vP n2 0,vP n3 0]),(7,vI 1),(8,vI 0),(9,.bool true)],19,[],H⟩ rfl ?_))
 refine w_seq (w_cond (t:=true) rfl rfl (fun _ => ?_) (fun h => by cases h))
 refine w_skip (tq_n (wk ⟨[(0,.slice (some ⟨n1,0,none⟩) 1 1),(1,.func (.func 55) #[] #[vP n2 0,vP n3 0]),(7,vI 1),(8,vI 0)],19,[],H⟩ rfl ?_))
 refine w_seq (w_block (w_seq (w_region (mv (vI 0) rfl rfl ?_))))
 refine mv (vI 0) rfl rfl ?_
 refine wo_nil (tq_n (wk ⟨[(0,.slice (some ⟨n1,0,none⟩) 1 1),(1,.func (.func 55) #[] #[vP n2 0,vP n3 0]),(5,vI 0),(7,vI 1),(8,vI 0)],19,[],H⟩ rfl ?_))
 refine w_seq (w_region (mv (.func (.func 55) #[] #[vP n2 0,vP n3 0]) rfl rfl ?_))
 refine mv (.slice (some ⟨n1,0,none⟩) 1 1) rfl rfl ?_
 refine mv (vI 0) rfl rfl ?_
 refine sv (v:=vP n1 0) rfl rfl rfl (opv_indexAddrE rfl rfl rfl rfl rfl Try.underlying31 sz3 (by decide) (by decide) rfl) rfl ?_
 refine sv (v:=vI x0) rfl rfl rfl (opv_loadE rfl rfl rfl ag3 sz3 hkn1 rfl (.inr rfl) rfl) rfl ?_
 refine sc_ (H:=H) (vs:=[vI x0]) (fv:=.func (.func 55) #[] #[vP n2 0,vP n3 0]) rfl rfl rfl rfl rfl rfl (.cons rfl rfl neI .nil) rfl ?_
 refine WV.mono (wv_fc (cap:=[vP n2 0,vP n3 0]) Try.call55 (gas_out1 x0 n2 n3 lo hi _ wt hkn2 (by omega) hkn3 (by omega))) ?_
 rintro v104 H105 ⟨k106,w101,rb102,rfl,f103⟩
 refine kpL k106 fun n108 l107 => ?_
 refine wo_nil (tq_n (wk ⟨[(0,.slice (some ⟨n1,0,none⟩) 1 1),(1,.func (.func 55) #[] #[vP n2 0,vP n3 0]),(5,vI 0),(7,vI 1),(8,vI 0),(16,.bool rb102)],19,[],H105⟩ rfl ?_))
 rcases f103 with ⟨rfl,f103⟩ | ⟨rfl,f103⟩
 ·
  refine w_cond (t:=true) rfl rfl (fun _ => ?_) (fun h => by cases h)
  refine w_seq (w_region (mv (vI 0) rfl rfl ?_))
  refine mv (vI 0) rfl rfl ?_
  refine wo_nil (tq_n (wk ⟨[(4,vI 0)],19,[],H105⟩ rfl ?_))
  refine w_ret ?_
  try refine q_eq (e':=.ret) rfl ?_
  refine tq_r (tq_r ?_)
  try refine q_eq (e':=.ret) rfl ?_
  refine tq_r ?_
  refine ⟨.inr rfl,rfl,[vI 0],.cons (resV_tmp rfl neI) .nil,((KeepX.refl (fun _ => False) H).keep k106).k (fun _ h => h.elim),w101,0,rfl,?_,?_⟩
  · omega
  · omega
 ·
  refine w_cond (t:=false) rfl rfl (fun h => by cases h) (fun _ => ?_)
  refine w_skip ?_
  try refine q_eq (e':=.normal) rfl ?_
  refine tqk ⟨[(0,.slice (some ⟨n1,0,none⟩) 1 1),(1,.func (.func 55) #[] #[vP n2 0,vP n3 0]),(7,vI 1),(8,vI 0)],19,[],H105⟩ rfl ?_
  refine w_region (sv (v:=vI 1) rfl rfl rfl (opv_bin rfl rfl rfl rfl rfl rfl) rfl ?_)
  refine mv (vI 1) rfl rfl ?_
  refine wo_nil (tq_n (wl_norm (g:=[(0,.slice (some ⟨n1,0,none⟩) 1 1),(1,.func (.func 55) #[] #[vP n2 0,vP n3 0]),(7,vI 1),(8,vI 1)]) (n:=19) (ds:=[]) (H:=H105) (lsub_cons rfl (lsub_cons rfl (lsub_cons rfl (lsub_cons rfl (lsub_nil _))))) rfl rfl rfl ?_))
  refine w_seq (w_region (sv (v:=.bool false) rfl rfl rfl (opv_bin rfl rfl rfl rfl rfl (cmpF rfl (by decide))) rfl ?_))
  refine wo_nil (tq_n (wk ⟨[(0,.slice (some ⟨n1,0,none⟩) 1 1),(1,.func (.func 55) #[] #[vP n2 0,vP n3 0]),(7,vI 1),(8,vI 1),(9,.bool false)],19,[],H105⟩ rfl ?_))
  refine w_seq (w_cond (t:=false) rfl rfl (fun h => by cases h) (fun _ => ?_))
  refine w_exit (tq_e (tq_e ?_))
  try refine q_eq (e':=.normal) rfl ?_
  refine tqk ⟨[],19,[],H105⟩ rfl ?_
  refine w_seq (w_region (mv (vI (-1)) rfl rfl ?_))
  refine wo_nil (tq_n (wk ⟨[(4,vI (-1))],19,[],H105⟩ rfl ?_))
  refine w_ret ?_
  refine ⟨.inr rfl,rfl,[vI (-1)],.cons (resV_tmp rfl neI) .nil,((KeepX.refl (fun _ => False) H).keep k106).k (fun _ h => h.elim),w101,-1,rfl,?_,?_⟩
  · omega
  · omega

theorem gas_cf1 (x0:Int) (n1 n2 n3:Nat) (lo hi:Int) (H:SH) (wt:WT H) (hkn1:H.get n1=some (.row #[vI x0] .raw)) (hln1:n1 < H.next) (hkn2:H.get n2=some (.row #[vI lo] .raw)) (hln2:n2 < H.next) (hkn3:H.get n3=some (.row #[vI hi] .raw)) (hln3:n3 < H.next):WC Try.prog 54 [.slice (some ⟨n1,0,none⟩) 1 1,.func (.func 55) #[] #[vP n2 0,vP n3 0]] H (fun v H' => Keep H H'∧WT H'∧∃ (rb:Bool),v=(.bool rb)∧((rb=true∧(¬ (lo ≤ x0∧x0 ≤ hi)))∨(rb=false∧¬ (¬ (lo ≤ x0∧x0 ≤ hi))))):=by
 refine wc_of_body Try.func54 rfl ?_
 refine wk ⟨[(0,.slice (some ⟨n1,0,none⟩) 1 1),(1,.func (.func 55) #[] #[vP n2 0,vP n3 0])],9,[],H⟩ rfl ?_
 refine w_seq (w_region (mv (.bool false) rfl rfl ?_))
 refine wo_nil (tq_n (wk ⟨[(0,.slice (some ⟨n1,0,none⟩) 1 1),(1,.func (.func 55) #[] #[vP n2 0,vP n3 0])],9,[],H⟩ rfl ?_))
 refine w_seq (w_region (mv (.slice (some ⟨n1,0,none⟩) 1 1) rfl rfl ?_))
 refine mv (.func (.func 55) #[] #[vP n2 0,vP n3 0]) rfl rfl ?_
 refine sc_ (H:=H) (vs:=[.slice (some ⟨n1,0,none⟩) 1 1,.func (.func 55) #[] #[vP n2 0,vP n3 0]]) (fv:=.func (.func 68) #[] #[]) rfl rfl rfl rfl rfl rfl (.cons rfl rfl (by simp [undef]) (.cons rfl rfl (by simp [undef]) .nil)) rfl ?_
 refine WV.mono (wv_f0 Try.call68 (gas_ix1 x0 n1 n2 n3 lo hi _ wt hkn1 (by omega) hkn2 (by omega) hkn3 (by omega))) ?_
 rintro v105 H106 ⟨k107,w101,ri102,rfl,f103,f104⟩
 refine kpL k107 fun n109 l108 => ?_
 by_cases c110:ri102 ≥ 0
 ·
  refine sv (v:=.bool true) rfl rfl rfl (opv_bin rfl rfl rfl rfl rfl (cmpT rfl c110)) rfl ?_
  refine mv (.bool true) rfl rfl ?_
  refine wo_nil (tq_n (wk ⟨[(4,.bool true)],9,[],H106⟩ rfl ?_))
  refine w_ret ?_
  refine ⟨.inr rfl,rfl,[.bool true],.cons (resV_tmp rfl (by simp [undef])) .nil,((KeepX.refl (fun _ => False) H).keep k107).k (fun _ h => h.elim),w101,true,rfl,(.inl ⟨rfl,by omega⟩)⟩
 ·
  refine sv (v:=.bool false) rfl rfl rfl (opv_bin rfl rfl rfl rfl rfl (cmpF rfl c110)) rfl ?_
  refine mv (.bool false) rfl rfl ?_
  refine wo_nil (tq_n (wk ⟨[(4,.bool false)],9,[],H106⟩ rfl ?_))
  refine w_ret ?_
  refine ⟨.inr rfl,rfl,[.bool false],.cons (resV_tmp rfl (by simp [undef])) .nil,((KeepX.refl (fun _ => False) H).keep k107).k (fun _ h => h.elim),w101,false,rfl,(.inr ⟨rfl,by omega⟩)⟩

theorem gas_out_1 (x0 lo hi:Int) (n1:Nat) (H:SH) (wt:WT H) (hkn1:H.get n1=some (.row #[vI x0] .raw)) (hln1:n1 < H.next):WC Try.prog 30 [vI lo,vI hi,.slice (some ⟨n1,0,none⟩) 1 1] H (fun v H' => Keep H H'∧WT H'∧∃ (rb:Bool),v=(.bool rb)∧((rb=true∧(¬ (lo ≤ x0∧x0 ≤ hi)))∨(rb=false∧¬ (¬ (lo ≤ x0∧x0 ≤ hi))))):=by
 refine wc_of_body Try.func30 rfl ?_
 refine wk ⟨[(0,vI lo),(1,vI hi),(2,.slice (some ⟨n1,0,none⟩) 1 1)],10,[],H⟩ rfl ?_
 refine w_seq (w_region (sv_new (H:=H) (v:=vP H.next 0) (x:=.row #[vI lo] .raw) rfl rfl rfl rfl (opv_boxE (v:=vI lo) rfl rfl rfl neI rfl) ?_))
 intro H101 f102
 refine newL wt f102 fun n105 w103 l104 => ?_
 refine sv_new (H:=H101) (v:=vP H101.next 0) (x:=.row #[vI hi] .raw) rfl rfl rfl rfl (opv_boxE (v:=vI hi) rfl rfl rfl neI rfl) ?_
 intro H106 f107
 refine newL w103 f107 fun n110 w108 l109 => ?_
 refine mv (.bool false) rfl rfl ?_
 refine wo_nil (tq_n (wk ⟨[(2,.slice (some ⟨n1,0,none⟩) 1 1),(3,vP H.next 0),(4,vP H101.next 0)],10,[],H106⟩ rfl ?_))
 refine w_seq (w_region (mv (.slice (some ⟨n1,0,none⟩) 1 1) rfl rfl ?_))
 refine sv (v:=.func (.func 55) #[] #[vP H.next 0,vP H101.next 0]) rfl rfl rfl (opv_makeFunc (vs:=[]) (us:=[vP H.next 0,vP H101.next 0]) rfl (.func _) .nil (.cons rfl rfl neP (.cons rfl rfl neP .nil))) rfl ?_
 refine sc_ (H:=H106) (vs:=[.slice (some ⟨n1,0,none⟩) 1 1,.func (.func 55) #[] #[vP H.next 0,vP H101.next 0]]) (fv:=.func (.func 54) #[] #[]) rfl rfl rfl rfl rfl rfl (.cons rfl rfl (by simp [undef]) (.cons rfl rfl (by simp [undef]) .nil)) rfl ?_
 refine WV.mono (wv_f0 Try.call54 (gas_cf1 x0 n1 H.next H101.next lo hi _ w108 ((f107.get n1 (by omega)).trans ((f102.get n1 (by omega)).trans hkn1)) (by omega) ((f107.get H.next (by omega)).trans f102.blk) (by omega) f107.blk (by omega))) ?_
 rintro v114 H115 ⟨k116,w111,rb112,rfl,f113⟩
 refine kpL k116 fun n118 l117 => ?_
 refine mv (.bool rb112) rfl rfl ?_
 refine wo_nil (tq_n (wk ⟨[(6,.bool rb112)],10,[],H115⟩ rfl ?_))
 refine w_ret ?_
 rcases f113 with ⟨rfl,f113⟩ | ⟨rfl,f113⟩
 ·
  refine ⟨.inr rfl,rfl,[.bool true],.cons (resV_tmp rfl (by simp [undef])) .nil,((((KeepX.refl (fun _ => False) H).new_ f102).new_ f107).keep k116).k (fun _ h => h.elim),w111,true,rfl,(.inl ⟨rfl,by omega⟩)⟩
 ·
  refine ⟨.inr rfl,rfl,[.bool false],.cons (resV_tmp rfl (by simp [undef])) .nil,((((KeepX.refl (fun _ => False) H).new_ f102).new_ f107).keep k116).k (fun _ h => h.elim),w111,false,rfl,(.inr ⟨rfl,by omega⟩)⟩

theorem gas_ix2 (x0 x1:Int) (n1 n2 n3:Nat) (lo hi:Int) (H:SH) (wt:WT H) (hkn1:H.get n1=some (.row #[vI x0,vI x1] .raw)) (hln1:n1 < H.next) (hkn2:H.get n2=some (.row #[vI lo] .raw)) (hln2:n2 < H.next) (hkn3:H.get n3=some (.row #[vI hi] .raw)) (hln3:n3 < H.next):WC Try.prog 68 [.slice (some ⟨n1,0,none⟩) 2 1,.func (.func 55) #[] #[vP n2 0,vP n3 0]] H (fun v H' => Keep H H'∧WT H'∧∃ (ri:Int),v=(vI ri)∧(ri < 0→(lo ≤ x0∧x0 ≤ hi)∧(lo ≤ x1∧x1 ≤ hi))∧(0 ≤ ri→¬ ((lo ≤ x0∧x0 ≤ hi)∧(lo ≤ x1∧x1 ≤ hi)))):=by
 refine wc_of_body Try.func68 rfl ?_
 refine wk ⟨[(0,.slice (some ⟨n1,0,none⟩) 2 1),(1,.func (.func 55) #[] #[vP n2 0,vP n3 0])],19,[],H⟩ rfl ?_
 refine w_seq (w_region (mv (vI 0) rfl rfl ?_))
 refine wo_nil (tq_n (wk ⟨[(0,.slice (some ⟨n1,0,none⟩) 2 1),(1,.func (.func 55) #[] #[vP n2 0,vP n3 0])],19,[],H⟩ rfl ?_))
 refine w_seq (w_seq (w_region (mv (.slice (some ⟨n1,0,none⟩) 2 1) rfl rfl ?_)))
 refine sv (v:=vI 2) rfl rfl rfl (opv_len_slice rfl rfl rfl Try.underlying31) rfl ?_
 refine mv (vI 0) rfl rfl ?_
 refine wo_nil (tq_n (wk ⟨[(0,.slice (some ⟨n1,0,none⟩) 2 1),(1,.func (.func 55) #[] #[vP n2 0,vP n3 0]),(7,vI 2),(8,vI 0)],19,[],H⟩ rfl ?_))
 refine w_block (w_loopU (wl_step ?_))
 refine w_seq (w_region (sv (v:=.bool true) rfl rfl rfl (opv_bin rfl rfl rfl rfl rfl (cmpT rfl (by decide))) rfl ?_))
 refine wo_nil (tq_n (wk ⟨[(0,.slice (some ⟨n1,0,none⟩) 2 1),(1,.func (.func 55) #[] #[vP n2 0,vP n3 0]),(7,vI 2),(8,vI 0),(9,.bool true)],19,[],H⟩ rfl ?_))
 refine w_seq (w_cond (t:=true) rfl rfl (fun _ => ?_) (fun h => by cases h))
 refine w_skip (tq_n (wk ⟨[(0,.slice (some ⟨n1,0,none⟩) 2 1),(1,.func (.func 55) #[] #[vP n2 0,vP n3 0]),(7,vI 2),(8,vI 0)],19,[],H⟩ rfl ?_))
 refine w_seq (w_block (w_seq (w_region (mv (vI 0) rfl rfl ?_))))
 refine mv (vI 0) rfl rfl ?_
 refine wo_nil (tq_n (wk ⟨[(0,.slice (some ⟨n1,0,none⟩) 2 1),(1,.func (.func 55) #[] #[vP n2 0,vP n3 0]),(5,vI 0),(7,vI 2),(8,vI 0)],19,[],H⟩ rfl ?_))
 refine w_seq (w_region (mv (.func (.func 55) #[] #[vP n2 0,vP n3 0]) rfl rfl ?_))
 refine mv (.slice (some ⟨n1,0,none⟩) 2 1) rfl rfl ?_
 refine mv (vI 0) rfl rfl ?_
 refine sv (v:=vP n1 0) rfl rfl rfl (opv_indexAddrE rfl rfl rfl rfl rfl Try.underlying31 sz3 (by decide) (by decide) rfl) rfl ?_
 refine sv (v:=vI x0) rfl rfl rfl (opv_loadE rfl rfl rfl ag3 sz3 hkn1 rfl (.inr rfl) rfl) rfl ?_
 refine sc_ (H:=H) (vs:=[vI x0]) (fv:=.func (.func 55) #[] #[vP n2 0,vP n3 0]) rfl rfl rfl rfl rfl rfl (.cons rfl rfl neI .nil) rfl ?_
 refine WV.mono (wv_fc (cap:=[vP n2 0,vP n3 0]) Try.call55 (gas_out1 x0 n2 n3 lo hi _ wt hkn2 (by omega) hkn3 (by omega))) ?_
 rintro v104 H105 ⟨k106,w101,rb102,rfl,f103⟩
 refine kpL k106 fun n108 l107 => ?_
 refine wo_nil (tq_n (wk ⟨[(0,.slice (some ⟨n1,0,none⟩) 2 1),(1,.func (.func 55) #[] #[vP n2 0,vP n3 0]),(5,vI 0),(7,vI 2),(8,vI 0),(16,.bool rb102)],19,[],H105⟩ rfl ?_))
 rcases f103 with ⟨rfl,f103⟩ | ⟨rfl,f103⟩
 ·
  refine w_cond (t:=true) rfl rfl (fun _ => ?_) (fun h => by cases h)
  refine w_seq (w_region (mv (vI 0) rfl rfl ?_))
  refine mv (vI 0) rfl rfl ?_
  refine wo_nil (tq_n (wk ⟨[(4,vI 0)],19,[],H105⟩ rfl ?_))
  refine w_ret ?_
  try refine q_eq (e':=.ret) rfl ?_
  refine tq_r (tq_r ?_)
  try refine q_eq (e':=.ret) rfl ?_
  refine tq_r ?_
  refine ⟨.inr rfl,rfl,[vI 0],.cons (resV_tmp rfl neI) .nil,((KeepX.refl (fun _ => False) H).keep k106).k (fun _ h => h.elim),w101,0,rfl,?_,?_⟩
  · omega
  · omega
 ·
  refine w_cond (t:=false) rfl rfl (fun h => by cases h) (fun _ => ?_)
  refine w_skip ?_
  try refine q_eq (e':=.normal) rfl ?_
  refine tqk ⟨[(0,.slice (some ⟨n1,0,none⟩) 2 1),(1,.func (.func 55) #[] #[vP n2 0,vP n3 0]),(7,vI 2),(8,vI 0)],19,[],H105⟩ rfl ?_
  refine w_region (sv (v:=vI 1) rfl rfl rfl (opv_bin rfl rfl rfl rfl rfl rfl) rfl ?_)
  refine mv (vI 1) rfl rfl ?_
  refine wo_nil (tq_n (wl_norm (g:=[(0,.slice (some ⟨n1,0,none⟩) 2 1),(1,.func (.func 55) #[] #[vP n2 0,vP n3 0]),(7,vI 2),(8,vI 1)]) (n:=19) (ds:=[]) (H:=H105) (lsub_cons rfl (lsub_cons rfl (lsub_cons rfl (lsub_cons rfl (lsub_nil _))))) rfl rfl rfl ?_))
  refine w_seq (w_region (sv (v:=.bool true) rfl rfl rfl (opv_bin rfl rfl rfl rfl rfl (cmpT rfl (by decide))) rfl ?_))
  refine wo_nil (tq_n (wk ⟨[(0,.slice (some ⟨n1,0,none⟩) 2 1),(1,.func (.func 55) #[] #[vP n2 0,vP n3 0]),(7,vI 2),(8,vI 1),(9,.bool true)],19,[],H105⟩ rfl ?_))
  refine w_seq (w_cond (t:=true) rfl rfl (fun _ => ?_) (fun h => by cases h))
  refine w_skip (tq_n (wk ⟨[(0,.slice (some ⟨n1,0,none⟩) 2 1),(1,.func (.func 55) #[] #[vP n2 0,vP n3 0]),(7,vI 2),(8,vI 1)],19,[],H105⟩ rfl ?_))
  refine w_seq (w_block (w_seq (w_region (mv (vI 1) rfl rfl ?_))))
  refine mv (vI 1) rfl rfl ?_
  refine wo_nil (tq_n (wk ⟨[(0,.slice (some ⟨n1,0,none⟩) 2 1),(1,.func (.func 55) #[] #[vP n2 0,vP n3 0]),(5,vI 1),(7,vI 2),(8,vI 1)],19,[],H105⟩ rfl ?_))
  refine w_seq (w_region (mv (.func (.func 55) #[] #[vP n2 0,vP n3 0]) rfl rfl ?_))
  refine mv (.slice (some ⟨n1,0,none⟩) 2 1) rfl rfl ?_
  refine mv (vI 1) rfl rfl ?_
  refine sv (v:=vP n1 1) rfl rfl rfl (opv_indexAddrE rfl rfl rfl rfl rfl Try.underlying31 sz3 (by decide) (by decide) rfl) rfl ?_
  refine sv (v:=vI x1) rfl rfl rfl (opv_loadE rfl rfl rfl ag3 sz3 ((k106.get n1 (by omega)).trans hkn1) rfl (.inr rfl) rfl) rfl ?_
  refine sc_ (H:=H105) (vs:=[vI x1]) (fv:=.func (.func 55) #[] #[vP n2 0,vP n3 0]) rfl rfl rfl rfl rfl rfl (.cons rfl rfl neI .nil) rfl ?_
  refine WV.mono (wv_fc (cap:=[vP n2 0,vP n3 0]) Try.call55 (gas_out1 x1 n2 n3 lo hi _ w101 ((k106.get n2 (by omega)).trans hkn2) (by omega) ((k106.get n3 (by omega)).trans hkn3) (by omega))) ?_
  rintro v112 H113 ⟨k114,w109,rb110,rfl,f111⟩
  refine kpL k114 fun n116 l115 => ?_
  refine wo_nil (tq_n (wk ⟨[(0,.slice (some ⟨n1,0,none⟩) 2 1),(1,.func (.func 55) #[] #[vP n2 0,vP n3 0]),(5,vI 1),(7,vI 2),(8,vI 1),(16,.bool rb110)],19,[],H113⟩ rfl ?_))
  rcases f111 with ⟨rfl,f111⟩ | ⟨rfl,f111⟩
  ·
   refine w_cond (t:=true) rfl rfl (fun _ => ?_) (fun h => by cases h)
   refine w_seq (w_region (mv (vI 1) rfl rfl ?_))
   refine mv (vI 1) rfl rfl ?_
   refine wo_nil (tq_n (wk ⟨[(4,vI 1)],19,[],H113⟩ rfl ?_))
   refine w_ret ?_
   try refine q_eq (e':=.ret) rfl ?_
   refine tq_r (tq_r ?_)
   try refine q_eq (e':=.ret) rfl ?_
   refine tq_r ?_
   refine ⟨.inr rfl,rfl,[vI 1],.cons (resV_tmp rfl neI) .nil,(((KeepX.refl (fun _ => False) H).keep k106).keep k114).k (fun _ h => h.elim),w109,1,rfl,?_,?_⟩
   · omega
   · omega
  ·
   refine w_cond (t:=false) rfl rfl (fun h => by cases h) (fun _ => ?_)
   refine w_skip ?_
   try refine q_eq (e':=.normal) rfl ?_
   refine tqk ⟨[(0,.slice (some ⟨n1,0,none⟩) 2 1),(1,.func (.func 55) #[] #[vP n2 0,vP n3 0]),(7,vI 2),(8,vI 1)],19,[],H113⟩ rfl ?_
   refine w_region (sv (v:=vI 2) rfl rfl rfl (opv_bin rfl rfl rfl rfl rfl rfl) rfl ?_)
   refine mv (vI 2) rfl rfl ?_
   refine wo_nil (tq_n (wl_norm (g:=[(0,.slice (some ⟨n1,0,none⟩) 2 1),(1,.func (.func 55) #[] #[vP n2 0,vP n3 0]),(7,vI 2),(8,vI 2)]) (n:=19) (ds:=[]) (H:=H113) (lsub_cons rfl (lsub_cons rfl (lsub_cons rfl (lsub_cons rfl (lsub_nil _))))) rfl rfl rfl ?_))
   refine w_seq (w_region (sv (v:=.bool false) rfl rfl rfl (opv_bin rfl rfl rfl rfl rfl (cmpF rfl (by decide))) rfl ?_))
   refine wo_nil (tq_n (wk ⟨[(0,.slice (some ⟨n1,0,none⟩) 2 1),(1,.func (.func 55) #[] #[vP n2 0,vP n3 0]),(7,vI 2),(8,vI 2),(9,.bool false)],19,[],H113⟩ rfl ?_))
   refine w_seq (w_cond (t:=false) rfl rfl (fun h => by cases h) (fun _ => ?_))
   refine w_exit (tq_e (tq_e ?_))
   try refine q_eq (e':=.normal) rfl ?_
   refine tqk ⟨[],19,[],H113⟩ rfl ?_
   refine w_seq (w_region (mv (vI (-1)) rfl rfl ?_))
   refine wo_nil (tq_n (wk ⟨[(4,vI (-1))],19,[],H113⟩ rfl ?_))
   refine w_ret ?_
   refine ⟨.inr rfl,rfl,[vI (-1)],.cons (resV_tmp rfl neI) .nil,(((KeepX.refl (fun _ => False) H).keep k106).keep k114).k (fun _ h => h.elim),w109,-1,rfl,?_,?_⟩
   · omega
   · omega

theorem gas_cf2 (x0 x1:Int) (n1 n2 n3:Nat) (lo hi:Int) (H:SH) (wt:WT H) (hkn1:H.get n1=some (.row #[vI x0,vI x1] .raw)) (hln1:n1 < H.next) (hkn2:H.get n2=some (.row #[vI lo] .raw)) (hln2:n2 < H.next) (hkn3:H.get n3=some (.row #[vI hi] .raw)) (hln3:n3 < H.next):WC Try.prog 54 [.slice (some ⟨n1,0,none⟩) 2 1,.func (.func 55) #[] #[vP n2 0,vP n3 0]] H (fun v H' => Keep H H'∧WT H'∧∃ (rb:Bool),v=(.bool rb)∧((rb=true∧(¬ ((lo ≤ x0∧x0 ≤ hi)∧(lo ≤ x1∧x1 ≤ hi))))∨(rb=false∧¬ (¬ ((lo ≤ x0∧x0 ≤ hi)∧(lo ≤ x1∧x1 ≤ hi)))))):=by
 refine wc_of_body Try.func54 rfl ?_
 refine wk ⟨[(0,.slice (some ⟨n1,0,none⟩) 2 1),(1,.func (.func 55) #[] #[vP n2 0,vP n3 0])],9,[],H⟩ rfl ?_
 refine w_seq (w_region (mv (.bool false) rfl rfl ?_))
 refine wo_nil (tq_n (wk ⟨[(0,.slice (some ⟨n1,0,none⟩) 2 1),(1,.func (.func 55) #[] #[vP n2 0,vP n3 0])],9,[],H⟩ rfl ?_))
 refine w_seq (w_region (mv (.slice (some ⟨n1,0,none⟩) 2 1) rfl rfl ?_))
 refine mv (.func (.func 55) #[] #[vP n2 0,vP n3 0]) rfl rfl ?_
 refine sc_ (H:=H) (vs:=[.slice (some ⟨n1,0,none⟩) 2 1,.func (.func 55) #[] #[vP n2 0,vP n3 0]]) (fv:=.func (.func 68) #[] #[]) rfl rfl rfl rfl rfl rfl (.cons rfl rfl (by simp [undef]) (.cons rfl rfl (by simp [undef]) .nil)) rfl ?_
 refine WV.mono (wv_f0 Try.call68 (gas_ix2 x0 x1 n1 n2 n3 lo hi _ wt hkn1 (by omega) hkn2 (by omega) hkn3 (by omega))) ?_
 rintro v105 H106 ⟨k107,w101,ri102,rfl,f103,f104⟩
 refine kpL k107 fun n109 l108 => ?_
 by_cases c110:ri102 ≥ 0
 ·
  refine sv (v:=.bool true) rfl rfl rfl (opv_bin rfl rfl rfl rfl rfl (cmpT rfl c110)) rfl ?_
  refine mv (.bool true) rfl rfl ?_
  refine wo_nil (tq_n (wk ⟨[(4,.bool true)],9,[],H106⟩ rfl ?_))
  refine w_ret ?_
  refine ⟨.inr rfl,rfl,[.bool true],.cons (resV_tmp rfl (by simp [undef])) .nil,((KeepX.refl (fun _ => False) H).keep k107).k (fun _ h => h.elim),w101,true,rfl,(.inl ⟨rfl,by omega⟩)⟩
 ·
  refine sv (v:=.bool false) rfl rfl rfl (opv_bin rfl rfl rfl rfl rfl (cmpF rfl c110)) rfl ?_
  refine mv (.bool false) rfl rfl ?_
  refine wo_nil (tq_n (wk ⟨[(4,.bool false)],9,[],H106⟩ rfl ?_))
  refine w_ret ?_
  refine ⟨.inr rfl,rfl,[.bool false],.cons (resV_tmp rfl (by simp [undef])) .nil,((KeepX.refl (fun _ => False) H).keep k107).k (fun _ h => h.elim),w101,false,rfl,(.inr ⟨rfl,by omega⟩)⟩

theorem gas_out_2 (x0 x1:Int) (lo hi:Int) (n1:Nat) (H:SH) (wt:WT H) (hkn1:H.get n1=some (.row #[vI x0,vI x1] .raw)) (hln1:n1 < H.next):WC Try.prog 30 [vI lo,vI hi,.slice (some ⟨n1,0,none⟩) 2 1] H (fun v H' => Keep H H'∧WT H'∧∃ (rb:Bool),v=(.bool rb)∧((rb=true∧(¬ ((lo ≤ x0∧x0 ≤ hi)∧(lo ≤ x1∧x1 ≤ hi))))∨(rb=false∧¬ (¬ ((lo ≤ x0∧x0 ≤ hi)∧(lo ≤ x1∧x1 ≤ hi)))))):=by
 refine wc_of_body Try.func30 rfl ?_
 refine wk ⟨[(0,vI lo),(1,vI hi),(2,.slice (some ⟨n1,0,none⟩) 2 1)],10,[],H⟩ rfl ?_
 refine w_seq (w_region (sv_new (H:=H) (v:=vP H.next 0) (x:=.row #[vI lo] .raw) rfl rfl rfl rfl (opv_boxE (v:=vI lo) rfl rfl rfl neI rfl) ?_))
 intro H101 f102
 refine newL wt f102 fun n105 w103 l104 => ?_
 refine sv_new (H:=H101) (v:=vP H101.next 0) (x:=.row #[vI hi] .raw) rfl rfl rfl rfl (opv_boxE (v:=vI hi) rfl rfl rfl neI rfl) ?_
 intro H106 f107
 refine newL w103 f107 fun n110 w108 l109 => ?_
 refine mv (.bool false) rfl rfl ?_
 refine wo_nil (tq_n (wk ⟨[(2,.slice (some ⟨n1,0,none⟩) 2 1),(3,vP H.next 0),(4,vP H101.next 0)],10,[],H106⟩ rfl ?_))
 refine w_seq (w_region (mv (.slice (some ⟨n1,0,none⟩) 2 1) rfl rfl ?_))
 refine sv (v:=.func (.func 55) #[] #[vP H.next 0,vP H101.next 0]) rfl rfl rfl (opv_makeFunc (vs:=[]) (us:=[vP H.next 0,vP H101.next 0]) rfl (.func _) .nil (.cons rfl rfl neP (.cons rfl rfl neP .nil))) rfl ?_
 refine sc_ (H:=H106) (vs:=[.slice (some ⟨n1,0,none⟩) 2 1,.func (.func 55) #[] #[vP H.next 0,vP H101.next 0]]) (fv:=.func (.func 54) #[] #[]) rfl rfl rfl rfl rfl rfl (.cons rfl rfl (by simp [undef]) (.cons rfl rfl (by simp [undef]) .nil)) rfl ?_
 refine WV.mono (wv_f0 Try.call54 (gas_cf2 x0 x1 n1 H.next H101.next lo hi _ w108 ((f107.get n1 (by omega)).trans ((f102.get n1 (by omega)).trans hkn1)) (by omega) ((f107.get H.next (by omega)).trans f102.blk) (by omega) f107.blk (by omega))) ?_
 rintro v114 H115 ⟨k116,w111,rb112,rfl,f113⟩
 refine kpL k116 fun n118 l117 => ?_
 refine mv (.bool rb112) rfl rfl ?_
 refine wo_nil (tq_n (wk ⟨[(6,.bool rb112)],10,[],H115⟩ rfl ?_))
 refine w_ret ?_
 rcases f113 with ⟨rfl,f113⟩ | ⟨rfl,f113⟩
 ·
  refine ⟨.inr rfl,rfl,[.bool true],.cons (resV_tmp rfl (by simp [undef])) .nil,((((KeepX.refl (fun _ => False) H).new_ f102).new_ f107).keep k116).k (fun _ h => h.elim),w111,true,rfl,(.inl ⟨rfl,by omega⟩)⟩
 ·
  refine ⟨.inr rfl,rfl,[.bool false],.cons (resV_tmp rfl (by simp [undef])) .nil,((((KeepX.refl (fun _ => False) H).new_ f102).new_ f107).keep k116).k (fun _ h => h.elim),w111,false,rfl,(.inr ⟨rfl,by omega⟩)⟩

theorem gas_ix3 (x0 x1 x2:Int) (n1 n2 n3:Nat) (lo hi:Int) (H:SH) (wt:WT H) (hkn1:H.get n1=some (.row #[vI x0,vI x1,vI x2] .raw)) (hln1:n1 < H.next) (hkn2:H.get n2=some (.row #[vI lo] .raw)) (hln2:n2 < H.next) (hkn3:H.get n3=some (.row #[vI hi] .raw)) (hln3:n3 < H.next):WC Try.prog 68 [.slice (some ⟨n1,0,none⟩) 3 1,.func (.func 55) #[] #[vP n2 0,vP n3 0]] H (fun v H' => Keep H H'∧WT H'∧∃ (ri:Int),v=(vI ri)∧(ri < 0→(lo ≤ x0∧x0 ≤ hi)∧(lo ≤ x1∧x1 ≤ hi)∧(lo ≤ x2∧x2 ≤ hi))∧(0 ≤ ri→¬ ((lo ≤ x0∧x0 ≤ hi)∧(lo ≤ x1∧x1 ≤ hi)∧(lo ≤ x2∧x2 ≤ hi)))):=by
 refine wc_of_body Try.func68 rfl ?_
 refine wk ⟨[(0,.slice (some ⟨n1,0,none⟩) 3 1),(1,.func (.func 55) #[] #[vP n2 0,vP n3 0])],19,[],H⟩ rfl ?_
 refine w_seq (w_region (mv (vI 0) rfl rfl ?_))
 refine wo_nil (tq_n (wk ⟨[(0,.slice (some ⟨n1,0,none⟩) 3 1),(1,.func (.func 55) #[] #[vP n2 0,vP n3 0])],19,[],H⟩ rfl ?_))
 refine w_seq (w_seq (w_region (mv (.slice (some ⟨n1,0,none⟩) 3 1) rfl rfl ?_)))
 refine sv (v:=vI 3) rfl rfl rfl (opv_len_slice rfl rfl rfl Try.underlying31) rfl ?_
 refine mv (vI 0) rfl rfl ?_
 refine wo_nil (tq_n (wk ⟨[(0,.slice (some ⟨n1,0,none⟩) 3 1),(1,.func (.func 55) #[] #[vP n2 0,vP n3 0]),(7,vI 3),(8,vI 0)],19,[],H⟩ rfl ?_))
 refine w_block (w_loopU (wl_step ?_))
 refine w_seq (w_region (sv (v:=.bool true) rfl rfl rfl (opv_bin rfl rfl rfl rfl rfl (cmpT rfl (by decide))) rfl ?_))
 refine wo_nil (tq_n (wk ⟨[(0,.slice (some ⟨n1,0,none⟩) 3 1),(1,.func (.func 55) #[] #[vP n2 0,vP n3 0]),(7,vI 3),(8,vI 0),(9,.bool true)],19,[],H⟩ rfl ?_))
 refine w_seq (w_cond (t:=true) rfl rfl (fun _ => ?_) (fun h => by cases h))
 refine w_skip (tq_n (wk ⟨[(0,.slice (some ⟨n1,0,none⟩) 3 1),(1,.func (.func 55) #[] #[vP n2 0,vP n3 0]),(7,vI 3),(8,vI 0)],19,[],H⟩ rfl ?_))
 refine w_seq (w_block (w_seq (w_region (mv (vI 0) rfl rfl ?_))))
 refine mv (vI 0) rfl rfl ?_
 refine wo_nil (tq_n (wk ⟨[(0,.slice (some ⟨n1,0,none⟩) 3 1),(1,.func (.func 55) #[] #[vP n2 0,vP n3 0]),(5,vI 0),(7,vI 3),(8,vI 0)],19,[],H⟩ rfl ?_))
 refine w_seq (w_region (mv (.func (.func 55) #[] #[vP n2 0,vP n3 0]) rfl rfl ?_))
 refine mv (.slice (some ⟨n1,0,none⟩) 3 1) rfl rfl ?_
 refine mv (vI 0) rfl rfl ?_
 refine sv (v:=vP n1 0) rfl rfl rfl (opv_indexAddrE rfl rfl rfl rfl rfl Try.underlying31 sz3 (by decide) (by decide) rfl) rfl ?_
 refine sv (v:=vI x0) rfl rfl rfl (opv_loadE rfl rfl rfl ag3 sz3 hkn1 rfl (.inr rfl) rfl) rfl ?_
 refine sc_ (H:=H) (vs:=[vI x0]) (fv:=.func (.func 55) #[] #[vP n2 0,vP n3 0]) rfl rfl rfl rfl rfl rfl (.cons rfl rfl neI .nil) rfl ?_
 refine WV.mono (wv_fc (cap:=[vP n2 0,vP n3 0]) Try.call55 (gas_out1 x0 n2 n3 lo hi _ wt hkn2 (by omega) hkn3 (by omega))) ?_
 rintro v104 H105 ⟨k106,w101,rb102,rfl,f103⟩
 refine kpL k106 fun n108 l107 => ?_
 refine wo_nil (tq_n (wk ⟨[(0,.slice (some ⟨n1,0,none⟩) 3 1),(1,.func (.func 55) #[] #[vP n2 0,vP n3 0]),(5,vI 0),(7,vI 3),(8,vI 0),(16,.bool rb102)],19,[],H105⟩ rfl ?_))
 rcases f103 with ⟨rfl,f103⟩ | ⟨rfl,f103⟩
 ·
  refine w_cond (t:=true) rfl rfl (fun _ => ?_) (fun h => by cases h)
  refine w_seq (w_region (mv (vI 0) rfl rfl ?_))
  refine mv (vI 0) rfl rfl ?_
  refine wo_nil (tq_n (wk ⟨[(4,vI 0)],19,[],H105⟩ rfl ?_))
  refine w_ret ?_
  try refine q_eq (e':=.ret) rfl ?_
  refine tq_r (tq_r ?_)
  try refine q_eq (e':=.ret) rfl ?_
  refine tq_r ?_
  refine ⟨.inr rfl,rfl,[vI 0],.cons (resV_tmp rfl neI) .nil,((KeepX.refl (fun _ => False) H).keep k106).k (fun _ h => h.elim),w101,0,rfl,?_,?_⟩
  · omega
  · omega
 ·
  refine w_cond (t:=false) rfl rfl (fun h => by cases h) (fun _ => ?_)
  refine w_skip ?_
  try refine q_eq (e':=.normal) rfl ?_
  refine tqk ⟨[(0,.slice (some ⟨n1,0,none⟩) 3 1),(1,.func (.func 55) #[] #[vP n2 0,vP n3 0]),(7,vI 3),(8,vI 0)],19,[],H105⟩ rfl ?_
  refine w_region (sv (v:=vI 1) rfl rfl rfl (opv_bin rfl rfl rfl rfl rfl rfl) rfl ?_)
  refine mv (vI 1) rfl rfl ?_
  refine wo_nil (tq_n (wl_norm (g:=[(0,.slice (some ⟨n1,0,none⟩) 3 1),(1,.func (.func 55) #[] #[vP n2 0,vP n3 0]),(7,vI 3),(8,vI 1)]) (n:=19) (ds:=[]) (H:=H105) (lsub_cons rfl (lsub_cons rfl (lsub_cons rfl (lsub_cons rfl (lsub_nil _))))) rfl rfl rfl ?_))
  refine w_seq (w_region (sv (v:=.bool true) rfl rfl rfl (opv_bin rfl rfl rfl rfl rfl (cmpT rfl (by decide))) rfl ?_))
  refine wo_nil (tq_n (wk ⟨[(0,.slice (some ⟨n1,0,none⟩) 3 1),(1,.func (.func 55) #[] #[vP n2 0,vP n3 0]),(7,vI 3),(8,vI 1),(9,.bool true)],19,[],H105⟩ rfl ?_))
  refine w_seq (w_cond (t:=true) rfl rfl (fun _ => ?_) (fun h => by cases h))
  refine w_skip (tq_n (wk ⟨[(0,.slice (some ⟨n1,0,none⟩) 3 1),(1,.func (.func 55) #[] #[vP n2 0,vP n3 0]),(7,vI 3),(8,vI 1)],19,[],H105⟩ rfl ?_))
  refine w_seq (w_block (w_seq (w_region (mv (vI 1) rfl rfl ?_))))
  refine mv (vI 1) rfl rfl ?_
  refine wo_nil (tq_n (wk ⟨[(0,.slice (some ⟨n1,0,none⟩) 3 1),(1,.func (.func 55) #[] #[vP n2 0,vP n3 0]),(5,vI 1),(7,vI 3),(8,vI 1)],19,[],H105⟩ rfl ?_))
  refine w_seq (w_region (mv (.func (.func 55) #[] #[vP n2 0,vP n3 0]) rfl rfl ?_))
  refine mv (.slice (some ⟨n1,0,none⟩) 3 1) rfl rfl ?_
  refine mv (vI 1) rfl rfl ?_
  refine sv (v:=vP n1 1) rfl rfl rfl (opv_indexAddrE rfl rfl rfl rfl rfl Try.underlying31 sz3 (by decide) (by decide) rfl) rfl ?_
  refine sv (v:=vI x1) rfl rfl rfl (opv_loadE rfl rfl rfl ag3 sz3 ((k106.get n1 (by omega)).trans hkn1) rfl (.inr rfl) rfl) rfl ?_
  refine sc_ (H:=H105) (vs:=[vI x1]) (fv:=.func (.func 55) #[] #[vP n2 0,vP n3 0]) rfl rfl rfl rfl rfl rfl (.cons rfl rfl neI .nil) rfl ?_
  refine WV.mono (wv_fc (cap:=[vP n2 0,vP n3 0]) Try.call55 (gas_out1 x1 n2 n3 lo hi _ w101 ((k106.get n2 (by omega)).trans hkn2) (by omega) ((k106.get n3 (by omega)).trans hkn3) (by omega))) ?_
  rintro v112 H113 ⟨k114,w109,rb110,rfl,f111⟩
  refine kpL k114 fun n116 l115 => ?_
  refine wo_nil (tq_n (wk ⟨[(0,.slice (some ⟨n1,0,none⟩) 3 1),(1,.func (.func 55) #[] #[vP n2 0,vP n3 0]),(5,vI 1),(7,vI 3),(8,vI 1),(16,.bool rb110)],19,[],H113⟩ rfl ?_))
  rcases f111 with ⟨rfl,f111⟩ | ⟨rfl,f111⟩
  ·
   refine w_cond (t:=true) rfl rfl (fun _ => ?_) (fun h => by cases h)
   refine w_seq (w_region (mv (vI 1) rfl rfl ?_))
   refine mv (vI 1) rfl rfl ?_
   refine wo_nil (tq_n (wk ⟨[(4,vI 1)],19,[],H113⟩ rfl ?_))
   refine w_ret ?_
   try refine q_eq (e':=.ret) rfl ?_
   refine tq_r (tq_r ?_)
   try refine q_eq (e':=.ret) rfl ?_
   refine tq_r ?_
   refine ⟨.inr rfl,rfl,[vI 1],.cons (resV_tmp rfl neI) .nil,(((KeepX.refl (fun _ => False) H).keep k106).keep k114).k (fun _ h => h.elim),w109,1,rfl,?_,?_⟩
   · omega
   · omega
  ·
   refine w_cond (t:=false) rfl rfl (fun h => by cases h) (fun _ => ?_)
   refine w_skip ?_
   try refine q_eq (e':=.normal) rfl ?_
   refine tqk ⟨[(0,.slice (some ⟨n1,0,none⟩) 3 1),(1,.func (.func 55) #[] #[vP n2 0,vP n3 0]),(7,vI 3),(8,vI 1)],19,[],H113⟩ rfl ?_
   refine w_region (sv (v:=vI 2) rfl rfl rfl (opv_bin rfl rfl rfl rfl rfl rfl) rfl ?_)
   refine mv (vI 2) rfl rfl ?_
   refine wo_nil (tq_n (wl_norm (g:=[(0,.slice (some ⟨n1,0,none⟩) 3 1),(1,.func (.func 55) #[] #[vP n2 0,vP n3 0]),(7,vI 3),(8,vI 2)]) (n:=19) (ds:=[]) (H:=H113) (lsub_cons rfl (lsub_cons rfl (lsub_cons rfl (lsub_cons rfl (lsub_nil _))))) rfl rfl rfl ?_))
   refine w_seq (w_region (sv (v:=.bool true) rfl rfl rfl (opv_bin rfl rfl rfl rfl rfl (cmpT rfl (by decide))) rfl ?_))
   refine wo_nil (tq_n (wk ⟨[(0,.slice (some ⟨n1,0,none⟩) 3 1),(1,.func (.func 55) #[] #[vP n2 0,vP n3 0]),(7,vI 3),(8,vI 2),(9,.bool true)],19,[],H113⟩ rfl ?_))
   refine w_seq (w_cond (t:=true) rfl rfl (fun _ => ?_) (fun h => by cases h))
   refine w_skip (tq_n (wk ⟨[(0,.slice (some ⟨n1,0,none⟩) 3 1),(1,.func (.func 55) #[] #[vP n2 0,vP n3 0]),(7,vI 3),(8,vI 2)],19,[],H113⟩ rfl ?_))
   refine w_seq (w_block (w_seq (w_region (mv (vI 2) rfl rfl ?_))))
   refine mv (vI 2) rfl rfl ?_
   refine wo_nil (tq_n (wk ⟨[(0,.slice (some ⟨n1,0,none⟩) 3 1),(1,.func (.func 55) #[] #[vP n2 0,vP n3 0]),(5,vI 2),(7,vI 3),(8,vI 2)],19,[],H113⟩ rfl ?_))
   refine w_seq (w_region (mv (.func (.func 55) #[] #[vP n2 0,vP n3 0]) rfl rfl ?_))
   refine mv (.slice (some ⟨n1,0,none⟩) 3 1) rfl rfl ?_
   refine mv (vI 2) rfl rfl ?_
   refine sv (v:=vP n1 2) rfl rfl rfl (opv_indexAddrE rfl rfl rfl rfl rfl Try.underlying31 sz3 (by decide) (by decide) rfl) rfl ?_
   refine sv (v:=vI x2) rfl rfl rfl (opv_loadE rfl rfl rfl ag3 sz3 ((k114.get n1 (by omega)).trans ((k106.get n1 (by omega)).trans hkn1)) rfl (.inr rfl) rfl) rfl ?_
   refine sc_ (H:=H113) (vs:=[vI x2]) (fv:=.func (.func 55) #[] #[vP n2 0,vP n3 0]) rfl rfl rfl rfl rfl rfl (.cons rfl rfl neI .nil) rfl ?_
   refine WV.mono (wv_fc (cap:=[vP n2 0,vP n3 0]) Try.call55 (gas_out1 x2 n2 n3 lo hi _ w109 ((k114.get n2 (by omega)).trans ((k106.get n2 (by omega)).trans hkn2)) (by omega) ((k114.get n3 (by omega)).trans ((k106.get n3 (by omega)).trans hkn3)) (by omega))) ?_
   rintro v120 H121 ⟨k122,w117,rb118,rfl,f119⟩
   refine kpL k122 fun n124 l123 => ?_
   refine wo_nil (tq_n (wk ⟨[(0,.slice (some ⟨n1,0,none⟩) 3 1),(1,.func (.func 55) #[] #[vP n2 0,vP n3 0]),(5,vI 2),(7,vI 3),(8,vI 2),(16,.bool rb118)],19,[],H121⟩ rfl ?_))
   rcases f119 with ⟨rfl,f119⟩ | ⟨rfl,f119⟩
   ·
    refine w_cond (t:=true) rfl rfl (fun _ => ?_) (fun h => by cases h)
    refine w_seq (w_region (mv (vI 2) rfl rfl ?_))
    refine mv (vI 2) rfl rfl ?_
    refine wo_nil (tq_n (wk ⟨[(4,vI 2)],19,[],H121⟩ rfl ?_))
    refine w_ret ?_
    try refine q_eq (e':=.ret) rfl ?_
    refine tq_r (tq_r ?_)
    try refine q_eq (e':=.ret) rfl ?_
    refine tq_r ?_
    refine ⟨.inr rfl,rfl,[vI 2],.cons (resV_tmp rfl neI) .nil,((((KeepX.refl (fun _ => False) H).keep k106).keep k114).keep k122).k (fun _ h => h.elim),w117,2,rfl,?_,?_⟩
    · omega
    · omega
   ·
    refine w_cond (t:=false) rfl rfl (fun h => by cases h) (fun _ => ?_)
    refine w_skip ?_
    try refine q_eq (e':=.normal) rfl ?_
    refine tqk ⟨[(0,.slice (some ⟨n1,0,none⟩) 3 1),(1,.func (.func 55) #[] #[vP n2 0,vP n3 0]),(7,vI 3),(8,vI 2)],19,[],H121⟩ rfl ?_
    refine w_region (sv (v:=vI 3) rfl rfl rfl (opv_bin rfl rfl rfl rfl rfl rfl) rfl ?_)
    refine mv (vI 3) rfl rfl ?_
    refine wo_nil (tq_n (wl_norm (g:=[(0,.slice (some ⟨n1,0,none⟩) 3 1),(1,.func (.func 55) #[] #[vP n2 0,vP n3 0]),(7,vI 3),(8,vI 3)]) (n:=19) (ds:=[]) (H:=H121) (lsub_cons rfl (lsub_cons rfl (lsub_cons rfl (lsub_cons rfl (lsub_nil _))))) rfl rfl rfl ?_))
    refine w_seq (w_region (sv (v:=.bool false) rfl rfl rfl (opv_bin rfl rfl rfl rfl rfl (cmpF rfl (by decide))) rfl ?_))
    refine wo_nil (tq_n (wk ⟨[(0,.slice (some ⟨n1,0,none⟩) 3 1),(1,.func (.func 55) #[] #[vP n2 0,vP n3 0]),(7,vI 3),(8,vI 3),(9,.bool false)],19,[],H121⟩ rfl ?_))
    refine w_seq (w_cond (t:=false) rfl rfl (fun h => by cases h) (fun _ => ?_))
    refine w_exit (tq_e (tq_e ?_))
    try refine q_eq (e':=.normal) rfl ?_
    refine tqk ⟨[],19,[],H121⟩ rfl ?_
    refine w_seq (w_region (mv (vI (-1)) rfl rfl ?_))
    refine wo_nil (tq_n (wk ⟨[(4,vI (-1))],19,[],H121⟩ rfl ?_))
    refine w_ret ?_
    refine ⟨.inr rfl,rfl,[vI (-1)],.cons (resV_tmp rfl neI) .nil,((((KeepX.refl (fun _ => False) H).keep k106).keep k114).keep k122).k (fun _ h => h.elim),w117,-1,rfl,?_,?_⟩
    · omega
    · omega

theorem gas_cf3 (x0 x1 x2:Int) (n1 n2 n3:Nat) (lo hi:Int) (H:SH) (wt:WT H) (hkn1:H.get n1=some (.row #[vI x0,vI x1,vI x2] .raw)) (hln1:n1 < H.next) (hkn2:H.get n2=some (.row #[vI lo] .raw)) (hln2:n2 < H.next) (hkn3:H.get n3=some (.row #[vI hi] .raw)) (hln3:n3 < H.next):WC Try.prog 54 [.slice (some ⟨n1,0,none⟩) 3 1,.func (.func 55) #[] #[vP n2 0,vP n3 0]] H (fun v H' => Keep H H'∧WT H'∧∃ (rb:Bool),v=(.bool rb)∧((rb=true∧(¬ ((lo ≤ x0∧x0 ≤ hi)∧(lo ≤ x1∧x1 ≤ hi)∧(lo ≤ x2∧x2 ≤ hi))))∨(rb=false∧¬ (¬ ((lo ≤ x0∧x0 ≤ hi)∧(lo ≤ x1∧x1 ≤ hi)∧(lo ≤ x2∧x2 ≤ hi)))))):=by
 refine wc_of_body Try.func54 rfl ?_
 refine wk ⟨[(0,.slice (some ⟨n1,0,none⟩) 3 1),(1,.func (.func 55) #[] #[vP n2 0,vP n3 0])],9,[],H⟩ rfl ?_
 refine w_seq (w_region (mv (.bool false) rfl rfl ?_))
 refine wo_nil (tq_n (wk ⟨[(0,.slice (some ⟨n1,0,none⟩) 3 1),(1,.func (.func 55) #[] #[vP n2 0,vP n3 0])],9,[],H⟩ rfl ?_))
 refine w_seq (w_region (mv (.slice (some ⟨n1,0,none⟩) 3 1) rfl rfl ?_))
 refine mv (.func (.func 55) #[] #[vP n2 0,vP n3 0]) rfl rfl ?_
 refine sc_ (H:=H) (vs:=[.slice (some ⟨n1,0,none⟩) 3 1,.func (.func 55) #[] #[vP n2 0,vP n3 0]]) (fv:=.func (.func 68) #[] #[]) rfl rfl rfl rfl rfl rfl (.cons rfl rfl (by simp [undef]) (.cons rfl rfl (by simp [undef]) .nil)) rfl ?_
 refine WV.mono (wv_f0 Try.call68 (gas_ix3 x0 x1 x2 n1 n2 n3 lo hi _ wt hkn1 (by omega) hkn2 (by omega) hkn3 (by omega))) ?_
 rintro v105 H106 ⟨k107,w101,ri102,rfl,f103,f104⟩
 refine kpL k107 fun n109 l108 => ?_
 by_cases c110:ri102 ≥ 0
 ·
  refine sv (v:=.bool true) rfl rfl rfl (opv_bin rfl rfl rfl rfl rfl (cmpT rfl c110)) rfl ?_
  refine mv (.bool true) rfl rfl ?_
  refine wo_nil (tq_n (wk ⟨[(4,.bool true)],9,[],H106⟩ rfl ?_))
  refine w_ret ?_
  refine ⟨.inr rfl,rfl,[.bool true],.cons (resV_tmp rfl (by simp [undef])) .nil,((KeepX.refl (fun _ => False) H).keep k107).k (fun _ h => h.elim),w101,true,rfl,(.inl ⟨rfl,by omega⟩)⟩
 ·
  refine sv (v:=.bool false) rfl rfl rfl (opv_bin rfl rfl rfl rfl rfl (cmpF rfl c110)) rfl ?_
  refine mv (.bool false) rfl rfl ?_
  refine wo_nil (tq_n (wk ⟨[(4,.bool false)],9,[],H106⟩ rfl ?_))
  refine w_ret ?_
  refine ⟨.inr rfl,rfl,[.bool false],.cons (resV_tmp rfl (by simp [undef])) .nil,((KeepX.refl (fun _ => False) H).keep k107).k (fun _ h => h.elim),w101,false,rfl,(.inr ⟨rfl,by omega⟩)⟩

theorem gas_out_3 (x0 x1:Int) (x2 lo hi:Int) (n1:Nat) (H:SH) (wt:WT H) (hkn1:H.get n1=some (.row #[vI x0,vI x1,vI x2] .raw)) (hln1:n1 < H.next):WC Try.prog 30 [vI lo,vI hi,.slice (some ⟨n1,0,none⟩) 3 1] H (fun v H' => Keep H H'∧WT H'∧∃ (rb:Bool),v=(.bool rb)∧((rb=true∧(¬ ((lo ≤ x0∧x0 ≤ hi)∧(lo ≤ x1∧x1 ≤ hi)∧(lo ≤ x2∧x2 ≤ hi))))∨(rb=false∧¬ (¬ ((lo ≤ x0∧x0 ≤ hi)∧(lo ≤ x1∧x1 ≤ hi)∧(lo ≤ x2∧x2 ≤ hi)))))):=by
 refine wc_of_body Try.func30 rfl ?_
 refine wk ⟨[(0,vI lo),(1,vI hi),(2,.slice (some ⟨n1,0,none⟩) 3 1)],10,[],H⟩ rfl ?_
 refine w_seq (w_region (sv_new (H:=H) (v:=vP H.next 0) (x:=.row #[vI lo] .raw) rfl rfl rfl rfl (opv_boxE (v:=vI lo) rfl rfl rfl neI rfl) ?_))
 intro H101 f102
 refine newL wt f102 fun n105 w103 l104 => ?_
 refine sv_new (H:=H101) (v:=vP H101.next 0) (x:=.row #[vI hi] .raw) rfl rfl rfl rfl (opv_boxE (v:=vI hi) rfl rfl rfl neI rfl) ?_
 intro H106 f107
 refine newL w103 f107 fun n110 w108 l109 => ?_
 refine mv (.bool false) rfl rfl ?_
 refine wo_nil (tq_n (wk ⟨[(2,.slice (some ⟨n1,0,none⟩) 3 1),(3,vP H.next 0),(4,vP H101.next 0)],10,[],H106⟩ rfl ?_))
 refine w_seq (w_region (mv (.slice (some ⟨n1,0,none⟩) 3 1) rfl rfl ?_))
 refine sv (v:=.func (.func 55) #[] #[vP H.next 0,vP H101.next 0]) rfl rfl rfl (opv_makeFunc (vs:=[]) (us:=[vP H.next 0,vP H101.next 0]) rfl (.func _) .nil (.cons rfl rfl neP (.cons rfl rfl neP .nil))) rfl ?_
 refine sc_ (H:=H106) (vs:=[.slice (some ⟨n1,0,none⟩) 3 1,.func (.func 55) #[] #[vP H.next 0,vP H101.next 0]]) (fv:=.func (.func 54) #[] #[]) rfl rfl rfl rfl rfl rfl (.cons rfl rfl (by simp [undef]) (.cons rfl rfl (by simp [undef]) .nil)) rfl ?_
 refine WV.mono (wv_f0 Try.call54 (gas_cf3 x0 x1 x2 n1 H.next H101.next lo hi _ w108 ((f107.get n1 (by omega)).trans ((f102.get n1 (by omega)).trans hkn1)) (by omega) ((f107.get H.next (by omega)).trans f102.blk) (by omega) f107.blk (by omega))) ?_
 rintro v114 H115 ⟨k116,w111,rb112,rfl,f113⟩
 refine kpL k116 fun n118 l117 => ?_
 refine mv (.bool rb112) rfl rfl ?_
 refine wo_nil (tq_n (wk ⟨[(6,.bool rb112)],10,[],H115⟩ rfl ?_))
 refine w_ret ?_
 rcases f113 with ⟨rfl,f113⟩ | ⟨rfl,f113⟩
 ·
  refine ⟨.inr rfl,rfl,[.bool true],.cons (resV_tmp rfl (by simp [undef])) .nil,((((KeepX.refl (fun _ => False) H).new_ f102).new_ f107).keep k116).k (fun _ h => h.elim),w111,true,rfl,(.inl ⟨rfl,by omega⟩)⟩
 ·
  refine ⟨.inr rfl,rfl,[.bool false],.cons (resV_tmp rfl (by simp [undef])) .nil,((((KeepX.refl (fun _ => False) H).new_ f102).new_ f107).keep k116).k (fun _ h => h.elim),w111,false,rfl,(.inr ⟨rfl,by omega⟩)⟩

theorem gas_ix4 (x0 x1:Int) (x2 x3:Int) (n1 n2 n3:Nat) (lo hi:Int) (H:SH) (wt:WT H) (hkn1:H.get n1=some (.row #[vI x0,vI x1,vI x2,vI x3] .raw)) (hln1:n1 < H.next) (hkn2:H.get n2=some (.row #[vI lo] .raw)) (hln2:n2 < H.next) (hkn3:H.get n3=some (.row #[vI hi] .raw)) (hln3:n3 < H.next):WC Try.prog 68 [.slice (some ⟨n1,0,none⟩) 4 1,.func (.func 55) #[] #[vP n2 0,vP n3 0]] H (fun v H' => Keep H H'∧WT H'∧∃ (ri:Int),v=(vI ri)∧(ri < 0→(lo ≤ x0∧x0 ≤ hi)∧(lo ≤ x1∧x1 ≤ hi)∧(lo ≤ x2∧x2 ≤ hi)∧(lo ≤ x3∧x3 ≤ hi))∧(0 ≤ ri→¬ ((lo ≤ x0∧x0 ≤ hi)∧(lo ≤ x1∧x1 ≤ hi)∧(lo ≤ x2∧x2 ≤ hi)∧(lo ≤ x3∧x3 ≤ hi)))):=by
 refine wc_of_body Try.func68 rfl ?_
 refine wk ⟨[(0,.slice (some ⟨n1,0,none⟩) 4 1),(1,.func (.func 55) #[] #[vP n2 0,vP n3 0])],19,[],H⟩ rfl ?_
 refine w_seq (w_region (mv (vI 0) rfl rfl ?_))
 refine wo_nil (tq_n (wk ⟨[(0,.slice (some ⟨n1,0,none⟩) 4 1),(1,.func (.func 55) #[] #[vP n2 0,vP n3 0])],19,[],H⟩ rfl ?_))
 refine w_seq (w_seq (w_region (mv (.slice (some ⟨n1,0,none⟩) 4 1) rfl rfl ?_)))
 refine sv (v:=vI 4) rfl rfl rfl (opv_len_slice rfl rfl rfl Try.underlying31) rfl ?_
 refine mv (vI 0) rfl rfl ?_
 refine wo_nil (tq_n (wk ⟨[(0,.slice (some ⟨n1,0,none⟩) 4 1),(1,.func (.func 55) #[] #[vP n2 0,vP n3 0]),(7,vI 4),(8,vI 0)],19,[],H⟩ rfl ?_))
 refine w_block (w_loopU (wl_step ?_))
 refine w_seq (w_region (sv (v:=.bool true) rfl rfl rfl (opv_bin rfl rfl rfl rfl rfl (cmpT rfl (by decide))) rfl ?_))
 refine wo_nil (tq_n (wk ⟨[(0,.slice (some ⟨n1,0,none⟩) 4 1),(1,.func (.func 55) #[] #[vP n2 0,vP n3 0]),(7,vI 4),(8,vI 0),(9,.bool true)],19,[],H⟩ rfl ?_))
 refine w_seq (w_cond (t:=true) rfl rfl (fun _ => ?_) (fun h => by cases h))
 refine w_skip (tq_n (wk ⟨[(0,.slice (some ⟨n1,0,none⟩) 4 1),(1,.func (.func 55) #[] #[vP n2 0,vP n3 0]),(7,vI 4),(8,vI 0)],19,[],H⟩ rfl ?_))
 refine w_seq (w_block (w_seq (w_region (mv (vI 0) rfl rfl ?_))))
 refine mv (vI 0) rfl rfl ?_
 refine wo_nil (tq_n (wk ⟨[(0,.slice (some ⟨n1,0,none⟩) 4 1),(1,.func (.func 55) #[] #[vP n2 0,vP n3 0]),(5,vI 0),(7,vI 4),(8,vI 0)],19,[],H⟩ rfl ?_))
 refine w_seq (w_region (mv (.func (.func 55) #[] #[vP n2 0,vP n3 0]) rfl rfl ?_))
 refine mv (.slice (some ⟨n1,0,none⟩) 4 1) rfl rfl ?_
 refine mv (vI 0) rfl rfl ?_
 refine sv (v:=vP n1 0) rfl rfl rfl (opv_indexAddrE rfl rfl rfl rfl rfl Try.underlying31 sz3 (by decide) (by decide) rfl) rfl ?_
 refine sv (v:=vI x0) rfl rfl rfl (opv_loadE rfl rfl rfl ag3 sz3 hkn1 rfl (.inr rfl) rfl) rfl ?_
 refine sc_ (H:=H) (vs:=[vI x0]) (fv:=.func (.func 55) #[] #[vP n2 0,vP n3 0]) rfl rfl rfl rfl rfl rfl (.cons rfl rfl neI .nil) rfl ?_
 refine WV.mono (wv_fc (cap:=[vP n2 0,vP n3 0]) Try.call55 (gas_out1 x0 n2 n3 lo hi _ wt hkn2 (by omega) hkn3 (by omega))) ?_
 rintro v104 H105 ⟨k106,w101,rb102,rfl,f103⟩
 refine kpL k106 fun n108 l107 => ?_
 refine wo_nil (tq_n (wk ⟨[(0,.slice (some ⟨n1,0,none⟩) 4 1),(1,.func (.func 55) #[] #[vP n2 0,vP n3 0]),(5,vI 0),(7,vI 4),(8,vI 0),(16,.bool rb102)],19,[],H105⟩ rfl ?_))
 rcases f103 with ⟨rfl,f103⟩ | ⟨rfl,f103⟩
 ·
  refine w_cond (t:=true) rfl rfl (fun _ => ?_) (fun h => by cases h)
  refine w_seq (w_region (mv (vI 0) rfl rfl ?_))
  refine mv (vI 0) rfl rfl ?_
  refine wo_nil (tq_n (wk ⟨[(4,vI 0)],19,[],H105⟩ rfl ?_))
  refine w_ret ?_
  try refine q_eq (e':=.ret) rfl ?_
  refine tq_r (tq_r ?_)
  try refine q_eq (e':=.ret) rfl ?_
  refine tq_r ?_
  refine ⟨.inr rfl,rfl,[vI 0],.cons (resV_tmp rfl neI) .nil,((KeepX.refl (fun _ => False) H).keep k106).k (fun _ h => h.elim),w101,0,rfl,?_,?_⟩
  · omega
  · omega
 ·
  refine w_cond (t:=false) rfl rfl (fun h => by cases h) (fun _ => ?_)
  refine w_skip ?_
  try refine q_eq (e':=.normal) rfl ?_
  refine tqk ⟨[(0,.slice (some ⟨n1,0,none⟩) 4 1),(1,.func (.func 55) #[] #[vP n2 0,vP n3 0]),(7,vI 4),(8,vI 0)],19,[],H105⟩ rfl ?_
  refine w_region (sv (v:=vI 1) rfl rfl rfl (opv_bin rfl rfl rfl rfl rfl rfl) rfl ?_)
  refine mv (vI 1) rfl rfl ?_
  refine wo_nil (tq_n (wl_norm (g:=[(0,.slice (some ⟨n1,0,none⟩) 4 1),(1,.func (.func 55) #[] #[vP n2 0,vP n3 0]),(7,vI 4),(8,vI 1)]) (n:=19) (ds:=[]) (H:=H105) (lsub_cons rfl (lsub_cons rfl (lsub_cons rfl (lsub_cons rfl (lsub_nil _))))) rfl rfl rfl ?_))
  refine w_seq (w_region (sv (v:=.bool true) rfl rfl rfl (opv_bin rfl rfl rfl rfl rfl (cmpT rfl (by decide))) rfl ?_))
  refine wo_nil (tq_n (wk ⟨[(0,.slice (some ⟨n1,0,none⟩) 4 1),(1,.func (.func 55) #[] #[vP n2 0,vP n3 0]),(7,vI 4),(8,vI 1),(9,.bool true)],19,[],H105⟩ rfl ?_))
  refine w_seq (w_cond (t:=true) rfl rfl (fun _ => ?_) (fun h => by cases h))
  refine w_skip (tq_n (wk ⟨[(0,.slice (some ⟨n1,0,none⟩) 4 1),(1,.func (.func 55) #[] #[vP n2 0,vP n3 0]),(7,vI 4),(8,vI 1)],19,[],H105⟩ rfl ?_))
  refine w_seq (w_block (w_seq (w_region (mv (vI 1) rfl rfl ?_))))
  refine mv (vI 1) rfl rfl ?_
  refine wo_nil (tq_n (wk ⟨[(0,.slice (some ⟨n1,0,none⟩) 4 1),(1,.func (.func 55) #[] #[vP n2 0,vP n3 0]),(5,vI 1),(7,vI 4),(8,vI 1)],19,[],H105⟩ rfl ?_))
  refine w_seq (w_region (mv (.func (.func 55) #[] #[vP n2 0,vP n3 0]) rfl rfl ?_))
  refine mv (.slice (some ⟨n1,0,none⟩) 4 1) rfl rfl ?_
  refine mv (vI 1) rfl rfl ?_
  refine sv (v:=vP n1 1) rfl rfl rfl (opv_indexAddrE rfl rfl rfl rfl rfl Try.underlying31 sz3 (by decide) (by decide) rfl) rfl ?_
  refine sv (v:=vI x1) rfl rfl rfl (opv_loadE rfl rfl rfl ag3 sz3 ((k106.get n1 (by omega)).trans hkn1) rfl (.inr rfl) rfl) rfl ?_
  refine sc_ (H:=H105) (vs:=[vI x1]) (fv:=.func (.func 55) #[] #[vP n2 0,vP n3 0]) rfl rfl rfl rfl rfl rfl (.cons rfl rfl neI .nil) rfl ?_
  refine WV.mono (wv_fc (cap:=[vP n2 0,vP n3 0]) Try.call55 (gas_out1 x1 n2 n3 lo hi _ w101 ((k106.get n2 (by omega)).trans hkn2) (by omega) ((k106.get n3 (by omega)).trans hkn3) (by omega))) ?_
  rintro v112 H113 ⟨k114,w109,rb110,rfl,f111⟩
  refine kpL k114 fun n116 l115 => ?_
  refine wo_nil (tq_n (wk ⟨[(0,.slice (some ⟨n1,0,none⟩) 4 1),(1,.func (.func 55) #[] #[vP n2 0,vP n3 0]),(5,vI 1),(7,vI 4),(8,vI 1),(16,.bool rb110)],19,[],H113⟩ rfl ?_))
  rcases f111 with ⟨rfl,f111⟩ | ⟨rfl,f111⟩
  ·
   refine w_cond (t:=true) rfl rfl (fun _ => ?_) (fun h => by cases h)
   refine w_seq (w_region (mv (vI 1) rfl rfl ?_))
   refine mv (vI 1) rfl rfl ?_
   refine wo_nil (tq_n (wk ⟨[(4,vI 1)],19,[],H113⟩ rfl ?_))
   refine w_ret ?_
   try refine q_eq (e':=.ret) rfl ?_
   refine tq_r (tq_r ?_)
   try refine q_eq (e':=.ret) rfl ?_
   refine tq_r ?_
   refine ⟨.inr rfl,rfl,[vI 1],.cons (resV_tmp rfl neI) .nil,(((KeepX.refl (fun _ => False) H).keep k106).keep k114).k (fun _ h => h.elim),w109,1,rfl,?_,?_⟩
   · omega
   · omega
  ·
   refine w_cond (t:=false) rfl rfl (fun h => by cases h) (fun _ => ?_)
   refine w_skip ?_
   try refine q_eq (e':=.normal) rfl ?_
   refine tqk ⟨[(0,.slice (some ⟨n1,0,none⟩) 4 1),(1,.func (.func 55) #[] #[vP n2 0,vP n3 0]),(7,vI 4),(8,vI 1)],19,[],H113⟩ rfl ?_
   refine w_region (sv (v:=vI 2) rfl rfl rfl (opv_bin rfl rfl rfl rfl rfl rfl) rfl ?_)
   refine mv (vI 2) rfl rfl ?_
   refine wo_nil (tq_n (wl_norm (g:=[(0,.slice (some ⟨n1,0,none⟩) 4 1),(1,.func (.func 55) #[] #[vP n2 0,vP n3 0]),(7,vI 4),(8,vI 2)]) (n:=19) (ds:=[]) (H:=H113) (lsub_cons rfl (lsub_cons rfl (lsub_cons rfl (lsub_cons rfl (lsub_nil _))))) rfl rfl rfl ?_))
   refine w_seq (w_region (sv (v:=.bool true) rfl rfl rfl (opv_bin rfl rfl rfl rfl rfl (cmpT rfl (by decide))) rfl ?_))
   refine wo_nil (tq_n (wk ⟨[(0,.slice (some ⟨n1,0,none⟩) 4 1),(1,.func (.func 55) #[] #[vP n2 0,vP n3 0]),(7,vI 4),(8,vI 2),(9,.bool true)],19,[],H113⟩ rfl ?_))
   refine w_seq (w_cond (t:=true) rfl rfl (fun _ => ?_) (fun h => by cases h))
   refine w_skip (tq_n (wk ⟨[(0,.slice (some ⟨n1,0,none⟩) 4 1),(1,.func (.func 55) #[] #[vP n2 0,vP n3 0]),(7,vI 4),(8,vI 2)],19,[],H113⟩ rfl ?_))
   refine w_seq (w_block (w_seq (w_region (mv (vI 2) rfl rfl ?_))))
   refine mv (vI 2) rfl rfl ?_
   refine wo_nil (tq_n (wk ⟨[(0,.slice (some ⟨n1,0,none⟩) 4 1),(1,.func (.func 55) #[] #[vP n2 0,vP n3 0]),(5,vI 2),(7,vI 4),(8,vI 2)],19,[],H113⟩ rfl ?_))
   refine w_seq (w_region (mv (.func (.func 55) #[] #[vP n2 0,vP n3 0]) rfl rfl ?_))
   refine mv (.slice (some ⟨n1,0,none⟩) 4 1) rfl rfl ?_
   refine mv (vI 2) rfl rfl ?_
   refine sv (v:=vP n1 2) rfl rfl rfl (opv_indexAddrE rfl rfl rfl rfl rfl Try.underlying31 sz3 (by decide) (by decide) rfl) rfl ?_
   refine sv (v:=vI x2) rfl rfl rfl (opv_loadE rfl rfl rfl ag3 sz3 ((k114.get n1 (by omega)).trans ((k106.get n1 (by omega)).trans hkn1)) rfl (.inr rfl) rfl) rfl ?_
   refine sc_ (H:=H113) (vs:=[vI x2]) (fv:=.func (.func 55) #[] #[vP n2 0,vP n3 0]) rfl rfl rfl rfl rfl rfl (.cons rfl rfl neI .nil) rfl ?_
   refine WV.mono (wv_fc (cap:=[vP n2 0,vP n3 0]) Try.call55 (gas_out1 x2 n2 n3 lo hi _ w109 ((k114.get n2 (by omega)).trans ((k106.get n2 (by omega)).trans hkn2)) (by omega) ((k114.get n3 (by omega)).trans ((k106.get n3 (by omega)).trans hkn3)) (by omega))) ?_
   rintro v120 H121 ⟨k122,w117,rb118,rfl,f119⟩
   refine kpL k122 fun n124 l123 => ?_
   refine wo_nil (tq_n (wk ⟨[(0,.slice (some ⟨n1,0,none⟩) 4 1),(1,.func (.func 55) #[] #[vP n2 0,vP n3 0]),(5,vI 2),(7,vI 4),(8,vI 2),(16,.bool rb118)],19,[],H121⟩ rfl ?_))
   rcases f119 with ⟨rfl,f119⟩ | ⟨rfl,f119⟩
   ·
    refine w_cond (t:=true) rfl rfl (fun _ => ?_) (fun h => by cases h)
    refine w_seq (w_region (mv (vI 2) rfl rfl ?_))
    refine mv (vI 2) rfl rfl ?_
    refine wo_nil (tq_n (wk ⟨[(4,vI 2)],19,[],H121⟩ rfl ?_))
    refine w_ret ?_
    try refine q_eq (e':=.ret) rfl ?_
    refine tq_r (tq_r ?_)
    try refine q_eq (e':=.ret) rfl ?_
    refine tq_r ?_
    refine ⟨.inr rfl,rfl,[vI 2],.cons (resV_tmp rfl neI) .nil,((((KeepX.refl (fun _ => False) H).keep k106).keep k114).keep k122).k (fun _ h => h.elim),w117,2,rfl,?_,?_⟩
    · omega
    · omega
   ·
    refine w_cond (t:=false) rfl rfl (fun h => by cases h) (fun _ => ?_)
    refine w_skip ?_
    try refine q_eq (e':=.normal) rfl ?_
    refine tqk ⟨[(0,.slice (some ⟨n1,0,none⟩) 4 1),(1,.func (.func 55) #[] #[vP n2 0,vP n3 0]),(7,vI 4),(8,vI 2)],19,[],H121⟩ rfl ?_
    refine w_region (sv (v:=vI 3) rfl rfl rfl (opv_bin rfl rfl rfl rfl rfl rfl) rfl ?_)
    refine mv (vI 3) rfl rfl ?_
    refine wo_nil (tq_n (wl_norm (g:=[(0,.slice (some ⟨n1,0,none⟩) 4 1),(1,.func (.func 55) #[] #[vP n2 0,vP n3 0]),(7,vI 4),(8,vI 3)]) (n:=19) (ds:=[]) (H:=H121) (lsub_cons rfl (lsub_cons rfl (lsub_cons rfl (lsub_cons rfl (lsub_nil _))))) rfl rfl rfl ?_))
    refine w_seq (w_region (sv (v:=.bool true) rfl rfl rfl (opv_bin rfl rfl rfl rfl rfl (cmpT rfl (by decide))) rfl ?_))
    refine wo_nil (tq_n (wk ⟨[(0,.slice (some ⟨n1,0,none⟩) 4 1),(1,.func (.func 55) #[] #[vP n2 0,vP n3 0]),(7,vI 4),(8,vI 3),(9,.bool true)],19,[],H121⟩ rfl ?_))
    refine w_seq (w_cond (t:=true) rfl rfl (fun _ => ?_) (fun h => by cases h))
    refine w_skip (tq_n (wk ⟨[(0,.slice (some ⟨n1,0,none⟩) 4 1),(1,.func (.func 55) #[] #[vP n2 0,vP n3 0]),(7,vI 4),(8,vI 3)],19,[],H121⟩ rfl ?_))
    refine w_seq (w_block (w_seq (w_region (mv (vI 3) rfl rfl ?_))))
    refine mv (vI 3) rfl rfl ?_
    refine wo_nil (tq_n (wk ⟨[(0,.slice (some ⟨n1,0,none⟩) 4 1),(1,.func (.func 55) #[] #[vP n2 0,vP n3 0]),(5,vI 3),(7,vI 4),(8,vI 3)],19,[],H121⟩ rfl ?_))
    refine w_seq (w_region (mv (.func (.func 55) #[] #[vP n2 0,vP n3 0]) rfl rfl ?_))
    refine mv (.slice (some ⟨n1,0,none⟩) 4 1) rfl rfl ?_
    refine mv (vI 3) rfl rfl ?_
    refine sv (v:=vP n1 3) rfl rfl rfl (opv_indexAddrE rfl rfl rfl rfl rfl Try.underlying31 sz3 (by decide) (by decide) rfl) rfl ?_
    refine sv (v:=vI x3) rfl rfl rfl (opv_loadE rfl rfl rfl ag3 sz3 ((k122.get n1 (by omega)).trans ((k114.get n1 (by omega)).trans ((k106.get n1 (by omega)).trans hkn1))) rfl (.inr rfl) rfl) rfl ?_
    refine sc_ (H:=H121) (vs:=[vI x3]) (fv:=.func (.func 55) #[] #[vP n2 0,vP n3 0]) rfl rfl rfl rfl rfl rfl (.cons rfl rfl neI .nil) rfl ?_
    refine WV.mono (wv_fc (cap:=[vP n2 0,vP n3 0]) Try.call55 (gas_out1 x3 n2 n3 lo hi _ w117 ((k122.get n2 (by omega)).trans ((k114.get n2 (by omega)).trans ((k106.get n2 (by omega)).trans hkn2))) (by omega) ((k122.get n3 (by omega)).trans ((k114.get n3 (by omega)).trans ((k106.get n3 (by omega)).trans hkn3))) (by omega))) ?_
    rintro v128 H129 ⟨k130,w125,rb126,rfl,f127⟩
    refine kpL k130 fun n132 l131 => ?_
    refine wo_nil (tq_n (wk ⟨[(0,.slice (some ⟨n1,0,none⟩) 4 1),(1,.func (.func 55) #[] #[vP n2 0,vP n3 0]),(5,vI 3),(7,vI 4),(8,vI 3),(16,.bool rb126)],19,[],H129⟩ rfl ?_))
    rcases f127 with ⟨rfl,f127⟩ | ⟨rfl,f127⟩
    ·
     refine w_cond (t:=true) rfl rfl (fun _ => ?_) (fun h => by cases h)
     refine w_seq (w_region (mv (vI 3) rfl rfl ?_))
     refine mv (vI 3) rfl rfl ?_
     refine wo_nil (tq_n (wk ⟨[(4,vI 3)],19,[],H129⟩ rfl ?_))
     refine w_ret ?_
     try refine q_eq (e':=.ret) rfl ?_
     refine tq_r (tq_r ?_)
     try refine q_eq (e':=.ret) rfl ?_
     refine tq_r ?_
     refine ⟨.inr rfl,rfl,[vI 3],.cons (resV_tmp rfl neI) .nil,(((((KeepX.refl (fun _ => False) H).keep k106).keep k114).keep k122).keep k130).k (fun _ h => h.elim),w125,3,rfl,?_,?_⟩
     · omega
     · omega
    ·
     refine w_cond (t:=false) rfl rfl (fun h => by cases h) (fun _ => ?_)
     refine w_skip ?_
     try refine q_eq (e':=.normal) rfl ?_
     refine tqk ⟨[(0,.slice (some ⟨n1,0,none⟩) 4 1),(1,.func (.func 55) #[] #[vP n2 0,vP n3 0]),(7,vI 4),(8,vI 3)],19,[],H129⟩ rfl ?_
     refine w_region (sv (v:=vI 4) rfl rfl rfl (opv_bin rfl rfl rfl rfl rfl rfl) rfl ?_)
     refine mv (vI 4) rfl rfl ?_
     refine wo_nil (tq_n (wl_norm (g:=[(0,.slice (some ⟨n1,0,none⟩) 4 1),(1,.func (.func 55) #[] #[vP n2 0,vP n3 0]),(7,vI 4),(8,vI 4)]) (n:=19) (ds:=[]) (H:=H129) (lsub_cons rfl (lsub_cons rfl (lsub_cons rfl (lsub_cons rfl (lsub_nil _))))) rfl rfl rfl ?_))
     refine w_seq (w_region (sv (v:=.bool false) rfl rfl rfl (opv_bin rfl rfl rfl rfl rfl (cmpF rfl (by decide))) rfl ?_))
     refine wo_nil (tq_n (wk ⟨[(0,.slice (some ⟨n1,0,none⟩) 4 1),(1,.func (.func 55) #[] #[vP n2 0,vP n3 0]),(7,vI 4),(8,vI 4),(9,.bool false)],19,[],H129⟩ rfl ?_))
     refine w_seq (w_cond (t:=false) rfl rfl (fun h => by cases h) (fun _ => ?_))
     refine w_exit (tq_e (tq_e ?_))
     try refine q_eq (e':=.normal) rfl ?_
     refine tqk ⟨[],19,[],H129⟩ rfl ?_
     refine w_seq (w_region (mv (vI (-1)) rfl rfl ?_))
     refine wo_nil (tq_n (wk ⟨[(4,vI (-1))],19,[],H129⟩ rfl ?_))
     refine w_ret ?_
     refine ⟨.inr rfl,rfl,[vI (-1)],.cons (resV_tmp rfl neI) .nil,(((((KeepX.refl (fun _ => False) H).keep k106).keep k114).keep k122).keep k130).k (fun _ h => h.elim),w125,-1,rfl,?_,?_⟩
     · omega
     · omega

theorem gas_cf4 (x0 x1:Int) (x2 x3:Int) (n1 n2 n3:Nat) (lo hi:Int) (H:SH) (wt:WT H) (hkn1:H.get n1=some (.row #[vI x0,vI x1,vI x2,vI x3] .raw)) (hln1:n1 < H.next) (hkn2:H.get n2=some (.row #[vI lo] .raw)) (hln2:n2 < H.next) (hkn3:H.get n3=some (.row #[vI hi] .raw)) (hln3:n3 < H.next):WC Try.prog 54 [.slice (some ⟨n1,0,none⟩) 4 1,.func (.func 55) #[] #[vP n2 0,vP n3 0]] H (fun v H' => Keep H H'∧WT H'∧∃ (rb:Bool),v=(.bool rb)∧((rb=true∧(¬ ((lo ≤ x0∧x0 ≤ hi)∧(lo ≤ x1∧x1 ≤ hi)∧(lo ≤ x2∧x2 ≤ hi)∧(lo ≤ x3∧x3 ≤ hi))))∨(rb=false∧¬ (¬ ((lo ≤ x0∧x0 ≤ hi)∧(lo ≤ x1∧x1 ≤ hi)∧(lo ≤ x2∧x2 ≤ hi)∧(lo ≤ x3∧x3 ≤ hi)))))):=by
 refine wc_of_body Try.func54 rfl ?_
 refine wk ⟨[(0,.slice (some ⟨n1,0,none⟩) 4 1),(1,.func (.func 55) #[] #[vP n2 0,vP n3 0])],9,[],H⟩ rfl ?_
 refine w_seq (w_region (mv (.bool false) rfl rfl ?_))
 refine wo_nil (tq_n (wk ⟨[(0,.slice (some ⟨n1,0,none⟩) 4 1),(1,.func (.func 55) #[] #[vP n2 0,vP n3 0])],9,[],H⟩ rfl ?_))
 refine w_seq (w_region (mv (.slice (some ⟨n1,0,none⟩) 4 1) rfl rfl ?_))
 refine mv (.func (.func 55) #[] #[vP n2 0,vP n3 0]) rfl rfl ?_
 refine sc_ (H:=H) (vs:=[.slice (some ⟨n1,0,none⟩) 4 1,.func (.func 55) #[] #[vP n2 0,vP n3 0]]) (fv:=.func (.func 68) #[] #[]) rfl rfl rfl rfl rfl rfl (.cons rfl rfl (by simp [undef]) (.cons rfl rfl (by simp [undef]) .nil)) rfl ?_
 refine WV.mono (wv_f0 Try.call68 (gas_ix4 x0 x1 x2 x3 n1 n2 n3 lo hi _ wt hkn1 (by omega) hkn2 (by omega) hkn3 (by omega))) ?_
 rintro v105 H106 ⟨k107,w101,ri102,rfl,f103,f104⟩
 refine kpL k107 fun n109 l108 => ?_
 by_cases c110:ri102 ≥ 0
 ·
  refine sv (v:=.bool true) rfl rfl rfl (opv_bin rfl rfl rfl rfl rfl (cmpT rfl c110)) rfl ?_
  refine mv (.bool true) rfl rfl ?_
  refine wo_nil (tq_n (wk ⟨[(4,.bool true)],9,[],H106⟩ rfl ?_))
  refine w_ret ?_
  refine ⟨.inr rfl,rfl,[.bool true],.cons (resV_tmp rfl (by simp [undef])) .nil,((KeepX.refl (fun _ => False) H).keep k107).k (fun _ h => h.elim),w101,true,rfl,(.inl ⟨rfl,by omega⟩)⟩
 ·
  refine sv (v:=.bool false) rfl rfl rfl (opv_bin rfl rfl rfl rfl rfl (cmpF rfl c110)) rfl ?_
  refine mv (.bool false) rfl rfl ?_
  refine wo_nil (tq_n (wk ⟨[(4,.bool false)],9,[],H106⟩ rfl ?_))
  refine w_ret ?_
  refine ⟨.inr rfl,rfl,[.bool false],.cons (resV_tmp rfl (by simp [undef])) .nil,((KeepX.refl (fun _ => False) H).keep k107).k (fun _ h => h.elim),w101,false,rfl,(.inr ⟨rfl,by omega⟩)⟩

theorem gas_out_4 (x0 x1:Int) (x2 x3:Int) (lo hi:Int) (n1:Nat) (H:SH) (wt:WT H) (hkn1:H.get n1=some (.row #[vI x0,vI x1,vI x2,vI x3] .raw)) (hln1:n1 < H.next):WC Try.prog 30 [vI lo,vI hi,.slice (some ⟨n1,0,none⟩) 4 1] H (fun v H' => Keep H H'∧WT H'∧∃ (rb:Bool),v=(.bool rb)∧((rb=true∧(¬ ((lo ≤ x0∧x0 ≤ hi)∧(lo ≤ x1∧x1 ≤ hi)∧(lo ≤ x2∧x2 ≤ hi)∧(lo ≤ x3∧x3 ≤ hi))))∨(rb=false∧¬ (¬ ((lo ≤ x0∧x0 ≤ hi)∧(lo ≤ x1∧x1 ≤ hi)∧(lo ≤ x2∧x2 ≤ hi)∧(lo ≤ x3∧x3 ≤ hi)))))):=by
 refine wc_of_body Try.func30 rfl ?_
 refine wk ⟨[(0,vI lo),(1,vI hi),(2,.slice (some ⟨n1,0,none⟩) 4 1)],10,[],H⟩ rfl ?_
 refine w_seq (w_region (sv_new (H:=H) (v:=vP H.next 0) (x:=.row #[vI lo] .raw) rfl rfl rfl rfl (opv_boxE (v:=vI lo) rfl rfl rfl neI rfl) ?_))
 intro H101 f102
 refine newL wt f102 fun n105 w103 l104 => ?_
 refine sv_new (H:=H101) (v:=vP H101.next 0) (x:=.row #[vI hi] .raw) rfl rfl rfl rfl (opv_boxE (v:=vI hi) rfl rfl rfl neI rfl) ?_
 intro H106 f107
 refine newL w103 f107 fun n110 w108 l109 => ?_
 refine mv (.bool false) rfl rfl ?_
 refine wo_nil (tq_n (wk ⟨[(2,.slice (some ⟨n1,0,none⟩) 4 1),(3,vP H.next 0),(4,vP H101.next 0)],10,[],H106⟩ rfl ?_))
 refine w_seq (w_region (mv (.slice (some ⟨n1,0,none⟩) 4 1) rfl rfl ?_))
 refine sv (v:=.func (.func 55) #[] #[vP H.next 0,vP H101.next 0]) rfl rfl rfl (opv_makeFunc (vs:=[]) (us:=[vP H.next 0,vP H101.next 0]) rfl (.func _) .nil (.cons rfl rfl neP (.cons rfl rfl neP .nil))) rfl ?_
 refine sc_ (H:=H106) (vs:=[.slice (some ⟨n1,0,none⟩) 4 1,.func (.func 55) #[] #[vP H.next 0,vP H101.next 0]]) (fv:=.func (.func 54) #[] #[]) rfl rfl rfl rfl rfl rfl (.cons rfl rfl (by simp [undef]) (.cons rfl rfl (by simp [undef]) .nil)) rfl ?_
 refine WV.mono (wv_f0 Try.call54 (gas_cf4 x0 x1 x2 x3 n1 H.next H101.next lo hi _ w108 ((f107.get n1 (by omega)).trans ((f102.get n1 (by omega)).trans hkn1)) (by omega) ((f107.get H.next (by omega)).trans f102.blk) (by omega) f107.blk (by omega))) ?_
 rintro v114 H115 ⟨k116,w111,rb112,rfl,f113⟩
 refine kpL k116 fun n118 l117 => ?_
 refine mv (.bool rb112) rfl rfl ?_
 refine wo_nil (tq_n (wk ⟨[(6,.bool rb112)],10,[],H115⟩ rfl ?_))
 refine w_ret ?_
 rcases f113 with ⟨rfl,f113⟩ | ⟨rfl,f113⟩
 ·
  refine ⟨.inr rfl,rfl,[.bool true],.cons (resV_tmp rfl (by simp [undef])) .nil,((((KeepX.refl (fun _ => False) H).new_ f102).new_ f107).keep k116).k (fun _ h => h.elim),w111,true,rfl,(.inl ⟨rfl,by omega⟩)⟩
 ·
  refine ⟨.inr rfl,rfl,[.bool false],.cons (resV_tmp rfl (by simp [undef])) .nil,((((KeepX.refl (fun _ => False) H).new_ f102).new_ f107).keep k116).k (fun _ h => h.elim),w111,false,rfl,(.inr ⟨rfl,by omega⟩)⟩

theorem gas_Name (at1:ByteArray) (H:SH) (wt:WT H):WC Try.prog 56 [.string at1] H (fun v H' => Keep H H'∧WT H'∧∃ (rb2:Bool),v=(.bool rb2)):=by
 refine wc_of_body Try.func56 rfl ?_
 refine wk ⟨[(0,.string at1)],42,[],H⟩ rfl ?_
 refine w_seq (w_region (mv (.bool false) rfl rfl ?_))
 refine wo_nil (tq_n (wk ⟨[(0,.string at1)],42,[],H⟩ rfl ?_))
 refine w_seq (w_seq (w_region (mv (.string at1) rfl rfl ?_)))
 refine sv_new (H:=H) (v:=vP H.next 0) (x:=.obj (.stringIter at1 0)) rfl rfl rfl rfl (opv_rangeStr rfl rfl rfl Try.underlying9) ?_
 intro H101 f102
 refine newO wt f102 fun n103 w104 l105 => ?_
 refine wo_nil (tq_n (wk ⟨[(0,.string at1),(8,vP H.next 0)],42,[],H101⟩ rfl ?_))
 refine w_block (w_loopS (fun m112 s113 => ∃ (p106:Nat) (H107:SH),H107.get H.next=some (.obj (.stringIter at1 p106))∧WT H107∧Le H101 H107∧KeepX (fun m => m=H.next) H101 H107∧m112=(ByteArray.size at1 - p106)∧s113=⟨[(0,.string at1),(8,vP H.next 0)],42,[],H107⟩) (n:=ByteArray.size at1 - 0) ⟨⟨[(0,.string at1),(8,vP H.next 0)],42,[],H101⟩,subk rfl,0,H101,f102.blk,w104,Le.refl _,KeepX.refl (fun m => m=H.next) H101,rfl,rfl⟩ ?_)
 rintro m112 s113 ⟨p106,H107,hb108,w109,l110,k111,rfl,rfl⟩
 have n114:=k111.next
 refine w_seq (w_region ?_)
 by_cases c115:p106 < ByteArray.size at1
 ·
  obtain ⟨ch116,wd117,hd118,hw119⟩:=dec_ex at1 p106
  refine sv_put (H:=H107) (n:=H.next) (v:=(.tuple #[.bool true,(vI ((p106:Nat):Int)),(.int .i32 ((ch116:Nat):Int))])) (x:=some (.obj (.stringIter at1 (p106 + wd117)))) rfl rfl rfl rfl (opv_nextT rfl rfl rfl hb108 c115 hd118) ?_
  intro H120 f121
  refine putO w109 f121 hb108 fun n122 w123 l124 => ?_
  refine sv (v:=.bool true) rfl rfl rfl (opv_extract rfl rfl rfl rfl) rfl ?_
  refine wo_nil (tq_n (wk ⟨[(0,.string at1),(8,vP H.next 0),(9,(.tuple #[.bool true,(vI ((p106:Nat):Int)),(.int .i32 ((ch116:Nat):Int))])),(10,.bool true)],42,[],H120⟩ rfl ?_))
  refine w_seq (w_cond (t:=true) rfl rfl (fun _ => ?_) (fun h => by cases h))
  refine w_skip (tq_n (wk ⟨[(0,.string at1),(8,vP H.next 0),(9,(.tuple #[.bool true,(vI ((p106:Nat):Int)),(.int .i32 ((ch116:Nat):Int))]))],42,[],H120⟩ rfl ?_))
  refine w_block (w_seq (w_region (sv (v:=(vI ((p106:Nat):Int))) rfl rfl rfl (opv_extract rfl rfl rfl rfl) rfl ?_)))
  refine sv (v:=(.int .i32 ((ch116:Nat):Int))) rfl rfl rfl (opv_extract rfl rfl rfl rfl) rfl ?_
  refine mv (vI ((p106:Nat):Int)) rfl rfl ?_
  refine mv (.int .i32 ((ch116:Nat):Int)) rfl rfl ?_
  refine wo_nil (tq_n (wk ⟨[(0,.string at1),(3,(vI ((p106:Nat):Int))),(4,(.int .i32 ((ch116:Nat):Int))),(8,vP H.next 0)],42,[],H120⟩ rfl ?_))
  refine w_seq (w_region (mv (.int .i32 ((ch116:Nat):Int)) rfl rfl ?_))
  by_cases c125 : ((ch116:Nat):Int) ≥ 97
  ·
   refine sv (v:=.bool true) rfl rfl rfl (opv_bin rfl rfl rfl rfl rfl (cmpT rfl c125)) rfl ?_
   refine mv (.bool true) rfl rfl ?_
   refine sv (v:=(.int .i32 ((ch116:Nat):Int))) rfl (wants_g rfl rfl rfl rfl rfl) rfl (opv_move (.inl rfl) rfl rfl) rfl ?_
   by_cases c126 : ((ch116:Nat):Int) ≤ 122
   ·
    refine sv (v:=.bool true) rfl (wants_g rfl rfl rfl rfl rfl) rfl (opv_bin rfl rfl rfl rfl rfl (cmpT rfl c126)) rfl ?_
    refine sv (v:=.bool true) rfl rfl rfl (opv_pick (b:=true) rfl rfl rfl rfl rfl rfl) rfl ?_
    refine mv (.int .i32 ((ch116:Nat):Int)) rfl rfl ?_
    by_cases c127 : ((ch116:Nat):Int) ≥ 48
    ·
     refine sv (v:=.bool true) rfl rfl rfl (opv_bin rfl rfl rfl rfl rfl (cmpT rfl c127)) rfl ?_
     refine mv (.bool true) rfl rfl ?_
     refine sv (v:=(.int .i32 ((ch116:Nat):Int))) rfl (wants_g rfl rfl rfl rfl rfl) rfl (opv_move (.inl rfl) rfl rfl) rfl ?_
     by_cases c128 : ((ch116:Nat):Int) ≤ 57
     ·
      refine sv (v:=.bool true) rfl (wants_g rfl rfl rfl rfl rfl) rfl (opv_bin rfl rfl rfl rfl rfl (cmpT rfl c128)) rfl ?_
      refine sv (v:=.bool true) rfl rfl rfl (opv_pick (b:=true) rfl rfl rfl rfl rfl rfl) rfl ?_
      refine mv (.bool true) rfl rfl ?_
      refine mv (.bool true) rfl rfl ?_
      refine wo_nil (tq_n (wk ⟨[(0,.string at1),(3,(vI ((p106:Nat):Int))),(5,.bool true),(6,.bool true),(8,vP H.next 0)],42,[],H120⟩ rfl ?_))
      refine w_seq (w_region (mv (.bool true) rfl rfl ?_))
      refine sv (v:=.bool false) rfl rfl rfl (opv_not (b:=true) rfl rfl rfl) rfl ?_
      refine mv (.bool false) rfl rfl ?_
      refine ss rfl (wants_g rfl rfl rfl rfl rfl) rfl rfl ?_
      refine ss rfl (wants_g rfl rfl rfl rfl rfl) rfl rfl ?_
      refine ssu rfl (wants_g rfl rfl rfl rfl rfl) rfl rfl rfl ?_
      refine snu rfl rfl rfl rfl rfl rfl ?_
      refine snu rfl rfl rfl rfl rfl rfl ?_
      refine wou_end ?_
      refine ss rfl (wants_g rfl rfl rfl rfl rfl) rfl rfl ?_
      refine sv (v:=.bool false) rfl rfl rfl (opv_pick (b:=false) rfl rfl rfl rfl rfl rfl) rfl ?_
      refine wo_nil (tq_n (wk ⟨[(0,.string at1),(8,vP H.next 0),(34,.bool false)],42,[],H120⟩ rfl ?_))
      refine w_cond (t:=false) rfl rfl (fun h => by cases h) (fun _ => ?_)
      refine w_skip ?_
      try refine q_eq (e':=.normal) rfl ?_
      refine tq_n ⟨ByteArray.size at1 - (p106 + wd117),by omega,⟨[(0,.string at1),(8,vP H.next 0)],42,[],H120⟩,subk rfl,p106 + wd117,H120,f121.blk,w123,l110.trans l124,(((KeepX.refl (fun m => m=H.next) H101).trans k111 (by intro m hm; (try simp only [false_or,or_false] at hm ⊢); (try dsimp only at hm ⊢); first | omega | (right; omega) | (left; left; omega) | (left; right; omega))).put f121 (by first | (right; omega) | (left; (try dsimp only) <;> omega))),rfl,rfl⟩
     ·
      refine sv (v:=.bool false) rfl (wants_g rfl rfl rfl rfl rfl) rfl (opv_bin rfl rfl rfl rfl rfl (cmpF rfl c128)) rfl ?_
      refine sv (v:=.bool false) rfl rfl rfl (opv_pick (b:=true) rfl rfl rfl rfl rfl rfl) rfl ?_
      refine mv (.bool true) rfl rfl ?_
      refine mv (.bool false) rfl rfl ?_
      refine wo_nil (tq_n (wk ⟨[(0,.string at1),(3,(vI ((p106:Nat):Int))),(5,.bool true),(6,.bool false),(8,vP H.next 0)],42,[],H120⟩ rfl ?_))
      refine w_seq (w_region (mv (.bool true) rfl rfl ?_))
      refine sv (v:=.bool false) rfl rfl rfl (opv_not (b:=true) rfl rfl rfl) rfl ?_
      refine mv (.bool false) rfl rfl ?_
      refine ss rfl (wants_g rfl rfl rfl rfl rfl) rfl rfl ?_
      refine ss rfl (wants_g rfl rfl rfl rfl rfl) rfl rfl ?_
      refine ssu rfl (wants_g rfl rfl rfl rfl rfl) rfl rfl rfl ?_
      refine snu rfl rfl rfl rfl rfl rfl ?_
      refine snu rfl rfl rfl rfl rfl rfl ?_
      refine wou_end ?_
      refine ss rfl (wants_g rfl rfl rfl rfl rfl) rfl rfl ?_
      refine sv (v:=.bool false) rfl rfl rfl (opv_pick (b:=false) rfl rfl rfl rfl rfl rfl) rfl ?_
      refine wo_nil (tq_n (wk ⟨[(0,.string at1),(8,vP H.next 0),(34,.bool false)],42,[],H120⟩ rfl ?_))
      refine w_cond (t:=false) rfl rfl (fun h => by cases h) (fun _ => ?_)
      refine w_skip ?_
      try refine q_eq (e':=.normal) rfl ?_
      refine tq_n ⟨ByteArray.size at1 - (p106 + wd117),by omega,⟨[(0,.string at1),(8,vP H.next 0)],42,[],H120⟩,subk rfl,p106 + wd117,H120,f121.blk,w123,l110.trans l124,(((KeepX.refl (fun m => m=H.next) H101).trans k111 (by intro m hm; (try simp only [false_or,or_false] at hm ⊢); (try dsimp only at hm ⊢); first | omega | (right; omega) | (left; left; omega) | (left; right; omega))).put f121 (by first | (right; omega) | (left; (try dsimp only) <;> omega))),rfl,rfl⟩
    ·
     refine sv (v:=.bool false) rfl rfl rfl (opv_bin rfl rfl rfl rfl rfl (cmpF rfl c127)) rfl ?_
     refine mv (.bool false) rfl rfl ?_
     refine ss rfl (wants_g rfl rfl rfl rfl rfl) rfl rfl ?_
     refine ss rfl (wants_g rfl rfl rfl rfl rfl) rfl rfl ?_
     refine sv (v:=.bool false) rfl rfl rfl (opv_pick (b:=false) rfl rfl rfl rfl rfl rfl) rfl ?_
     refine mv (.bool true) rfl rfl ?_
     refine mv (.bool false) rfl rfl ?_
     refine wo_nil (tq_n (wk ⟨[(0,.string at1),(3,(vI ((p106:Nat):Int))),(5,.bool true),(6,.bool false),(8,vP H.next 0)],42,[],H120⟩ rfl ?_))
     refine w_seq (w_region (mv (.bool true) rfl rfl ?_))
     refine sv (v:=.bool false) rfl rfl rfl (opv_not (b:=true) rfl rfl rfl) rfl ?_
     refine mv (.bool false) rfl rfl ?_
     refine ss rfl (wants_g rfl rfl rfl rfl rfl) rfl rfl ?_
     refine ss rfl (wants_g rfl rfl rfl rfl rfl) rfl rfl ?_
     refine ssu rfl (wants_g rfl rfl rfl rfl rfl) rfl rfl rfl ?_
     refine snu rfl rfl rfl rfl rfl rfl ?_
     refine snu rfl rfl rfl rfl rfl rfl ?_
     refine wou_end ?_
     refine ss rfl (wants_g rfl rfl rfl rfl rfl) rfl rfl ?_
     refine sv (v:=.bool false) rfl rfl rfl (opv_pick (b:=false) rfl rfl rfl rfl rfl rfl) rfl ?_
     refine wo_nil (tq_n (wk ⟨[(0,.string at1),(8,vP H.next 0),(34,.bool false)],42,[],H120⟩ rfl ?_))
     refine w_cond (t:=false) rfl rfl (fun h => by cases h) (fun _ => ?_)
     refine w_skip ?_
     try refine q_eq (e':=.normal) rfl ?_
     refine tq_n ⟨ByteArray.size at1 - (p106 + wd117),by omega,⟨[(0,.string at1),(8,vP H.next 0)],42,[],H120⟩,subk rfl,p106 + wd117,H120,f121.blk,w123,l110.trans l124,(((KeepX.refl (fun m => m=H.next) H101).trans k111 (by intro m hm; (try simp only [false_or,or_false] at hm ⊢); (try dsimp only at hm ⊢); first | omega | (right; omega) | (left; left; omega) | (left; right; omega))).put f121 (by first | (right; omega) | (left; (try dsimp only) <;> omega))),rfl,rfl⟩
   ·
    refine sv (v:=.bool false) rfl (wants_g rfl rfl rfl rfl rfl) rfl (opv_bin rfl rfl rfl rfl rfl (cmpF rfl c126)) rfl ?_
    refine sv (v:=.bool false) rfl rfl rfl (opv_pick (b:=true) rfl rfl rfl rfl rfl rfl) rfl ?_
    refine mv (.int .i32 ((ch116:Nat):Int)) rfl rfl ?_
    by_cases c129 : ((ch116:Nat):Int) ≥ 48
    ·
     refine sv (v:=.bool true) rfl rfl rfl (opv_bin rfl rfl rfl rfl rfl (cmpT rfl c129)) rfl ?_
     refine mv (.bool true) rfl rfl ?_
     refine sv (v:=(.int .i32 ((ch116:Nat):Int))) rfl (wants_g rfl rfl rfl rfl rfl) rfl (opv_move (.inl rfl) rfl rfl) rfl ?_
     by_cases c130 : ((ch116:Nat):Int) ≤ 57
     ·
      refine sv (v:=.bool true) rfl (wants_g rfl rfl rfl rfl rfl) rfl (opv_bin rfl rfl rfl rfl rfl (cmpT rfl c130)) rfl ?_
      refine sv (v:=.bool true) rfl rfl rfl (opv_pick (b:=true) rfl rfl rfl rfl rfl rfl) rfl ?_
      refine mv (.bool false) rfl rfl ?_
      refine mv (.bool true) rfl rfl ?_
      refine wo_nil (tq_n (wk ⟨[(0,.string at1),(3,(vI ((p106:Nat):Int))),(5,.bool false),(6,.bool true),(8,vP H.next 0)],42,[],H120⟩ rfl ?_))
      refine w_seq (w_region (mv (.bool false) rfl rfl ?_))
      refine sv (v:=.bool true) rfl rfl rfl (opv_not (b:=false) rfl rfl rfl) rfl ?_
      refine mv (.bool true) rfl rfl ?_
      refine sv (v:=.bool true) rfl (wants_g rfl rfl rfl rfl rfl) rfl (opv_move (.inl rfl) rfl rfl) rfl ?_
      refine sv (v:=.bool false) rfl (wants_g rfl rfl rfl rfl rfl) rfl (opv_not (b:=true) rfl rfl rfl) rfl ?_
      refine sv (v:=.bool false) rfl (wants_g rfl rfl rfl rfl rfl) rfl (opv_move (.inl rfl) rfl rfl) rfl ?_
      refine sv (v:=(vI ((p106:Nat):Int))) rfl (wants_g rfl rfl rfl rfl rfl) rfl (opv_move (.inl rfl) rfl rfl) rfl ?_
      by_cases c131 : ((p106:Nat):Int) = 0
      ·
       refine sv (v:=.bool true) rfl (wants_g rfl rfl rfl rfl rfl) rfl (opv_bin rfl rfl rfl rfl rfl (eqT c131)) rfl ?_
       refine sv (v:=.bool true) rfl (wants_g rfl rfl rfl rfl rfl) rfl (opv_pick (b:=false) rfl rfl rfl rfl rfl rfl) rfl ?_
       refine sv (v:=.bool true) rfl rfl rfl (opv_pick (b:=true) rfl rfl rfl rfl rfl rfl) rfl ?_
       refine wo_nil (tq_n (wk ⟨[(0,.string at1),(8,vP H.next 0),(34,.bool true)],42,[],H120⟩ rfl ?_))
       refine w_cond (t:=true) rfl rfl (fun _ => ?_) (fun h => by cases h)
       refine w_seq (w_region (mv (.bool false) rfl rfl ?_))
       refine wo_nil (tq_n (wk ⟨[(2,.bool false)],42,[],H120⟩ rfl ?_))
       refine w_ret ?_
       try refine q_eq (e':=.ret) rfl ?_
       refine tq_r ?_
       try refine q_eq (e':=.ret) rfl ?_
       refine tq_r ?_
       refine ⟨.inr rfl,rfl,[.bool false],.cons (resV_tmp rfl (by simp [undef])) .nil,(((((KeepX.refl (fun _ => False) H).new_ f102).trans k111 (by intro m hm; (try simp only [false_or,or_false] at hm ⊢); (try dsimp only at hm ⊢); first | omega | (right; omega) | (left; left; omega) | (left; right; omega))).put f121 (by first | (right; omega) | (left; (try dsimp only) <;> omega))).k (fun _ h => h.elim)),w123,false,rfl⟩
      ·
       refine sv (v:=.bool false) rfl (wants_g rfl rfl rfl rfl rfl) rfl (opv_bin rfl rfl rfl rfl rfl (eqF c131)) rfl ?_
       refine sv (v:=.bool false) rfl (wants_g rfl rfl rfl rfl rfl) rfl (opv_pick (b:=false) rfl rfl rfl rfl rfl rfl) rfl ?_
       refine sv (v:=.bool false) rfl rfl rfl (opv_pick (b:=true) rfl rfl rfl rfl rfl rfl) rfl ?_
       refine wo_nil (tq_n (wk ⟨[(0,.string at1),(8,vP H.next 0),(34,.bool false)],42,[],H120⟩ rfl ?_))
       refine w_cond (t:=false) rfl rfl (fun h => by cases h) (fun _ => ?_)
       refine w_skip ?_
       try refine q_eq (e':=.normal) rfl ?_
       refine tq_n ⟨ByteArray.size at1 - (p106 + wd117),by omega,⟨[(0,.string at1),(8,vP H.next 0)],42,[],H120⟩,subk rfl,p106 + wd117,H120,f121.blk,w123,l110.trans l124,(((KeepX.refl (fun m => m=H.next) H101).trans k111 (by intro m hm; (try simp only [false_or,or_false] at hm ⊢); (try dsimp only at hm ⊢); first | omega | (right; omega) | (left; left; omega) | (left; right; omega))).put f121 (by first | (right; omega) | (left; (try dsimp only) <;> omega))),rfl,rfl⟩
     ·
      refine sv (v:=.bool false) rfl (wants_g rfl rfl rfl rfl rfl) rfl (opv_bin rfl rfl rfl rfl rfl (cmpF rfl c130)) rfl ?_
      refine sv (v:=.bool false) rfl rfl rfl (opv_pick (b:=true) rfl rfl rfl rfl rfl rfl) rfl ?_
      refine mv (.bool false) rfl rfl ?_
      refine mv (.bool false) rfl rfl ?_
      refine wo_nil (tq_n (wk ⟨[(0,.string at1),(3,(vI ((p106:Nat):Int))),(5,.bool false),(6,.bool false),(8,vP H.next 0)],42,[],H120⟩ rfl ?_))
      refine w_seq (w_region (mv (.bool false) rfl rfl ?_))
      refine sv (v:=.bool true) rfl rfl rfl (opv_not (b:=false) rfl rfl rfl) rfl ?_
      refine mv (.bool true) rfl rfl ?_
      refine sv (v:=.bool false) rfl (wants_g rfl rfl rfl rfl rfl) rfl (opv_move (.inl rfl) rfl rfl) rfl ?_
      refine sv (v:=.bool true) rfl (wants_g rfl rfl rfl rfl rfl) rfl (opv_not (b:=false) rfl rfl rfl) rfl ?_
      refine sv (v:=.bool true) rfl (wants_g rfl rfl rfl rfl rfl) rfl (opv_move (.inl rfl) rfl rfl) rfl ?_
      refine ss rfl (wants_g rfl rfl rfl rfl rfl) rfl rfl ?_
      refine ss rfl (wants_g rfl rfl rfl rfl rfl) rfl rfl ?_
      refine sv (v:=.bool true) rfl (wants_g rfl rfl rfl rfl rfl) rfl (opv_pick (b:=true) rfl rfl rfl rfl rfl rfl) rfl ?_
      refine sv (v:=.bool true) rfl rfl rfl (opv_pick (b:=true) rfl rfl rfl rfl rfl rfl) rfl ?_
      refine wo_nil (tq_n (wk ⟨[(0,.string at1),(8,vP H.next 0),(34,.bool true)],42,[],H120⟩ rfl ?_))
      refine w_cond (t:=true) rfl rfl (fun _ => ?_) (fun h => by cases h)
      refine w_seq (w_region (mv (.bool false) rfl rfl ?_))
      refine wo_nil (tq_n (wk ⟨[(2,.bool false)],42,[],H120⟩ rfl ?_))
      refine w_ret ?_
      try refine q_eq (e':=.ret) rfl ?_
      refine tq_r ?_
      try refine q_eq (e':=.ret) rfl ?_
      refine tq_r ?_
      refine ⟨.inr rfl,rfl,[.bool false],.cons (resV_tmp rfl (by simp [undef])) .nil,(((((KeepX.refl (fun _ => False) H).new_ f102).trans k111 (by intro m hm; (try simp only [false_or,or_false] at hm ⊢); (try dsimp only at hm ⊢); first | omega | (right; omega) | (left; left; omega) | (left; right; omega))).put f121 (by first | (right; omega) | (left; (try dsimp only) <;> omega))).k (fun _ h => h.elim)),w123,false,rfl⟩
    ·
     refine sv (v:=.bool false) rfl rfl rfl (opv_bin rfl rfl rfl rfl rfl (cmpF rfl c129)) rfl ?_
     refine mv (.bool false) rfl rfl ?_
     refine ss rfl (wants_g rfl rfl rfl rfl rfl) rfl rfl ?_
     refine ss rfl (wants_g rfl rfl rfl rfl rfl) rfl rfl ?_
     refine sv (v:=.bool false) rfl rfl rfl (opv_pick (b:=false) rfl rfl rfl rfl rfl rfl) rfl ?_
     refine mv (.bool false) rfl rfl ?_
     refine mv (.bool false) rfl rfl ?_
     refine wo_nil (tq_n (wk ⟨[(0,.string at1),(3,(vI ((p106:Nat):Int))),(5,.bool false),(6,.bool false),(8,vP H.next 0)],42,[],H120⟩ rfl ?_))
     refine w_seq (w_region (mv (.bool false) rfl rfl ?_))
     refine sv (v:=.bool true) rfl rfl rfl (opv_not (b:=false) rfl rfl rfl) rfl ?_
     refine mv (.bool true) rfl rfl ?_
     refine sv (v:=.bool false) rfl (wants_g rfl rfl rfl rfl rfl) rfl (opv_move (.inl rfl) rfl rfl) rfl ?_
     refine sv (v:=.bool true) rfl (wants_g rfl rfl rfl rfl rfl) rfl (opv_not (b:=false) rfl rfl rfl) rfl ?_
     refine sv (v:=.bool true) rfl (wants_g rfl rfl rfl rfl rfl) rfl (opv_move (.inl rfl) rfl rfl) rfl ?_
     refine ss rfl (wants_g rfl rfl rfl rfl rfl) rfl rfl ?_
     refine ss rfl (wants_g rfl rfl rfl rfl rfl) rfl rfl ?_
     refine sv (v:=.bool true) rfl (wants_g rfl rfl rfl rfl rfl) rfl (opv_pick (b:=true) rfl rfl rfl rfl rfl rfl) rfl ?_
     refine sv (v:=.bool true) rfl rfl rfl (opv_pick (b:=true) rfl rfl rfl rfl rfl rfl) rfl ?_
     refine wo_nil (tq_n (wk ⟨[(0,.string at1),(8,vP H.next 0),(34,.bool true)],42,[],H120⟩ rfl ?_))
     refine w_cond (t:=true) rfl rfl (fun _ => ?_) (fun h => by cases h)
     refine w_seq (w_region (mv (.bool false) rfl rfl ?_))
     refine wo_nil (tq_n (wk ⟨[(2,.bool false)],42,[],H120⟩ rfl ?_))
     refine w_ret ?_
     try refine q_eq (e':=.ret) rfl ?_
     refine tq_r ?_
     try refine q_eq (e':=.ret) rfl ?_
     refine tq_r ?_
     refine ⟨.inr rfl,rfl,[.bool false],.cons (resV_tmp rfl (by simp [undef])) .nil,(((((KeepX.refl (fun _ => False) H).new_ f102).trans k111 (by intro m hm; (try simp only [false_or,or_false] at hm ⊢); (try dsimp only at hm ⊢); first | omega | (right; omega) | (left; left; omega) | (left; right; omega))).put f121 (by first | (right; omega) | (left; (try dsimp only) <;> omega))).k (fun _ h => h.elim)),w123,false,rfl⟩
  ·
   refine sv (v:=.bool false) rfl rfl rfl (opv_bin rfl rfl rfl rfl rfl (cmpF rfl c125)) rfl ?_
   refine mv (.bool false) rfl rfl ?_
   refine ss rfl (wants_g rfl rfl rfl rfl rfl) rfl rfl ?_
   refine ss rfl (wants_g rfl rfl rfl rfl rfl) rfl rfl ?_
   refine sv (v:=.bool false) rfl rfl rfl (opv_pick (b:=false) rfl rfl rfl rfl rfl rfl) rfl ?_
   refine mv (.int .i32 ((ch116:Nat):Int)) rfl rfl ?_
   by_cases c132 : ((ch116:Nat):Int) ≥ 48
   ·
    refine sv (v:=.bool true) rfl rfl rfl (opv_bin rfl rfl rfl rfl rfl (cmpT rfl c132)) rfl ?_
    refine mv (.bool true) rfl rfl ?_
    refine sv (v:=(.int .i32 ((ch116:Nat):Int))) rfl (wants_g rfl rfl rfl rfl rfl) rfl (opv_move (.inl rfl) rfl rfl) rfl ?_
    by_cases c133 : ((ch116:Nat):Int) ≤ 57
    ·
     refine sv (v:=.bool true) rfl (wants_g rfl rfl rfl rfl rfl) rfl (opv_bin rfl rfl rfl rfl rfl (cmpT rfl c133)) rfl ?_
     refine sv (v:=.bool true) rfl rfl rfl (opv_pick (b:=true) rfl rfl rfl rfl rfl rfl) rfl ?_
     refine mv (.bool false) rfl rfl ?_
     refine mv (.bool true) rfl rfl ?_
     refine wo_nil (tq_n (wk ⟨[(0,.string at1),(3,(vI ((p106:Nat):Int))),(5,.bool false),(6,.bool true),(8,vP H.next 0)],42,[],H120⟩ rfl ?_))
     refine w_seq (w_region (mv (.bool false) rfl rfl ?_))
     refine sv (v:=.bool true) rfl rfl rfl (opv_not (b:=false) rfl rfl rfl) rfl ?_
     refine mv (.bool true) rfl rfl ?_
     refine sv (v:=.bool true) rfl (wants_g rfl rfl rfl rfl rfl) rfl (opv_move (.inl rfl) rfl rfl) rfl ?_
     refine sv (v:=.bool false) rfl (wants_g rfl rfl rfl rfl rfl) rfl (opv_not (b:=true) rfl rfl rfl) rfl ?_
     refine sv (v:=.bool false) rfl (wants_g rfl rfl rfl rfl rfl) rfl (opv_move (.inl rfl) rfl rfl) rfl ?_
     refine sv (v:=(vI ((p106:Nat):Int))) rfl (wants_g rfl rfl rfl rfl rfl) rfl (opv_move (.inl rfl) rfl rfl) rfl ?_
     by_cases c134 : ((p106:Nat):Int) = 0
     ·
      refine sv (v:=.bool true) rfl (wants_g rfl rfl rfl rfl rfl) rfl (opv_bin rfl rfl rfl rfl rfl (eqT c134)) rfl ?_
      refine sv (v:=.bool true) rfl (wants_g rfl rfl rfl rfl rfl) rfl (opv_pick (b:=false) rfl rfl rfl rfl rfl rfl) rfl ?_
      refine sv (v:=.bool true) rfl rfl rfl (opv_pick (b:=true) rfl rfl rfl rfl rfl rfl) rfl ?_
      refine wo_nil (tq_n (wk ⟨[(0,.string at1),(8,vP H.next 0),(34,.bool true)],42,[],H120⟩ rfl ?_))
      refine w_cond (t:=true) rfl rfl (fun _ => ?_) (fun h => by cases h)
      refine w_seq (w_region (mv (.bool false) rfl rfl ?_))
      refine wo_nil (tq_n (wk ⟨[(2,.bool false)],42,[],H120⟩ rfl ?_))
      refine w_ret ?_
      try refine q_eq (e':=.ret) rfl ?_
      refine tq_r ?_
      try refine q_eq (e':=.ret) rfl ?_
      refine tq_r ?_
      refine ⟨.inr rfl,rfl,[.bool false],.cons (resV_tmp rfl (by simp [undef])) .nil,(((((KeepX.refl (fun _ => False) H).new_ f102).trans k111 (by intro m hm; (try simp only [false_or,or_false] at hm ⊢); (try dsimp only at hm ⊢); first | omega | (right; omega) | (left; left; omega) | (left; right; omega))).put f121 (by first | (right; omega) | (left; (try dsimp only) <;> omega))).k (fun _ h => h.elim)),w123,false,rfl⟩
     ·
      refine sv (v:=.bool false) rfl (wants_g rfl rfl rfl rfl rfl) rfl (opv_bin rfl rfl rfl rfl rfl (eqF c134)) rfl ?_
      refine sv (v:=.bool false) rfl (wants_g rfl rfl rfl rfl rfl) rfl (opv_pick (b:=false) rfl rfl rfl rfl rfl rfl) rfl ?_
      refine sv (v:=.bool false) rfl rfl rfl (opv_pick (b:=true) rfl rfl rfl rfl rfl rfl) rfl ?_
      refine wo_nil (tq_n (wk ⟨[(0,.string at1),(8,vP H.next 0),(34,.bool false)],42,[],H120⟩ rfl ?_))
      refine w_cond (t:=false) rfl rfl (fun h => by cases h) (fun _ => ?_)
      refine w_skip ?_
      try refine q_eq (e':=.normal) rfl ?_
      refine tq_n ⟨ByteArray.size at1 - (p106 + wd117),by omega,⟨[(0,.string at1),(8,vP H.next 0)],42,[],H120⟩,subk rfl,p106 + wd117,H120,f121.blk,w123,l110.trans l124,(((KeepX.refl (fun m => m=H.next) H101).trans k111 (by intro m hm; (try simp only [false_or,or_false] at hm ⊢); (try dsimp only at hm ⊢); first | omega | (right; omega) | (left; left; omega) | (left; right; omega))).put f121 (by first | (right; omega) | (left; (try dsimp only) <;> omega))),rfl,rfl⟩
    ·
     refine sv (v:=.bool false) rfl (wants_g rfl rfl rfl rfl rfl) rfl (opv_bin rfl rfl rfl rfl rfl (cmpF rfl c133)) rfl ?_
     refine sv (v:=.bool false) rfl rfl rfl (opv_pick (b:=true) rfl rfl rfl rfl rfl rfl) rfl ?_
     refine mv (.bool false) rfl rfl ?_
     refine mv (.bool false) rfl rfl ?_
     refine wo_nil (tq_n (wk ⟨[(0,.string at1),(3,(vI ((p106:Nat):Int))),(5,.bool false),(6,.bool false),(8,vP H.next 0)],42,[],H120⟩ rfl ?_))
     refine w_seq (w_region (mv (.bool false) rfl rfl ?_))
     refine sv (v:=.bool true) rfl rfl rfl (opv_not (b:=false) rfl rfl rfl) rfl ?_
     refine mv (.bool true) rfl rfl ?_
     refine sv (v:=.bool false) rfl (wants_g rfl rfl rfl rfl rfl) rfl (opv_move (.inl rfl) rfl rfl) rfl ?_
     refine sv (v:=.bool true) rfl (wants_g rfl rfl rfl rfl rfl) rfl (opv_not (b:=false) rfl rfl rfl) rfl ?_
     refine sv (v:=.bool true) rfl (wants_g rfl rfl rfl rfl rfl) rfl (opv_move (.inl rfl) rfl rfl) rfl ?_
     refine ss rfl (wants_g rfl rfl rfl rfl rfl) rfl rfl ?_
     refine ss rfl (wants_g rfl rfl rfl rfl rfl) rfl rfl ?_
     refine sv (v:=.bool true) rfl (wants_g rfl rfl rfl rfl rfl) rfl (opv_pick (b:=true) rfl rfl rfl rfl rfl rfl) rfl ?_
     refine sv (v:=.bool true) rfl rfl rfl (opv_pick (b:=true) rfl rfl rfl rfl rfl rfl) rfl ?_
     refine wo_nil (tq_n (wk ⟨[(0,.string at1),(8,vP H.next 0),(34,.bool true)],42,[],H120⟩ rfl ?_))
     refine w_cond (t:=true) rfl rfl (fun _ => ?_) (fun h => by cases h)
     refine w_seq (w_region (mv (.bool false) rfl rfl ?_))
     refine wo_nil (tq_n (wk ⟨[(2,.bool false)],42,[],H120⟩ rfl ?_))
     refine w_ret ?_
     try refine q_eq (e':=.ret) rfl ?_
     refine tq_r ?_
     try refine q_eq (e':=.ret) rfl ?_
     refine tq_r ?_
     refine ⟨.inr rfl,rfl,[.bool false],.cons (resV_tmp rfl (by simp [undef])) .nil,(((((KeepX.refl (fun _ => False) H).new_ f102).trans k111 (by intro m hm; (try simp only [false_or,or_false] at hm ⊢); (try dsimp only at hm ⊢); first | omega | (right; omega) | (left; left; omega) | (left; right; omega))).put f121 (by first | (right; omega) | (left; (try dsimp only) <;> omega))).k (fun _ h => h.elim)),w123,false,rfl⟩
   ·
    refine sv (v:=.bool false) rfl rfl rfl (opv_bin rfl rfl rfl rfl rfl (cmpF rfl c132)) rfl ?_
    refine mv (.bool false) rfl rfl ?_
    refine ss rfl (wants_g rfl rfl rfl rfl rfl) rfl rfl ?_
    refine ss rfl (wants_g rfl rfl rfl rfl rfl) rfl rfl ?_
    refine sv (v:=.bool false) rfl rfl rfl (opv_pick (b:=false) rfl rfl rfl rfl rfl rfl) rfl ?_
    refine mv (.bool false) rfl rfl ?_
    refine mv (.bool false) rfl rfl ?_
    refine wo_nil (tq_n (wk ⟨[(0,.string at1),(3,(vI ((p106:Nat):Int))),(5,.bool false),(6,.bool false),(8,vP H.next 0)],42,[],H120⟩ rfl ?_))
    refine w_seq (w_region (mv (.bool false) rfl rfl ?_))
    refine sv (v:=.bool true) rfl rfl rfl (opv_not (b:=false) rfl rfl rfl) rfl ?_
    refine mv (.bool true) rfl rfl ?_
    refine sv (v:=.bool false) rfl (wants_g rfl rfl rfl rfl rfl) rfl (opv_move (.inl rfl) rfl rfl) rfl ?_
    refine sv (v:=.bool true) rfl (wants_g rfl rfl rfl rfl rfl) rfl (opv_not (b:=false) rfl rfl rfl) rfl ?_
    refine sv (v:=.bool true) rfl (wants_g rfl rfl rfl rfl rfl) rfl (opv_move (.inl rfl) rfl rfl) rfl ?_
    refine ss rfl (wants_g rfl rfl rfl rfl rfl) rfl rfl ?_
    refine ss rfl (wants_g rfl rfl rfl rfl rfl) rfl rfl ?_
    refine sv (v:=.bool true) rfl (wants_g rfl rfl rfl rfl rfl) rfl (opv_pick (b:=true) rfl rfl rfl rfl rfl rfl) rfl ?_
    refine sv (v:=.bool true) rfl rfl rfl (opv_pick (b:=true) rfl rfl rfl rfl rfl rfl) rfl ?_
    refine wo_nil (tq_n (wk ⟨[(0,.string at1),(8,vP H.next 0),(34,.bool true)],42,[],H120⟩ rfl ?_))
    refine w_cond (t:=true) rfl rfl (fun _ => ?_) (fun h => by cases h)
    refine w_seq (w_region (mv (.bool false) rfl rfl ?_))
    refine wo_nil (tq_n (wk ⟨[(2,.bool false)],42,[],H120⟩ rfl ?_))
    refine w_ret ?_
    try refine q_eq (e':=.ret) rfl ?_
    refine tq_r ?_
    try refine q_eq (e':=.ret) rfl ?_
    refine tq_r ?_
    refine ⟨.inr rfl,rfl,[.bool false],.cons (resV_tmp rfl (by simp [undef])) .nil,(((((KeepX.refl (fun _ => False) H).new_ f102).trans k111 (by intro m hm; (try simp only [false_or,or_false] at hm ⊢); (try dsimp only at hm ⊢); first | omega | (right; omega) | (left; left; omega) | (left; right; omega))).put f121 (by first | (right; omega) | (left; (try dsimp only) <;> omega))).k (fun _ h => h.elim)),w123,false,rfl⟩
 ·
  refine sv (v:=.tuple #[.bool false]) rfl rfl rfl (opv_nextF rfl rfl rfl hb108 c115) rfl ?_
  refine sv (v:=.bool false) rfl rfl rfl (opv_extract rfl rfl rfl rfl) rfl ?_
  refine wo_nil (tq_n (wk ⟨[(0,.string at1),(8,vP H.next 0),(9,.tuple #[.bool false]),(10,.bool false)],42,[],H107⟩ rfl ?_))
  refine w_seq (w_cond (t:=false) rfl rfl (fun h => by cases h) (fun _ => ?_))
  refine w_exit (tq_e (tq_e ?_))
  try refine q_eq (e':=.normal) rfl ?_
  refine tqk ⟨[(0,.string at1)],42,[],H107⟩ rfl ?_
  refine w_seq (w_region (mv (.string at1) rfl rfl ?_))
  obtain ⟨b135,h136⟩ : ∃ b:Bool,(!((at1:ByteArray).toList == (⟨#[]⟩ : ByteArray).toList)) = b:=⟨_,rfl⟩
  refine sv (v:=.bool b135) rfl rfl rfl (by rw [← h136]; exact opv_neStr rfl rfl rfl rfl rfl) rfl ?_
  refine mv (.bool b135) rfl rfl ?_
  rcases b135 with _ | _
  ·
   refine ss rfl (wants_g rfl rfl rfl rfl rfl) rfl rfl ?_
   refine ss rfl (wants_g rfl rfl rfl rfl rfl) rfl rfl ?_
   refine ss rfl (wants_g rfl rfl rfl rfl rfl) rfl rfl ?_
   refine sv (v:=.bool false) rfl rfl rfl (opv_pick (b:=false) rfl rfl rfl rfl rfl rfl) rfl ?_
   refine mv (.bool false) rfl rfl ?_
   refine wo_nil (tq_n (wk ⟨[(2,.bool false)],42,[],H107⟩ rfl ?_))
   refine w_ret ?_
   refine ⟨.inr rfl,rfl,[.bool false],.cons (resV_tmp rfl (by simp [undef])) .nil,((((KeepX.refl (fun _ => False) H).new_ f102).trans k111 (by intro m hm; (try simp only [false_or,or_false] at hm ⊢); (try dsimp only at hm ⊢); first | omega | (right; omega) | (left; left; omega) | (left; right; omega))).k (fun _ h => h.elim)),w109,false,rfl⟩
  ·
   refine sv (v:=.string at1) rfl (wants_g rfl rfl rfl rfl rfl) rfl (opv_move (.inl rfl) rfl rfl) rfl ?_
   refine sv (v:=(vI ((at1).size:Int))) rfl (wants_g rfl rfl rfl rfl rfl) rfl (opv_len_str rfl rfl rfl Try.underlying9) rfl ?_
   by_cases c137 : ((at1).size:Int) ≤ 16
   ·
    refine sv (v:=.bool true) rfl (wants_g rfl rfl rfl rfl rfl) rfl (opv_bin rfl rfl rfl rfl rfl (cmpT rfl c137)) rfl ?_
    refine sv (v:=.bool true) rfl rfl rfl (opv_pick (b:=true) rfl rfl rfl rfl rfl rfl) rfl ?_
    refine mv (.bool true) rfl rfl ?_
    refine wo_nil (tq_n (wk ⟨[(2,.bool true)],42,[],H107⟩ rfl ?_))
    refine w_ret ?_
    refine ⟨.inr rfl,rfl,[.bool true],.cons (resV_tmp rfl (by simp [undef])) .nil,((((KeepX.refl (fun _ => False) H).new_ f102).trans k111 (by intro m hm; (try simp only [false_or,or_false] at hm ⊢); (try dsimp only at hm ⊢); first | omega | (right; omega) | (left; left; omega) | (left; right; omega))).k (fun _ h => h.elim)),w109,true,rfl⟩
   ·
    refine sv (v:=.bool false) rfl (wants_g rfl rfl rfl rfl rfl) rfl (opv_bin rfl rfl rfl rfl rfl (cmpF rfl c137)) rfl ?_
    refine sv (v:=.bool false) rfl rfl rfl (opv_pick (b:=true) rfl rfl rfl rfl rfl rfl) rfl ?_
    refine mv (.bool false) rfl rfl ?_
    refine wo_nil (tq_n (wk ⟨[(2,.bool false)],42,[],H107⟩ rfl ?_))
    refine w_ret ?_
    refine ⟨.inr rfl,rfl,[.bool false],.cons (resV_tmp rfl (by simp [undef])) .nil,((((KeepX.refl (fun _ => False) H).new_ f102).trans k111 (by intro m hm; (try simp only [false_or,or_false] at hm ⊢); (try dsimp only at hm ⊢); first | omega | (right; omega) | (left; left; omega) | (left; right; omega))).k (fun _ h => h.elim)),w109,false,rfl⟩

theorem gas_nm (tn:ByteArray) (te:Int) (H:SH) (wt:WT H):WC Try.prog 32 [.agg #[.string tn,vI te]] H (fun v H' => Keep H H'∧WT H'∧v=(.string tn)):=by
 refine wc_of_body Try.func32 rfl ?_
 refine wk ⟨[(0,.agg #[.string tn,vI te])],5,[],H⟩ rfl ?_
 refine w_seq (w_region (sv_new (H:=H) (v:=vP H.next 0) (x:=.row #[.string tn,vI te] .raw) rfl rfl rfl rfl (opv_boxE (v:=.agg #[.string tn,vI te]) rfl rfl rfl (by simp [undef]) rfl) ?_))
 intro H101 f102
 refine newL wt f102 fun n105 w103 l104 => ?_
 refine mv (.string (⟨#[]⟩)) rfl rfl ?_
 refine wo_nil (tq_n (wk ⟨[(1,vP H.next 0)],5,[],H101⟩ rfl ?_))
 refine w_seq (w_region (sv (v:=vP H.next 0) rfl rfl rfl (opv_fieldAddrE rfl rfl rfl Try.underlying63 rfl sz9 (by decide) rfl) rfl ?_))
 refine sv (v:=.string tn) rfl rfl rfl (opv_loadE rfl rfl rfl ag9 sz9 f102.blk rfl (.inr rfl) rfl) rfl ?_
 refine mv (.string tn) rfl rfl ?_
 refine wo_nil (tq_n (wk ⟨[(2,.string tn)],5,[],H101⟩ rfl ?_))
 refine w_ret ?_
 refine ⟨.inr rfl,rfl,[.string tn],.cons (resV_tmp rfl (by simp [undef])) .nil,((KeepX.refl (fun _ => False) H).new_ f102).k (fun _ h => h.elim),w103,rfl⟩

theorem gas_ixT (as1 fn2:Value) (H:SH) (wt:WT H) (hvas1:VT H (.sl false [.str,.int .i64]) as1) (hffn2:FnOK Try.prog fn2 [(true,[.str,.int .i64])] [(false,[.bool])] (fun _ => True) H):WC Try.prog 69 [as1,fn2] H (fun v H' => Keep H H'∧WT H'∧∃ (rx3:Int),v=(vI rx3)):=by
 refine wc_of_body Try.func69 rfl ?_
 refine wk ⟨[(0,as1),(1,fn2)],19,[],H⟩ rfl ?_
 refine w_seq (w_region (mv (vI 0) rfl rfl ?_))
 refine wo_nil (tq_n (wk ⟨[(0,as1),(1,fn2)],19,[],H⟩ rfl ?_))
 refine w_seq (w_seq (w_region (mv as1 rfl rfl ?_)))
 have c101:slen as1 ≤ 1073741824:=vt_lim hvas1
 refine sv (v:=(vI (slen as1:Int))) rfl rfl rfl (t_len hvas1 rfl rfl rfl Try.underlying25) rfl ?_
 refine mv (vI 0) rfl rfl ?_
 refine wo_nil (tq_n (wk ⟨[(0,as1),(1,fn2),(7,(vI (slen as1:Int))),(8,vI 0)],19,[],H⟩ rfl ?_))
 refine w_block (w_loopS (fun m109 s110 => ∃ (x102:Int) (H103:SH),(0 ≤ x102)∧(x102 ≤ (slen as1:Int))∧WT H103∧Le H H103∧KeepX (fun _ => False) H H103∧m109=(((slen as1:Int):Int) - x102).toNat∧s110=⟨[(0,as1),(1,fn2),(7,(vI (slen as1:Int))),(8,vI x102)],19,[],H103⟩) (n:=(((slen as1:Int):Int) - 0).toNat) ⟨⟨[(0,as1),(1,fn2),(7,(vI (slen as1:Int))),(8,vI 0)],19,[],H⟩,subk rfl,0,H,by omega,by omega,wt,Le.refl _,KeepX.refl (fun _ => False) H,rfl,rfl⟩ ?_)
 rintro m109 s110 ⟨x102,H103,i104,i105,w106,l107,k108,rfl,rfl⟩
 have n111:=k108.next
 refine w_seq (w_region ?_)
 by_cases c112:x102 < (slen as1:Int)
 ·
  refine sv (v:=.bool true) rfl rfl rfl (opv_bin rfl rfl rfl rfl rfl (cmpT rfl c112)) rfl ?_
  refine wo_nil (tq_n (wk ⟨[(0,as1),(1,fn2),(7,(vI (slen as1:Int))),(8,vI x102),(9,.bool true)],19,[],H103⟩ rfl ?_))
  refine w_seq (w_cond (t:=true) rfl rfl (fun _ => ?_) (fun h => by cases h))
  refine w_skip (tq_n (wk ⟨[(0,as1),(1,fn2),(7,(vI (slen as1:Int))),(8,vI x102)],19,[],H103⟩ rfl ?_))
  refine w_seq (w_block (w_seq (w_region (mv (vI x102) rfl rfl ?_))))
  refine mv (vI x102) rfl rfl ?_
  refine wo_nil (tq_n (wk ⟨[(0,as1),(1,fn2),(5,vI x102),(7,(vI (slen as1:Int))),(8,vI x102)],19,[],H103⟩ rfl ?_))
  refine w_seq (w_region (mv fn2 rfl rfl ?_))
  refine mv as1 rfl rfl ?_
  refine mv (vI x102) rfl rfl ?_
  refine sv (v:=.pointer (some ⟨snm as1,sof as1 + (x102).toNat * 2,none⟩)) rfl rfl rfl (t_index (z:=2) (hvas1.mono l107) rfl rfl rfl rfl rfl Try.underlying25 sz63 (by omega) (by omega)) rfl ?_
  obtain ⟨vs113,hs114,ho115⟩:=t_load (P:=Try.prog) w106 (hvas1.mono l107) (i:=(x102).toNat) (off:=0) (w:=2) (by omega) (by decide)
  replace hs114:VTs H103 [.str,.int .i64] vs113:=hs114
  obtain ⟨t118,r116,rfl,hs117⟩:=vts_str hs114
  obtain ⟨x121,r119,rfl,hs120⟩:=vts_int hs117
  obtain rfl:=vts_nil hs120
  refine sv (v:=.agg #[.string t118,vI x121]) rfl rfl rfl (ho115 _ _ _ _ true rfl rfl rfl rfl ag63 sz63 (.inl rfl)) rfl ?_
  refine sc_ (H:=H103) (vs:=[.agg #[.string t118,vI x121]]) (fv:=fn2) rfl rfl rfl rfl rfl rfl (.cons rfl rfl (by simp [undef]) .nil) rfl ?_
  refine WV.mono (hffn2.2 _ (((KeepX.refl (fun _ => False) H).trans k108 (fun _ h => h.elim)).k (fun _ h => h.elim)) w106 _ ⟨_,_,rfl,⟨[.string t118,vI x121],⟨_,_,rfl,.str _,⟨_,_,rfl,.int _ _,rfl⟩⟩,rfl⟩,rfl⟩ trivial) ?_
  rintro v122 H123 ⟨k124,w125,vs126,hv127,rfl⟩
  have n129:=k124.next
  have l128:=k124.le
  obtain ⟨v133,r132,rfl,⟨us130,hu131,rfl⟩,hv127⟩:=hv127
  obtain rfl:r132=[]:=hv127
  replace hu131:VTs H123 [.bool] us130:=hu131
  obtain ⟨b136,r134,rfl,hs135⟩:=vts_bool hu131
  obtain rfl:=vts_nil hs135
  refine wo_nil (tq_n (wk ⟨[(0,as1),(1,fn2),(5,vI x102),(7,(vI (slen as1:Int))),(8,vI x102),(16,.bool b136)],19,[],H123⟩ rfl ?_))
  rcases b136 with _ | _
  ·
   refine w_cond (t:=false) rfl rfl (fun h => by cases h) (fun _ => ?_)
   refine w_skip ?_
   try refine q_eq (e':=.normal) rfl ?_
   refine tqk ⟨[(0,as1),(1,fn2),(7,(vI (slen as1:Int))),(8,vI x102)],19,[],H123⟩ rfl ?_
   refine w_region (sv_int rfl rfl rfl (opv_bin rfl rfl rfl rfl rfl rfl) ?_)
   intro x137 h138
   try replace h138:x137=x102 + 1:=wr_ex h138 (by omega) (by omega)
   refine mv (vI x137) rfl rfl ?_
   refine wo_nil ?_
   refine tq_n ⟨(((slen as1:Int):Int) - x137).toNat,by omega,⟨[(0,as1),(1,fn2),(7,(vI (slen as1:Int))),(8,vI x137)],19,[],H123⟩,subk rfl,x137,H123,by omega,by omega,w125,l107.trans l128,((KeepX.refl (fun _ => False) H).trans k108 (fun _ h => h.elim)).keep k124,rfl,rfl⟩
  ·
   refine w_cond (t:=true) rfl rfl (fun _ => ?_) (fun h => by cases h)
   refine w_seq (w_region (mv (vI x102) rfl rfl ?_))
   refine mv (vI x102) rfl rfl ?_
   refine wo_nil (tq_n (wk ⟨[(4,vI x102)],19,[],H123⟩ rfl ?_))
   refine w_ret ?_
   try refine q_eq (e':=.ret) rfl ?_
   refine tq_r (tq_r ?_)
   try refine q_eq (e':=.ret) rfl ?_
   refine tq_r ?_
   refine ⟨.inr rfl,rfl,[vI x102],.cons (resV_tmp rfl neI) .nil,(((KeepX.refl (fun _ => False) H).trans k108 (fun _ h => h.elim)).keep k124).k (fun _ h => h.elim),w125,x102,rfl⟩
 ·
  refine sv (v:=.bool false) rfl rfl rfl (opv_bin rfl rfl rfl rfl rfl (cmpF rfl c112)) rfl ?_
  refine wo_nil (tq_n (wk ⟨[(0,as1),(1,fn2),(7,(vI (slen as1:Int))),(8,vI x102),(9,.bool false)],19,[],H103⟩ rfl ?_))
  refine w_seq (w_cond (t:=false) rfl rfl (fun h => by cases h) (fun _ => ?_))
  refine w_exit (tq_e (tq_e ?_))
  try refine q_eq (e':=.normal) rfl ?_
  refine tqk ⟨[],19,[],H103⟩ rfl ?_
  refine w_seq (w_region (mv (vI (-1)) rfl rfl ?_))
  refine wo_nil (tq_n (wk ⟨[(4,vI (-1))],19,[],H103⟩ rfl ?_))
  refine w_ret ?_
  refine ⟨.inr rfl,rfl,[vI (-1)],.cons (resV_tmp rfl neI) .nil,((KeepX.refl (fun _ => False) H).trans k108 (fun _ h => h.elim)).k (fun _ h => h.elim),w106,-1,rfl⟩

theorem gas_cfT (as1 fn2:Value) (H:SH) (wt:WT H) (hvas1:VT H (.sl false [.str,.int .i64]) as1) (hffn2:FnOK Try.prog fn2 [(true,[.str,.int .i64])] [(false,[.bool])] (fun _ => True) H):WC Try.prog 57 [as1,fn2] H (fun v H' => Keep H H'∧WT H'∧∃ (rb3:Bool),v=(.bool rb3)):=by
 refine wc_of_body Try.func57 rfl ?_
 refine wk ⟨[(0,as1),(1,fn2)],9,[],H⟩ rfl ?_
 refine w_seq (w_region (mv (.bool false) rfl rfl ?_))
 refine wo_nil (tq_n (wk ⟨[(0,as1),(1,fn2)],9,[],H⟩ rfl ?_))
 refine w_seq (w_region (mv as1 rfl rfl ?_))
 refine mv fn2 rfl rfl ?_
 refine sc_ (H:=H) (vs:=[as1,fn2]) (fv:=.func (.func 69) #[] #[]) rfl rfl rfl rfl rfl rfl (.cons rfl rfl (vt_ne hvas1) (.cons rfl rfl hffn2.1.1 .nil)) rfl ?_
 refine WV.mono (wv_f0 Try.call69 (gas_ixT as1 fn2 _ wt hvas1 (FnOK.mono (Keep.refl _) hffn2))) ?_
 rintro v103 H104 ⟨k105,w101,rx3102,rfl⟩
 refine kpL k105 fun n107 l106 => ?_
 by_cases c108:rx3102 ≥ 0
 ·
  refine sv (v:=.bool true) rfl rfl rfl (opv_bin rfl rfl rfl rfl rfl (cmpT rfl c108)) rfl ?_
  refine mv (.bool true) rfl rfl ?_
  refine wo_nil (tq_n (wk ⟨[(4,.bool true)],9,[],H104⟩ rfl ?_))
  refine w_ret ?_
  refine ⟨.inr rfl,rfl,[.bool true],.cons (resV_tmp rfl (by simp [undef])) .nil,((KeepX.refl (fun _ => False) H).keep k105).k (fun _ h => h.elim),w101,true,rfl⟩
 ·
  refine sv (v:=.bool false) rfl rfl rfl (opv_bin rfl rfl rfl rfl rfl (cmpF rfl c108)) rfl ?_
  refine mv (.bool false) rfl rfl ?_
  refine wo_nil (tq_n (wk ⟨[(4,.bool false)],9,[],H104⟩ rfl ?_))
  refine w_ret ?_
  refine ⟨.inr rfl,rfl,[.bool false],.cons (resV_tmp rfl (by simp [undef])) .nil,((KeepX.refl (fun _ => False) H).keep k105).k (fun _ h => h.elim),w101,false,rfl⟩

theorem gas_fr1 (tn:ByteArray) (te:Int) (n2 n3:Nat) (ts:ByteArray) (H:SH) (wt:WT H) (hkn2:H.get n2=some (.row #[.func (.func 32) #[] #[]] .raw)) (hln2:n2 < H.next) (hkn3:H.get n3=some (.row #[.string ts] .raw)) (hln3:n3 < H.next):WC Try.prog 58 [.agg #[.string tn,vI te],vP n2 0,vP n3 0] H (fun v H' => Keep H H'∧WT H'∧∃ (rb1:Bool),v=(.bool rb1)):=by
 refine wc_of_body Try.func58 rfl ?_
 refine wk ⟨[(0,.agg #[.string tn,vI te]),(1,vP n2 0),(2,vP n3 0)],10,[],H⟩ rfl ?_
 refine w_seq (w_region (sv_new (H:=H) (v:=vP H.next 0) (x:=.row #[.string tn,vI te] .raw) rfl rfl rfl rfl (opv_boxE (v:=.agg #[.string tn,vI te]) rfl rfl rfl (by simp [undef]) rfl) ?_))
 intro H101 f102
 refine newL wt f102 fun n105 w103 l104 => ?_
 refine mv (.bool false) rfl rfl ?_
 refine wo_nil (tq_n (wk ⟨[(1,vP n2 0),(2,vP n3 0),(3,vP H.next 0)],10,[],H101⟩ rfl ?_))
 refine w_seq (w_draw_start ?_)
 intro C0
 have C106:=ch_val (i:=0) (p:=0) (ks:=[1]) (v:=.func (.func 32) #[] #[]) (A:=H101) (H:=H101) C0 rfl rfl rfl rfl rfl rfl (opv_loadE rfl rfl rfl ag65 sz65 ((f102.get n2 (by omega)).trans hkn2) rfl (.inr rfl) rfl)
 have C107:=ch_val (i:=1) (p:=0) (ks:=[3]) (v:=.agg #[.string tn,vI te]) (A:=H101) (H:=H101) C106 rfl rfl rfl rfl rfl rfl (opv_loadE rfl rfl rfl ag63 sz63 f102.blk rfl (.inl rfl) rfl)
 obtain ⟨_,H110,k111,⟨w109,rfl⟩,C108⟩:=ch_call (i:=2) (p:=2) (ks:=[5,6]) (vs:=[.agg #[.string tn,vI te]]) (fv:=.func (.func 32) #[] #[]) (H:=H101) C107 rfl rfl rfl rfl rfl rfl rfl (.cons rfl rfl (by simp [undef]) .nil) rfl (wv_f0 Try.call32 (gas_nm tn te _ w103))
 refine kpL k111 fun n113 l112 => ?_
 have C114:=ch_val (i:=3) (p:=0) (ks:=[2]) (v:=.string ts) (A:=H101) (H:=H110) C108 rfl rfl rfl rfl rfl rfl (opv_loadE rfl rfl rfl ag9 sz9 ((f102.get n3 (by omega)).trans hkn3) rfl (.inr rfl) rfl)
 refine w_draw (tl:=[4,5]) rfl [0,0,3,0,15,31] C114 (by kernel_rfl) (by kernel_rfl) ?_
 refine wonorm (g:=[(7,.string tn),(8,.string ts)]) (n:=10) (ds:=[]) (H:=H110) (lsub_cons rfl (lsub_cons rfl (lsub_nil _))) rfl rfl rfl ?_
 obtain ⟨b115,h116⟩ : ∃ b:Bool,((tn:ByteArray).toList == (ts:ByteArray).toList) = b:=⟨_,rfl⟩
 refine sv (v:=.bool b115) rfl rfl rfl (by rw [← h116]; exact opv_eqStr rfl rfl rfl rfl rfl) rfl ?_
 refine mv (.bool b115) rfl rfl ?_
 refine wo_nil (tq_n (wk ⟨[(4,.bool b115)],10,[],H110⟩ rfl ?_))
 refine w_ret ?_
 refine ⟨.inr rfl,rfl,[.bool b115],.cons (resV_tmp rfl (by simp [undef])) .nil,(((KeepX.refl (fun _ => False) H).new_ f102).keep k111).k (fun _ h => h.elim),w109,b115,rfl⟩

theorem gas_fresh (as117:Value) (H:SH) (wt:WT H) (hvas117:VT H (.sl false [.str,.int .i64]) as117) (h0:1 ≤ slen as117):WC Try.prog 31 [as117,.func (.func 32) #[] #[]] H (fun v H' => Keep H H'∧WT H'∧∃ (rx1:Int),v=(vI rx1)):=by
 refine wc_of_body Try.func31 rfl ?_
 refine wk ⟨[(0,as117),(1,.func (.func 32) #[] #[])],26,[],H⟩ rfl ?_
 refine w_seq (w_region (sv_new (H:=H) (v:=vP H.next 0) (x:=.row #[.func (.func 32) #[] #[]] .raw) rfl rfl rfl rfl (opv_boxE (v:=.func (.func 32) #[] #[]) rfl rfl rfl (by simp [undef]) rfl) ?_))
 intro H101 f102
 refine newL wt f102 fun n105 w103 l104 => ?_
 refine mv (vI 0) rfl rfl ?_
 refine wo_nil (tq_n (wk ⟨[(0,as117),(3,vP H.next 0)],26,[],H101⟩ rfl ?_))
 refine w_seq (w_region (mv as117 rfl rfl ?_))
 have c106:slen as117 ≤ 1073741824:=vt_lim (hvas117.mono l104)
 refine sv (v:=(vI (slen as117:Int))) rfl rfl rfl (t_len (hvas117.mono l104) rfl rfl rfl Try.underlying25) rfl ?_
 refine sv_int rfl rfl rfl (opv_bin rfl rfl rfl rfl rfl rfl) ?_
 intro x107 h108
 try replace h108:x107=(slen as117:Int) - 1:=wr_ex h108 (by omega) (by omega)
 refine mv (vI x107) rfl rfl ?_
 refine wo_nil (tq_n (wk ⟨[(0,as117),(3,vP H.next 0),(5,vI x107)],26,[],H101⟩ rfl ?_))
 refine w_seq (w_draw_start ?_)
 intro C0
 have C109:=ch_val (i:=0) (p:=0) (ks:=[3]) (v:=.func (.func 32) #[] #[]) (A:=H101) (H:=H101) C0 rfl rfl rfl rfl rfl rfl (opv_loadE rfl rfl rfl ag65 sz65 f102.blk rfl (.inr rfl) rfl)
 have C110:=ch_val (i:=1) (p:=0) (ks:=[0]) (v:=as117) (A:=H101) (H:=H101) C109 rfl rfl rfl rfl rfl rfl (opv_move (.inl rfl) rfl rfl)
 have C111:=ch_val (i:=2) (p:=0) (ks:=[5]) (v:=vI x107) (A:=H101) (H:=H101) C110 rfl rfl rfl rfl rfl rfl (opv_move (.inl rfl) rfl rfl)
 have C112:=ch_val (i:=3) (p:=0) (ks:=[11,12]) (v:=.pointer (some ⟨snm as117,sof as117 + (x107).toNat * 2,none⟩)) (A:=H101) (H:=H101) C111 rfl rfl rfl rfl rfl rfl (t_index (z:=2) (hvas117.mono l104) rfl rfl rfl rfl rfl Try.underlying25 sz63 (by omega) (by omega))
 obtain ⟨vs114,hs115,ho116⟩:=t_load (P:=Try.prog) w103 (hvas117.mono l104) (i:=(x107).toNat) (off:=0) (w:=2) (by omega) (by decide)
 replace hs115:VTs H101 [.str,.int .i64] vs114:=hs115
 obtain ⟨t119,r117,rfl,hs118⟩:=vts_str hs115
 obtain ⟨x122,r120,rfl,hs121⟩:=vts_int hs118
 obtain rfl:=vts_nil hs121
 have C113:=ch_val (i:=4) (p:=0) (ks:=[13]) (v:=.agg #[.string t119,vI x122]) (A:=H101) (H:=H101) C112 rfl rfl rfl rfl rfl rfl (ho116 _ _ _ _ true rfl rfl rfl rfl ag63 sz63 (.inl rfl))
 obtain ⟨_,H125,k126,⟨w124,rfl⟩,C123⟩:=ch_call (i:=5) (p:=5) (ks:=[10,14]) (vs:=[.agg #[.string t119,vI x122]]) (fv:=.func (.func 32) #[] #[]) (H:=H101) C113 rfl rfl rfl rfl rfl rfl rfl (.cons rfl rfl (by simp [undef]) .nil) rfl (wv_f0 Try.call32 (gas_nm t119 x122 _ w103))
 refine kpL k126 fun n128 l127 => ?_
 obtain ⟨H130,f131,C129⟩:=ch_bare (i:=6) (p:=6) (ks:=[]) (v:=vP H125.next 0) (x:=.row #[.string (⟨#[]⟩)] .raw) (H:=H125) C123 rfl rfl rfl rfl rfl (opv_alloc rfl ze9 rfl)
 refine newL w124 f131 fun n134 w132 l133 => ?_
 refine w_draw (tl:=[7]) rfl [0,0,0,6,14,31,0,127] C129 (by kernel_rfl) (by kernel_rfl) ?_
 refine wonorm (g:=[(0,as117),(3,vP H.next 0),(5,vI x107),(6,vP H125.next 0),(15,.string t119)]) (n:=26) (ds:=[]) (H:=H130) (lsub_cons rfl (lsub_cons rfl (lsub_cons rfl (lsub_cons rfl (lsub_cons rfl (lsub_nil _)))))) rfl rfl rfl ?_
 refine sv_put (H:=H130) (n:=H125.next) (v:=undef) (x:=some (.row #[.string t119] .raw)) rfl rfl rfl rfl (opv_storeC (u:=.string t119) rfl rfl rfl rfl rfl (by simp [undef]) sz9 rfl rfl rfl f131.blk rfl rfl) ?_
 intro H135 f136
 refine putL w132 f136 f131.blk fun n139 w137 l138 => ?_
 refine wo_nil (tq_n (wk ⟨[(0,as117),(3,vP H.next 0),(5,vI x107),(6,vP H125.next 0)],26,[],H135⟩ rfl ?_))
 refine w_seq (w_block (w_seq (w_region (sv (v:=.string t119) rfl rfl rfl (opv_loadE rfl rfl rfl ag9 sz9 f136.blk rfl (.inr rfl) rfl) rfl ?_))))
 refine sc_ (H:=H135) (vs:=[.string t119]) (fv:=.func (.func 56) #[] #[]) rfl rfl rfl rfl rfl rfl (.cons rfl rfl (by simp [undef]) .nil) rfl ?_
 refine WV.mono (wv_f0 Try.call56 (gas_Name t119 _ w137)) ?_
 rintro v142 H143 ⟨k144,w140,rb2141,rfl⟩
 refine kpL k144 fun n146 l145 => ?_
 rcases rb2141 with _ | _
 ·
  refine sv (v:=.bool true) rfl rfl rfl (opv_not (b:=false) rfl rfl rfl) rfl ?_
  refine mv (.bool true) rfl rfl ?_
  refine wo_nil (tq_n (wk ⟨[(0,as117),(3,vP H.next 0),(5,vI x107),(6,vP H125.next 0),(16,.bool true)],26,[],H143⟩ rfl ?_))
  refine w_cond (t:=true) rfl rfl (fun _ => ?_) (fun h => by cases h)
  refine w_seq (w_region (mv (vI 6) rfl rfl ?_))
  refine wo_nil (tq_n (wk ⟨[(4,vI 6)],26,[],H143⟩ rfl ?_))
  refine w_ret ?_
  try refine q_eq (e':=.ret) rfl ?_
  refine tq_r ?_
  refine ⟨.inr rfl,rfl,[vI 6],.cons (resV_tmp rfl neI) .nil,(((((((KeepX.refl (fun _ => False) H).new_ f102).keep k126).new_ f131).put f136 (by first | (right; omega) | (left; (try dsimp only) <;> omega))).keep k144).k (fun _ h => h.elim)),w140,6,rfl⟩
 ·
  refine sv (v:=.bool false) rfl rfl rfl (opv_not (b:=true) rfl rfl rfl) rfl ?_
  refine mv (.bool false) rfl rfl ?_
  refine wo_nil (tq_n (wk ⟨[(0,as117),(3,vP H.next 0),(5,vI x107),(6,vP H125.next 0),(16,.bool false)],26,[],H143⟩ rfl ?_))
  refine w_cond (t:=false) rfl rfl (fun h => by cases h) (fun _ => ?_)
  refine w_seq (w_region (mv as117 rfl rfl ?_))
  refine mv (vI x107) rfl rfl ?_
  have hv147:=vt_slTo (hvas117.mono ((((l104.trans l127).trans l133).trans l138).trans l145)) (h:=(x107).toNat) (by omega)
  have c148:=slen_slTo (hvas117.mono ((((l104.trans l127).trans l133).trans l138).trans l145)) (h:=(x107).toNat) (by omega)
  refine sv (v:=slTo as117 (x107).toNat) rfl rfl rfl (t_slice (hvas117.mono ((((l104.trans l127).trans l133).trans l138).trans l145)) rfl rfl rfl rfl rfl rfl Try.underlying25 sz63 rfl (by omega) (by omega)) rfl ?_
  refine sv (v:=.func (.func 58) #[] #[vP H.next 0,vP H125.next 0]) rfl rfl rfl (opv_makeFunc (vs:=[]) (us:=[vP H.next 0,vP H125.next 0]) rfl (.func _) .nil (.cons rfl rfl neP (.cons rfl rfl neP .nil))) rfl ?_
  refine sc_ (H:=H143) (vs:=[slTo as117 (x107).toNat,.func (.func 58) #[] #[vP H.next 0,vP H125.next 0]]) (fv:=.func (.func 57) #[] #[]) rfl rfl rfl rfl rfl rfl (.cons rfl rfl (vt_ne hv147) (.cons rfl rfl (by simp [undef]) .nil)) rfl ?_
  have ok174:FnOK Try.prog (.func (.func 58) #[] #[vP H.next 0,vP H125.next 0]) [(true,[.str,.int .i64])] [(false,[.bool])] (fun _ => True) H143:=by
    refine ⟨⟨by simp [undef],rfl,rfl⟩,?_⟩
    intro H149 k150 w151 as152 ha153 hp154
    have n156:=k150.next
    have l155:=k150.le
    obtain ⟨v157,r158,rfl,⟨us159,hu160,rfl⟩,ha153⟩:=ha153
    replace hu160:VTs H149 [.str,.int .i64] us159:=hu160
    obtain ⟨t163,r161,rfl,hs162⟩:=vts_str hu160
    obtain ⟨x166,r164,rfl,hs165⟩:=vts_int hs162
    obtain rfl:=vts_nil hs165
    obtain rfl:r158=[]:=ha153
    refine WV.mono (wv_fc (cap:=[vP H.next 0,vP H125.next 0]) Try.call58 (gas_fr1 t163 x166 H.next H125.next t119 _ w151 ((k150.get H.next (by omega)).trans ((k144.get H.next (by omega)).trans ((f136.get H.next (by omega)).trans ((f131.get H.next (by omega)).trans ((k126.get H.next (by omega)).trans f102.blk))))) (by omega) ((k150.get H125.next (by omega)).trans ((k144.get H125.next (by omega)).trans f136.blk)) (by omega))) ?_
    rintro v169 H170 ⟨k171,w167,rb1168,rfl⟩
    refine kpL k171 fun n173 l172 => ?_
    exact ⟨k171,w167,[.bool rb1168],⟨_,_,rfl,⟨[.bool rb1168],⟨_,_,rfl,.bool _,rfl⟩,rfl⟩,rfl⟩,rfl⟩
  refine WV.mono (wv_f0 Try.call57 (gas_cfT (slTo as117 (x107).toNat) (.func (.func 58) #[] #[vP H.next 0,vP H125.next 0]) _ w140 hv147 ok174)) ?_
  rintro v177 H178 ⟨k179,w175,rb3176,rfl⟩
  refine kpL k179 fun n181 l180 => ?_
  refine mv (.bool rb3176) rfl rfl ?_
  refine wo_nil (tq_n (wk ⟨[(20,.bool rb3176)],26,[],H178⟩ rfl ?_))
  rcases rb3176 with _ | _
  ·
   refine w_cond (t:=false) rfl rfl (fun h => by cases h) (fun _ => ?_)
   refine w_skip ?_
   try refine q_eq (e':=.normal) rfl ?_
   refine tqk ⟨[],26,[],H178⟩ rfl ?_
   refine w_seq (w_region (mv (vI 0) rfl rfl ?_))
   refine wo_nil (tq_n (wk ⟨[(4,vI 0)],26,[],H178⟩ rfl ?_))
   refine w_ret ?_
   refine ⟨.inr rfl,rfl,[vI 0],.cons (resV_tmp rfl neI) .nil,((((((((KeepX.refl (fun _ => False) H).new_ f102).keep k126).new_ f131).put f136 (by first | (right; omega) | (left; (try dsimp only) <;> omega))).keep k144).keep k179).k (fun _ h => h.elim)),w175,0,rfl⟩
  ·
   refine w_cond (t:=true) rfl rfl (fun _ => ?_) (fun h => by cases h)
   refine w_seq (w_region (mv (vI 5) rfl rfl ?_))
   refine wo_nil (tq_n (wk ⟨[(4,vI 5)],26,[],H178⟩ rfl ?_))
   refine w_ret ?_
   try refine q_eq (e':=.ret) rfl ?_
   refine tq_r ?_
   refine ⟨.inr rfl,rfl,[vI 5],.cons (resV_tmp rfl neI) .nil,((((((((KeepX.refl (fun _ => False) H).new_ f102).keep k126).new_ f131).put f136 (by first | (right; omega) | (left; (try dsimp only) <;> omega))).keep k144).keep k179).k (fun _ h => h.elim)),w175,5,rfl⟩
end Go.Proofs.Orl

namespace Go.Proofs.Orl
open Go Go.MapKept
set_option maxRecDepth 10000
set_option maxHeartbeats 4000000
theorem ag23:aggT Try.prog 23=some true:=by kernel_rfl
theorem ag24:aggT Try.prog 24=some false:=by kernel_rfl
theorem ag25:aggT Try.prog 25=some false:=by kernel_rfl
theorem ag66:aggT Try.prog 66=some false:=by kernel_rfl
theorem pl23:placesT Try.prog 23=some [(0,1),(1,1)]:=by kernel_rfl
theorem sz23:szT Try.prog 23=some 2:=by kernel_rfl
theorem sz24:szT Try.prog 24=some 1:=by kernel_rfl
theorem sz25:szT Try.prog 25=some 1:=by kernel_rfl
theorem sz27:szT Try.prog 27=some 9:=by kernel_rfl
theorem sz66:szT Try.prog 66=some 1:=by kernel_rfl
theorem tin23:Try.prog.info? 23=some Try.t23:=by kernel_rfl
theorem ze3:zeroT Try.prog 3=some (vI 0):=by kernel_rfl
theorem ze23:zeroT Try.prog 23=some (.agg #[vI 0,vI 0]):=by kernel_rfl
theorem ze63:zeroT Try.prog 63=some (.agg #[.string (⟨#[]⟩),vI 0]):=by kernel_rfl
theorem gas_Check (ax1 ax2:Int) (ax3 ax4:Int) (ax5 ax6 ax7:Int) (as8 as9:Value) (H:SH) (wt:WT H) (hvas8:VT H (.sl false [.int .i64,.int .i64]) as8) (hvas9:VT H (.sl false [.str,.int .i64]) as9):WC Try.prog 7 [.agg #[vI ax1,vI ax2,vI ax3,vI ax4,vI ax5,vI ax6,vI ax7,as8,as9]] H (fun v H' => Keep H H'∧WT H'∧∃ (rx10 rx11 rx12:Int),v=(.tuple #[vI rx10,vI rx11,vI rx12])):=by
 refine wc_of_body Try.func7 rfl ?_
 refine wk ⟨[(0,.agg #[vI ax1,vI ax2,vI ax3,vI ax4,vI ax5,vI ax6,vI ax7,as8,as9])],132,[],H⟩ rfl ?_
 refine w_seq (w_region (sv_new (H:=H) (v:=vP H.next 0) (x:=.row #[vI ax1,vI ax2,vI ax3,vI ax4,vI ax5,vI ax6,vI ax7,as8,as9] .raw) rfl rfl rfl rfl (opv_boxE (v:=.agg #[vI ax1,vI ax2,vI ax3,vI ax4,vI ax5,vI ax6,vI ax7,as8,as9]) rfl rfl rfl (by simp [undef]) rfl) ?_))
 intro H101 f102
 refine newL wt f102 fun n105 w103 l104 => ?_
 refine mv (vI 0) rfl rfl ?_
 refine mv (vI 0) rfl rfl ?_
 refine mv (vI 0) rfl rfl ?_
 refine wo_nil (tq_n (wk ⟨[(1,vP H.next 0)],132,[],H101⟩ rfl ?_))
 refine w_seq (w_block (w_seq (w_region (sv (v:=vP H.next 0) rfl rfl rfl (opv_fieldAddrE rfl rfl rfl Try.underlying27 rfl sz23 (by decide) rfl) rfl ?_))))
 refine sv (v:=vP H.next 0) rfl rfl rfl (opv_fieldAddrE rfl rfl rfl Try.underlying23 rfl sz3 (by decide) rfl) rfl ?_
 refine sv (v:=vI ax1) rfl rfl rfl (opv_loadE rfl rfl rfl ag3 sz3 f102.blk rfl (.inr rfl) rfl) rfl ?_
 refine sv (v:=vP H.next 0) rfl rfl rfl (opv_fieldAddrE rfl rfl rfl Try.underlying27 rfl sz23 (by decide) rfl) rfl ?_
 refine sv (v:=vP H.next 1) rfl rfl rfl (opv_fieldAddrE rfl rfl rfl Try.underlying23 rfl sz3 (by decide) rfl) rfl ?_
 refine sv (v:=vI ax2) rfl rfl rfl (opv_loadE rfl rfl rfl ag3 sz3 f102.blk rfl (.inr rfl) rfl) rfl ?_
 refine sv (v:=vP H.next 6) rfl rfl rfl (opv_fieldAddrE rfl rfl rfl Try.underlying27 rfl sz3 (by decide) rfl) rfl ?_
 refine sv (v:=vI ax7) rfl rfl rfl (opv_loadE rfl rfl rfl ag3 sz3 f102.blk rfl (.inr rfl) rfl) rfl ?_
 refine sv_new (H:=H101) (v:=.slice (some ⟨H101.next,0,none⟩) 3 1) (x:=.row #[vI ax1,vI ax2,vI ax7] .raw) rfl rfl rfl rfl (opv_buildSliceE (vs:=[(0,vI ax1),(1,vI ax2),(2,vI ax7)]) rfl (.cons rfl rfl neI (.cons rfl rfl neI (.cons rfl rfl neI .nil))) Try.underlying31 sz3 ze3 rfl (by decide) (by decide) rfl rfl rfl) ?_
 intro H106 f107
 refine newL w103 f107 fun n110 w108 l109 => ?_
 refine sc_ (H:=H106) (vs:=[vI 0,vI 200,.slice (some ⟨H101.next,0,none⟩) 3 1]) (fv:=.func (.func 30) #[] #[]) rfl rfl rfl rfl rfl rfl (.cons rfl rfl neI (.cons rfl rfl neI (.cons rfl rfl (by simp [undef]) .nil))) rfl ?_
 refine WV.mono (wv_f0 Try.call30 (gas_out_3 ax1 ax2 ax7 0 200 H101.next _ w108 f107.blk (by omega))) ?_
 rintro v114 H115 ⟨k116,w111,rb112,rfl,f113⟩
 refine kpL k116 fun n118 l117 => ?_
 refine mv (.bool rb112) rfl rfl ?_
 rcases f113 with ⟨rfl,f113⟩ | ⟨rfl,f113⟩
 ·
  refine ss rfl (wants_g rfl rfl rfl rfl rfl) rfl rfl ?_
  refine ss rfl (wants_g rfl rfl rfl rfl rfl) rfl rfl ?_
  refine ss rfl (wants_g rfl rfl rfl rfl rfl) rfl rfl ?_
  refine ss rfl (wants_g rfl rfl rfl rfl rfl) rfl rfl ?_
  refine ss rfl (wants_g rfl rfl rfl rfl rfl) rfl rfl ?_
  refine ss rfl (wants_g rfl rfl rfl rfl rfl) rfl rfl ?_
  refine ss rfl (wants_g rfl rfl rfl rfl rfl) rfl rfl ?_
  refine ss rfl (wants_g rfl rfl rfl rfl rfl) rfl rfl ?_
  refine ss rfl (wants_g rfl rfl rfl rfl rfl) rfl rfl ?_
  refine ss rfl (wants_g rfl rfl rfl rfl rfl) rfl rfl ?_
  refine ss rfl (wants_g rfl rfl rfl rfl rfl) rfl rfl ?_
  refine ss rfl (wants_g rfl rfl rfl rfl rfl) rfl rfl ?_
  refine ss rfl (wants_g rfl rfl rfl rfl rfl) rfl rfl ?_
  refine ss rfl (wants_g rfl rfl rfl rfl rfl) rfl rfl ?_
  refine sv (v:=.bool true) rfl rfl rfl (opv_pick (b:=true) rfl rfl rfl rfl rfl rfl) rfl ?_
  refine mv (.bool true) rfl rfl ?_
  refine wo_nil (tq_n (wk ⟨[(1,vP H.next 0),(10,.bool true)],132,[],H115⟩ rfl ?_))
  refine w_cond (t:=true) rfl rfl (fun _ => ?_) (fun h => by cases h)
  refine w_seq (w_region (mv (vI 1) rfl rfl ?_))
  refine mv (vI 0) rfl rfl ?_
  refine mv (vI 7) rfl rfl ?_
  refine wo_nil (tq_n (wk ⟨[(2,vI 1),(3,vI 0),(4,vI 7)],132,[],H115⟩ rfl ?_))
  refine w_ret ?_
  try refine q_eq (e':=.ret) rfl ?_
  refine tq_r ?_
  refine ⟨.inr rfl,rfl,[vI 1,vI 0,vI 7],.cons (resV_tmp rfl neI) (.cons (resV_tmp rfl neI) (.cons (resV_tmp rfl neI) .nil)),((((KeepX.refl (fun _ => False) H).new_ f102).new_ f107).keep k116).k (fun _ h => h.elim),w111,1,0,7,rfl⟩
 ·
  refine sv (v:=vP H.next 2) rfl (wants_g rfl rfl rfl rfl rfl) rfl (opv_fieldAddrE rfl rfl rfl Try.underlying27 rfl sz23 (by decide) rfl) rfl ?_
  refine sv (v:=vP H.next 2) rfl (wants_g rfl rfl rfl rfl rfl) rfl (opv_fieldAddrE rfl rfl rfl Try.underlying23 rfl sz3 (by decide) rfl) rfl ?_
  refine sv (v:=vI ax3) rfl (wants_g rfl rfl rfl rfl rfl) rfl (opv_loadE rfl rfl rfl ag3 sz3 ((k116.get H.next (by omega)).trans ((f107.get H.next (by omega)).trans f102.blk)) rfl (.inr rfl) rfl) rfl ?_
  refine sv (v:=vP H.next 2) rfl (wants_g rfl rfl rfl rfl rfl) rfl (opv_fieldAddrE rfl rfl rfl Try.underlying27 rfl sz23 (by decide) rfl) rfl ?_
  refine sv (v:=vP H.next 3) rfl (wants_g rfl rfl rfl rfl rfl) rfl (opv_fieldAddrE rfl rfl rfl Try.underlying23 rfl sz3 (by decide) rfl) rfl ?_
  refine sv (v:=vI ax4) rfl (wants_g rfl rfl rfl rfl rfl) rfl (opv_loadE rfl rfl rfl ag3 sz3 ((k116.get H.next (by omega)).trans ((f107.get H.next (by omega)).trans f102.blk)) rfl (.inr rfl) rfl) rfl ?_
  refine sv (v:=vP H.next 4) rfl (wants_g rfl rfl rfl rfl rfl) rfl (opv_fieldAddrE rfl rfl rfl Try.underlying27 rfl sz23 (by decide) rfl) rfl ?_
  refine sv (v:=vP H.next 4) rfl (wants_g rfl rfl rfl rfl rfl) rfl (opv_fieldAddrE rfl rfl rfl Try.underlying23 rfl sz3 (by decide) rfl) rfl ?_
  refine sv (v:=vI ax5) rfl (wants_g rfl rfl rfl rfl rfl) rfl (opv_loadE rfl rfl rfl ag3 sz3 ((k116.get H.next (by omega)).trans ((f107.get H.next (by omega)).trans f102.blk)) rfl (.inr rfl) rfl) rfl ?_
  refine sv (v:=vP H.next 4) rfl (wants_g rfl rfl rfl rfl rfl) rfl (opv_fieldAddrE rfl rfl rfl Try.underlying27 rfl sz23 (by decide) rfl) rfl ?_
  refine sv (v:=vP H.next 5) rfl (wants_g rfl rfl rfl rfl rfl) rfl (opv_fieldAddrE rfl rfl rfl Try.underlying23 rfl sz3 (by decide) rfl) rfl ?_
  refine sv (v:=vI ax6) rfl (wants_g rfl rfl rfl rfl rfl) rfl (opv_loadE rfl rfl rfl ag3 sz3 ((k116.get H.next (by omega)).trans ((f107.get H.next (by omega)).trans f102.blk)) rfl (.inr rfl) rfl) rfl ?_
  refine sv_new (H:=H115) (v:=.slice (some ⟨H115.next,0,none⟩) 4 1) (x:=.row #[vI ax3,vI ax4,vI ax5,vI ax6] .raw) rfl (wants_g rfl rfl rfl rfl rfl) rfl rfl (opv_buildSliceE (vs:=[(0,vI ax3),(1,vI ax4),(2,vI ax5),(3,vI ax6)]) rfl (.cons rfl rfl neI (.cons rfl rfl neI (.cons rfl rfl neI (.cons rfl rfl neI .nil)))) Try.underlying31 sz3 ze3 rfl (by decide) (by decide) rfl rfl rfl) ?_
  intro H119 f120
  refine newL w111 f120 fun n123 w121 l122 => ?_
  refine sc_ (H:=H119) (vs:=[vI (-20),vI 20,.slice (some ⟨H115.next,0,none⟩) 4 1]) (fv:=.func (.func 30) #[] #[]) rfl (wants_g rfl rfl rfl rfl rfl) rfl rfl rfl rfl (.cons rfl rfl neI (.cons rfl rfl neI (.cons rfl rfl (by simp [undef]) .nil))) rfl ?_
  refine WV.mono (wv_f0 Try.call30 (gas_out_4 ax3 ax4 ax5 ax6 (-20) 20 H115.next _ w121 f120.blk (by omega))) ?_
  rintro v127 H128 ⟨k129,w124,rb125,rfl,f126⟩
  refine kpL k129 fun n131 l130 => ?_
  refine sv (v:=.bool rb125) rfl rfl rfl (opv_pick (b:=false) rfl rfl rfl rfl rfl rfl) rfl ?_
  refine mv (.bool rb125) rfl rfl ?_
  refine wo_nil (tq_n (wk ⟨[(1,vP H.next 0),(10,.bool rb125)],132,[],H128⟩ rfl ?_))
  rcases f126 with ⟨rfl,f126⟩ | ⟨rfl,f126⟩
  ·
   refine w_cond (t:=true) rfl rfl (fun _ => ?_) (fun h => by cases h)
   refine w_seq (w_region (mv (vI 1) rfl rfl ?_))
   refine mv (vI 0) rfl rfl ?_
   refine mv (vI 7) rfl rfl ?_
   refine wo_nil (tq_n (wk ⟨[(2,vI 1),(3,vI 0),(4,vI 7)],132,[],H128⟩ rfl ?_))
   refine w_ret ?_
   try refine q_eq (e':=.ret) rfl ?_
   refine tq_r ?_
   refine ⟨.inr rfl,rfl,[vI 1,vI 0,vI 7],.cons (resV_tmp rfl neI) (.cons (resV_tmp rfl neI) (.cons (resV_tmp rfl neI) .nil)),((((((KeepX.refl (fun _ => False) H).new_ f102).new_ f107).keep k116).new_ f120).keep k129).k (fun _ h => h.elim),w124,1,0,7,rfl⟩
  ·
   refine w_cond (t:=false) rfl rfl (fun h => by cases h) (fun _ => ?_)
   refine w_seq (w_region (sv (v:=vP H.next 0) rfl rfl rfl (opv_fieldAddrE rfl rfl rfl Try.underlying27 rfl sz23 (by decide) rfl) rfl ?_))
   refine sv (v:=vP H.next 0) rfl rfl rfl (opv_fieldAddrE rfl rfl rfl Try.underlying23 rfl sz3 (by decide) rfl) rfl ?_
   refine sv (v:=vI ax1) rfl rfl rfl (opv_loadE rfl rfl rfl ag3 sz3 ((k129.get H.next (by omega)).trans ((f120.get H.next (by omega)).trans ((k116.get H.next (by omega)).trans ((f107.get H.next (by omega)).trans f102.blk)))) rfl (.inr rfl) rfl) rfl ?_
   refine sv (v:=vP H.next 0) rfl rfl rfl (opv_fieldAddrE rfl rfl rfl Try.underlying27 rfl sz23 (by decide) rfl) rfl ?_
   refine sv (v:=vP H.next 1) rfl rfl rfl (opv_fieldAddrE rfl rfl rfl Try.underlying23 rfl sz3 (by decide) rfl) rfl ?_
   refine sv (v:=vI ax2) rfl rfl rfl (opv_loadE rfl rfl rfl ag3 sz3 ((k129.get H.next (by omega)).trans ((f120.get H.next (by omega)).trans ((k116.get H.next (by omega)).trans ((f107.get H.next (by omega)).trans f102.blk)))) rfl (.inr rfl) rfl) rfl ?_
   by_cases c132:ax1 > ax2
   ·
    refine sv (v:=.bool true) rfl rfl rfl (opv_bin rfl rfl rfl rfl rfl (cmpT rfl c132)) rfl ?_
    refine mv (.bool true) rfl rfl ?_
    refine ss rfl (wants_g rfl rfl rfl rfl rfl) rfl rfl ?_
    refine ss rfl (wants_g rfl rfl rfl rfl rfl) rfl rfl ?_
    refine ss rfl (wants_g rfl rfl rfl rfl rfl) rfl rfl ?_
    refine ss rfl (wants_g rfl rfl rfl rfl rfl) rfl rfl ?_
    refine ss rfl (wants_g rfl rfl rfl rfl rfl) rfl rfl ?_
    refine ss rfl (wants_g rfl rfl rfl rfl rfl) rfl rfl ?_
    refine ss rfl (wants_g rfl rfl rfl rfl rfl) rfl rfl ?_
    refine sv (v:=.bool true) rfl rfl rfl (opv_pick (b:=true) rfl rfl rfl rfl rfl rfl) rfl ?_
    refine mv (.bool true) rfl rfl ?_
    refine ss rfl (wants_g rfl rfl rfl rfl rfl) rfl rfl ?_
    refine ss rfl (wants_g rfl rfl rfl rfl rfl) rfl rfl ?_
    refine ss rfl (wants_g rfl rfl rfl rfl rfl) rfl rfl ?_
    refine ss rfl (wants_g rfl rfl rfl rfl rfl) rfl rfl ?_
    refine ss rfl (wants_g rfl rfl rfl rfl rfl) rfl rfl ?_
    refine ss rfl (wants_g rfl rfl rfl rfl rfl) rfl rfl ?_
    refine ss rfl (wants_g rfl rfl rfl rfl rfl) rfl rfl ?_
    refine sv (v:=.bool true) rfl rfl rfl (opv_pick (b:=true) rfl rfl rfl rfl rfl rfl) rfl ?_
    refine mv (.bool true) rfl rfl ?_
    refine wo_nil (tq_n (wk ⟨[(1,vP H.next 0),(37,.bool true)],132,[],H128⟩ rfl ?_))
    refine w_cond (t:=true) rfl rfl (fun _ => ?_) (fun h => by cases h)
    refine w_seq (w_region (mv (vI 1) rfl rfl ?_))
    refine mv (vI 0) rfl rfl ?_
    refine mv (vI 2) rfl rfl ?_
    refine wo_nil (tq_n (wk ⟨[(2,vI 1),(3,vI 0),(4,vI 2)],132,[],H128⟩ rfl ?_))
    refine w_ret ?_
    try refine q_eq (e':=.ret) rfl ?_
    refine tq_r ?_
    refine ⟨.inr rfl,rfl,[vI 1,vI 0,vI 2],.cons (resV_tmp rfl neI) (.cons (resV_tmp rfl neI) (.cons (resV_tmp rfl neI) .nil)),((((((KeepX.refl (fun _ => False) H).new_ f102).new_ f107).keep k116).new_ f120).keep k129).k (fun _ h => h.elim),w124,1,0,2,rfl⟩
   ·
    refine sv (v:=.bool false) rfl rfl rfl (opv_bin rfl rfl rfl rfl rfl (cmpF rfl c132)) rfl ?_
    refine mv (.bool false) rfl rfl ?_
    refine sv (v:=vP H.next 2) rfl (wants_g rfl rfl rfl rfl rfl) rfl (opv_fieldAddrE rfl rfl rfl Try.underlying27 rfl sz23 (by decide) rfl) rfl ?_
    refine sv (v:=vP H.next 2) rfl (wants_g rfl rfl rfl rfl rfl) rfl (opv_fieldAddrE rfl rfl rfl Try.underlying23 rfl sz3 (by decide) rfl) rfl ?_
    refine sv (v:=vI ax3) rfl (wants_g rfl rfl rfl rfl rfl) rfl (opv_loadE rfl rfl rfl ag3 sz3 ((k129.get H.next (by omega)).trans ((f120.get H.next (by omega)).trans ((k116.get H.next (by omega)).trans ((f107.get H.next (by omega)).trans f102.blk)))) rfl (.inr rfl) rfl) rfl ?_
    refine sv (v:=vP H.next 2) rfl (wants_g rfl rfl rfl rfl rfl) rfl (opv_fieldAddrE rfl rfl rfl Try.underlying27 rfl sz23 (by decide) rfl) rfl ?_
    refine sv (v:=vP H.next 3) rfl (wants_g rfl rfl rfl rfl rfl) rfl (opv_fieldAddrE rfl rfl rfl Try.underlying23 rfl sz3 (by decide) rfl) rfl ?_
    refine sv (v:=vI ax4) rfl (wants_g rfl rfl rfl rfl rfl) rfl (opv_loadE rfl rfl rfl ag3 sz3 ((k129.get H.next (by omega)).trans ((f120.get H.next (by omega)).trans ((k116.get H.next (by omega)).trans ((f107.get H.next (by omega)).trans f102.blk)))) rfl (.inr rfl) rfl) rfl ?_
    by_cases c133:ax3 > ax4
    ·
     refine sv (v:=.bool true) rfl (wants_g rfl rfl rfl rfl rfl) rfl (opv_bin rfl rfl rfl rfl rfl (cmpT rfl c133)) rfl ?_
     refine sv (v:=.bool true) rfl rfl rfl (opv_pick (b:=false) rfl rfl rfl rfl rfl rfl) rfl ?_
     refine mv (.bool true) rfl rfl ?_
     refine ss rfl (wants_g rfl rfl rfl rfl rfl) rfl rfl ?_
     refine ss rfl (wants_g rfl rfl rfl rfl rfl) rfl rfl ?_
     refine ss rfl (wants_g rfl rfl rfl rfl rfl) rfl rfl ?_
     refine ss rfl (wants_g rfl rfl rfl rfl rfl) rfl rfl ?_
     refine ss rfl (wants_g rfl rfl rfl rfl rfl) rfl rfl ?_
     refine ss rfl (wants_g rfl rfl rfl rfl rfl) rfl rfl ?_
     refine ss rfl (wants_g rfl rfl rfl rfl rfl) rfl rfl ?_
     refine sv (v:=.bool true) rfl rfl rfl (opv_pick (b:=true) rfl rfl rfl rfl rfl rfl) rfl ?_
     refine mv (.bool true) rfl rfl ?_
     refine wo_nil (tq_n (wk ⟨[(1,vP H.next 0),(37,.bool true)],132,[],H128⟩ rfl ?_))
     refine w_cond (t:=true) rfl rfl (fun _ => ?_) (fun h => by cases h)
     refine w_seq (w_region (mv (vI 1) rfl rfl ?_))
     refine mv (vI 0) rfl rfl ?_
     refine mv (vI 2) rfl rfl ?_
     refine wo_nil (tq_n (wk ⟨[(2,vI 1),(3,vI 0),(4,vI 2)],132,[],H128⟩ rfl ?_))
     refine w_ret ?_
     try refine q_eq (e':=.ret) rfl ?_
     refine tq_r ?_
     refine ⟨.inr rfl,rfl,[vI 1,vI 0,vI 2],.cons (resV_tmp rfl neI) (.cons (resV_tmp rfl neI) (.cons (resV_tmp rfl neI) .nil)),((((((KeepX.refl (fun _ => False) H).new_ f102).new_ f107).keep k116).new_ f120).keep k129).k (fun _ h => h.elim),w124,1,0,2,rfl⟩
    ·
     refine sv (v:=.bool false) rfl (wants_g rfl rfl rfl rfl rfl) rfl (opv_bin rfl rfl rfl rfl rfl (cmpF rfl c133)) rfl ?_
     refine sv (v:=.bool false) rfl rfl rfl (opv_pick (b:=false) rfl rfl rfl rfl rfl rfl) rfl ?_
     refine mv (.bool false) rfl rfl ?_
     refine sv (v:=vP H.next 4) rfl (wants_g rfl rfl rfl rfl rfl) rfl (opv_fieldAddrE rfl rfl rfl Try.underlying27 rfl sz23 (by decide) rfl) rfl ?_
     refine sv (v:=vP H.next 4) rfl (wants_g rfl rfl rfl rfl rfl) rfl (opv_fieldAddrE rfl rfl rfl Try.underlying23 rfl sz3 (by decide) rfl) rfl ?_
     refine sv (v:=vI ax5) rfl (wants_g rfl rfl rfl rfl rfl) rfl (opv_loadE rfl rfl rfl ag3 sz3 ((k129.get H.next (by omega)).trans ((f120.get H.next (by omega)).trans ((k116.get H.next (by omega)).trans ((f107.get H.next (by omega)).trans f102.blk)))) rfl (.inr rfl) rfl) rfl ?_
     refine sv (v:=vP H.next 4) rfl (wants_g rfl rfl rfl rfl rfl) rfl (opv_fieldAddrE rfl rfl rfl Try.underlying27 rfl sz23 (by decide) rfl) rfl ?_
     refine sv (v:=vP H.next 5) rfl (wants_g rfl rfl rfl rfl rfl) rfl (opv_fieldAddrE rfl rfl rfl Try.underlying23 rfl sz3 (by decide) rfl) rfl ?_
     refine sv (v:=vI ax6) rfl (wants_g rfl rfl rfl rfl rfl) rfl (opv_loadE rfl rfl rfl ag3 sz3 ((k129.get H.next (by omega)).trans ((f120.get H.next (by omega)).trans ((k116.get H.next (by omega)).trans ((f107.get H.next (by omega)).trans f102.blk)))) rfl (.inr rfl) rfl) rfl ?_
     by_cases c134:ax5 > ax6
     ·
      refine sv (v:=.bool true) rfl (wants_g rfl rfl rfl rfl rfl) rfl (opv_bin rfl rfl rfl rfl rfl (cmpT rfl c134)) rfl ?_
      refine sv (v:=.bool true) rfl rfl rfl (opv_pick (b:=false) rfl rfl rfl rfl rfl rfl) rfl ?_
      refine mv (.bool true) rfl rfl ?_
      refine wo_nil (tq_n (wk ⟨[(1,vP H.next 0),(37,.bool true)],132,[],H128⟩ rfl ?_))
      refine w_cond (t:=true) rfl rfl (fun _ => ?_) (fun h => by cases h)
      refine w_seq (w_region (mv (vI 1) rfl rfl ?_))
      refine mv (vI 0) rfl rfl ?_
      refine mv (vI 2) rfl rfl ?_
      refine wo_nil (tq_n (wk ⟨[(2,vI 1),(3,vI 0),(4,vI 2)],132,[],H128⟩ rfl ?_))
      refine w_ret ?_
      try refine q_eq (e':=.ret) rfl ?_
      refine tq_r ?_
      refine ⟨.inr rfl,rfl,[vI 1,vI 0,vI 2],.cons (resV_tmp rfl neI) (.cons (resV_tmp rfl neI) (.cons (resV_tmp rfl neI) .nil)),((((((KeepX.refl (fun _ => False) H).new_ f102).new_ f107).keep k116).new_ f120).keep k129).k (fun _ h => h.elim),w124,1,0,2,rfl⟩
     ·
      refine sv (v:=.bool false) rfl (wants_g rfl rfl rfl rfl rfl) rfl (opv_bin rfl rfl rfl rfl rfl (cmpF rfl c134)) rfl ?_
      refine sv (v:=.bool false) rfl rfl rfl (opv_pick (b:=false) rfl rfl rfl rfl rfl rfl) rfl ?_
      refine mv (.bool false) rfl rfl ?_
      refine wo_nil (tq_n (wk ⟨[(1,vP H.next 0),(37,.bool false)],132,[],H128⟩ rfl ?_))
      refine w_cond (t:=false) rfl rfl (fun h => by cases h) (fun _ => ?_)
      refine w_seq (w_region (sv (v:=vP H.next 7) rfl rfl rfl (opv_fieldAddrE rfl rfl rfl Try.underlying27 rfl sz24 (by decide) rfl) rfl ?_))
      refine sv (v:=as8) rfl rfl rfl (opv_loadE rfl rfl rfl ag24 sz24 ((k129.get H.next (by omega)).trans ((f120.get H.next (by omega)).trans ((k116.get H.next (by omega)).trans ((f107.get H.next (by omega)).trans f102.blk)))) rfl (.inr rfl) rfl) rfl ?_
      have c135:slen as8 ≤ 1073741824:=vt_lim (hvas8.mono ((((l104.trans l109).trans l117).trans l122).trans l130))
      refine sv (v:=(vI (slen as8:Int))) rfl rfl rfl (t_len (hvas8.mono ((((l104.trans l109).trans l117).trans l122).trans l130)) rfl rfl rfl Try.underlying24) rfl ?_
      by_cases c136 : (slen as8:Int) > 4
      ·
       refine sv (v:=.bool true) rfl rfl rfl (opv_bin rfl rfl rfl rfl rfl (cmpT rfl c136)) rfl ?_
       refine mv (.bool true) rfl rfl ?_
       refine wo_nil (tq_n (wk ⟨[(1,vP H.next 0),(63,.bool true)],132,[],H128⟩ rfl ?_))
       refine w_cond (t:=true) rfl rfl (fun _ => ?_) (fun h => by cases h)
       refine w_seq (w_region (mv (vI 2) rfl rfl ?_))
       refine mv (vI 0) rfl rfl ?_
       refine mv (vI 3) rfl rfl ?_
       refine wo_nil (tq_n (wk ⟨[(2,vI 2),(3,vI 0),(4,vI 3)],132,[],H128⟩ rfl ?_))
       refine w_ret ?_
       try refine q_eq (e':=.ret) rfl ?_
       refine tq_r ?_
       refine ⟨.inr rfl,rfl,[vI 2,vI 0,vI 3],.cons (resV_tmp rfl neI) (.cons (resV_tmp rfl neI) (.cons (resV_tmp rfl neI) .nil)),((((((KeepX.refl (fun _ => False) H).new_ f102).new_ f107).keep k116).new_ f120).keep k129).k (fun _ h => h.elim),w124,2,0,3,rfl⟩
      ·
       refine sv (v:=.bool false) rfl rfl rfl (opv_bin rfl rfl rfl rfl rfl (cmpF rfl c136)) rfl ?_
       refine mv (.bool false) rfl rfl ?_
       refine wo_nil (tq_n (wk ⟨[(1,vP H.next 0),(63,.bool false)],132,[],H128⟩ rfl ?_))
       refine w_cond (t:=false) rfl rfl (fun h => by cases h) (fun _ => ?_)
       refine w_skip ?_
       try refine q_eq (e':=.normal) rfl ?_
       refine tqk ⟨[(1,vP H.next 0)],132,[],H128⟩ rfl ?_
       refine w_seq (w_region (mv (vI (-1)) rfl rfl ?_))
       refine wo_nil (tq_n (wk ⟨[(1,vP H.next 0),(5,vI (-1))],132,[],H128⟩ rfl ?_))
       refine w_seq (w_seq (w_region (sv (v:=vP H.next 7) rfl rfl rfl (opv_fieldAddrE rfl rfl rfl Try.underlying27 rfl sz24 (by decide) rfl) rfl ?_)))
       refine sv (v:=as8) rfl rfl rfl (opv_loadE rfl rfl rfl ag24 sz24 ((k129.get H.next (by omega)).trans ((f120.get H.next (by omega)).trans ((k116.get H.next (by omega)).trans ((f107.get H.next (by omega)).trans f102.blk)))) rfl (.inr rfl) rfl) rfl ?_
       have c137:slen as8 ≤ 1073741824:=vt_lim (hvas8.mono ((((l104.trans l109).trans l117).trans l122).trans l130))
       refine sv (v:=(vI (slen as8:Int))) rfl rfl rfl (t_len (hvas8.mono ((((l104.trans l109).trans l117).trans l122).trans l130)) rfl rfl rfl Try.underlying24) rfl ?_
       refine mv (vI 0) rfl rfl ?_
       refine wo_nil (tq_n (wk ⟨[(1,vP H.next 0),(5,vI (-1)),(69,as8),(70,(vI (slen as8:Int))),(71,vI 0)],132,[],H128⟩ rfl ?_))
       refine w_block (w_loopS (fun m146 s147 => ∃ (x138 x139:Int) (H140:SH),(0 ≤ x139)∧(x139 ≤ (slen as8:Int))∧WT H140∧Le H128 H140∧KeepX (fun _ => False) H128 H140∧m146=(((slen as8:Int):Int) - x139).toNat∧s147=⟨[(1,vP H.next 0),(5,vI x138),(69,as8),(70,(vI (slen as8:Int))),(71,vI x139)],132,[],H140⟩) (n:=(((slen as8:Int):Int) - 0).toNat) ⟨⟨[(1,vP H.next 0),(5,vI (-1)),(69,as8),(70,(vI (slen as8:Int))),(71,vI 0)],132,[],H128⟩,subk rfl,-1,0,H128,by omega,by omega,w124,Le.refl _,KeepX.refl (fun _ => False) H128,rfl,rfl⟩ ?_)
       rintro m146 s147 ⟨x138,x139,H140,i141,i142,w143,l144,k145,rfl,rfl⟩
       have n148:=k145.next
       refine w_seq (w_region ?_)
       by_cases c149:x139 < (slen as8:Int)
       ·
        refine sv (v:=.bool true) rfl rfl rfl (opv_bin rfl rfl rfl rfl rfl (cmpT rfl c149)) rfl ?_
        refine wo_nil (tq_n (wk ⟨[(1,vP H.next 0),(5,vI x138),(69,as8),(70,(vI (slen as8:Int))),(71,vI x139),(72,.bool true)],132,[],H140⟩ rfl ?_))
        refine w_seq (w_cond (t:=true) rfl rfl (fun _ => ?_) (fun h => by cases h))
        refine w_skip (tq_n (wk ⟨[(1,vP H.next 0),(5,vI x138),(69,as8),(70,(vI (slen as8:Int))),(71,vI x139)],132,[],H140⟩ rfl ?_))
        refine w_seq (w_block (w_seq (w_region (mv (vI x139) rfl rfl ?_))))
        refine sv (v:=.pointer (some ⟨snm as8,sof as8 + (x139).toNat * 2,none⟩)) rfl rfl rfl (t_index (z:=2) (hvas8.mono (((((l104.trans l109).trans l117).trans l122).trans l130).trans l144)) rfl rfl rfl rfl rfl Try.underlying24 sz23 (by omega) (by omega)) rfl ?_
        obtain ⟨vs150,hs151,ho152⟩:=t_load (P:=Try.prog) w143 (hvas8.mono (((((l104.trans l109).trans l117).trans l122).trans l130).trans l144)) (i:=(x139).toNat) (off:=0) (w:=2) (by omega) (by decide)
        replace hs151:VTs H140 [.int .i64,.int .i64] vs150:=hs151
        obtain ⟨x155,r153,rfl,hs154⟩:=vts_int hs151
        obtain ⟨x158,r156,rfl,hs157⟩:=vts_int hs154
        obtain rfl:=vts_nil hs157
        refine sv (v:=.agg #[vI x155,vI x158]) rfl rfl rfl (ho152 _ _ _ _ true rfl rfl rfl rfl ag23 sz23 (.inl rfl)) rfl ?_
        refine sv_new (H:=H140) (v:=vP H140.next 0) (x:=.row #[vI 0,vI 0] .raw) rfl rfl rfl rfl (opv_alloc rfl ze23 rfl) ?_
        intro H159 f160
        refine newL w143 f160 fun n163 w161 l162 => ?_
        refine mv (vI x139) rfl rfl ?_
        refine sv_put (H:=H159) (n:=H140.next) (v:=undef) (x:=some (.row #[vI x155,vI x158] .raw)) rfl rfl rfl rfl (opv_storeC (u:=.agg #[vI x155,vI x158]) rfl rfl rfl rfl rfl (by simp [undef]) sz23 rfl rfl rfl f160.blk rfl rfl) ?_
        intro H164 f165
        refine putL w161 f165 f160.blk fun n168 w166 l167 => ?_
        refine wo_nil (tq_n (wk ⟨[(1,vP H.next 0),(5,vI x138),(6,vI x139),(7,vP H140.next 0),(69,as8),(70,(vI (slen as8:Int))),(71,vI x139)],132,[],H164⟩ rfl ?_))
        refine w_seq (w_block (w_seq (w_region (sv (v:=vP H140.next 0) rfl rfl rfl (opv_fieldAddrE rfl rfl rfl Try.underlying23 rfl sz3 (by decide) rfl) rfl ?_))))
        refine sv (v:=vI x155) rfl rfl rfl (opv_loadE rfl rfl rfl ag3 sz3 f165.blk rfl (.inr rfl) rfl) rfl ?_
        refine sv (v:=vP H140.next 1) rfl rfl rfl (opv_fieldAddrE rfl rfl rfl Try.underlying23 rfl sz3 (by decide) rfl) rfl ?_
        refine sv (v:=vI x158) rfl rfl rfl (opv_loadE rfl rfl rfl ag3 sz3 f165.blk rfl (.inr rfl) rfl) rfl ?_
        refine sv_new (H:=H164) (v:=.slice (some ⟨H164.next,0,none⟩) 2 1) (x:=.row #[vI x155,vI x158] .raw) rfl rfl rfl rfl (opv_buildSliceE (vs:=[(0,vI x155),(1,vI x158)]) rfl (.cons rfl rfl neI (.cons rfl rfl neI .nil)) Try.underlying31 sz3 ze3 rfl (by decide) (by decide) rfl rfl rfl) ?_
        intro H169 f170
        refine newL w166 f170 fun n173 w171 l172 => ?_
        refine sc_ (H:=H169) (vs:=[vI 0,vI 60,.slice (some ⟨H164.next,0,none⟩) 2 1]) (fv:=.func (.func 30) #[] #[]) rfl rfl rfl rfl rfl rfl (.cons rfl rfl neI (.cons rfl rfl neI (.cons rfl rfl (by simp [undef]) .nil))) rfl ?_
        refine WV.mono (wv_f0 Try.call30 (gas_out_2 x155 x158 0 60 H164.next _ w171 f170.blk (by omega))) ?_
        rintro v177 H178 ⟨k179,w174,rb175,rfl,f176⟩
        refine kpL k179 fun n181 l180 => ?_
        refine mv (.bool rb175) rfl rfl ?_
        refine wo_nil (tq_n (wk ⟨[(1,vP H.next 0),(5,vI x138),(6,vI x139),(7,vP H140.next 0),(69,as8),(70,(vI (slen as8:Int))),(71,vI x139),(76,.bool rb175)],132,[],H178⟩ rfl ?_))
        rcases f176 with ⟨rfl,f176⟩ | ⟨rfl,f176⟩
        ·
         refine w_cond (t:=true) rfl rfl (fun _ => ?_) (fun h => by cases h)
         refine w_seq (w_region (mv (vI x139) rfl rfl ?_))
         refine mv (vI 2) rfl rfl ?_
         refine mv (vI x139) rfl rfl ?_
         refine mv (vI 7) rfl rfl ?_
         refine wo_nil (tq_n (wk ⟨[(2,vI 2),(3,vI x139),(4,vI 7)],132,[],H178⟩ rfl ?_))
         refine w_ret ?_
         try refine q_eq (e':=.ret) rfl ?_
         refine tq_r ?_
         try refine q_eq (e':=.ret) rfl ?_
         refine tq_r (tq_r ?_)
         try refine q_eq (e':=.ret) rfl ?_
         refine tq_r ?_
         refine ⟨.inr rfl,rfl,[vI 2,vI x139,vI 7],.cons (resV_tmp rfl neI) (.cons (resV_tmp rfl neI) (.cons (resV_tmp rfl neI) .nil)),((((((((((((KeepX.refl (fun _ => False) H).new_ f102).new_ f107).keep k116).new_ f120).keep k129).trans k145 (fun _ h => h.elim)).new_ f160).put f165 (by first | (right; omega) | (left; (try dsimp only) <;> omega))).new_ f170).keep k179).k (fun _ h => h.elim)),w174,2,x139,7,rfl⟩
        ·
         refine w_cond (t:=false) rfl rfl (fun h => by cases h) (fun _ => ?_)
         refine w_seq (w_region (sv (v:=vP H140.next 0) rfl rfl rfl (opv_fieldAddrE rfl rfl rfl Try.underlying23 rfl sz3 (by decide) rfl) rfl ?_))
         refine sv (v:=vI x155) rfl rfl rfl (opv_loadE rfl rfl rfl ag3 sz3 ((k179.get H140.next (by omega)).trans ((f170.get H140.next (by omega)).trans f165.blk)) rfl (.inr rfl) rfl) rfl ?_
         refine sv (v:=vP H140.next 1) rfl rfl rfl (opv_fieldAddrE rfl rfl rfl Try.underlying23 rfl sz3 (by decide) rfl) rfl ?_
         refine sv (v:=vI x158) rfl rfl rfl (opv_loadE rfl rfl rfl ag3 sz3 ((k179.get H140.next (by omega)).trans ((f170.get H140.next (by omega)).trans f165.blk)) rfl (.inr rfl) rfl) rfl ?_
         by_cases c182:x155 > x158
         ·
          refine sv (v:=.bool true) rfl rfl rfl (opv_bin rfl rfl rfl rfl rfl (cmpT rfl c182)) rfl ?_
          refine mv (.bool true) rfl rfl ?_
          refine ss rfl (wants_g rfl rfl rfl rfl rfl) rfl rfl ?_
          refine ss rfl (wants_g rfl rfl rfl rfl rfl) rfl rfl ?_
          refine ss rfl (wants_g rfl rfl rfl rfl rfl) rfl rfl ?_
          refine ss rfl (wants_g rfl rfl rfl rfl rfl) rfl rfl ?_
          refine sv (v:=.bool true) rfl rfl rfl (opv_pick (b:=true) rfl rfl rfl rfl rfl rfl) rfl ?_
          refine mv (.bool true) rfl rfl ?_
          refine wo_nil (tq_n (wk ⟨[(1,vP H.next 0),(6,vI x139),(7,vP H140.next 0),(69,as8),(70,(vI (slen as8:Int))),(71,vI x139),(84,.bool true)],132,[],H178⟩ rfl ?_))
          refine w_cond (t:=true) rfl rfl (fun _ => ?_) (fun h => by cases h)
          refine w_seq (w_region (mv (vI x139) rfl rfl ?_))
          refine mv (vI 2) rfl rfl ?_
          refine mv (vI x139) rfl rfl ?_
          refine mv (vI 2) rfl rfl ?_
          refine wo_nil (tq_n (wk ⟨[(2,vI 2),(3,vI x139),(4,vI 2)],132,[],H178⟩ rfl ?_))
          refine w_ret ?_
          try refine q_eq (e':=.ret) rfl ?_
          refine tq_r ?_
          try refine q_eq (e':=.ret) rfl ?_
          refine tq_r (tq_r ?_)
          try refine q_eq (e':=.ret) rfl ?_
          refine tq_r ?_
          refine ⟨.inr rfl,rfl,[vI 2,vI x139,vI 2],.cons (resV_tmp rfl neI) (.cons (resV_tmp rfl neI) (.cons (resV_tmp rfl neI) .nil)),((((((((((((KeepX.refl (fun _ => False) H).new_ f102).new_ f107).keep k116).new_ f120).keep k129).trans k145 (fun _ h => h.elim)).new_ f160).put f165 (by first | (right; omega) | (left; (try dsimp only) <;> omega))).new_ f170).keep k179).k (fun _ h => h.elim)),w174,2,x139,2,rfl⟩
         ·
          refine sv (v:=.bool false) rfl rfl rfl (opv_bin rfl rfl rfl rfl rfl (cmpF rfl c182)) rfl ?_
          refine mv (.bool false) rfl rfl ?_
          refine sv (v:=vP H140.next 0) rfl (wants_g rfl rfl rfl rfl rfl) rfl (opv_fieldAddrE rfl rfl rfl Try.underlying23 rfl sz3 (by decide) rfl) rfl ?_
          refine sv (v:=vI x155) rfl (wants_g rfl rfl rfl rfl rfl) rfl (opv_loadE rfl rfl rfl ag3 sz3 ((k179.get H140.next (by omega)).trans ((f170.get H140.next (by omega)).trans f165.blk)) rfl (.inr rfl) rfl) rfl ?_
          refine sv (v:=vI x138) rfl (wants_g rfl rfl rfl rfl rfl) rfl (opv_move (.inl rfl) rfl rfl) rfl ?_
          by_cases c183:x155 ≤ x138
          ·
           refine sv (v:=.bool true) rfl (wants_g rfl rfl rfl rfl rfl) rfl (opv_bin rfl rfl rfl rfl rfl (cmpT rfl c183)) rfl ?_
           refine sv (v:=.bool true) rfl rfl rfl (opv_pick (b:=false) rfl rfl rfl rfl rfl rfl) rfl ?_
           refine mv (.bool true) rfl rfl ?_
           refine wo_nil (tq_n (wk ⟨[(1,vP H.next 0),(6,vI x139),(7,vP H140.next 0),(69,as8),(70,(vI (slen as8:Int))),(71,vI x139),(84,.bool true)],132,[],H178⟩ rfl ?_))
           refine w_cond (t:=true) rfl rfl (fun _ => ?_) (fun h => by cases h)
           refine w_seq (w_region (mv (vI x139) rfl rfl ?_))
           refine mv (vI 2) rfl rfl ?_
           refine mv (vI x139) rfl rfl ?_
           refine mv (vI 2) rfl rfl ?_
           refine wo_nil (tq_n (wk ⟨[(2,vI 2),(3,vI x139),(4,vI 2)],132,[],H178⟩ rfl ?_))
           refine w_ret ?_
           try refine q_eq (e':=.ret) rfl ?_
           refine tq_r ?_
           try refine q_eq (e':=.ret) rfl ?_
           refine tq_r (tq_r ?_)
           try refine q_eq (e':=.ret) rfl ?_
           refine tq_r ?_
           refine ⟨.inr rfl,rfl,[vI 2,vI x139,vI 2],.cons (resV_tmp rfl neI) (.cons (resV_tmp rfl neI) (.cons (resV_tmp rfl neI) .nil)),((((((((((((KeepX.refl (fun _ => False) H).new_ f102).new_ f107).keep k116).new_ f120).keep k129).trans k145 (fun _ h => h.elim)).new_ f160).put f165 (by first | (right; omega) | (left; (try dsimp only) <;> omega))).new_ f170).keep k179).k (fun _ h => h.elim)),w174,2,x139,2,rfl⟩
          ·
           refine sv (v:=.bool false) rfl (wants_g rfl rfl rfl rfl rfl) rfl (opv_bin rfl rfl rfl rfl rfl (cmpF rfl c183)) rfl ?_
           refine sv (v:=.bool false) rfl rfl rfl (opv_pick (b:=false) rfl rfl rfl rfl rfl rfl) rfl ?_
           refine mv (.bool false) rfl rfl ?_
           refine wo_nil (tq_n (wk ⟨[(1,vP H.next 0),(6,vI x139),(7,vP H140.next 0),(69,as8),(70,(vI (slen as8:Int))),(71,vI x139),(84,.bool false)],132,[],H178⟩ rfl ?_))
           refine w_cond (t:=false) rfl rfl (fun h => by cases h) (fun _ => ?_)
           refine w_skip ?_
           try refine q_eq (e':=.normal) rfl ?_
           refine tqk ⟨[(1,vP H.next 0),(7,vP H140.next 0),(69,as8),(70,(vI (slen as8:Int))),(71,vI x139)],132,[],H178⟩ rfl ?_
           refine w_region (sv (v:=vP H140.next 1) rfl rfl rfl (opv_fieldAddrE rfl rfl rfl Try.underlying23 rfl sz3 (by decide) rfl) rfl ?_)
           refine sv (v:=vI x158) rfl rfl rfl (opv_loadE rfl rfl rfl ag3 sz3 ((k179.get H140.next (by omega)).trans ((f170.get H140.next (by omega)).trans f165.blk)) rfl (.inr rfl) rfl) rfl ?_
           refine mv (vI x158) rfl rfl ?_
           refine wo_nil ?_
           try refine q_eq (e':=.normal) rfl ?_
           refine tqk ⟨[(1,vP H.next 0),(5,vI x158),(69,as8),(70,(vI (slen as8:Int))),(71,vI x139)],132,[],H178⟩ rfl ?_
           refine w_region (sv_int rfl rfl rfl (opv_bin rfl rfl rfl rfl rfl rfl) ?_)
           intro x184 h185
           try replace h185:x184=x139 + 1:=wr_ex h185 (by omega) (by omega)
           refine mv (vI x184) rfl rfl ?_
           refine wo_nil ?_
           refine tq_n ⟨(((slen as8:Int):Int) - x184).toNat,by omega,⟨[(1,vP H.next 0),(5,vI x158),(69,as8),(70,(vI (slen as8:Int))),(71,vI x184)],132,[],H178⟩,subk rfl,x158,x184,H178,by omega,by omega,w174,(((l144.trans l162).trans l167).trans l172).trans l180,((((((KeepX.refl (fun _ => False) H128).trans k145 (fun _ h => h.elim)).new_ f160).put f165 (by first | (right; omega) | (left; (try dsimp only) <;> omega))).new_ f170).keep k179),rfl,rfl⟩
       ·
        refine sv (v:=.bool false) rfl rfl rfl (opv_bin rfl rfl rfl rfl rfl (cmpF rfl c149)) rfl ?_
        refine wo_nil (tq_n (wk ⟨[(1,vP H.next 0),(5,vI x138),(69,as8),(70,(vI (slen as8:Int))),(71,vI x139),(72,.bool false)],132,[],H140⟩ rfl ?_))
        refine w_seq (w_cond (t:=false) rfl rfl (fun h => by cases h) (fun _ => ?_))
        refine w_exit (tq_e (tq_e ?_))
        try refine q_eq (e':=.normal) rfl ?_
        refine tqk ⟨[(1,vP H.next 0)],132,[],H140⟩ rfl ?_
        refine w_seq (w_seq (w_region (sv (v:=vP H.next 8) rfl rfl rfl (opv_fieldAddrE rfl rfl rfl Try.underlying27 rfl sz25 (by decide) rfl) rfl ?_)))
        refine sv (v:=as9) rfl rfl rfl (opv_loadE rfl rfl rfl ag25 sz25 ((k145.get H.next (by omega) id).trans ((k129.get H.next (by omega)).trans ((f120.get H.next (by omega)).trans ((k116.get H.next (by omega)).trans ((f107.get H.next (by omega)).trans f102.blk))))) rfl (.inr rfl) rfl) rfl ?_
        have c186:slen as9 ≤ 1073741824:=vt_lim (hvas9.mono (((((l104.trans l109).trans l117).trans l122).trans l130).trans l144))
        refine sv (v:=(vI (slen as9:Int))) rfl rfl rfl (t_len (hvas9.mono (((((l104.trans l109).trans l117).trans l122).trans l130).trans l144)) rfl rfl rfl Try.underlying25) rfl ?_
        refine sv_new (H:=H140) (v:=.slice (some ⟨H140.next,0,none⟩) 1 1) (x:=(.row #[(vI (slen as9:Int))] .raw)) rfl rfl rfl rfl (opv_buildSliceE (vs:=[(0,(vI (slen as9:Int)))]) rfl (.cons rfl rfl neI .nil) Try.underlying31 sz3 ze3 rfl (by decide) (by decide) rfl rfl rfl) ?_
        intro H187 f188
        refine newL w143 f188 fun n191 w189 l190 => ?_
        refine sc_ (H:=H187) (vs:=[vI 1,vI 3,.slice (some ⟨H140.next,0,none⟩) 1 1]) (fv:=.func (.func 30) #[] #[]) rfl rfl rfl rfl rfl rfl (.cons rfl rfl neI (.cons rfl rfl neI (.cons rfl rfl (by simp [undef]) .nil))) rfl ?_
        refine WV.mono (wv_f0 Try.call30 (gas_out_1 (slen as9:Int) 1 3 H140.next _ w189 f188.blk (by omega))) ?_
        rintro v195 H196 ⟨k197,w192,rb193,rfl,f194⟩
        refine kpL k197 fun n199 l198 => ?_
        refine wo_nil (tq_n (wk ⟨[(1,vP H.next 0),(104,.bool rb193)],132,[],H196⟩ rfl ?_))
        rcases f194 with ⟨rfl,f194⟩ | ⟨rfl,f194⟩
        ·
         refine w_cond (t:=true) rfl rfl (fun _ => ?_) (fun h => by cases h)
         refine w_seq (w_region (mv (vI 3) rfl rfl ?_))
         refine mv (vI 0) rfl rfl ?_
         refine mv (vI 3) rfl rfl ?_
         refine wo_nil (tq_n (wk ⟨[(2,vI 3),(3,vI 0),(4,vI 3)],132,[],H196⟩ rfl ?_))
         refine w_ret (tq_r ?_)
         refine ⟨.inr rfl,rfl,[vI 3,vI 0,vI 3],.cons (resV_tmp rfl neI) (.cons (resV_tmp rfl neI) (.cons (resV_tmp rfl neI) .nil)),(((((((((KeepX.refl (fun _ => False) H).new_ f102).new_ f107).keep k116).new_ f120).keep k129).trans k145 (fun _ h => h.elim)).new_ f188).keep k197).k (fun _ h => h.elim),w192,3,0,3,rfl⟩
        ·
         refine w_cond (t:=false) rfl rfl (fun h => by cases h) (fun _ => ?_)
         refine w_skip (tq_n (wk ⟨[(1,vP H.next 0)],132,[],H196⟩ rfl ?_))
         refine w_seq (w_seq (w_region (sv (v:=vP H.next 8) rfl rfl rfl (opv_fieldAddrE rfl rfl rfl Try.underlying27 rfl sz25 (by decide) rfl) rfl ?_)))
         refine sv (v:=as9) rfl rfl rfl (opv_loadE rfl rfl rfl ag25 sz25 ((k197.get H.next (by omega)).trans ((f188.get H.next (by omega)).trans ((k145.get H.next (by omega) id).trans ((k129.get H.next (by omega)).trans ((f120.get H.next (by omega)).trans ((k116.get H.next (by omega)).trans ((f107.get H.next (by omega)).trans f102.blk))))))) rfl (.inr rfl) rfl) rfl ?_
         have c200:slen as9 ≤ 1073741824:=vt_lim (hvas9.mono (((((((l104.trans l109).trans l117).trans l122).trans l130).trans l144).trans l190).trans l198))
         refine sv (v:=(vI (slen as9:Int))) rfl rfl rfl (t_len (hvas9.mono (((((((l104.trans l109).trans l117).trans l122).trans l130).trans l144).trans l190).trans l198)) rfl rfl rfl Try.underlying25) rfl ?_
         refine mv (vI 0) rfl rfl ?_
         refine wo_nil (tq_n (wk ⟨[(1,vP H.next 0),(106,as9),(107,(vI (slen as9:Int))),(108,vI 0)],132,[],H196⟩ rfl ?_))
         refine w_block (w_loopS (fun m208 s209 => ∃ (x201:Int) (H202:SH),(0 ≤ x201)∧(x201 ≤ (slen as9:Int))∧WT H202∧Le H196 H202∧KeepX (fun _ => False) H196 H202∧m208=(((slen as9:Int):Int) - x201).toNat∧s209=⟨[(1,vP H.next 0),(106,as9),(107,(vI (slen as9:Int))),(108,vI x201)],132,[],H202⟩) (n:=(((slen as9:Int):Int) - 0).toNat) ⟨⟨[(1,vP H.next 0),(106,as9),(107,(vI (slen as9:Int))),(108,vI 0)],132,[],H196⟩,subk rfl,0,H196,by omega,by omega,w192,Le.refl _,KeepX.refl (fun _ => False) H196,rfl,rfl⟩ ?_)
         rintro m208 s209 ⟨x201,H202,i203,i204,w205,l206,k207,rfl,rfl⟩
         have n210:=k207.next
         refine w_seq (w_region ?_)
         by_cases c211:x201 < (slen as9:Int)
         ·
          refine sv (v:=.bool true) rfl rfl rfl (opv_bin rfl rfl rfl rfl rfl (cmpT rfl c211)) rfl ?_
          refine wo_nil (tq_n (wk ⟨[(1,vP H.next 0),(106,as9),(107,(vI (slen as9:Int))),(108,vI x201),(109,.bool true)],132,[],H202⟩ rfl ?_))
          refine w_seq (w_cond (t:=true) rfl rfl (fun _ => ?_) (fun h => by cases h))
          refine w_skip (tq_n (wk ⟨[(1,vP H.next 0),(106,as9),(107,(vI (slen as9:Int))),(108,vI x201)],132,[],H202⟩ rfl ?_))
          refine w_seq (w_block (w_seq (w_region (mv (vI x201) rfl rfl ?_))))
          refine sv (v:=.pointer (some ⟨snm as9,sof as9 + (x201).toNat * 2,none⟩)) rfl rfl rfl (t_index (z:=2) (hvas9.mono ((((((((l104.trans l109).trans l117).trans l122).trans l130).trans l144).trans l190).trans l198).trans l206)) rfl rfl rfl rfl rfl Try.underlying25 sz63 (by omega) (by omega)) rfl ?_
          obtain ⟨vs212,hs213,ho214⟩:=t_load (P:=Try.prog) w205 (hvas9.mono ((((((((l104.trans l109).trans l117).trans l122).trans l130).trans l144).trans l190).trans l198).trans l206)) (i:=(x201).toNat) (off:=0) (w:=2) (by omega) (by decide)
          replace hs213:VTs H202 [.str,.int .i64] vs212:=hs213
          obtain ⟨t217,r215,rfl,hs216⟩:=vts_str hs213
          obtain ⟨x220,r218,rfl,hs219⟩:=vts_int hs216
          obtain rfl:=vts_nil hs219
          refine sv (v:=.agg #[.string t217,vI x220]) rfl rfl rfl (ho214 _ _ _ _ true rfl rfl rfl rfl ag63 sz63 (.inl rfl)) rfl ?_
          refine sv_new (H:=H202) (v:=vP H202.next 0) (x:=.row #[.string (⟨#[]⟩),vI 0] .raw) rfl rfl rfl rfl (opv_alloc rfl ze63 rfl) ?_
          intro H221 f222
          refine newL w205 f222 fun n225 w223 l224 => ?_
          refine mv (vI x201) rfl rfl ?_
          refine sv_put (H:=H221) (n:=H202.next) (v:=undef) (x:=some (.row #[.string t217,vI x220] .raw)) rfl rfl rfl rfl (opv_storeC (u:=.agg #[.string t217,vI x220]) rfl rfl rfl rfl rfl (by simp [undef]) sz63 rfl rfl rfl f222.blk rfl rfl) ?_
          intro H226 f227
          refine putL w223 f227 f222.blk fun n230 w228 l229 => ?_
          refine wo_nil (tq_n (wk ⟨[(1,vP H.next 0),(8,vI x201),(9,vP H202.next 0),(106,as9),(107,(vI (slen as9:Int))),(108,vI x201)],132,[],H226⟩ rfl ?_))
          refine w_seq (w_region (sv (v:=vP H.next 8) rfl rfl rfl (opv_fieldAddrE rfl rfl rfl Try.underlying27 rfl sz25 (by decide) rfl) rfl ?_))
          refine sv (v:=as9) rfl rfl rfl (opv_loadE rfl rfl rfl ag25 sz25 ((f227.get H.next (by omega)).trans ((f222.get H.next (by omega)).trans ((k207.get H.next (by omega) id).trans ((k197.get H.next (by omega)).trans ((f188.get H.next (by omega)).trans ((k145.get H.next (by omega) id).trans ((k129.get H.next (by omega)).trans ((f120.get H.next (by omega)).trans ((k116.get H.next (by omega)).trans ((f107.get H.next (by omega)).trans f102.blk)))))))))) rfl (.inr rfl) rfl) rfl ?_
          refine mv (vI x201) rfl rfl ?_
          refine sv_int rfl rfl rfl (opv_bin rfl rfl rfl rfl rfl rfl) ?_
          intro x231 h232
          try replace h232:x231=x201 + 1:=wr_ex h232 (by omega) (by omega)
          have hv233:=vt_slTo (hvas9.mono ((((((((((l104.trans l109).trans l117).trans l122).trans l130).trans l144).trans l190).trans l198).trans l206).trans l224).trans l229)) (h:=(x231).toNat) (by omega)
          have c234:=slen_slTo (hvas9.mono ((((((((((l104.trans l109).trans l117).trans l122).trans l130).trans l144).trans l190).trans l198).trans l206).trans l224).trans l229)) (h:=(x231).toNat) (by omega)
          refine sv (v:=slTo as9 (x231).toNat) rfl rfl rfl (t_slice (hvas9.mono ((((((((((l104.trans l109).trans l117).trans l122).trans l130).trans l144).trans l190).trans l198).trans l206).trans l224).trans l229)) rfl rfl rfl rfl rfl rfl Try.underlying25 sz63 rfl (by omega) (by omega)) rfl ?_
          refine sc_ (H:=H226) (vs:=[slTo as9 (x231).toNat,.func (.func 32) #[] #[]]) (fv:=.func (.func 31) #[] #[]) rfl rfl rfl rfl rfl rfl (.cons rfl rfl (vt_ne hv233) (.cons rfl rfl (by simp [undef]) .nil)) rfl ?_
          refine WV.mono (wv_f0 Try.call31 (gas_fresh (slTo as9 (x231).toNat) _ w228 hv233 (by omega))) ?_
          rintro v237 H238 ⟨k239,w235,rx1236,rfl⟩
          refine kpL k239 fun n241 l240 => ?_
          refine mv (vI rx1236) rfl rfl ?_
          refine wo_nil (tq_n (wk ⟨[(1,vP H.next 0),(4,vI rx1236),(8,vI x201),(9,vP H202.next 0),(106,as9),(107,(vI (slen as9:Int))),(108,vI x201)],132,[],H238⟩ rfl ?_))
          refine w_seq (w_seq (w_region (mv (vI rx1236) rfl rfl ?_)))
          by_cases c242:rx1236=0
          ·
           refine sv (v:=.bool true) rfl rfl rfl (opv_bin rfl rfl rfl rfl rfl (eqT c242)) rfl ?_
           refine mv (.bool true) rfl rfl ?_
           refine sv (v:=vP H202.next 1) rfl (wants_g rfl rfl rfl rfl rfl) rfl (opv_fieldAddrE rfl rfl rfl Try.underlying63 rfl sz3 (by decide) rfl) rfl ?_
           refine sv (v:=vI x220) rfl (wants_g rfl rfl rfl rfl rfl) rfl (opv_loadE rfl rfl rfl ag3 sz3 ((k239.get H202.next (by omega)).trans f227.blk) rfl (.inr rfl) rfl) rfl ?_
           refine sv_new (H:=H238) (v:=.slice (some ⟨H238.next,0,none⟩) 1 1) (x:=.row #[vI x220] .raw) rfl (wants_g rfl rfl rfl rfl rfl) rfl rfl (opv_buildSliceE (vs:=[(0,vI x220)]) rfl (.cons rfl rfl neI .nil) Try.underlying31 sz3 ze3 rfl (by decide) (by decide) rfl rfl rfl) ?_
           intro H243 f244
           refine newL w235 f244 fun n247 w245 l246 => ?_
           refine sc_ (H:=H243) (vs:=[vI 0,vI 50,.slice (some ⟨H238.next,0,none⟩) 1 1]) (fv:=.func (.func 30) #[] #[]) rfl (wants_g rfl rfl rfl rfl rfl) rfl rfl rfl rfl (.cons rfl rfl neI (.cons rfl rfl neI (.cons rfl rfl (by simp [undef]) .nil))) rfl ?_
           refine WV.mono (wv_f0 Try.call30 (gas_out_1 x220 0 50 H238.next _ w245 f244.blk (by omega))) ?_
           rintro v251 H252 ⟨k253,w248,rb249,rfl,f250⟩
           refine kpL k253 fun n255 l254 => ?_
           refine sv (v:=.bool rb249) rfl rfl rfl (opv_pick (b:=true) rfl rfl rfl rfl rfl rfl) rfl ?_
           refine wo_nil (tq_n (wk ⟨[(1,vP H.next 0),(4,vI rx1236),(8,vI x201),(106,as9),(107,(vI (slen as9:Int))),(108,vI x201),(126,.bool rb249)],132,[],H252⟩ rfl ?_))
           rcases f250 with ⟨rfl,f250⟩ | ⟨rfl,f250⟩
           ·
            refine w_cond (t:=true) rfl rfl (fun _ => ?_) (fun h => by cases h)
            refine w_region (mv (vI 7) rfl rfl ?_)
            refine wo_nil (tq_n (wk ⟨[(1,vP H.next 0),(4,vI 7),(8,vI x201),(106,as9),(107,(vI (slen as9:Int))),(108,vI x201)],132,[],H252⟩ rfl ?_))
            refine w_seq (w_region (mv (vI 7) rfl rfl ?_))
            refine sv (v:=.bool true) rfl rfl rfl (opv_bin rfl rfl rfl rfl rfl (neT (by decide))) rfl ?_
            refine wo_nil (tq_n (wk ⟨[(1,vP H.next 0),(4,vI 7),(8,vI x201),(106,as9),(107,(vI (slen as9:Int))),(108,vI x201),(128,.bool true)],132,[],H252⟩ rfl ?_))
            refine w_cond (t:=true) rfl rfl (fun _ => ?_) (fun h => by cases h)
            refine w_seq (w_region (mv (vI x201) rfl rfl ?_))
            refine mv (vI 7) rfl rfl ?_
            refine mv (vI 3) rfl rfl ?_
            refine mv (vI x201) rfl rfl ?_
            refine mv (vI 7) rfl rfl ?_
            refine wo_nil (tq_n (wk ⟨[(2,vI 3),(3,vI x201),(4,vI 7)],132,[],H252⟩ rfl ?_))
            refine w_ret ?_
            try refine q_eq (e':=.ret) rfl ?_
            refine tq_r (tq_r ?_)
            try refine q_eq (e':=.ret) rfl ?_
            refine tq_r ?_
            refine ⟨.inr rfl,rfl,[vI 3,vI x201,vI 7],.cons (resV_tmp rfl neI) (.cons (resV_tmp rfl neI) (.cons (resV_tmp rfl neI) .nil)),((((((((((((((((KeepX.refl (fun _ => False) H).new_ f102).new_ f107).keep k116).new_ f120).keep k129).trans k145 (fun _ h => h.elim)).new_ f188).keep k197).trans k207 (fun _ h => h.elim)).new_ f222).put f227 (by first | (right; omega) | (left; (try dsimp only) <;> omega))).keep k239).new_ f244).keep k253).k (fun _ h => h.elim)),w248,3,x201,7,rfl⟩
           ·
            refine w_cond (t:=false) rfl rfl (fun h => by cases h) (fun _ => ?_)
            refine w_skip (tq_n (wk ⟨[(1,vP H.next 0),(4,vI rx1236),(8,vI x201),(106,as9),(107,(vI (slen as9:Int))),(108,vI x201)],132,[],H252⟩ rfl ?_))
            refine w_seq (w_region (mv (vI rx1236) rfl rfl ?_))
            by_cases c256:rx1236=0
            ·
             refine sv (v:=.bool false) rfl rfl rfl (opv_bin rfl rfl rfl rfl rfl (neF c256)) rfl ?_
             refine wo_nil (tq_n (wk ⟨[(1,vP H.next 0),(4,vI rx1236),(8,vI x201),(106,as9),(107,(vI (slen as9:Int))),(108,vI x201),(128,.bool false)],132,[],H252⟩ rfl ?_))
             refine w_cond (t:=false) rfl rfl (fun h => by cases h) (fun _ => ?_)
             refine w_skip ?_
             try refine q_eq (e':=.normal) rfl ?_
             refine tqk ⟨[(1,vP H.next 0),(106,as9),(107,(vI (slen as9:Int))),(108,vI x201)],132,[],H252⟩ rfl ?_
             refine w_region (sv_int rfl rfl rfl (opv_bin rfl rfl rfl rfl rfl rfl) ?_)
             intro x257 h258
             try replace h258:x257=x201 + 1:=wr_ex h258 (by omega) (by omega)
             refine mv (vI x257) rfl rfl ?_
             refine wo_nil ?_
             refine tq_n ⟨(((slen as9:Int):Int) - x257).toNat,by omega,⟨[(1,vP H.next 0),(106,as9),(107,(vI (slen as9:Int))),(108,vI x257)],132,[],H252⟩,subk rfl,x257,H252,by omega,by omega,w248,((((l206.trans l224).trans l229).trans l240).trans l246).trans l254,(((((((KeepX.refl (fun _ => False) H196).trans k207 (fun _ h => h.elim)).new_ f222).put f227 (by first | (right; omega) | (left; (try dsimp only) <;> omega))).keep k239).new_ f244).keep k253),rfl,rfl⟩
            ·
             refine sv (v:=.bool true) rfl rfl rfl (opv_bin rfl rfl rfl rfl rfl (neT c256)) rfl ?_
             refine wo_nil (tq_n (wk ⟨[(1,vP H.next 0),(4,vI rx1236),(8,vI x201),(106,as9),(107,(vI (slen as9:Int))),(108,vI x201),(128,.bool true)],132,[],H252⟩ rfl ?_))
             refine w_cond (t:=true) rfl rfl (fun _ => ?_) (fun h => by cases h)
             refine w_seq (w_region (mv (vI x201) rfl rfl ?_))
             refine mv (vI rx1236) rfl rfl ?_
             refine mv (vI 3) rfl rfl ?_
             refine mv (vI x201) rfl rfl ?_
             refine mv (vI rx1236) rfl rfl ?_
             refine wo_nil (tq_n (wk ⟨[(2,vI 3),(3,vI x201),(4,vI rx1236)],132,[],H252⟩ rfl ?_))
             refine w_ret ?_
             try refine q_eq (e':=.ret) rfl ?_
             refine tq_r (tq_r ?_)
             try refine q_eq (e':=.ret) rfl ?_
             refine tq_r ?_
             refine ⟨.inr rfl,rfl,[vI 3,vI x201,vI rx1236],.cons (resV_tmp rfl neI) (.cons (resV_tmp rfl neI) (.cons (resV_tmp rfl neI) .nil)),((((((((((((((((KeepX.refl (fun _ => False) H).new_ f102).new_ f107).keep k116).new_ f120).keep k129).trans k145 (fun _ h => h.elim)).new_ f188).keep k197).trans k207 (fun _ h => h.elim)).new_ f222).put f227 (by first | (right; omega) | (left; (try dsimp only) <;> omega))).keep k239).new_ f244).keep k253).k (fun _ h => h.elim)),w248,3,x201,rx1236,rfl⟩
          ·
           refine sv (v:=.bool false) rfl rfl rfl (opv_bin rfl rfl rfl rfl rfl (eqF c242)) rfl ?_
           refine mv (.bool false) rfl rfl ?_
           refine ss rfl (wants_g rfl rfl rfl rfl rfl) rfl rfl ?_
           refine ss rfl (wants_g rfl rfl rfl rfl rfl) rfl rfl ?_
           refine ss rfl (wants_g rfl rfl rfl rfl rfl) rfl rfl ?_
           refine ss rfl (wants_g rfl rfl rfl rfl rfl) rfl rfl ?_
           refine sv (v:=.bool false) rfl rfl rfl (opv_pick (b:=false) rfl rfl rfl rfl rfl rfl) rfl ?_
           refine wo_nil (tq_n (wk ⟨[(1,vP H.next 0),(4,vI rx1236),(8,vI x201),(106,as9),(107,(vI (slen as9:Int))),(108,vI x201),(126,.bool false)],132,[],H238⟩ rfl ?_))
           refine w_cond (t:=false) rfl rfl (fun h => by cases h) (fun _ => ?_)
           refine w_skip (tq_n (wk ⟨[(1,vP H.next 0),(4,vI rx1236),(8,vI x201),(106,as9),(107,(vI (slen as9:Int))),(108,vI x201)],132,[],H238⟩ rfl ?_))
           refine w_seq (w_region (mv (vI rx1236) rfl rfl ?_))
           by_cases c259:rx1236=0
           ·
            refine sv (v:=.bool false) rfl rfl rfl (opv_bin rfl rfl rfl rfl rfl (neF c259)) rfl ?_
            refine wo_nil (tq_n (wk ⟨[(1,vP H.next 0),(4,vI rx1236),(8,vI x201),(106,as9),(107,(vI (slen as9:Int))),(108,vI x201),(128,.bool false)],132,[],H238⟩ rfl ?_))
            refine w_cond (t:=false) rfl rfl (fun h => by cases h) (fun _ => ?_)
            refine w_skip ?_
            try refine q_eq (e':=.normal) rfl ?_
            refine tqk ⟨[(1,vP H.next 0),(106,as9),(107,(vI (slen as9:Int))),(108,vI x201)],132,[],H238⟩ rfl ?_
            refine w_region (sv_int rfl rfl rfl (opv_bin rfl rfl rfl rfl rfl rfl) ?_)
            intro x260 h261
            try replace h261:x260=x201 + 1:=wr_ex h261 (by omega) (by omega)
            refine mv (vI x260) rfl rfl ?_
            refine wo_nil ?_
            refine tq_n ⟨(((slen as9:Int):Int) - x260).toNat,by omega,⟨[(1,vP H.next 0),(106,as9),(107,(vI (slen as9:Int))),(108,vI x260)],132,[],H238⟩,subk rfl,x260,H238,by omega,by omega,w235,((l206.trans l224).trans l229).trans l240,(((((KeepX.refl (fun _ => False) H196).trans k207 (fun _ h => h.elim)).new_ f222).put f227 (by first | (right; omega) | (left; (try dsimp only) <;> omega))).keep k239),rfl,rfl⟩
           ·
            refine sv (v:=.bool true) rfl rfl rfl (opv_bin rfl rfl rfl rfl rfl (neT c259)) rfl ?_
            refine wo_nil (tq_n (wk ⟨[(1,vP H.next 0),(4,vI rx1236),(8,vI x201),(106,as9),(107,(vI (slen as9:Int))),(108,vI x201),(128,.bool true)],132,[],H238⟩ rfl ?_))
            refine w_cond (t:=true) rfl rfl (fun _ => ?_) (fun h => by cases h)
            refine w_seq (w_region (mv (vI x201) rfl rfl ?_))
            refine mv (vI rx1236) rfl rfl ?_
            refine mv (vI 3) rfl rfl ?_
            refine mv (vI x201) rfl rfl ?_
            refine mv (vI rx1236) rfl rfl ?_
            refine wo_nil (tq_n (wk ⟨[(2,vI 3),(3,vI x201),(4,vI rx1236)],132,[],H238⟩ rfl ?_))
            refine w_ret ?_
            try refine q_eq (e':=.ret) rfl ?_
            refine tq_r (tq_r ?_)
            try refine q_eq (e':=.ret) rfl ?_
            refine tq_r ?_
            refine ⟨.inr rfl,rfl,[vI 3,vI x201,vI rx1236],.cons (resV_tmp rfl neI) (.cons (resV_tmp rfl neI) (.cons (resV_tmp rfl neI) .nil)),((((((((((((((KeepX.refl (fun _ => False) H).new_ f102).new_ f107).keep k116).new_ f120).keep k129).trans k145 (fun _ h => h.elim)).new_ f188).keep k197).trans k207 (fun _ h => h.elim)).new_ f222).put f227 (by first | (right; omega) | (left; (try dsimp only) <;> omega))).keep k239).k (fun _ h => h.elim)),w235,3,x201,rx1236,rfl⟩
         ·
          refine sv (v:=.bool false) rfl rfl rfl (opv_bin rfl rfl rfl rfl rfl (cmpF rfl c211)) rfl ?_
          refine wo_nil (tq_n (wk ⟨[(1,vP H.next 0),(106,as9),(107,(vI (slen as9:Int))),(108,vI x201),(109,.bool false)],132,[],H202⟩ rfl ?_))
          refine w_seq (w_cond (t:=false) rfl rfl (fun h => by cases h) (fun _ => ?_))
          refine w_exit (tq_e (tq_e ?_))
          try refine q_eq (e':=.normal) rfl ?_
          refine tqk ⟨[],132,[],H202⟩ rfl ?_
          refine w_seq (w_region (mv (vI 0) rfl rfl ?_))
          refine mv (vI 0) rfl rfl ?_
          refine mv (vI 0) rfl rfl ?_
          refine wo_nil (tq_n (wk ⟨[(2,vI 0),(3,vI 0),(4,vI 0)],132,[],H202⟩ rfl ?_))
          refine w_ret ?_
          refine ⟨.inr rfl,rfl,[vI 0,vI 0,vI 0],.cons (resV_tmp rfl neI) (.cons (resV_tmp rfl neI) (.cons (resV_tmp rfl neI) .nil)),((((((((((KeepX.refl (fun _ => False) H).new_ f102).new_ f107).keep k116).new_ f120).keep k129).trans k145 (fun _ h => h.elim)).new_ f188).keep k197).trans k207 (fun _ h => h.elim)).k (fun _ h => h.elim),w205,0,0,0,rfl⟩

theorem gas_none (H:SH) (wt:WT H):WC Try.prog 62 [] H (fun v H' => Keep H H'∧WT H'∧v=(.agg #[vI 1,vI 0])):=by
 refine wc_of_body Try.func62 rfl ?_
 refine wk ⟨[],2,[],H⟩ rfl ?_
 refine w_seq (w_region (sv_new (H:=H) (v:=vP H.next 0) (x:=.row #[vI 0,vI 0] .raw) rfl rfl rfl rfl (opv_alloc rfl ze23 rfl) ?_))
 intro H101 f102
 refine newL wt f102 fun n105 w103 l104 => ?_
 refine wo_nil (tq_n (wk ⟨[(0,vP H.next 0)],2,[],H101⟩ rfl ?_))
 refine w_seq (w_region (sv (v:=.agg #[vI 1,vI 0]) rfl rfl rfl (opv_buildStE (vs:=[(0,vI 1),(1,vI 0)]) rfl (.cons rfl rfl neI (.cons rfl rfl neI .nil)) ze23 rfl tin23 Try.underlying23 pl23 rfl rfl) rfl ?_))
 refine sv_put (H:=H101) (n:=H.next) (v:=undef) (x:=some (.row #[vI 1,vI 0] .raw)) rfl rfl rfl rfl (opv_storeC (u:=.agg #[vI 1,vI 0]) rfl rfl rfl rfl rfl (by simp [undef]) sz23 rfl rfl rfl f102.blk rfl rfl) ?_
 intro H106 f107
 refine putL w103 f107 f102.blk fun n110 w108 l109 => ?_
 refine wo_nil (tq_n (wk ⟨[(0,vP H.next 0)],2,[],H106⟩ rfl ?_))
 refine w_ret ?_
 refine ⟨.inr rfl,rfl,[.agg #[vI 1,vI 0]],.cons (resV_cellE rfl ag23 sz23 f107.blk rfl (.inl rfl) rfl) .nil,((((KeepX.refl (fun _ => False) H).new_ f102).put f107 (by first | (right; omega) | (left; (try dsimp only) <;> omega))).k (fun _ h => h.elim)),w108,rfl⟩

theorem gas_both (p0 p1:Int) (q0 q1:Int) (H:SH) (wt:WT H):WC Try.prog 37 [.agg #[vI p0,vI p1],.agg #[vI q0,vI q1]] H (fun v H' => Keep H H'∧WT H'∧∃ (rx1 rx2:Int),v=(.agg #[vI rx1,vI rx2])):=by
 refine wc_of_body Try.func37 rfl ?_
 refine wk ⟨[(0,.agg #[vI p0,vI p1]),(1,.agg #[vI q0,vI q1])],34,[],H⟩ rfl ?_
 refine w_seq (w_region (sv_new (H:=H) (v:=vP H.next 0) (x:=.row #[vI p0,vI p1] .raw) rfl rfl rfl rfl (opv_boxE (v:=.agg #[vI p0,vI p1]) rfl rfl rfl (by simp [undef]) rfl) ?_))
 intro H101 f102
 refine newL wt f102 fun n105 w103 l104 => ?_
 refine sv_new (H:=H101) (v:=vP H101.next 0) (x:=.row #[vI q0,vI q1] .raw) rfl rfl rfl rfl (opv_boxE (v:=.agg #[vI q0,vI q1]) rfl rfl rfl (by simp [undef]) rfl) ?_
 intro H106 f107
 refine newL w103 f107 fun n110 w108 l109 => ?_
 refine sv_new (H:=H106) (v:=vP H106.next 0) (x:=.row #[vI 0,vI 0] .raw) rfl rfl rfl rfl (opv_alloc rfl ze23 rfl) ?_
 intro H111 f112
 refine newL w108 f112 fun n115 w113 l114 => ?_
 refine wo_nil (tq_n (wk ⟨[(2,vP H.next 0),(3,vP H101.next 0),(4,vP H106.next 0)],34,[],H111⟩ rfl ?_))
 refine w_seq (w_region (sv (v:=vP H.next 0) rfl rfl rfl (opv_fieldAddrE rfl rfl rfl Try.underlying23 rfl sz3 (by decide) rfl) rfl ?_))
 refine sv (v:=vI p0) rfl rfl rfl (opv_loadE rfl rfl rfl ag3 sz3 ((f112.get H.next (by omega)).trans ((f107.get H.next (by omega)).trans f102.blk)) rfl (.inr rfl) rfl) rfl ?_
 refine sv (v:=vP H101.next 0) rfl rfl rfl (opv_fieldAddrE rfl rfl rfl Try.underlying23 rfl sz3 (by decide) rfl) rfl ?_
 refine sv (v:=vI q0) rfl rfl rfl (opv_loadE rfl rfl rfl ag3 sz3 ((f112.get H101.next (by omega)).trans f107.blk) rfl (.inr rfl) rfl) rfl ?_
 refine sv_int rfl rfl rfl (opv_max rfl rfl rfl rfl rfl) ?_
 intro x116 h117
 replace h117:=ite_or h117
 refine sv (v:=vP H.next 1) rfl rfl rfl (opv_fieldAddrE rfl rfl rfl Try.underlying23 rfl sz3 (by decide) rfl) rfl ?_
 refine sv (v:=vI p1) rfl rfl rfl (opv_loadE rfl rfl rfl ag3 sz3 ((f112.get H.next (by omega)).trans ((f107.get H.next (by omega)).trans f102.blk)) rfl (.inr rfl) rfl) rfl ?_
 refine sv (v:=vP H101.next 1) rfl rfl rfl (opv_fieldAddrE rfl rfl rfl Try.underlying23 rfl sz3 (by decide) rfl) rfl ?_
 refine sv (v:=vI q1) rfl rfl rfl (opv_loadE rfl rfl rfl ag3 sz3 ((f112.get H101.next (by omega)).trans f107.blk) rfl (.inr rfl) rfl) rfl ?_
 refine sv_int rfl rfl rfl (opv_min rfl rfl rfl rfl rfl) ?_
 intro x118 h119
 replace h119:=ite_or h119
 refine sv (v:=.agg #[vI x116,vI x118]) rfl rfl rfl (opv_buildStE (vs:=[(0,vI x116),(1,vI x118)]) rfl (.cons rfl rfl neI (.cons rfl rfl neI .nil)) ze23 rfl tin23 Try.underlying23 pl23 rfl rfl) rfl ?_
 refine sv_new (H:=H111) (v:=vP H111.next 0) (x:=.row #[vI 0,vI 0] .raw) rfl rfl rfl rfl (opv_alloc rfl ze23 rfl) ?_
 intro H120 f121
 refine newL w113 f121 fun n124 w122 l123 => ?_
 refine sv_put (H:=H120) (n:=H111.next) (v:=undef) (x:=some (.row #[vI x116,vI x118] .raw)) rfl rfl rfl rfl (opv_storeC (u:=.agg #[vI x116,vI x118]) rfl rfl rfl rfl rfl (by simp [undef]) sz23 rfl rfl rfl f121.blk rfl rfl) ?_
 intro H125 f126
 refine putL w122 f126 f121.blk fun n129 w127 l128 => ?_
 refine wo_nil (tq_n (wk ⟨[(2,vP H.next 0),(3,vP H101.next 0),(4,vP H106.next 0),(5,vP H111.next 0)],34,[],H125⟩ rfl ?_))
 refine w_seq (w_seq (w_draw_start ?_))
 intro C0
 obtain ⟨_,H132,k133,⟨w131,rfl⟩,C130⟩:=ch_call (i:=1) (p:=0) (ks:=[]) (vs:=[]) (fv:=.func (.func 62) #[] #[]) (H:=H125) C0 rfl rfl rfl rfl rfl rfl rfl .nil rfl (wv_f0 Try.call62 (gas_none _ w127))
 refine kpL k133 fun n135 l134 => ?_
 have C136:=ch_val (i:=0) (p:=0) (ks:=[2]) (v:=.agg #[vI p0,vI p1]) (A:=H125) (H:=H132) C130 rfl rfl rfl rfl rfl rfl (opv_loadE rfl rfl rfl ag23 sz23 ((f126.get H.next (by omega)).trans ((f121.get H.next (by omega)).trans ((f112.get H.next (by omega)).trans ((f107.get H.next (by omega)).trans f102.blk)))) rfl (.inl rfl) rfl)
 obtain ⟨r137,hr138⟩:=eqT23 p0 p1 1 0
 obtain ⟨b139,h140⟩ : ∃ b:Bool,flipB .eql r137=b:=⟨_,rfl⟩
 have C141:=ch_val (i:=2) (p:=1) (ks:=[17,18]) (v:=.bool b139) (A:=H132) (H:=H132) C136 rfl rfl rfl rfl rfl rfl (by rw [← h140]; exact opv_eqAgg rfl rfl rfl rfl rfl rfl rfl eg23 hr138 (.inl rfl))
 have C142:=ch_val (i:=3) (p:=1) (ks:=[19]) (v:=.bool b139) (A:=H132) (H:=H132) C141 rfl rfl rfl rfl rfl rfl (opv_move (.inl rfl) rfl rfl)
 rcases b139 with _ | _
 ·
  obtain ⟨_,H146,k147,⟨w145,rfl⟩,C144⟩:=ch_call (i:=5) (p:=4) (ks:=[20]) (vs:=[]) (fv:=.func (.func 62) #[] #[]) (H:=H132) C142 rfl rfl rfl (wants_g rfl rfl rfl rfl rfl) rfl rfl rfl .nil rfl (wv_f0 Try.call62 (gas_none _ w131))
  refine kpL k147 fun n149 l148 => ?_
  have C150:=ch_val (i:=4) (p:=1) (ks:=[3,20]) (v:=.agg #[vI q0,vI q1]) (A:=H132) (H:=H146) C144 rfl rfl rfl rfl (wants_g rfl rfl rfl rfl rfl) rfl (opv_loadE rfl rfl rfl ag23 sz23 ((k133.get H101.next (by omega)).trans ((f126.get H101.next (by omega)).trans ((f121.get H101.next (by omega)).trans ((f112.get H101.next (by omega)).trans f107.blk)))) rfl (.inl rfl) rfl)
  obtain ⟨r151,hr152⟩:=eqT23 q0 q1 1 0
  obtain ⟨b153,h154⟩ : ∃ b:Bool,flipB .eql r151=b:=⟨_,rfl⟩
  have C155:=ch_val (i:=6) (p:=5) (ks:=[20,21,22]) (v:=.bool b153) (A:=H146) (H:=H146) C150 rfl rfl rfl rfl (wants_g rfl rfl rfl rfl rfl) rfl (by rw [← h154]; exact opv_eqAgg rfl rfl rfl rfl rfl rfl rfl eg23 hr152 (.inl rfl))
  have C156:=ch_val (i:=7) (p:=5) (ks:=[20,23]) (v:=.bool b153) (A:=H146) (H:=H146) C155 rfl rfl rfl rfl rfl rfl (opv_pick (b:=false) rfl rfl rfl rfl rfl rfl)
  have C157:=ch_val (i:=8) (p:=5) (ks:=[24]) (v:=.bool b153) (A:=H146) (H:=H146) C156 rfl rfl rfl rfl rfl rfl (opv_move (.inl rfl) rfl rfl)
  rcases b153 with _ | _
  ·
   have C159:=ch_val (i:=9) (p:=5) (ks:=[5,25]) (v:=vP H111.next 0) (A:=H146) (H:=H146) C157 rfl rfl rfl rfl (wants_g rfl rfl rfl rfl rfl) rfl (opv_fieldAddrE rfl rfl rfl Try.underlying23 rfl sz3 (by decide) rfl)
   have C160:=ch_val (i:=10) (p:=5) (ks:=[25,26]) (v:=vI x116) (A:=H146) (H:=H146) C159 rfl rfl rfl rfl (wants_g rfl rfl rfl rfl rfl) rfl (opv_loadE rfl rfl rfl ag3 sz3 ((k147.get H111.next (by omega)).trans ((k133.get H111.next (by omega)).trans f126.blk)) rfl (.inr rfl) rfl)
   have C161:=ch_val (i:=11) (p:=5) (ks:=[5,25]) (v:=vP H111.next 1) (A:=H146) (H:=H146) C160 rfl rfl rfl rfl (wants_g rfl rfl rfl rfl rfl) rfl (opv_fieldAddrE rfl rfl rfl Try.underlying23 rfl sz3 (by decide) rfl)
   have C162:=ch_val (i:=12) (p:=5) (ks:=[25,28]) (v:=vI x118) (A:=H146) (H:=H146) C161 rfl rfl rfl rfl (wants_g rfl rfl rfl rfl rfl) rfl (opv_loadE rfl rfl rfl ag3 sz3 ((k147.get H111.next (by omega)).trans ((k133.get H111.next (by omega)).trans f126.blk)) rfl (.inr rfl) rfl)
   refine w_draw (tl:=[13,14]) rfl [0,0,3,7,15,15,63,127,255,511,1023,511,2559,8191,16383] C162 (by kernel_rfl) (by kernel_rfl) ?_
   refine wonorm (g:=[(4,vP H106.next 0),(5,vP H111.next 0),(25,.bool false),(27,vI x116),(29,vI x118)]) (n:=34) (ds:=[]) (H:=H146) (lsub_cons rfl (lsub_cons rfl (lsub_cons rfl (lsub_cons rfl (lsub_cons rfl (lsub_nil _)))))) rfl rfl rfl ?_
   by_cases c163:x116 > x118
   ·
    refine sv (v:=.bool true) rfl (wants_g rfl rfl rfl rfl rfl) rfl (opv_bin rfl rfl rfl rfl rfl (cmpT rfl c163)) rfl ?_
    refine sv (v:=.bool true) rfl rfl rfl (opv_pick (b:=false) rfl rfl rfl rfl rfl rfl) rfl ?_
    refine wo_nil (tq_n (wk ⟨[(4,vP H106.next 0),(5,vP H111.next 0),(31,.bool true)],34,[],H146⟩ rfl ?_))
    refine w_cond (t:=true) rfl rfl (fun _ => ?_) (fun h => by cases h)
    refine w_seq (w_region (sc_ (H:=H146) (vs:=[]) (fv:=.func (.func 62) #[] #[]) rfl rfl rfl rfl rfl rfl .nil rfl ?_))
    refine WV.mono (wv_f0 Try.call62 (gas_none _ w145)) ?_
    rintro v165 H166 ⟨k167,w164,rfl⟩
    refine kpL k167 fun n169 l168 => ?_
    refine sv_put (H:=H166) (n:=H106.next) (v:=undef) (x:=some (.row #[vI 1,vI 0] .raw)) rfl rfl rfl rfl (opv_storeC (u:=.agg #[vI 1,vI 0]) rfl rfl rfl rfl rfl (by simp [undef]) sz23 rfl rfl rfl ((k167.get H106.next (by omega)).trans ((k147.get H106.next (by omega)).trans ((k133.get H106.next (by omega)).trans ((f126.get H106.next (by omega)).trans ((f121.get H106.next (by omega)).trans f112.blk))))) rfl rfl) ?_
    intro H170 f171
    refine putL w164 f171 ((k167.get H106.next (by omega)).trans ((k147.get H106.next (by omega)).trans ((k133.get H106.next (by omega)).trans ((f126.get H106.next (by omega)).trans ((f121.get H106.next (by omega)).trans f112.blk))))) fun n174 w172 l173 => ?_
    refine wo_nil (tq_n (wk ⟨[(4,vP H106.next 0)],34,[],H170⟩ rfl ?_))
    refine w_ret (tq_r ?_)
    refine ⟨.inr rfl,rfl,[.agg #[vI 1,vI 0]],.cons (resV_cellE rfl ag23 sz23 f171.blk rfl (.inl rfl) rfl) .nil,(((((((((((KeepX.refl (fun _ => False) H).new_ f102).new_ f107).new_ f112).new_ f121).put f126 (by first | (right; omega) | (left; (try dsimp only) <;> omega))).keep k133).keep k147).keep k167).put f171 (by first | (right; omega) | (left; (try dsimp only) <;> omega))).k (fun _ h => h.elim)),w172,1,0,rfl⟩
   ·
    refine sv (v:=.bool false) rfl (wants_g rfl rfl rfl rfl rfl) rfl (opv_bin rfl rfl rfl rfl rfl (cmpF rfl c163)) rfl ?_
    refine sv (v:=.bool false) rfl rfl rfl (opv_pick (b:=false) rfl rfl rfl rfl rfl rfl) rfl ?_
    refine wo_nil (tq_n (wk ⟨[(4,vP H106.next 0),(5,vP H111.next 0),(31,.bool false)],34,[],H146⟩ rfl ?_))
    refine w_cond (t:=false) rfl rfl (fun h => by cases h) (fun _ => ?_)
    refine w_skip (tq_n (wk ⟨[(4,vP H106.next 0),(5,vP H111.next 0)],34,[],H146⟩ rfl ?_))
    refine w_seq (w_region (sv (v:=.agg #[vI x116,vI x118]) rfl rfl rfl (opv_loadE rfl rfl rfl ag23 sz23 ((k147.get H111.next (by omega)).trans ((k133.get H111.next (by omega)).trans f126.blk)) rfl (.inl rfl) rfl) rfl ?_))
    refine sv_put (H:=H146) (n:=H106.next) (v:=undef) (x:=some (.row #[vI x116,vI x118] .raw)) rfl rfl rfl rfl (opv_storeC (u:=.agg #[vI x116,vI x118]) rfl rfl rfl rfl rfl (by simp [undef]) sz23 rfl rfl rfl ((k147.get H106.next (by omega)).trans ((k133.get H106.next (by omega)).trans ((f126.get H106.next (by omega)).trans ((f121.get H106.next (by omega)).trans f112.blk)))) rfl rfl) ?_
    intro H175 f176
    refine putL w145 f176 ((k147.get H106.next (by omega)).trans ((k133.get H106.next (by omega)).trans ((f126.get H106.next (by omega)).trans ((f121.get H106.next (by omega)).trans f112.blk)))) fun n179 w177 l178 => ?_
    refine wo_nil (tq_n (wk ⟨[(4,vP H106.next 0)],34,[],H175⟩ rfl ?_))
    refine w_ret ?_
    refine ⟨.inr rfl,rfl,[.agg #[vI x116,vI x118]],.cons (resV_cellE rfl ag23 sz23 f176.blk rfl (.inl rfl) rfl) .nil,((((((((((KeepX.refl (fun _ => False) H).new_ f102).new_ f107).new_ f112).new_ f121).put f126 (by first | (right; omega) | (left; (try dsimp only) <;> omega))).keep k133).keep k147).put f176 (by first | (right; omega) | (left; (try dsimp only) <;> omega))).k (fun _ h => h.elim)),w177,x116,x118,rfl⟩
  ·
   have C180:=ch_skip (i:=9) (p:=5) (ks:=[25]) (A:=H146) (H:=H146) C157 rfl rfl rfl rfl (wants_g rfl rfl rfl rfl rfl) rfl
   have C181:=ch_skip (i:=10) (p:=5) (ks:=[25]) (A:=H146) (H:=H146) C180 rfl rfl rfl rfl (wants_g rfl rfl rfl rfl rfl) rfl
   have C182:=ch_skip (i:=11) (p:=5) (ks:=[25]) (A:=H146) (H:=H146) C181 rfl rfl rfl rfl (wants_g rfl rfl rfl rfl rfl) rfl
   have C183:=ch_skip (i:=12) (p:=5) (ks:=[25]) (A:=H146) (H:=H146) C182 rfl rfl rfl rfl (wants_g rfl rfl rfl rfl rfl) rfl
   refine w_draw (tl:=[13,14]) rfl [0,0,3,7,15,15,63,127,255,511,1023,511,2559,8191,16383] C183 (by kernel_rfl) (by kernel_rfl) ?_
   refine wonorm (g:=[(4,vP H106.next 0),(5,vP H111.next 0),(25,.bool true)]) (n:=34) (ds:=[]) (H:=H146) (lsub_cons rfl (lsub_cons rfl (lsub_cons rfl (lsub_nil _)))) rfl rfl rfl ?_
   refine ss rfl (wants_g rfl rfl rfl rfl rfl) rfl rfl ?_
   refine sv (v:=.bool true) rfl rfl rfl (opv_pick (b:=true) rfl rfl rfl rfl rfl rfl) rfl ?_
   refine wo_nil (tq_n (wk ⟨[(4,vP H106.next 0),(5,vP H111.next 0),(31,.bool true)],34,[],H146⟩ rfl ?_))
   refine w_cond (t:=true) rfl rfl (fun _ => ?_) (fun h => by cases h)
   refine w_seq (w_region (sc_ (H:=H146) (vs:=[]) (fv:=.func (.func 62) #[] #[]) rfl rfl rfl rfl rfl rfl .nil rfl ?_))
   refine WV.mono (wv_f0 Try.call62 (gas_none _ w145)) ?_
   rintro v185 H186 ⟨k187,w184,rfl⟩
   refine kpL k187 fun n189 l188 => ?_
   refine sv_put (H:=H186) (n:=H106.next) (v:=undef) (x:=some (.row #[vI 1,vI 0] .raw)) rfl rfl rfl rfl (opv_storeC (u:=.agg #[vI 1,vI 0]) rfl rfl rfl rfl rfl (by simp [undef]) sz23 rfl rfl rfl ((k187.get H106.next (by omega)).trans ((k147.get H106.next (by omega)).trans ((k133.get H106.next (by omega)).trans ((f126.get H106.next (by omega)).trans ((f121.get H106.next (by omega)).trans f112.blk))))) rfl rfl) ?_
   intro H190 f191
   refine putL w184 f191 ((k187.get H106.next (by omega)).trans ((k147.get H106.next (by omega)).trans ((k133.get H106.next (by omega)).trans ((f126.get H106.next (by omega)).trans ((f121.get H106.next (by omega)).trans f112.blk))))) fun n194 w192 l193 => ?_
   refine wo_nil (tq_n (wk ⟨[(4,vP H106.next 0)],34,[],H190⟩ rfl ?_))
   refine w_ret (tq_r ?_)
   refine ⟨.inr rfl,rfl,[.agg #[vI 1,vI 0]],.cons (resV_cellE rfl ag23 sz23 f191.blk rfl (.inl rfl) rfl) .nil,(((((((((((KeepX.refl (fun _ => False) H).new_ f102).new_ f107).new_ f112).new_ f121).put f126 (by first | (right; omega) | (left; (try dsimp only) <;> omega))).keep k133).keep k147).keep k187).put f191 (by first | (right; omega) | (left; (try dsimp only) <;> omega))).k (fun _ h => h.elim)),w192,1,0,rfl⟩
 ·
  have C195:=ch_skip (i:=5) (p:=1) (ks:=[20]) (A:=H132) (H:=H132) C142 rfl rfl rfl rfl (wants_g rfl rfl rfl rfl rfl) rfl
  have C196:=ch_skip (i:=4) (p:=1) (ks:=[20]) (A:=H132) (H:=H132) C195 rfl rfl rfl rfl (wants_g rfl rfl rfl rfl rfl) rfl
  have C197:=ch_skip (i:=6) (p:=5) (ks:=[20]) (A:=H132) (H:=H132) C196 rfl rfl rfl rfl (wants_g rfl rfl rfl rfl rfl) rfl
  have C198:=ch_val (i:=7) (p:=5) (ks:=[20,23]) (v:=.bool true) (A:=H132) (H:=H132) C197 rfl rfl rfl rfl rfl rfl (opv_pick (b:=true) rfl rfl rfl rfl rfl rfl)
  have C199:=ch_val (i:=8) (p:=5) (ks:=[24]) (v:=.bool true) (A:=H132) (H:=H132) C198 rfl rfl rfl rfl rfl rfl (opv_move (.inl rfl) rfl rfl)
  have C200:=ch_skip (i:=9) (p:=5) (ks:=[25]) (A:=H132) (H:=H132) C199 rfl rfl rfl rfl (wants_g rfl rfl rfl rfl rfl) rfl
  have C201:=ch_skip (i:=10) (p:=5) (ks:=[25]) (A:=H132) (H:=H132) C200 rfl rfl rfl rfl (wants_g rfl rfl rfl rfl rfl) rfl
  have C202:=ch_skip (i:=11) (p:=5) (ks:=[25]) (A:=H132) (H:=H132) C201 rfl rfl rfl rfl (wants_g rfl rfl rfl rfl rfl) rfl
  have C203:=ch_skip (i:=12) (p:=5) (ks:=[25]) (A:=H132) (H:=H132) C202 rfl rfl rfl rfl (wants_g rfl rfl rfl rfl rfl) rfl
  refine w_draw (tl:=[13,14]) rfl [0,0,3,7,15,15,63,127,255,511,1023,511,2559,8191,16383] C203 (by kernel_rfl) (by kernel_rfl) ?_
  refine wonorm (g:=[(4,vP H106.next 0),(5,vP H111.next 0),(25,.bool true)]) (n:=34) (ds:=[]) (H:=H132) (lsub_cons rfl (lsub_cons rfl (lsub_cons rfl (lsub_nil _)))) rfl rfl rfl ?_
  refine ss rfl (wants_g rfl rfl rfl rfl rfl) rfl rfl ?_
  refine sv (v:=.bool true) rfl rfl rfl (opv_pick (b:=true) rfl rfl rfl rfl rfl rfl) rfl ?_
  refine wo_nil (tq_n (wk ⟨[(4,vP H106.next 0),(5,vP H111.next 0),(31,.bool true)],34,[],H132⟩ rfl ?_))
  refine w_cond (t:=true) rfl rfl (fun _ => ?_) (fun h => by cases h)
  refine w_seq (w_region (sc_ (H:=H132) (vs:=[]) (fv:=.func (.func 62) #[] #[]) rfl rfl rfl rfl rfl rfl .nil rfl ?_))
  refine WV.mono (wv_f0 Try.call62 (gas_none _ w131)) ?_
  rintro v205 H206 ⟨k207,w204,rfl⟩
  refine kpL k207 fun n209 l208 => ?_
  refine sv_put (H:=H206) (n:=H106.next) (v:=undef) (x:=some (.row #[vI 1,vI 0] .raw)) rfl rfl rfl rfl (opv_storeC (u:=.agg #[vI 1,vI 0]) rfl rfl rfl rfl rfl (by simp [undef]) sz23 rfl rfl rfl ((k207.get H106.next (by omega)).trans ((k133.get H106.next (by omega)).trans ((f126.get H106.next (by omega)).trans ((f121.get H106.next (by omega)).trans f112.blk)))) rfl rfl) ?_
  intro H210 f211
  refine putL w204 f211 ((k207.get H106.next (by omega)).trans ((k133.get H106.next (by omega)).trans ((f126.get H106.next (by omega)).trans ((f121.get H106.next (by omega)).trans f112.blk)))) fun n214 w212 l213 => ?_
  refine wo_nil (tq_n (wk ⟨[(4,vP H106.next 0)],34,[],H210⟩ rfl ?_))
  refine w_ret (tq_r ?_)
  refine ⟨.inr rfl,rfl,[.agg #[vI 1,vI 0]],.cons (resV_cellE rfl ag23 sz23 f211.blk rfl (.inl rfl) rfl) .nil,((((((((((KeepX.refl (fun _ => False) H).new_ f102).new_ f107).new_ f112).new_ f121).put f126 (by first | (right; omega) | (left; (try dsimp only) <;> omega))).keep k133).keep k207).put f211 (by first | (right; omega) | (left; (try dsimp only) <;> omega))).k (fun _ h => h.elim)),w212,1,0,rfl⟩

theorem gas_limited (ax1:Int) (H:SH) (wt:WT H):WC Try.prog 39 [vI ax1] H (fun v H' => Keep H H'∧WT H'∧∃ (rx2:Int),v=(vI rx2)):=by
 refine wc_of_body Try.func39 rfl ?_
 refine wk ⟨[(0,vI ax1)],6,[],H⟩ rfl ?_
 refine w_seq (w_region (mv (vI 0) rfl rfl ?_))
 refine wo_nil (tq_n (wk ⟨[(0,vI ax1)],6,[],H⟩ rfl ?_))
 refine w_seq (w_region (mv (vI ax1) rfl rfl ?_))
 refine sv_int rfl rfl rfl (opv_min rfl rfl rfl rfl rfl) ?_
 intro x101 h102
 replace h102:=ite_or h102
 refine sv_int rfl rfl rfl (opv_max rfl rfl rfl rfl rfl) ?_
 intro x103 h104
 replace h104:=ite_or h104
 refine mv (vI x103) rfl rfl ?_
 refine wo_nil (tq_n (wk ⟨[(2,vI x103)],6,[],H⟩ rfl ?_))
 refine w_ret ?_
 refine ⟨.inr rfl,rfl,[vI x103],.cons (resV_tmp rfl neI) .nil,Keep.refl _,wt,x103,rfl⟩

theorem gas_left (ax1 ax2:Int) (ax3 ax4:Int) (ax5 ax6 ax7:Int) (as8 as9:Value) (mi:Int) (nm:Nat) (es:Array MapEntry) (ck:Nat) (H:SH) (wt:WT H) (hvas8:VT H (.sl false [.int .i64,.int .i64]) as8) (hvas9:VT H (.sl false [.str,.int .i64]) as9) (hknm:H.get nm=some (.obj (.map es ck))) (hlnm:nm < H.next) (hM:MapI (.int .i64) SpQ es):WC Try.prog 38 [.agg #[vI ax1,vI ax2,vI ax3,vI ax4,vI ax5,vI ax6,vI ax7,as8,as9,.map (some nm)],vI mi] H (fun v H' => Keep H H'∧WT H'∧∃ (rx1 rx2:Int),v=(.agg #[vI rx1,vI rx2])):=by
 refine wc_of_body Try.func38 rfl ?_
 refine wk ⟨[(0,.agg #[vI ax1,vI ax2,vI ax3,vI ax4,vI ax5,vI ax6,vI ax7,as8,as9,.map (some nm)]),(1,vI mi)],17,[],H⟩ rfl ?_
 refine w_seq (w_region (sv_new (H:=H) (v:=vP H.next 0) (x:=.row #[vI ax1,vI ax2,vI ax3,vI ax4,vI ax5,vI ax6,vI ax7,as8,as9,.map (some nm)] .raw) rfl rfl rfl rfl (opv_boxE (v:=.agg #[vI ax1,vI ax2,vI ax3,vI ax4,vI ax5,vI ax6,vI ax7,as8,as9,.map (some nm)]) rfl rfl rfl (by simp [undef]) rfl) ?_))
 intro H101 f102
 refine newL wt f102 fun n105 w103 l104 => ?_
 refine sv_new (H:=H101) (v:=vP H101.next 0) (x:=.row #[vI 0,vI 0] .raw) rfl rfl rfl rfl (opv_alloc rfl ze23 rfl) ?_
 intro H106 f107
 refine newL w103 f107 fun n110 w108 l109 => ?_
 refine wo_nil (tq_n (wk ⟨[(1,vI mi),(2,vP H.next 0),(4,vP H101.next 0)],17,[],H106⟩ rfl ?_))
 refine w_seq (w_seq (w_region (sv (v:=vP H.next 9) rfl rfl rfl (opv_fieldAddrE rfl rfl rfl Try.underlying68 rfl sz66 (by decide) rfl) rfl ?_)))
 refine sv (v:=.map (some nm)) rfl rfl rfl (opv_loadE rfl rfl rfl ag66 sz66 ((f107.get H.next (by omega)).trans f102.blk) rfl (.inr rfl) rfl) rfl ?_
 refine mv (vI mi) rfl rfl ?_
 rcases mget_c (d:=.int .i64) (k:=vI mi) rfl hM with hm111 | ⟨j112,v113,hm111,x114,x115,rfl⟩
 ·
  refine sv (v:=.tuple #[.agg #[vI 0,vI 0],.bool false]) rfl rfl rfl (opv_lookup (d:=.int .i64) rfl rfl rfl rfl rfl Try.underlying66 Try.underlying3 rfl ze23 rfl ((f107.get nm (by omega)).trans ((f102.get nm (by omega)).trans hknm)) hM (.inl ⟨hm111,rfl,rfl⟩)) rfl ?_
  refine mv (.tuple #[.agg #[vI 0,vI 0],.bool false]) rfl rfl ?_
  refine sv (v:=.agg #[vI 0,vI 0]) rfl rfl rfl (opv_extract rfl rfl rfl rfl) rfl ?_
  refine sv (v:=.bool false) rfl rfl rfl (opv_extract rfl rfl rfl rfl) rfl ?_
  refine sv_new (H:=H106) (v:=vP H106.next 0) (x:=.row #[vI 0,vI 0] .raw) rfl rfl rfl rfl (opv_alloc rfl ze23 rfl) ?_
  intro H116 f117
  refine newL w108 f117 fun n120 w118 l119 => ?_
  refine sv_put (H:=H116) (n:=H106.next) (v:=undef) (x:=some (.row #[vI 0,vI 0] .raw)) rfl rfl rfl rfl (opv_storeC (u:=.agg #[vI 0,vI 0]) rfl rfl rfl rfl rfl (by simp [undef]) sz23 rfl rfl rfl f117.blk rfl rfl) ?_
  intro H121 f122
  refine putL w118 f122 f117.blk fun n125 w123 l124 => ?_
  refine mv (.bool false) rfl rfl ?_
  refine wo_nil (tq_n (wk ⟨[(4,vP H101.next 0),(5,vP H106.next 0),(6,.bool false)],17,[],H121⟩ rfl ?_))
  refine w_seq (w_region (mv (.bool false) rfl rfl ?_))
  refine wo_nil (tq_n (wk ⟨[(4,vP H101.next 0),(5,vP H106.next 0),(14,.bool false)],17,[],H121⟩ rfl ?_))
  refine w_cond (t:=false) rfl rfl (fun h => by cases h) (fun _ => ?_)
  refine w_skip (tq_n (wk ⟨[(4,vP H101.next 0)],17,[],H121⟩ rfl ?_))
  refine w_seq (w_region (sv (v:=.agg #[vI 0,vI 200]) rfl rfl rfl (opv_buildStE (vs:=[(1,vI 200)]) rfl (.cons rfl rfl neI .nil) ze23 rfl tin23 Try.underlying23 pl23 rfl rfl) rfl ?_))
  refine sv_put (H:=H121) (n:=H101.next) (v:=undef) (x:=some (.row #[vI 0,vI 200] .raw)) rfl rfl rfl rfl (opv_storeC (u:=.agg #[vI 0,vI 200]) rfl rfl rfl rfl rfl (by simp [undef]) sz23 rfl rfl rfl ((f122.get H101.next (by omega)).trans ((f117.get H101.next (by omega)).trans f107.blk)) rfl rfl) ?_
  intro H126 f127
  refine putL w123 f127 ((f122.get H101.next (by omega)).trans ((f117.get H101.next (by omega)).trans f107.blk)) fun n130 w128 l129 => ?_
  refine wo_nil (tq_n (wk ⟨[(4,vP H101.next 0)],17,[],H126⟩ rfl ?_))
  refine w_ret ?_
  refine ⟨.inr rfl,rfl,[.agg #[vI 0,vI 200]],.cons (resV_cellE rfl ag23 sz23 f127.blk rfl (.inl rfl) rfl) .nil,(((((((KeepX.refl (fun _ => False) H).new_ f102).new_ f107).new_ f117).put f122 (by first | (right; omega) | (left; (try dsimp only) <;> omega))).put f127 (by first | (right; omega) | (left; (try dsimp only) <;> omega))).k (fun _ h => h.elim)),w128,0,200,rfl⟩
 ·
  refine sv (v:=.tuple #[.agg #[vI x114,vI x115],.bool true]) rfl rfl rfl (opv_lookup (d:=.int .i64) rfl rfl rfl rfl rfl Try.underlying66 Try.underlying3 rfl ze23 rfl ((f107.get nm (by omega)).trans ((f102.get nm (by omega)).trans hknm)) hM (.inr ⟨_,hm111,rfl⟩)) rfl ?_
  refine mv (.tuple #[.agg #[vI x114,vI x115],.bool true]) rfl rfl ?_
  refine sv (v:=.agg #[vI x114,vI x115]) rfl rfl rfl (opv_extract rfl rfl rfl rfl) rfl ?_
  refine sv (v:=.bool true) rfl rfl rfl (opv_extract rfl rfl rfl rfl) rfl ?_
  refine sv_new (H:=H106) (v:=vP H106.next 0) (x:=.row #[vI 0,vI 0] .raw) rfl rfl rfl rfl (opv_alloc rfl ze23 rfl) ?_
  intro H131 f132
  refine newL w108 f132 fun n135 w133 l134 => ?_
  refine sv_put (H:=H131) (n:=H106.next) (v:=undef) (x:=some (.row #[vI x114,vI x115] .raw)) rfl rfl rfl rfl (opv_storeC (u:=.agg #[vI x114,vI x115]) rfl rfl rfl rfl rfl (by simp [undef]) sz23 rfl rfl rfl f132.blk rfl rfl) ?_
  intro H136 f137
  refine putL w133 f137 f132.blk fun n140 w138 l139 => ?_
  refine mv (.bool true) rfl rfl ?_
  refine wo_nil (tq_n (wk ⟨[(4,vP H101.next 0),(5,vP H106.next 0),(6,.bool true)],17,[],H136⟩ rfl ?_))
  refine w_seq (w_region (mv (.bool true) rfl rfl ?_))
  refine wo_nil (tq_n (wk ⟨[(4,vP H101.next 0),(5,vP H106.next 0),(14,.bool true)],17,[],H136⟩ rfl ?_))
  refine w_cond (t:=true) rfl rfl (fun _ => ?_) (fun h => by cases h)
  refine w_seq (w_region (sv (v:=.agg #[vI x114,vI x115]) rfl rfl rfl (opv_loadE rfl rfl rfl ag23 sz23 f137.blk rfl (.inl rfl) rfl) rfl ?_))
  refine sv_put (H:=H136) (n:=H101.next) (v:=undef) (x:=some (.row #[vI x114,vI x115] .raw)) rfl rfl rfl rfl (opv_storeC (u:=.agg #[vI x114,vI x115]) rfl rfl rfl rfl rfl (by simp [undef]) sz23 rfl rfl rfl ((f137.get H101.next (by omega)).trans ((f132.get H101.next (by omega)).trans f107.blk)) rfl rfl) ?_
  intro H141 f142
  refine putL w138 f142 ((f137.get H101.next (by omega)).trans ((f132.get H101.next (by omega)).trans f107.blk)) fun n145 w143 l144 => ?_
  refine wo_nil (tq_n (wk ⟨[(4,vP H101.next 0)],17,[],H141⟩ rfl ?_))
  refine w_ret (tq_r ?_)
  refine ⟨.inr rfl,rfl,[.agg #[vI x114,vI x115]],.cons (resV_cellE rfl ag23 sz23 f142.blk rfl (.inl rfl) rfl) .nil,(((((((KeepX.refl (fun _ => False) H).new_ f102).new_ f107).new_ f132).put f137 (by first | (right; omega) | (left; (try dsimp only) <;> omega))).put f142 (by first | (right; omega) | (left; (try dsimp only) <;> omega))).k (fun _ h => h.elim)),w143,x114,x115,rfl⟩

theorem gas_rise1 (p0 p1:Int) (n2:Nat) (mi:Int) (H:SH) (wt:WT H) (hkn2:H.get n2=some (.row #[vI mi] .raw)) (hln2:n2 < H.next):WC Try.prog 64 [.agg #[vI p0,vI p1],vP n2 0] H (fun v H' => Keep H H'∧WT H'∧∃ (rb1:Bool),v=(.bool rb1)):=by
 refine wc_of_body Try.func64 rfl ?_
 refine wk ⟨[(0,.agg #[vI p0,vI p1]),(1,vP n2 0)],14,[],H⟩ rfl ?_
 refine w_seq (w_region (sv_new (H:=H) (v:=vP H.next 0) (x:=.row #[vI p0,vI p1] .raw) rfl rfl rfl rfl (opv_boxE (v:=.agg #[vI p0,vI p1]) rfl rfl rfl (by simp [undef]) rfl) ?_))
 intro H101 f102
 refine newL wt f102 fun n105 w103 l104 => ?_
 refine mv (.bool false) rfl rfl ?_
 refine wo_nil (tq_n (wk ⟨[(1,vP n2 0),(2,vP H.next 0)],14,[],H101⟩ rfl ?_))
 refine w_seq (w_region (sv (v:=vP H.next 0) rfl rfl rfl (opv_fieldAddrE rfl rfl rfl Try.underlying23 rfl sz3 (by decide) rfl) rfl ?_))
 refine sv (v:=vI p0) rfl rfl rfl (opv_loadE rfl rfl rfl ag3 sz3 f102.blk rfl (.inr rfl) rfl) rfl ?_
 refine sv (v:=vI mi) rfl rfl rfl (opv_loadE rfl rfl rfl ag3 sz3 ((f102.get n2 (by omega)).trans hkn2) rfl (.inr rfl) rfl) rfl ?_
 by_cases c106:p0 ≤ mi
 ·
  refine sv (v:=.bool true) rfl rfl rfl (opv_bin rfl rfl rfl rfl rfl (cmpT rfl c106)) rfl ?_
  refine mv (.bool true) rfl rfl ?_
  refine sv (v:=vI mi) rfl (wants_g rfl rfl rfl rfl rfl) rfl (opv_loadE rfl rfl rfl ag3 sz3 ((f102.get n2 (by omega)).trans hkn2) rfl (.inr rfl) rfl) rfl ?_
  refine sv (v:=vP H.next 1) rfl (wants_g rfl rfl rfl rfl rfl) rfl (opv_fieldAddrE rfl rfl rfl Try.underlying23 rfl sz3 (by decide) rfl) rfl ?_
  refine sv (v:=vI p1) rfl (wants_g rfl rfl rfl rfl rfl) rfl (opv_loadE rfl rfl rfl ag3 sz3 f102.blk rfl (.inr rfl) rfl) rfl ?_
  by_cases c107:mi ≤ p1
  ·
   refine sv (v:=.bool true) rfl (wants_g rfl rfl rfl rfl rfl) rfl (opv_bin rfl rfl rfl rfl rfl (cmpT rfl c107)) rfl ?_
   refine sv (v:=.bool true) rfl rfl rfl (opv_pick (b:=true) rfl rfl rfl rfl rfl rfl) rfl ?_
   refine mv (.bool true) rfl rfl ?_
   refine wo_nil (tq_n (wk ⟨[(3,.bool true)],14,[],H101⟩ rfl ?_))
   refine w_ret ?_
   refine ⟨.inr rfl,rfl,[.bool true],.cons (resV_tmp rfl (by simp [undef])) .nil,((KeepX.refl (fun _ => False) H).new_ f102).k (fun _ h => h.elim),w103,true,rfl⟩
  ·
   refine sv (v:=.bool false) rfl (wants_g rfl rfl rfl rfl rfl) rfl (opv_bin rfl rfl rfl rfl rfl (cmpF rfl c107)) rfl ?_
   refine sv (v:=.bool false) rfl rfl rfl (opv_pick (b:=true) rfl rfl rfl rfl rfl rfl) rfl ?_
   refine mv (.bool false) rfl rfl ?_
   refine wo_nil (tq_n (wk ⟨[(3,.bool false)],14,[],H101⟩ rfl ?_))
   refine w_ret ?_
   refine ⟨.inr rfl,rfl,[.bool false],.cons (resV_tmp rfl (by simp [undef])) .nil,((KeepX.refl (fun _ => False) H).new_ f102).k (fun _ h => h.elim),w103,false,rfl⟩
 ·
  refine sv (v:=.bool false) rfl rfl rfl (opv_bin rfl rfl rfl rfl rfl (cmpF rfl c106)) rfl ?_
  refine mv (.bool false) rfl rfl ?_
  refine ss rfl (wants_g rfl rfl rfl rfl rfl) rfl rfl ?_
  refine ss rfl (wants_g rfl rfl rfl rfl rfl) rfl rfl ?_
  refine ss rfl (wants_g rfl rfl rfl rfl rfl) rfl rfl ?_
  refine ss rfl (wants_g rfl rfl rfl rfl rfl) rfl rfl ?_
  refine sv (v:=.bool false) rfl rfl rfl (opv_pick (b:=false) rfl rfl rfl rfl rfl rfl) rfl ?_
  refine mv (.bool false) rfl rfl ?_
  refine wo_nil (tq_n (wk ⟨[(3,.bool false)],14,[],H101⟩ rfl ?_))
  refine w_ret ?_
  refine ⟨.inr rfl,rfl,[.bool false],.cons (resV_tmp rfl (by simp [undef])) .nil,((KeepX.refl (fun _ => False) H).new_ f102).k (fun _ h => h.elim),w103,false,rfl⟩

theorem gas_ixS (as1 fn2:Value) (H:SH) (wt:WT H) (hvas1:VT H (.sl false [.int .i64,.int .i64]) as1) (hffn2:FnOK Try.prog fn2 [(true,[.int .i64,.int .i64])] [(false,[.bool])] (fun _ => True) H):WC Try.prog 70 [as1,fn2] H (fun v H' => Keep H H'∧WT H'∧∃ (rx3:Int),v=(vI rx3)):=by
 refine wc_of_body Try.func70 rfl ?_
 refine wk ⟨[(0,as1),(1,fn2)],19,[],H⟩ rfl ?_
 refine w_seq (w_region (mv (vI 0) rfl rfl ?_))
 refine wo_nil (tq_n (wk ⟨[(0,as1),(1,fn2)],19,[],H⟩ rfl ?_))
 refine w_seq (w_seq (w_region (mv as1 rfl rfl ?_)))
 have c101:slen as1 ≤ 1073741824:=vt_lim hvas1
 refine sv (v:=(vI (slen as1:Int))) rfl rfl rfl (t_len hvas1 rfl rfl rfl Try.underlying24) rfl ?_
 refine mv (vI 0) rfl rfl ?_
 refine wo_nil (tq_n (wk ⟨[(0,as1),(1,fn2),(7,(vI (slen as1:Int))),(8,vI 0)],19,[],H⟩ rfl ?_))
 refine w_block (w_loopS (fun m109 s110 => ∃ (x102:Int) (H103:SH),(0 ≤ x102)∧(x102 ≤ (slen as1:Int))∧WT H103∧Le H H103∧KeepX (fun _ => False) H H103∧m109=(((slen as1:Int):Int) - x102).toNat∧s110=⟨[(0,as1),(1,fn2),(7,(vI (slen as1:Int))),(8,vI x102)],19,[],H103⟩) (n:=(((slen as1:Int):Int) - 0).toNat) ⟨⟨[(0,as1),(1,fn2),(7,(vI (slen as1:Int))),(8,vI 0)],19,[],H⟩,subk rfl,0,H,by omega,by omega,wt,Le.refl _,KeepX.refl (fun _ => False) H,rfl,rfl⟩ ?_)
 rintro m109 s110 ⟨x102,H103,i104,i105,w106,l107,k108,rfl,rfl⟩
 have n111:=k108.next
 refine w_seq (w_region ?_)
 by_cases c112:x102 < (slen as1:Int)
 ·
  refine sv (v:=.bool true) rfl rfl rfl (opv_bin rfl rfl rfl rfl rfl (cmpT rfl c112)) rfl ?_
  refine wo_nil (tq_n (wk ⟨[(0,as1),(1,fn2),(7,(vI (slen as1:Int))),(8,vI x102),(9,.bool true)],19,[],H103⟩ rfl ?_))
  refine w_seq (w_cond (t:=true) rfl rfl (fun _ => ?_) (fun h => by cases h))
  refine w_skip (tq_n (wk ⟨[(0,as1),(1,fn2),(7,(vI (slen as1:Int))),(8,vI x102)],19,[],H103⟩ rfl ?_))
  refine w_seq (w_block (w_seq (w_region (mv (vI x102) rfl rfl ?_))))
  refine mv (vI x102) rfl rfl ?_
  refine wo_nil (tq_n (wk ⟨[(0,as1),(1,fn2),(5,vI x102),(7,(vI (slen as1:Int))),(8,vI x102)],19,[],H103⟩ rfl ?_))
  refine w_seq (w_region (mv fn2 rfl rfl ?_))
  refine mv as1 rfl rfl ?_
  refine mv (vI x102) rfl rfl ?_
  refine sv (v:=.pointer (some ⟨snm as1,sof as1 + (x102).toNat * 2,none⟩)) rfl rfl rfl (t_index (z:=2) (hvas1.mono l107) rfl rfl rfl rfl rfl Try.underlying24 sz23 (by omega) (by omega)) rfl ?_
  obtain ⟨vs113,hs114,ho115⟩:=t_load (P:=Try.prog) w106 (hvas1.mono l107) (i:=(x102).toNat) (off:=0) (w:=2) (by omega) (by decide)
  replace hs114:VTs H103 [.int .i64,.int .i64] vs113:=hs114
  obtain ⟨x118,r116,rfl,hs117⟩:=vts_int hs114
  obtain ⟨x121,r119,rfl,hs120⟩:=vts_int hs117
  obtain rfl:=vts_nil hs120
  refine sv (v:=.agg #[vI x118,vI x121]) rfl rfl rfl (ho115 _ _ _ _ true rfl rfl rfl rfl ag23 sz23 (.inl rfl)) rfl ?_
  refine sc_ (H:=H103) (vs:=[.agg #[vI x118,vI x121]]) (fv:=fn2) rfl rfl rfl rfl rfl rfl (.cons rfl rfl (by simp [undef]) .nil) rfl ?_
  refine WV.mono (hffn2.2 _ (((KeepX.refl (fun _ => False) H).trans k108 (fun _ h => h.elim)).k (fun _ h => h.elim)) w106 _ ⟨_,_,rfl,⟨[vI x118,vI x121],⟨_,_,rfl,.int _ _,⟨_,_,rfl,.int _ _,rfl⟩⟩,rfl⟩,rfl⟩ trivial) ?_
  rintro v122 H123 ⟨k124,w125,vs126,hv127,rfl⟩
  have n129:=k124.next
  have l128:=k124.le
  obtain ⟨v133,r132,rfl,⟨us130,hu131,rfl⟩,hv127⟩:=hv127
  obtain rfl:r132=[]:=hv127
  replace hu131:VTs H123 [.bool] us130:=hu131
  obtain ⟨b136,r134,rfl,hs135⟩:=vts_bool hu131
  obtain rfl:=vts_nil hs135
  refine wo_nil (tq_n (wk ⟨[(0,as1),(1,fn2),(5,vI x102),(7,(vI (slen as1:Int))),(8,vI x102),(16,.bool b136)],19,[],H123⟩ rfl ?_))
  rcases b136 with _ | _
  ·
   refine w_cond (t:=false) rfl rfl (fun h => by cases h) (fun _ => ?_)
   refine w_skip ?_
   try refine q_eq (e':=.normal) rfl ?_
   refine tqk ⟨[(0,as1),(1,fn2),(7,(vI (slen as1:Int))),(8,vI x102)],19,[],H123⟩ rfl ?_
   refine w_region (sv_int rfl rfl rfl (opv_bin rfl rfl rfl rfl rfl rfl) ?_)
   intro x137 h138
   try replace h138:x137=x102 + 1:=wr_ex h138 (by omega) (by omega)
   refine mv (vI x137) rfl rfl ?_
   refine wo_nil ?_
   refine tq_n ⟨(((slen as1:Int):Int) - x137).toNat,by omega,⟨[(0,as1),(1,fn2),(7,(vI (slen as1:Int))),(8,vI x137)],19,[],H123⟩,subk rfl,x137,H123,by omega,by omega,w125,l107.trans l128,((KeepX.refl (fun _ => False) H).trans k108 (fun _ h => h.elim)).keep k124,rfl,rfl⟩
  ·
   refine w_cond (t:=true) rfl rfl (fun _ => ?_) (fun h => by cases h)
   refine w_seq (w_region (mv (vI x102) rfl rfl ?_))
   refine mv (vI x102) rfl rfl ?_
   refine wo_nil (tq_n (wk ⟨[(4,vI x102)],19,[],H123⟩ rfl ?_))
   refine w_ret ?_
   try refine q_eq (e':=.ret) rfl ?_
   refine tq_r (tq_r ?_)
   try refine q_eq (e':=.ret) rfl ?_
   refine tq_r ?_
   refine ⟨.inr rfl,rfl,[vI x102],.cons (resV_tmp rfl neI) .nil,(((KeepX.refl (fun _ => False) H).trans k108 (fun _ h => h.elim)).keep k124).k (fun _ h => h.elim),w125,x102,rfl⟩
 ·
  refine sv (v:=.bool false) rfl rfl rfl (opv_bin rfl rfl rfl rfl rfl (cmpF rfl c112)) rfl ?_
  refine wo_nil (tq_n (wk ⟨[(0,as1),(1,fn2),(7,(vI (slen as1:Int))),(8,vI x102),(9,.bool false)],19,[],H103⟩ rfl ?_))
  refine w_seq (w_cond (t:=false) rfl rfl (fun h => by cases h) (fun _ => ?_))
  refine w_exit (tq_e (tq_e ?_))
  try refine q_eq (e':=.normal) rfl ?_
  refine tqk ⟨[],19,[],H103⟩ rfl ?_
  refine w_seq (w_region (mv (vI (-1)) rfl rfl ?_))
  refine wo_nil (tq_n (wk ⟨[(4,vI (-1))],19,[],H103⟩ rfl ?_))
  refine w_ret ?_
  refine ⟨.inr rfl,rfl,[vI (-1)],.cons (resV_tmp rfl neI) .nil,((KeepX.refl (fun _ => False) H).trans k108 (fun _ h => h.elim)).k (fun _ h => h.elim),w106,-1,rfl⟩

theorem gas_cfS (as1 fn2:Value) (H:SH) (wt:WT H) (hvas1:VT H (.sl false [.int .i64,.int .i64]) as1) (hffn2:FnOK Try.prog fn2 [(true,[.int .i64,.int .i64])] [(false,[.bool])] (fun _ => True) H):WC Try.prog 63 [as1,fn2] H (fun v H' => Keep H H'∧WT H'∧∃ (rb3:Bool),v=(.bool rb3)):=by
 refine wc_of_body Try.func63 rfl ?_
 refine wk ⟨[(0,as1),(1,fn2)],9,[],H⟩ rfl ?_
 refine w_seq (w_region (mv (.bool false) rfl rfl ?_))
 refine wo_nil (tq_n (wk ⟨[(0,as1),(1,fn2)],9,[],H⟩ rfl ?_))
 refine w_seq (w_region (mv as1 rfl rfl ?_))
 refine mv fn2 rfl rfl ?_
 refine sc_ (H:=H) (vs:=[as1,fn2]) (fv:=.func (.func 70) #[] #[]) rfl rfl rfl rfl rfl rfl (.cons rfl rfl (vt_ne hvas1) (.cons rfl rfl hffn2.1.1 .nil)) rfl ?_
 refine WV.mono (wv_f0 Try.call70 (gas_ixS as1 fn2 _ wt hvas1 (FnOK.mono (Keep.refl _) hffn2))) ?_
 rintro v103 H104 ⟨k105,w101,rx3102,rfl⟩
 refine kpL k105 fun n107 l106 => ?_
 by_cases c108:rx3102 ≥ 0
 ·
  refine sv (v:=.bool true) rfl rfl rfl (opv_bin rfl rfl rfl rfl rfl (cmpT rfl c108)) rfl ?_
  refine mv (.bool true) rfl rfl ?_
  refine wo_nil (tq_n (wk ⟨[(4,.bool true)],9,[],H104⟩ rfl ?_))
  refine w_ret ?_
  refine ⟨.inr rfl,rfl,[.bool true],.cons (resV_tmp rfl (by simp [undef])) .nil,((KeepX.refl (fun _ => False) H).keep k105).k (fun _ h => h.elim),w101,true,rfl⟩
 ·
  refine sv (v:=.bool false) rfl rfl rfl (opv_bin rfl rfl rfl rfl rfl (cmpF rfl c108)) rfl ?_
  refine mv (.bool false) rfl rfl ?_
  refine wo_nil (tq_n (wk ⟨[(4,.bool false)],9,[],H104⟩ rfl ?_))
  refine w_ret ?_
  refine ⟨.inr rfl,rfl,[.bool false],.cons (resV_tmp rfl (by simp [undef])) .nil,((KeepX.refl (fun _ => False) H).keep k105).k (fun _ h => h.elim),w101,false,rfl⟩

theorem gas_rise (ax1 ax2:Int) (ax3 ax4:Int) (ax5 ax6 ax7:Int) (as8 as9:Value) (mi:Int) (mm:Value) (H:SH) (wt:WT H) (hvas8:VT H (.sl false [.int .i64,.int .i64]) as8) (hvas9:VT H (.sl false [.str,.int .i64]) as9) (hmmm:MV mm):WC Try.prog 36 [.agg #[vI ax1,vI ax2,vI ax3,vI ax4,vI ax5,vI ax6,vI ax7,as8,as9,mm],vI mi] H (fun v H' => Keep H H'∧WT H'∧∃ (rx1 rx2:Int),v=(.agg #[vI rx1,vI rx2])):=by
 refine wc_of_body Try.func36 rfl ?_
 refine wk ⟨[(0,.agg #[vI ax1,vI ax2,vI ax3,vI ax4,vI ax5,vI ax6,vI ax7,as8,as9,mm]),(1,vI mi)],16,[],H⟩ rfl ?_
 refine w_seq (w_region (sv_new (H:=H) (v:=vP H.next 0) (x:=.row #[vI ax1,vI ax2,vI ax3,vI ax4,vI ax5,vI ax6,vI ax7,as8,as9,mm] .raw) rfl rfl rfl rfl (opv_boxE (v:=.agg #[vI ax1,vI ax2,vI ax3,vI ax4,vI ax5,vI ax6,vI ax7,as8,as9,mm]) rfl rfl rfl (by simp [undef]) rfl) ?_))
 intro H101 f102
 refine newL wt f102 fun n105 w103 l104 => ?_
 refine sv_new (H:=H101) (v:=vP H101.next 0) (x:=.row #[vI mi] .raw) rfl rfl rfl rfl (opv_boxE (v:=vI mi) rfl rfl rfl neI rfl) ?_
 intro H106 f107
 refine newL w103 f107 fun n110 w108 l109 => ?_
 refine sv_new (H:=H106) (v:=vP H106.next 0) (x:=.row #[vI 0,vI 0] .raw) rfl rfl rfl rfl (opv_alloc rfl ze23 rfl) ?_
 intro H111 f112
 refine newL w108 f112 fun n115 w113 l114 => ?_
 refine wo_nil (tq_n (wk ⟨[(2,vP H.next 0),(3,vP H101.next 0),(4,vP H106.next 0)],16,[],H111⟩ rfl ?_))
 refine w_seq (w_seq (w_region (sv (v:=vP H.next 0) rfl rfl rfl (opv_fieldAddrE rfl rfl rfl Try.underlying68 rfl sz27 (by decide) rfl) rfl ?_)))
 refine sv (v:=vP H.next 7) rfl rfl rfl (opv_fieldAddrE rfl rfl rfl Try.underlying27 rfl sz24 (by decide) rfl) rfl ?_
 refine sv (v:=as8) rfl rfl rfl (opv_loadE rfl rfl rfl ag24 sz24 ((f112.get H.next (by omega)).trans ((f107.get H.next (by omega)).trans f102.blk)) rfl (.inr rfl) rfl) rfl ?_
 refine sv (v:=.func (.func 64) #[] #[vP H101.next 0]) rfl rfl rfl (opv_makeFunc (vs:=[]) (us:=[vP H101.next 0]) rfl (.func _) .nil (.cons rfl rfl neP .nil)) rfl ?_
 refine sc_ (H:=H111) (vs:=[as8,.func (.func 64) #[] #[vP H101.next 0]]) (fv:=.func (.func 63) #[] #[]) rfl rfl rfl rfl rfl rfl (.cons rfl rfl (vt_ne (hvas8.mono ((l104.trans l109).trans l114))) (.cons rfl rfl (by simp [undef]) .nil)) rfl ?_
 have ok141:FnOK Try.prog (.func (.func 64) #[] #[vP H101.next 0]) [(true,[.int .i64,.int .i64])] [(false,[.bool])] (fun _ => True) H111:=by
   refine ⟨⟨by simp [undef],rfl,rfl⟩,?_⟩
   intro H116 k117 w118 as119 ha120 hp121
   have n123:=k117.next
   have l122:=k117.le
   obtain ⟨v124,r125,rfl,⟨us126,hu127,rfl⟩,ha120⟩:=ha120
   replace hu127:VTs H116 [.int .i64,.int .i64] us126:=hu127
   obtain ⟨x130,r128,rfl,hs129⟩:=vts_int hu127
   obtain ⟨x133,r131,rfl,hs132⟩:=vts_int hs129
   obtain rfl:=vts_nil hs132
   obtain rfl:r125=[]:=ha120
   refine WV.mono (wv_fc (cap:=[vP H101.next 0]) Try.call64 (gas_rise1 x130 x133 H101.next mi _ w118 ((k117.get H101.next (by omega)).trans ((f112.get H101.next (by omega)).trans f107.blk)) (by omega))) ?_
   rintro v136 H137 ⟨k138,w134,rb1135,rfl⟩
   refine kpL k138 fun n140 l139 => ?_
   exact ⟨k138,w134,[.bool rb1135],⟨_,_,rfl,⟨[.bool rb1135],⟨_,_,rfl,.bool _,rfl⟩,rfl⟩,rfl⟩,rfl⟩
 refine WV.mono (wv_f0 Try.call63 (gas_cfS as8 (.func (.func 64) #[] #[vP H101.next 0]) _ w113 (hvas8.mono ((l104.trans l109).trans l114)) ok141)) ?_
 rintro v144 H145 ⟨k146,w142,rb3143,rfl⟩
 refine kpL k146 fun n148 l147 => ?_
 refine wo_nil (tq_n (wk ⟨[(2,vP H.next 0),(4,vP H106.next 0),(9,.bool rb3143)],16,[],H145⟩ rfl ?_))
 rcases rb3143 with _ | _
 ·
  refine w_cond (t:=false) rfl rfl (fun h => by cases h) (fun _ => ?_)
  refine w_skip (tq_n (wk ⟨[(2,vP H.next 0),(4,vP H106.next 0)],16,[],H145⟩ rfl ?_))
  refine w_seq (w_region (sv (v:=vP H.next 0) rfl rfl rfl (opv_fieldAddrE rfl rfl rfl Try.underlying68 rfl sz27 (by decide) rfl) rfl ?_))
  refine sv (v:=vP H.next 2) rfl rfl rfl (opv_fieldAddrE rfl rfl rfl Try.underlying27 rfl sz23 (by decide) rfl) rfl ?_
  refine sv (v:=.agg #[vI ax3,vI ax4]) rfl rfl rfl (opv_loadE rfl rfl rfl ag23 sz23 ((k146.get H.next (by omega)).trans ((f112.get H.next (by omega)).trans ((f107.get H.next (by omega)).trans f102.blk))) rfl (.inl rfl) rfl) rfl ?_
  refine sv_put (H:=H145) (n:=H106.next) (v:=undef) (x:=some (.row #[vI ax3,vI ax4] .raw)) rfl rfl rfl rfl (opv_storeC (u:=.agg #[vI ax3,vI ax4]) rfl rfl rfl rfl rfl (by simp [undef]) sz23 rfl rfl rfl ((k146.get H106.next (by omega)).trans f112.blk) rfl rfl) ?_
  intro H149 f150
  refine putL w142 f150 ((k146.get H106.next (by omega)).trans f112.blk) fun n153 w151 l152 => ?_
  refine wo_nil (tq_n (wk ⟨[(4,vP H106.next 0)],16,[],H149⟩ rfl ?_))
  refine w_ret ?_
  refine ⟨.inr rfl,rfl,[.agg #[vI ax3,vI ax4]],.cons (resV_cellE rfl ag23 sz23 f150.blk rfl (.inl rfl) rfl) .nil,(((((((KeepX.refl (fun _ => False) H).new_ f102).new_ f107).new_ f112).keep k146).put f150 (by first | (right; omega) | (left; (try dsimp only) <;> omega))).k (fun _ h => h.elim)),w151,ax3,ax4,rfl⟩
 ·
  refine w_cond (t:=true) rfl rfl (fun _ => ?_) (fun h => by cases h)
  refine w_seq (w_region (sv (v:=vP H.next 0) rfl rfl rfl (opv_fieldAddrE rfl rfl rfl Try.underlying68 rfl sz27 (by decide) rfl) rfl ?_))
  refine sv (v:=vP H.next 4) rfl rfl rfl (opv_fieldAddrE rfl rfl rfl Try.underlying27 rfl sz23 (by decide) rfl) rfl ?_
  refine sv (v:=.agg #[vI ax5,vI ax6]) rfl rfl rfl (opv_loadE rfl rfl rfl ag23 sz23 ((k146.get H.next (by omega)).trans ((f112.get H.next (by omega)).trans ((f107.get H.next (by omega)).trans f102.blk))) rfl (.inl rfl) rfl) rfl ?_
  refine sv_put (H:=H145) (n:=H106.next) (v:=undef) (x:=some (.row #[vI ax5,vI ax6] .raw)) rfl rfl rfl rfl (opv_storeC (u:=.agg #[vI ax5,vI ax6]) rfl rfl rfl rfl rfl (by simp [undef]) sz23 rfl rfl rfl ((k146.get H106.next (by omega)).trans f112.blk) rfl rfl) ?_
  intro H154 f155
  refine putL w142 f155 ((k146.get H106.next (by omega)).trans f112.blk) fun n158 w156 l157 => ?_
  refine wo_nil (tq_n (wk ⟨[(4,vP H106.next 0)],16,[],H154⟩ rfl ?_))
  refine w_ret (tq_r ?_)
  refine ⟨.inr rfl,rfl,[.agg #[vI ax5,vI ax6]],.cons (resV_cellE rfl ag23 sz23 f155.blk rfl (.inl rfl) rfl) .nil,(((((((KeepX.refl (fun _ => False) H).new_ f102).new_ f107).new_ f112).keep k146).put f155 (by first | (right; omega) | (left; (try dsimp only) <;> omega))).k (fun _ h => h.elim)),w156,ax5,ax6,rfl⟩
end Go.Proofs.Orl
