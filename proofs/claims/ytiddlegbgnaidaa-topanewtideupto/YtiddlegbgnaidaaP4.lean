/- Part 4 of the proof of TopAnewTide: every call of the package puts the same twice, and changes no argument. Conditions: those of the statement, and no others. -/
import Derived.Test.YtiddlegbgnaidaaP3
namespace Go.Proofs.Orl
open Go
set_option maxRecDepth 10000
set_option maxHeartbeats 4000000

theorem tide_downE (an ab:Int) (H:SH) (wt:WT H) (h0:ab ≠ 0):WC Try.prog 62 [vI an,vI ab] H (fun v H' => Keep H H'∧WT H'∧∃ (rr:Int),v=(vI rr)∧(rr=downF an ab)):=by
 refine wc_of_body Try.func62 rfl ?_
 refine wk ⟨[(0,vI an),(1,vI ab)],16,[],H⟩ rfl ?_
 refine w_seq (w_region (mv (vI 0) rfl rfl ?_))
 refine wo_nil (tq_n (wk ⟨[(0,vI an),(1,vI ab)],16,[],H⟩ rfl ?_))
 refine w_seq (w_region (mv (vI an) rfl rfl ?_))
 refine mv (vI ab) rfl rfl ?_
 refine sv_int rfl rfl rfl (opv_bin rfl rfl rfl rfl rfl (if_neg (by omega))) ?_
 intro x101 h102
 replace h102:x101=wr (an.tdiv ab):=h102
 try have h103:x101=an.tdiv ab:=wr_ex h102 (by omega) (by omega)
 refine mv (vI x101) rfl rfl ?_
 refine wo_nil (tq_n (wk ⟨[(0,vI an),(1,vI ab),(5,vI x101)],16,[],H⟩ rfl ?_))
 refine w_seq (w_seq (w_region (mv (vI an) rfl rfl ?_)))
 refine mv (vI ab) rfl rfl ?_
 refine sv_int rfl rfl rfl (opv_bin rfl rfl rfl rfl rfl (if_neg (by omega))) ?_
 intro x104 h105
 replace h105:x104=an.tmod ab:=h105
 by_cases c106:x104 < 0
 ·
  refine sv (v:=.bool true) rfl rfl rfl (opv_bin rfl rfl rfl rfl rfl (cmpT rfl c106)) rfl ?_
  refine wo_nil (tq_n (wk ⟨[(5,vI x101),(12,.bool true)],16,[],H⟩ rfl ?_))
  refine w_cond (t:=true) rfl rfl (fun _ => ?_) (fun h => by cases h)
  refine w_region (mv (vI x101) rfl rfl ?_)
  refine sv_int rfl rfl rfl (opv_bin rfl rfl rfl rfl rfl rfl) ?_
  intro x107 h108
  replace h108:x107=wr (x101 - 1):=h108
  try have h109:x107=x101 - 1:=wr_ex h108 (by omega) (by omega)
  refine mv (vI x107) rfl rfl ?_
  refine wo_nil (tq_n (wk ⟨[(5,vI x107)],16,[],H⟩ rfl ?_))
  refine w_seq (w_region (mv (vI x107) rfl rfl ?_))
  refine mv (vI x107) rfl rfl ?_
  refine wo_nil (tq_n (wk ⟨[(4,vI x107)],16,[],H⟩ rfl ?_))
  refine w_ret ?_
  refine ⟨.inr rfl,rfl,[vI x107],.cons (resV_tmp rfl neI) .nil,Keep.refl _,wt,x107,rfl,?_⟩
  · subst_vars; unfold downF; first | rw [if_pos ‹an.tmod ab < 0›] | rw [if_neg ‹¬ an.tmod ab < 0›]
 ·
  refine sv (v:=.bool false) rfl rfl rfl (opv_bin rfl rfl rfl rfl rfl (cmpF rfl c106)) rfl ?_
  refine wo_nil (tq_n (wk ⟨[(5,vI x101),(12,.bool false)],16,[],H⟩ rfl ?_))
  refine w_cond (t:=false) rfl rfl (fun h => by cases h) (fun _ => ?_)
  refine w_skip (tq_n (wk ⟨[(5,vI x101)],16,[],H⟩ rfl ?_))
  refine w_seq (w_region (mv (vI x101) rfl rfl ?_))
  refine mv (vI x101) rfl rfl ?_
  refine wo_nil (tq_n (wk ⟨[(4,vI x101)],16,[],H⟩ rfl ?_))
  refine w_ret ?_
  refine ⟨.inr rfl,rfl,[vI x101],.cons (resV_tmp rfl neI) .nil,Keep.refl _,wt,x101,rfl,?_⟩
  · subst_vars; unfold downF; first | rw [if_pos ‹an.tmod ab < 0›] | rw [if_neg ‹¬ an.tmod ab < 0›]

theorem tide_at1E (c0 c1:Int) (c2 c3:Int) (n1 n2 n3:Nat) (bi ba:Int) (ax1 ax2:Int) (ax3 ax4 ax5:Int) (as6:Value) (ax7 ax8 ax9:Int) (H:SH) (wt:WT H) (hvas6:VT H (.sl false [.int .i64,.int .i64,.int .i64,.int .i64,.int .i64]) as6) (hkn1:H.get n1=some (.row #[vI bi] .raw)) (hln1:n1 < H.next) (hkn2:H.get n2=some (.row #[vI ax1,vI ax2,vI ax3,vI ax4,vI ax5,as6,vI ax7,vI ax8,vI ax9] .raw)) (hln2:n2 < H.next) (hkn3:H.get n3=some (.row #[vI ba] .raw)) (hln3:n3 < H.next) (h0:c0 ≠ 0):WC Try.prog 61 [.agg #[vI c0,vI c1,vI c2,vI c3],vP n1 0,vP n2 0,vP n3 0] H (fun v H' => Keep H H'∧WT H'∧∃ (rr:Int),v=(vI rr)∧(rr=atF bi ba ax9 c0 c1 c2 c3)):=by
 refine wc_of_body Try.func61 rfl ?_
 refine wk ⟨[(0,.agg #[vI c0,vI c1,vI c2,vI c3]),(1,vP n1 0),(2,vP n2 0),(3,vP n3 0)],26,[],H⟩ rfl ?_
 refine w_seq (w_region (sv_new (H:=H) (v:=vP H.next 0) (x:=.row #[vI c0,vI c1,vI c2,vI c3] .raw) rfl rfl rfl rfl (opv_boxE (v:=.agg #[vI c0,vI c1,vI c2,vI c3]) rfl rfl rfl (by simp [undef]) rfl) ?_))
 intro H101 f102
 refine newL wt f102 fun n105 w103 l104 => ?_
 refine mv (vI 0) rfl rfl ?_
 refine wo_nil (tq_n (wk ⟨[(1,vP n1 0),(2,vP n2 0),(3,vP n3 0),(4,vP H.next 0)],26,[],H101⟩ rfl ?_))
 refine w_seq (w_region (sv (v:=vP H.next 2) rfl rfl rfl (opv_indexAddrArrE rfl rfl rfl rfl rfl Try.underlying83 sz3 (by decide) (by decide) rfl) rfl ?_))
 refine sv (v:=vI c2) rfl rfl rfl (opv_loadE rfl rfl rfl ag3 sz3 f102.blk rfl (.inr rfl) rfl) rfl ?_
 refine sv (v:=vP H.next 3) rfl rfl rfl (opv_indexAddrArrE rfl rfl rfl rfl rfl Try.underlying83 sz3 (by decide) (by decide) rfl) rfl ?_
 refine sv (v:=vI c3) rfl rfl rfl (opv_loadE rfl rfl rfl ag3 sz3 f102.blk rfl (.inr rfl) rfl) rfl ?_
 refine sv_int rfl rfl rfl (opv_bin rfl rfl rfl rfl rfl rfl) ?_
 intro x106 h107
 replace h107:x106=wr (c2 + c3):=h107
 try have h108:x106=c2 + c3:=wr_ex h107 (by omega) (by omega)
 refine sv (v:=vI bi) rfl rfl rfl (opv_loadE rfl rfl rfl ag3 sz3 ((f102.get n1 (by omega)).trans hkn1) rfl (.inr rfl) rfl) rfl ?_
 refine sv_int rfl rfl rfl (opv_bin rfl rfl rfl rfl rfl rfl) ?_
 intro x109 h110
 replace h110:x109=wr (x106 + bi):=h110
 try have h111:x109=x106 + bi:=wr_ex h110 (by omega) (by omega)
 refine sv (v:=vP H.next 1) rfl rfl rfl (opv_indexAddrArrE rfl rfl rfl rfl rfl Try.underlying83 sz3 (by decide) (by decide) rfl) rfl ?_
 refine sv (v:=vI c1) rfl rfl rfl (opv_loadE rfl rfl rfl ag3 sz3 f102.blk rfl (.inr rfl) rfl) rfl ?_
 refine sv_int rfl rfl rfl (opv_bin rfl rfl rfl rfl rfl rfl) ?_
 intro x112 h113
 replace h113:x112=wr (x109 - c1):=h113
 try have h114:x112=x109 - c1:=wr_ex h113 (by omega) (by omega)
 refine sv (v:=vP n2 6) rfl rfl rfl (opv_fieldAddrE rfl rfl rfl Try.underlying79 rfl sz28 (by decide) rfl) rfl ?_
 refine sv (v:=vP n2 8) rfl rfl rfl (opv_fieldAddrE rfl rfl rfl Try.underlying28 rfl sz3 (by decide) rfl) rfl ?_
 refine sv (v:=vI ax9) rfl rfl rfl (opv_loadE rfl rfl rfl ag3 sz3 ((f102.get n2 (by omega)).trans hkn2) rfl (.inr rfl) rfl) rfl ?_
 refine sv (v:=vI ba) rfl rfl rfl (opv_loadE rfl rfl rfl ag3 sz3 ((f102.get n3 (by omega)).trans hkn3) rfl (.inr rfl) rfl) rfl ?_
 refine sv_int rfl rfl rfl (opv_bin rfl rfl rfl rfl rfl rfl) ?_
 intro x115 h116
 replace h116:x115=wr (ax9 * ba):=h116
 try have h117:x115=ax9 * ba:=wr_ex h116 (by omega) (by omega)
 refine sv_int rfl rfl rfl (opv_bin rfl rfl rfl rfl rfl rfl) ?_
 intro x118 h119
 replace h119:x118=wr (x112 - x115):=h119
 try have h120:x118=x112 - x115:=wr_ex h119 (by omega) (by omega)
 refine sv_int rfl rfl rfl (opv_bin rfl rfl rfl rfl rfl rfl) ?_
 intro x121 h122
 replace h122:x121=wr (1000 * x118):=h122
 try have h123:x121=1000 * x118:=wr_ex h122 (by omega) (by omega)
 refine sv (v:=vP H.next 0) rfl rfl rfl (opv_indexAddrArrE rfl rfl rfl rfl rfl Try.underlying83 sz3 (by decide) (by decide) rfl) rfl ?_
 refine sv (v:=vI c0) rfl rfl rfl (opv_loadE rfl rfl rfl ag3 sz3 f102.blk rfl (.inr rfl) rfl) rfl ?_
 refine sc_ (H:=H101) (vs:=[vI x121,vI c0]) (fv:=.func (.func 62) #[] #[]) rfl rfl rfl rfl rfl rfl (.cons rfl rfl neI (.cons rfl rfl neI .nil)) rfl ?_
 refine WV.mono (wv_f0 Try.call62 (tide_downE x121 c0 _ w103 (by omega))) ?_
 rintro v127 H128 ⟨k129,w124,rr125,rfl,f126⟩
 refine kpL k129 fun n131 l130 => ?_
 refine mv (vI rr125) rfl rfl ?_
 refine wo_nil (tq_n (wk ⟨[(5,vI rr125)],26,[],H128⟩ rfl ?_))
 refine w_ret ?_
 refine ⟨.inr rfl,rfl,[vI rr125],.cons (resV_tmp rfl neI) .nil,(((KeepX.refl (fun _ => False) H).new_ f102).keep k129).k (fun _ h => h.elim),w124,rr125,rfl,?_⟩
 · subst_vars; rfl

theorem tide_corners_seqE (n1:Nat) (x0 x1:Int) (x2 x3:Int) (x4 x5:Int) (x6 x7:Int) (H:SH) (wt:WT H) (hkn1:H.get n1=some (.row #[vI x0,vI x1,vI x2,vI x3,vI x4,vI x5,vI x6,vI x7] .raw)) (hln1:n1 < H.next):SeqE Try.prog (.func (.func 60) #[] #[vP n1 0]) 1 (fun (k:Nat) => ([.agg #[.int .i64 (cC x0 x1 0 k),.int .i64 (cC x2 x3 1 k),.int .i64 (cC x4 x5 2 k),.int .i64 (cC x6 x7 3 k)]] : List Value)) 16 (fun m => m=n1) (fun _ => False) H:=by
 refine ⟨fun m hm => by (try dsimp only at hm); omega,fun _ h => h.elim,fun k hk => rfl,60,[],[vP n1 0],rfl,Try.call60,?_⟩
 intro H1 k0 le0 wt1 X J D y hX hJs hDs hJ hy
 have n0:=k0.next
 have hqn1:H1.get n1=some (.row #[vI x0,vI x1,vI x2,vI x3,vI x4,vI x5,vI x6,vI x7] .raw):=(k0.get n1 hln1 (by simp)).trans hkn1
 refine wc_of_body Try.func60 rfl ?_
 refine wk ⟨[(0,y),(1,vP n1 0)],34,[],H1⟩ rfl ?_
 refine w_seq (w_region (mv (vI 0) rfl rfl ?_))
 refine wo_nil (tq_n (wk ⟨[(0,y),(1,vP n1 0),(7,vI 0)],34,[],H1⟩ rfl ?_))
 refine w_block (w_loopS (fun m108 s109 => ∃ (x101:Int) (H102:SH),(0 ≤ x101)∧(x101 ≤ 16)∧WT H102∧Le H1 H102∧KeepX (fun m => X m) H1 H102∧J x101.toNat H102∧m108=((16:Int) - x101).toNat∧s109=⟨[(0,y),(1,vP n1 0),(7,vI x101)],34,[],H102⟩) (n:=((16:Int) - 0).toNat) ⟨⟨[(0,y),(1,vP n1 0),(7,vI 0)],34,[],H1⟩,subk rfl,0,H1,by omega,by omega,wt1,Le.refl _,KeepX.refl (fun m => X m) H1,(by have hj:=hJ; first | exact hj | (have e : (Int.toNat 0) = 0:=(by omega); rw [e]; exact hj)),rfl,rfl⟩ ?_)
 rintro m108 s109 ⟨x101,H102,i103,i104,w105,l106,k107,hj110,rfl,rfl⟩
 have n111:=k107.next
 refine w_seq (w_region ?_)
 by_cases c112:x101 < 16
 ·
  refine sv (v:=.bool true) rfl rfl rfl (opv_bin rfl rfl rfl rfl rfl (cmpT rfl c112)) rfl ?_
  refine wo_nil (tq_n (wk ⟨[(0,y),(1,vP n1 0),(7,vI x101),(8,.bool true)],34,[],H102⟩ rfl ?_))
  refine w_seq (w_cond (t:=true) rfl rfl (fun _ => ?_) (fun h => by cases h))
  refine w_skip (tq_n (wk ⟨[(0,y),(1,vP n1 0),(7,vI x101)],34,[],H102⟩ rfl ?_))
  refine w_seq (w_block (w_seq (w_region (mv (vI x101) rfl rfl ?_))))
  refine mv (vI x101) rfl rfl ?_
  refine wo_nil (tq_n (wk ⟨[(0,y),(1,vP n1 0),(3,vI x101),(7,vI x101)],34,[],H102⟩ rfl ?_))
  refine w_seq (w_region (sv_new (H:=H102) (v:=vP H102.next 0) (x:=.row #[vI 0,vI 0,vI 0,vI 0] .raw) rfl rfl rfl rfl (opv_alloc rfl ze83 rfl) ?_))
  intro H113 f114
  refine newL w105 f114 fun n117 w115 l116 => ?_
  refine wo_nil (tq_n (wk ⟨[(0,y),(1,vP n1 0),(3,vI x101),(4,vP H102.next 0),(7,vI x101)],34,[],H113⟩ rfl ?_))
  refine w_seq (w_seq (w_region (sv (v:=.agg #[vI x0,vI x1,vI x2,vI x3,vI x4,vI x5,vI x6,vI x7]) rfl rfl rfl (opv_loadE rfl rfl rfl ag87 sz87 ((f114.get n1 (by omega)).trans ((k107.get n1 (by omega) (yieldX hX (by first | (right; omega) | (left; rfl) | (left; simp)))).trans hqn1)) rfl (.inl rfl) rfl) rfl ?_)))
  refine mv (vI 0) rfl rfl ?_
  refine wo_nil (tq_n (wk ⟨[(0,y),(1,vP n1 0),(3,vI x101),(4,vP H102.next 0),(7,vI x101),(10,.agg #[vI x0,vI x1,vI x2,vI x3,vI x4,vI x5,vI x6,vI x7]),(11,vI 0)],34,[],H113⟩ rfl ?_))
  refine w_block (w_loopS (fun m134 s135 => ∃ (x118 x119:Int) (x120 x121 x122:Int) (H123:SH),(0 ≤ x118)∧(x118 ≤ 4)∧(0 < x118→x119=cC x0 x1 0 x101.toNat)∧(1 < x118→x120=cC x2 x3 1 x101.toNat)∧(2 < x118→x121=cC x4 x5 2 x101.toNat)∧(3 < x118→x122=cC x6 x7 3 x101.toNat)∧H123.get H102.next=some (.row #[vI x119,vI x120,vI x121,vI x122] .raw)∧WT H123∧Le H113 H123∧KeepX (fun m => X m∨m=H102.next) H113 H123∧J x101.toNat H123∧m134=((4:Int) - x118).toNat∧s135=⟨[(0,y),(1,vP n1 0),(3,vI x101),(4,vP H102.next 0),(7,vI x101),(10,.agg #[vI x0,vI x1,vI x2,vI x3,vI x4,vI x5,vI x6,vI x7]),(11,vI x118)],34,[],H123⟩) (n:=((4:Int) - 0).toNat) ⟨⟨[(0,y),(1,vP n1 0),(3,vI x101),(4,vP H102.next 0),(7,vI x101),(10,.agg #[vI x0,vI x1,vI x2,vI x3,vI x4,vI x5,vI x6,vI x7]),(11,vI 0)],34,[],H113⟩,subk rfl,0,0,0,0,0,H113,by omega,by omega,by omega,by omega,by omega,by omega,f114.blk,w115,Le.refl _,KeepX.refl (fun m => X m∨m=H102.next) H113,(by have hj:=(hJs _ _ _ hj110 (by omega) ((KeepX.refl (fun m => H1.next ≤ m∨False) H102).new_ f114) l116); first | exact hj | (have e:x101.toNat=x101.toNat:=(by omega); rw [e]; exact hj)),rfl,rfl⟩ ?_)
  rintro m134 s135 ⟨x118,x119,x120,x121,x122,H123,i124,i125,i126,i127,i128,i129,hb130,w131,l132,k133,hj136,rfl,rfl⟩
  have n137:=k133.next
  refine w_seq (w_region ?_)
  by_cases c138:x118 < 4
  ·
   refine sv (v:=.bool true) rfl rfl rfl (opv_bin rfl rfl rfl rfl rfl (cmpT rfl c138)) rfl ?_
   refine wo_nil (tq_n (wk ⟨[(0,y),(1,vP n1 0),(3,vI x101),(4,vP H102.next 0),(7,vI x101),(10,.agg #[vI x0,vI x1,vI x2,vI x3,vI x4,vI x5,vI x6,vI x7]),(11,vI x118),(12,.bool true)],34,[],H123⟩ rfl ?_))
   refine w_seq (w_cond (t:=true) rfl rfl (fun _ => ?_) (fun h => by cases h))
   refine w_skip (tq_n (wk ⟨[(0,y),(1,vP n1 0),(3,vI x101),(4,vP H102.next 0),(7,vI x101),(10,.agg #[vI x0,vI x1,vI x2,vI x3,vI x4,vI x5,vI x6,vI x7]),(11,vI x118)],34,[],H123⟩ rfl ?_))
   refine w_seq (w_block (w_seq (w_region (mv (vI x118) rfl rfl ?_))))
   have q139:x118=0∨x118=1∨x118=2∨x118=3:=by omega
   rcases q139 with rfl | rfl | rfl | rfl
   ·
    refine sv (v:=.agg #[vI x0,vI x1]) rfl rfl rfl (opv_indexArrE rfl rfl rfl rfl rfl Try.underlying87 ag23 sz23 (by decide) (by decide) (.inl rfl) rfl) rfl ?_
    refine sv_new (H:=H123) (v:=vP H123.next 0) (x:=.row #[vI 0,vI 0] .raw) rfl rfl rfl rfl (opv_alloc rfl ze23 rfl) ?_
    intro H140 f141
    refine newL w131 f141 fun n144 w142 l143 => ?_
    refine mv (vI 0) rfl rfl ?_
    refine sv_put (H:=H140) (n:=H123.next) (v:=undef) (x:=some (.row #[vI x0,vI x1] .raw)) rfl rfl rfl rfl (opv_storeC (u:=.agg #[vI x0,vI x1]) rfl rfl rfl rfl rfl (by simp [undef]) sz23 rfl rfl rfl f141.blk rfl rfl) ?_
    intro H145 f146
    refine putL w142 f146 f141.blk fun n149 w147 l148 => ?_
    refine wo_nil (tq_n (wk ⟨[(0,y),(1,vP n1 0),(3,vI x101),(4,vP H102.next 0),(5,vI 0),(6,vP H123.next 0),(7,vI x101),(10,.agg #[vI x0,vI x1,vI x2,vI x3,vI x4,vI x5,vI x6,vI x7]),(11,vI 0)],34,[],H145⟩ rfl ?_))
    refine w_seq (w_region (mv (vI 0) rfl rfl ?_))
    refine sv (v:=vP H123.next 0) rfl rfl rfl (opv_fieldAddrE rfl rfl rfl Try.underlying23 rfl sz3 (by decide) rfl) rfl ?_
    refine sv (v:=vI x0) rfl rfl rfl (opv_loadE rfl rfl rfl ag3 sz3 f146.blk rfl (.inr rfl) rfl) rfl ?_
    refine sv (v:=vP H102.next 0) rfl rfl rfl (opv_indexAddrArrE rfl rfl rfl rfl rfl Try.underlying83 sz3 (by decide) (by decide) rfl) rfl ?_
    refine sv_put (H:=H145) (n:=H102.next) (v:=undef) (x:=some (.row #[vI x0,vI x120,vI x121,vI x122] .raw)) rfl rfl rfl rfl (opv_storeC (u:=vI x0) rfl rfl rfl rfl rfl neI sz3 rfl rfl rfl ((f146.get H102.next (by omega)).trans ((f141.get H102.next (by omega)).trans hb130)) rfl rfl) ?_
    intro H150 f151
    refine putL w147 f151 ((f146.get H102.next (by omega)).trans ((f141.get H102.next (by omega)).trans hb130)) fun n154 w152 l153 => ?_
    refine wo_nil (tq_n (wk ⟨[(0,y),(1,vP n1 0),(3,vI x101),(4,vP H102.next 0),(5,vI 0),(6,vP H123.next 0),(7,vI x101),(10,.agg #[vI x0,vI x1,vI x2,vI x3,vI x4,vI x5,vI x6,vI x7]),(11,vI 0)],34,[],H150⟩ rfl ?_))
    refine w_seq (w_region (mv (vI x101) rfl rfl ?_))
    refine mv (vI 0) rfl rfl ?_
    refine sv_int rfl rfl rfl (opv_shift rfl rfl rfl rfl rfl (by omega) (.inr ⟨rfl,rfl⟩)) ?_
    intro x155 h156
    replace h156:x155=x101.fdiv (2 ^ (min (Int.toNat 0) 64)):=h156
    refine sv_int rfl rfl rfl (opv_bin rfl rfl rfl rfl rfl rfl) ?_
    intro x157 h158
    replace h158:x157=wr ((BitVec.ofInt 64 x155 &&& BitVec.ofInt 64 1).toNat:Int):=h158
    try have h159:x157=((BitVec.ofInt 64 x155 &&& BitVec.ofInt 64 1).toNat:Int):=wr_ex h158 (by omega) (by omega)
    by_cases c160:x157=1
    ·
     refine sv (v:=.bool true) rfl rfl rfl (opv_bin rfl rfl rfl rfl rfl (eqT c160)) rfl ?_
     refine wo_nil (tq_n (wk ⟨[(0,y),(1,vP n1 0),(3,vI x101),(4,vP H102.next 0),(5,vI 0),(6,vP H123.next 0),(7,vI x101),(10,.agg #[vI x0,vI x1,vI x2,vI x3,vI x4,vI x5,vI x6,vI x7]),(11,vI 0),(23,.bool true)],34,[],H150⟩ rfl ?_))
     refine w_cond (t:=true) rfl rfl (fun _ => ?_) (fun h => by cases h)
     refine w_region (mv (vI 0) rfl rfl ?_)
     refine sv (v:=vP H123.next 1) rfl rfl rfl (opv_fieldAddrE rfl rfl rfl Try.underlying23 rfl sz3 (by decide) rfl) rfl ?_
     refine sv (v:=vI x1) rfl rfl rfl (opv_loadE rfl rfl rfl ag3 sz3 ((f151.get H123.next (by omega)).trans f146.blk) rfl (.inr rfl) rfl) rfl ?_
     refine sv (v:=vP H102.next 0) rfl rfl rfl (opv_indexAddrArrE rfl rfl rfl rfl rfl Try.underlying83 sz3 (by decide) (by decide) rfl) rfl ?_
     refine sv_put (H:=H150) (n:=H102.next) (v:=undef) (x:=some (.row #[vI x1,vI x120,vI x121,vI x122] .raw)) rfl rfl rfl rfl (opv_storeC (u:=vI x1) rfl rfl rfl rfl rfl neI sz3 rfl rfl rfl f151.blk rfl rfl) ?_
     intro H161 f162
     refine putL w152 f162 f151.blk fun n165 w163 l164 => ?_
     refine wo_nil ?_
     try refine q_eq (e':=.normal) rfl ?_
     refine tqk ⟨[(0,y),(1,vP n1 0),(3,vI x101),(4,vP H102.next 0),(7,vI x101),(10,.agg #[vI x0,vI x1,vI x2,vI x3,vI x4,vI x5,vI x6,vI x7]),(11,vI 0)],34,[],H161⟩ rfl ?_
     refine w_region (sv (v:=vI 1) rfl rfl rfl (opv_bin rfl rfl rfl rfl rfl rfl) rfl ?_)
     refine mv (vI 1) rfl rfl ?_
     refine wo_nil ?_
     refine tq_n ⟨((4:Int) - 1).toNat,by omega,⟨[(0,y),(1,vP n1 0),(3,vI x101),(4,vP H102.next 0),(7,vI x101),(10,.agg #[vI x0,vI x1,vI x2,vI x3,vI x4,vI x5,vI x6,vI x7]),(11,vI 1)],34,[],H161⟩,subk rfl,1,x1,x120,x121,x122,H161,by omega,by omega,(by first | omega | (intro _; have e : ((x101.toNat:Nat):Int) = x101:=Int.toNat_of_nonneg (by omega); have hb:cB x101 0=true:=(by unfold cB; rw [← h156,← h158]; exact decide_eq_true c160); simp only [cC,e,hb,cond_true,cond_false])),(by first | omega | (intro _; have e : ((x101.toNat:Nat):Int) = x101:=Int.toNat_of_nonneg (by omega); have hb:cB x101 1=true:=(by unfold cB; rw [← h156,← h158]; exact decide_eq_true c160); simp only [cC,e,hb,cond_true,cond_false])),(by first | omega | (intro _; have e : ((x101.toNat:Nat):Int) = x101:=Int.toNat_of_nonneg (by omega); have hb:cB x101 2=true:=(by unfold cB; rw [← h156,← h158]; exact decide_eq_true c160); simp only [cC,e,hb,cond_true,cond_false])),(by first | omega | (intro _; have e : ((x101.toNat:Nat):Int) = x101:=Int.toNat_of_nonneg (by omega); have hb:cB x101 3=true:=(by unfold cB; rw [← h156,← h158]; exact decide_eq_true c160); simp only [cC,e,hb,cond_true,cond_false])),f162.blk,w163,(((l132.trans l143).trans l148).trans l153).trans l164,((((((KeepX.refl (fun m => X m∨m=H102.next) H113).trans k133 (fun m hm => hm.elim (fun h => .inl (.inl h)) (by intro h; first | (right; omega) | (left; right; omega) | (left; (try dsimp only) <;> omega)))).new_ f141).put f146 (by first | (right; omega) | (left; right; omega) | (left; (try dsimp only) <;> omega))).put f151 (by first | (right; omega) | (left; right; omega) | (left; (try dsimp only) <;> omega))).put f162 (by first | (right; omega) | (left; right; omega) | (left; (try dsimp only) <;> omega))),(by have hj:=(hJs _ _ _ hj136 (by omega) (((((KeepX.refl (fun m => H1.next ≤ m∨False) H123).new_ f141).put f146 (by left; left; omega)).put f151 (by left; left; omega)).put f162 (by left; left; omega)) (((l143.trans l148).trans l153).trans l164)); first | exact hj | (have e:x101.toNat=x101.toNat:=(by omega); rw [e]; exact hj)),rfl,rfl⟩
    ·
     refine sv (v:=.bool false) rfl rfl rfl (opv_bin rfl rfl rfl rfl rfl (eqF c160)) rfl ?_
     refine wo_nil (tq_n (wk ⟨[(0,y),(1,vP n1 0),(3,vI x101),(4,vP H102.next 0),(5,vI 0),(6,vP H123.next 0),(7,vI x101),(10,.agg #[vI x0,vI x1,vI x2,vI x3,vI x4,vI x5,vI x6,vI x7]),(11,vI 0),(23,.bool false)],34,[],H150⟩ rfl ?_))
     refine w_cond (t:=false) rfl rfl (fun h => by cases h) (fun _ => ?_)
     refine w_skip ?_
     try refine q_eq (e':=.normal) rfl ?_
     refine tqk ⟨[(0,y),(1,vP n1 0),(3,vI x101),(4,vP H102.next 0),(7,vI x101),(10,.agg #[vI x0,vI x1,vI x2,vI x3,vI x4,vI x5,vI x6,vI x7]),(11,vI 0)],34,[],H150⟩ rfl ?_
     refine w_region (sv (v:=vI 1) rfl rfl rfl (opv_bin rfl rfl rfl rfl rfl rfl) rfl ?_)
     refine mv (vI 1) rfl rfl ?_
     refine wo_nil ?_
     refine tq_n ⟨((4:Int) - 1).toNat,by omega,⟨[(0,y),(1,vP n1 0),(3,vI x101),(4,vP H102.next 0),(7,vI x101),(10,.agg #[vI x0,vI x1,vI x2,vI x3,vI x4,vI x5,vI x6,vI x7]),(11,vI 1)],34,[],H150⟩,subk rfl,1,x0,x120,x121,x122,H150,by omega,by omega,(by first | omega | (intro _; have e : ((x101.toNat:Nat):Int) = x101:=Int.toNat_of_nonneg (by omega); have hb:cB x101 0=false:=(by unfold cB; rw [← h156,← h158]; exact decide_eq_false c160); simp only [cC,e,hb,cond_true,cond_false])),(by first | omega | (intro _; have e : ((x101.toNat:Nat):Int) = x101:=Int.toNat_of_nonneg (by omega); have hb:cB x101 1=false:=(by unfold cB; rw [← h156,← h158]; exact decide_eq_false c160); simp only [cC,e,hb,cond_true,cond_false])),(by first | omega | (intro _; have e : ((x101.toNat:Nat):Int) = x101:=Int.toNat_of_nonneg (by omega); have hb:cB x101 2=false:=(by unfold cB; rw [← h156,← h158]; exact decide_eq_false c160); simp only [cC,e,hb,cond_true,cond_false])),(by first | omega | (intro _; have e : ((x101.toNat:Nat):Int) = x101:=Int.toNat_of_nonneg (by omega); have hb:cB x101 3=false:=(by unfold cB; rw [← h156,← h158]; exact decide_eq_false c160); simp only [cC,e,hb,cond_true,cond_false])),f151.blk,w152,((l132.trans l143).trans l148).trans l153,(((((KeepX.refl (fun m => X m∨m=H102.next) H113).trans k133 (fun m hm => hm.elim (fun h => .inl (.inl h)) (by intro h; first | (right; omega) | (left; right; omega) | (left; (try dsimp only) <;> omega)))).new_ f141).put f146 (by first | (right; omega) | (left; right; omega) | (left; (try dsimp only) <;> omega))).put f151 (by first | (right; omega) | (left; right; omega) | (left; (try dsimp only) <;> omega))),(by have hj:=(hJs _ _ _ hj136 (by omega) ((((KeepX.refl (fun m => H1.next ≤ m∨False) H123).new_ f141).put f146 (by left; left; omega)).put f151 (by left; left; omega)) ((l143.trans l148).trans l153)); first | exact hj | (have e:x101.toNat=x101.toNat:=(by omega); rw [e]; exact hj)),rfl,rfl⟩
   ·
    refine sv (v:=.agg #[vI x2,vI x3]) rfl rfl rfl (opv_indexArrE rfl rfl rfl rfl rfl Try.underlying87 ag23 sz23 (by decide) (by decide) (.inl rfl) rfl) rfl ?_
    refine sv_new (H:=H123) (v:=vP H123.next 0) (x:=.row #[vI 0,vI 0] .raw) rfl rfl rfl rfl (opv_alloc rfl ze23 rfl) ?_
    intro H166 f167
    refine newL w131 f167 fun n170 w168 l169 => ?_
    refine mv (vI 1) rfl rfl ?_
    refine sv_put (H:=H166) (n:=H123.next) (v:=undef) (x:=some (.row #[vI x2,vI x3] .raw)) rfl rfl rfl rfl (opv_storeC (u:=.agg #[vI x2,vI x3]) rfl rfl rfl rfl rfl (by simp [undef]) sz23 rfl rfl rfl f167.blk rfl rfl) ?_
    intro H171 f172
    refine putL w168 f172 f167.blk fun n175 w173 l174 => ?_
    refine wo_nil (tq_n (wk ⟨[(0,y),(1,vP n1 0),(3,vI x101),(4,vP H102.next 0),(5,vI 1),(6,vP H123.next 0),(7,vI x101),(10,.agg #[vI x0,vI x1,vI x2,vI x3,vI x4,vI x5,vI x6,vI x7]),(11,vI 1)],34,[],H171⟩ rfl ?_))
    refine w_seq (w_region (mv (vI 1) rfl rfl ?_))
    refine sv (v:=vP H123.next 0) rfl rfl rfl (opv_fieldAddrE rfl rfl rfl Try.underlying23 rfl sz3 (by decide) rfl) rfl ?_
    refine sv (v:=vI x2) rfl rfl rfl (opv_loadE rfl rfl rfl ag3 sz3 f172.blk rfl (.inr rfl) rfl) rfl ?_
    refine sv (v:=vP H102.next 1) rfl rfl rfl (opv_indexAddrArrE rfl rfl rfl rfl rfl Try.underlying83 sz3 (by decide) (by decide) rfl) rfl ?_
    refine sv_put (H:=H171) (n:=H102.next) (v:=undef) (x:=some (.row #[vI x119,vI x2,vI x121,vI x122] .raw)) rfl rfl rfl rfl (opv_storeC (u:=vI x2) rfl rfl rfl rfl rfl neI sz3 rfl rfl rfl ((f172.get H102.next (by omega)).trans ((f167.get H102.next (by omega)).trans hb130)) rfl rfl) ?_
    intro H176 f177
    refine putL w173 f177 ((f172.get H102.next (by omega)).trans ((f167.get H102.next (by omega)).trans hb130)) fun n180 w178 l179 => ?_
    refine wo_nil (tq_n (wk ⟨[(0,y),(1,vP n1 0),(3,vI x101),(4,vP H102.next 0),(5,vI 1),(6,vP H123.next 0),(7,vI x101),(10,.agg #[vI x0,vI x1,vI x2,vI x3,vI x4,vI x5,vI x6,vI x7]),(11,vI 1)],34,[],H176⟩ rfl ?_))
    refine w_seq (w_region (mv (vI x101) rfl rfl ?_))
    refine mv (vI 1) rfl rfl ?_
    refine sv_int rfl rfl rfl (opv_shift rfl rfl rfl rfl rfl (by omega) (.inr ⟨rfl,rfl⟩)) ?_
    intro x181 h182
    replace h182:x181=x101.fdiv (2 ^ (min (Int.toNat 1) 64)):=h182
    refine sv_int rfl rfl rfl (opv_bin rfl rfl rfl rfl rfl rfl) ?_
    intro x183 h184
    replace h184:x183=wr ((BitVec.ofInt 64 x181 &&& BitVec.ofInt 64 1).toNat:Int):=h184
    try have h185:x183=((BitVec.ofInt 64 x181 &&& BitVec.ofInt 64 1).toNat:Int):=wr_ex h184 (by omega) (by omega)
    by_cases c186:x183=1
    ·
     refine sv (v:=.bool true) rfl rfl rfl (opv_bin rfl rfl rfl rfl rfl (eqT c186)) rfl ?_
     refine wo_nil (tq_n (wk ⟨[(0,y),(1,vP n1 0),(3,vI x101),(4,vP H102.next 0),(5,vI 1),(6,vP H123.next 0),(7,vI x101),(10,.agg #[vI x0,vI x1,vI x2,vI x3,vI x4,vI x5,vI x6,vI x7]),(11,vI 1),(23,.bool true)],34,[],H176⟩ rfl ?_))
     refine w_cond (t:=true) rfl rfl (fun _ => ?_) (fun h => by cases h)
     refine w_region (mv (vI 1) rfl rfl ?_)
     refine sv (v:=vP H123.next 1) rfl rfl rfl (opv_fieldAddrE rfl rfl rfl Try.underlying23 rfl sz3 (by decide) rfl) rfl ?_
     refine sv (v:=vI x3) rfl rfl rfl (opv_loadE rfl rfl rfl ag3 sz3 ((f177.get H123.next (by omega)).trans f172.blk) rfl (.inr rfl) rfl) rfl ?_
     refine sv (v:=vP H102.next 1) rfl rfl rfl (opv_indexAddrArrE rfl rfl rfl rfl rfl Try.underlying83 sz3 (by decide) (by decide) rfl) rfl ?_
     refine sv_put (H:=H176) (n:=H102.next) (v:=undef) (x:=some (.row #[vI x119,vI x3,vI x121,vI x122] .raw)) rfl rfl rfl rfl (opv_storeC (u:=vI x3) rfl rfl rfl rfl rfl neI sz3 rfl rfl rfl f177.blk rfl rfl) ?_
     intro H187 f188
     refine putL w178 f188 f177.blk fun n191 w189 l190 => ?_
     refine wo_nil ?_
     try refine q_eq (e':=.normal) rfl ?_
     refine tqk ⟨[(0,y),(1,vP n1 0),(3,vI x101),(4,vP H102.next 0),(7,vI x101),(10,.agg #[vI x0,vI x1,vI x2,vI x3,vI x4,vI x5,vI x6,vI x7]),(11,vI 1)],34,[],H187⟩ rfl ?_
     refine w_region (sv (v:=vI 2) rfl rfl rfl (opv_bin rfl rfl rfl rfl rfl rfl) rfl ?_)
     refine mv (vI 2) rfl rfl ?_
     refine wo_nil ?_
     refine tq_n ⟨((4:Int) - 2).toNat,by omega,⟨[(0,y),(1,vP n1 0),(3,vI x101),(4,vP H102.next 0),(7,vI x101),(10,.agg #[vI x0,vI x1,vI x2,vI x3,vI x4,vI x5,vI x6,vI x7]),(11,vI 2)],34,[],H187⟩,subk rfl,2,x119,x3,x121,x122,H187,by omega,by omega,(by first | omega | (intro _; have e : ((x101.toNat:Nat):Int) = x101:=Int.toNat_of_nonneg (by omega); have hb:cB x101 0=true:=(by unfold cB; rw [← h182,← h184]; exact decide_eq_true c186); simp only [cC,e,hb,cond_true,cond_false])),(by first | omega | (intro _; have e : ((x101.toNat:Nat):Int) = x101:=Int.toNat_of_nonneg (by omega); have hb:cB x101 1=true:=(by unfold cB; rw [← h182,← h184]; exact decide_eq_true c186); simp only [cC,e,hb,cond_true,cond_false])),(by first | omega | (intro _; have e : ((x101.toNat:Nat):Int) = x101:=Int.toNat_of_nonneg (by omega); have hb:cB x101 2=true:=(by unfold cB; rw [← h182,← h184]; exact decide_eq_true c186); simp only [cC,e,hb,cond_true,cond_false])),(by first | omega | (intro _; have e : ((x101.toNat:Nat):Int) = x101:=Int.toNat_of_nonneg (by omega); have hb:cB x101 3=true:=(by unfold cB; rw [← h182,← h184]; exact decide_eq_true c186); simp only [cC,e,hb,cond_true,cond_false])),f188.blk,w189,(((l132.trans l169).trans l174).trans l179).trans l190,((((((KeepX.refl (fun m => X m∨m=H102.next) H113).trans k133 (fun m hm => hm.elim (fun h => .inl (.inl h)) (by intro h; first | (right; omega) | (left; right; omega) | (left; (try dsimp only) <;> omega)))).new_ f167).put f172 (by first | (right; omega) | (left; right; omega) | (left; (try dsimp only) <;> omega))).put f177 (by first | (right; omega) | (left; right; omega) | (left; (try dsimp only) <;> omega))).put f188 (by first | (right; omega) | (left; right; omega) | (left; (try dsimp only) <;> omega))),(by have hj:=(hJs _ _ _ hj136 (by omega) (((((KeepX.refl (fun m => H1.next ≤ m∨False) H123).new_ f167).put f172 (by left; left; omega)).put f177 (by left; left; omega)).put f188 (by left; left; omega)) (((l169.trans l174).trans l179).trans l190)); first | exact hj | (have e:x101.toNat=x101.toNat:=(by omega); rw [e]; exact hj)),rfl,rfl⟩
    ·
     refine sv (v:=.bool false) rfl rfl rfl (opv_bin rfl rfl rfl rfl rfl (eqF c186)) rfl ?_
     refine wo_nil (tq_n (wk ⟨[(0,y),(1,vP n1 0),(3,vI x101),(4,vP H102.next 0),(5,vI 1),(6,vP H123.next 0),(7,vI x101),(10,.agg #[vI x0,vI x1,vI x2,vI x3,vI x4,vI x5,vI x6,vI x7]),(11,vI 1),(23,.bool false)],34,[],H176⟩ rfl ?_))
     refine w_cond (t:=false) rfl rfl (fun h => by cases h) (fun _ => ?_)
     refine w_skip ?_
     try refine q_eq (e':=.normal) rfl ?_
     refine tqk ⟨[(0,y),(1,vP n1 0),(3,vI x101),(4,vP H102.next 0),(7,vI x101),(10,.agg #[vI x0,vI x1,vI x2,vI x3,vI x4,vI x5,vI x6,vI x7]),(11,vI 1)],34,[],H176⟩ rfl ?_
     refine w_region (sv (v:=vI 2) rfl rfl rfl (opv_bin rfl rfl rfl rfl rfl rfl) rfl ?_)
     refine mv (vI 2) rfl rfl ?_
     refine wo_nil ?_
     refine tq_n ⟨((4:Int) - 2).toNat,by omega,⟨[(0,y),(1,vP n1 0),(3,vI x101),(4,vP H102.next 0),(7,vI x101),(10,.agg #[vI x0,vI x1,vI x2,vI x3,vI x4,vI x5,vI x6,vI x7]),(11,vI 2)],34,[],H176⟩,subk rfl,2,x119,x2,x121,x122,H176,by omega,by omega,(by first | omega | (intro _; have e : ((x101.toNat:Nat):Int) = x101:=Int.toNat_of_nonneg (by omega); have hb:cB x101 0=false:=(by unfold cB; rw [← h182,← h184]; exact decide_eq_false c186); simp only [cC,e,hb,cond_true,cond_false])),(by first | omega | (intro _; have e : ((x101.toNat:Nat):Int) = x101:=Int.toNat_of_nonneg (by omega); have hb:cB x101 1=false:=(by unfold cB; rw [← h182,← h184]; exact decide_eq_false c186); simp only [cC,e,hb,cond_true,cond_false])),(by first | omega | (intro _; have e : ((x101.toNat:Nat):Int) = x101:=Int.toNat_of_nonneg (by omega); have hb:cB x101 2=false:=(by unfold cB; rw [← h182,← h184]; exact decide_eq_false c186); simp only [cC,e,hb,cond_true,cond_false])),(by first | omega | (intro _; have e : ((x101.toNat:Nat):Int) = x101:=Int.toNat_of_nonneg (by omega); have hb:cB x101 3=false:=(by unfold cB; rw [← h182,← h184]; exact decide_eq_false c186); simp only [cC,e,hb,cond_true,cond_false])),f177.blk,w178,((l132.trans l169).trans l174).trans l179,(((((KeepX.refl (fun m => X m∨m=H102.next) H113).trans k133 (fun m hm => hm.elim (fun h => .inl (.inl h)) (by intro h; first | (right; omega) | (left; right; omega) | (left; (try dsimp only) <;> omega)))).new_ f167).put f172 (by first | (right; omega) | (left; right; omega) | (left; (try dsimp only) <;> omega))).put f177 (by first | (right; omega) | (left; right; omega) | (left; (try dsimp only) <;> omega))),(by have hj:=(hJs _ _ _ hj136 (by omega) ((((KeepX.refl (fun m => H1.next ≤ m∨False) H123).new_ f167).put f172 (by left; left; omega)).put f177 (by left; left; omega)) ((l169.trans l174).trans l179)); first | exact hj | (have e:x101.toNat=x101.toNat:=(by omega); rw [e]; exact hj)),rfl,rfl⟩
   ·
    refine sv (v:=.agg #[vI x4,vI x5]) rfl rfl rfl (opv_indexArrE rfl rfl rfl rfl rfl Try.underlying87 ag23 sz23 (by decide) (by decide) (.inl rfl) rfl) rfl ?_
    refine sv_new (H:=H123) (v:=vP H123.next 0) (x:=.row #[vI 0,vI 0] .raw) rfl rfl rfl rfl (opv_alloc rfl ze23 rfl) ?_
    intro H192 f193
    refine newL w131 f193 fun n196 w194 l195 => ?_
    refine mv (vI 2) rfl rfl ?_
    refine sv_put (H:=H192) (n:=H123.next) (v:=undef) (x:=some (.row #[vI x4,vI x5] .raw)) rfl rfl rfl rfl (opv_storeC (u:=.agg #[vI x4,vI x5]) rfl rfl rfl rfl rfl (by simp [undef]) sz23 rfl rfl rfl f193.blk rfl rfl) ?_
    intro H197 f198
    refine putL w194 f198 f193.blk fun n201 w199 l200 => ?_
    refine wo_nil (tq_n (wk ⟨[(0,y),(1,vP n1 0),(3,vI x101),(4,vP H102.next 0),(5,vI 2),(6,vP H123.next 0),(7,vI x101),(10,.agg #[vI x0,vI x1,vI x2,vI x3,vI x4,vI x5,vI x6,vI x7]),(11,vI 2)],34,[],H197⟩ rfl ?_))
    refine w_seq (w_region (mv (vI 2) rfl rfl ?_))
    refine sv (v:=vP H123.next 0) rfl rfl rfl (opv_fieldAddrE rfl rfl rfl Try.underlying23 rfl sz3 (by decide) rfl) rfl ?_
    refine sv (v:=vI x4) rfl rfl rfl (opv_loadE rfl rfl rfl ag3 sz3 f198.blk rfl (.inr rfl) rfl) rfl ?_
    refine sv (v:=vP H102.next 2) rfl rfl rfl (opv_indexAddrArrE rfl rfl rfl rfl rfl Try.underlying83 sz3 (by decide) (by decide) rfl) rfl ?_
    refine sv_put (H:=H197) (n:=H102.next) (v:=undef) (x:=some (.row #[vI x119,vI x120,vI x4,vI x122] .raw)) rfl rfl rfl rfl (opv_storeC (u:=vI x4) rfl rfl rfl rfl rfl neI sz3 rfl rfl rfl ((f198.get H102.next (by omega)).trans ((f193.get H102.next (by omega)).trans hb130)) rfl rfl) ?_
    intro H202 f203
    refine putL w199 f203 ((f198.get H102.next (by omega)).trans ((f193.get H102.next (by omega)).trans hb130)) fun n206 w204 l205 => ?_
    refine wo_nil (tq_n (wk ⟨[(0,y),(1,vP n1 0),(3,vI x101),(4,vP H102.next 0),(5,vI 2),(6,vP H123.next 0),(7,vI x101),(10,.agg #[vI x0,vI x1,vI x2,vI x3,vI x4,vI x5,vI x6,vI x7]),(11,vI 2)],34,[],H202⟩ rfl ?_))
    refine w_seq (w_region (mv (vI x101) rfl rfl ?_))
    refine mv (vI 2) rfl rfl ?_
    refine sv_int rfl rfl rfl (opv_shift rfl rfl rfl rfl rfl (by omega) (.inr ⟨rfl,rfl⟩)) ?_
    intro x207 h208
    replace h208:x207=x101.fdiv (2 ^ (min (Int.toNat 2) 64)):=h208
    refine sv_int rfl rfl rfl (opv_bin rfl rfl rfl rfl rfl rfl) ?_
    intro x209 h210
    replace h210:x209=wr ((BitVec.ofInt 64 x207 &&& BitVec.ofInt 64 1).toNat:Int):=h210
    try have h211:x209=((BitVec.ofInt 64 x207 &&& BitVec.ofInt 64 1).toNat:Int):=wr_ex h210 (by omega) (by omega)
    by_cases c212:x209=1
    ·
     refine sv (v:=.bool true) rfl rfl rfl (opv_bin rfl rfl rfl rfl rfl (eqT c212)) rfl ?_
     refine wo_nil (tq_n (wk ⟨[(0,y),(1,vP n1 0),(3,vI x101),(4,vP H102.next 0),(5,vI 2),(6,vP H123.next 0),(7,vI x101),(10,.agg #[vI x0,vI x1,vI x2,vI x3,vI x4,vI x5,vI x6,vI x7]),(11,vI 2),(23,.bool true)],34,[],H202⟩ rfl ?_))
     refine w_cond (t:=true) rfl rfl (fun _ => ?_) (fun h => by cases h)
     refine w_region (mv (vI 2) rfl rfl ?_)
     refine sv (v:=vP H123.next 1) rfl rfl rfl (opv_fieldAddrE rfl rfl rfl Try.underlying23 rfl sz3 (by decide) rfl) rfl ?_
     refine sv (v:=vI x5) rfl rfl rfl (opv_loadE rfl rfl rfl ag3 sz3 ((f203.get H123.next (by omega)).trans f198.blk) rfl (.inr rfl) rfl) rfl ?_
     refine sv (v:=vP H102.next 2) rfl rfl rfl (opv_indexAddrArrE rfl rfl rfl rfl rfl Try.underlying83 sz3 (by decide) (by decide) rfl) rfl ?_
     refine sv_put (H:=H202) (n:=H102.next) (v:=undef) (x:=some (.row #[vI x119,vI x120,vI x5,vI x122] .raw)) rfl rfl rfl rfl (opv_storeC (u:=vI x5) rfl rfl rfl rfl rfl neI sz3 rfl rfl rfl f203.blk rfl rfl) ?_
     intro H213 f214
     refine putL w204 f214 f203.blk fun n217 w215 l216 => ?_
     refine wo_nil ?_
     try refine q_eq (e':=.normal) rfl ?_
     refine tqk ⟨[(0,y),(1,vP n1 0),(3,vI x101),(4,vP H102.next 0),(7,vI x101),(10,.agg #[vI x0,vI x1,vI x2,vI x3,vI x4,vI x5,vI x6,vI x7]),(11,vI 2)],34,[],H213⟩ rfl ?_
     refine w_region (sv (v:=vI 3) rfl rfl rfl (opv_bin rfl rfl rfl rfl rfl rfl) rfl ?_)
     refine mv (vI 3) rfl rfl ?_
     refine wo_nil ?_
     refine tq_n ⟨((4:Int) - 3).toNat,by omega,⟨[(0,y),(1,vP n1 0),(3,vI x101),(4,vP H102.next 0),(7,vI x101),(10,.agg #[vI x0,vI x1,vI x2,vI x3,vI x4,vI x5,vI x6,vI x7]),(11,vI 3)],34,[],H213⟩,subk rfl,3,x119,x120,x5,x122,H213,by omega,by omega,(by first | omega | (intro _; have e : ((x101.toNat:Nat):Int) = x101:=Int.toNat_of_nonneg (by omega); have hb:cB x101 0=true:=(by unfold cB; rw [← h208,← h210]; exact decide_eq_true c212); simp only [cC,e,hb,cond_true,cond_false])),(by first | omega | (intro _; have e : ((x101.toNat:Nat):Int) = x101:=Int.toNat_of_nonneg (by omega); have hb:cB x101 1=true:=(by unfold cB; rw [← h208,← h210]; exact decide_eq_true c212); simp only [cC,e,hb,cond_true,cond_false])),(by first | omega | (intro _; have e : ((x101.toNat:Nat):Int) = x101:=Int.toNat_of_nonneg (by omega); have hb:cB x101 2=true:=(by unfold cB; rw [← h208,← h210]; exact decide_eq_true c212); simp only [cC,e,hb,cond_true,cond_false])),(by first | omega | (intro _; have e : ((x101.toNat:Nat):Int) = x101:=Int.toNat_of_nonneg (by omega); have hb:cB x101 3=true:=(by unfold cB; rw [← h208,← h210]; exact decide_eq_true c212); simp only [cC,e,hb,cond_true,cond_false])),f214.blk,w215,(((l132.trans l195).trans l200).trans l205).trans l216,((((((KeepX.refl (fun m => X m∨m=H102.next) H113).trans k133 (fun m hm => hm.elim (fun h => .inl (.inl h)) (by intro h; first | (right; omega) | (left; right; omega) | (left; (try dsimp only) <;> omega)))).new_ f193).put f198 (by first | (right; omega) | (left; right; omega) | (left; (try dsimp only) <;> omega))).put f203 (by first | (right; omega) | (left; right; omega) | (left; (try dsimp only) <;> omega))).put f214 (by first | (right; omega) | (left; right; omega) | (left; (try dsimp only) <;> omega))),(by have hj:=(hJs _ _ _ hj136 (by omega) (((((KeepX.refl (fun m => H1.next ≤ m∨False) H123).new_ f193).put f198 (by left; left; omega)).put f203 (by left; left; omega)).put f214 (by left; left; omega)) (((l195.trans l200).trans l205).trans l216)); first | exact hj | (have e:x101.toNat=x101.toNat:=(by omega); rw [e]; exact hj)),rfl,rfl⟩
    ·
     refine sv (v:=.bool false) rfl rfl rfl (opv_bin rfl rfl rfl rfl rfl (eqF c212)) rfl ?_
     refine wo_nil (tq_n (wk ⟨[(0,y),(1,vP n1 0),(3,vI x101),(4,vP H102.next 0),(5,vI 2),(6,vP H123.next 0),(7,vI x101),(10,.agg #[vI x0,vI x1,vI x2,vI x3,vI x4,vI x5,vI x6,vI x7]),(11,vI 2),(23,.bool false)],34,[],H202⟩ rfl ?_))
     refine w_cond (t:=false) rfl rfl (fun h => by cases h) (fun _ => ?_)
     refine w_skip ?_
     try refine q_eq (e':=.normal) rfl ?_
     refine tqk ⟨[(0,y),(1,vP n1 0),(3,vI x101),(4,vP H102.next 0),(7,vI x101),(10,.agg #[vI x0,vI x1,vI x2,vI x3,vI x4,vI x5,vI x6,vI x7]),(11,vI 2)],34,[],H202⟩ rfl ?_
     refine w_region (sv (v:=vI 3) rfl rfl rfl (opv_bin rfl rfl rfl rfl rfl rfl) rfl ?_)
     refine mv (vI 3) rfl rfl ?_
     refine wo_nil ?_
     refine tq_n ⟨((4:Int) - 3).toNat,by omega,⟨[(0,y),(1,vP n1 0),(3,vI x101),(4,vP H102.next 0),(7,vI x101),(10,.agg #[vI x0,vI x1,vI x2,vI x3,vI x4,vI x5,vI x6,vI x7]),(11,vI 3)],34,[],H202⟩,subk rfl,3,x119,x120,x4,x122,H202,by omega,by omega,(by first | omega | (intro _; have e : ((x101.toNat:Nat):Int) = x101:=Int.toNat_of_nonneg (by omega); have hb:cB x101 0=false:=(by unfold cB; rw [← h208,← h210]; exact decide_eq_false c212); simp only [cC,e,hb,cond_true,cond_false])),(by first | omega | (intro _; have e : ((x101.toNat:Nat):Int) = x101:=Int.toNat_of_nonneg (by omega); have hb:cB x101 1=false:=(by unfold cB; rw [← h208,← h210]; exact decide_eq_false c212); simp only [cC,e,hb,cond_true,cond_false])),(by first | omega | (intro _; have e : ((x101.toNat:Nat):Int) = x101:=Int.toNat_of_nonneg (by omega); have hb:cB x101 2=false:=(by unfold cB; rw [← h208,← h210]; exact decide_eq_false c212); simp only [cC,e,hb,cond_true,cond_false])),(by first | omega | (intro _; have e : ((x101.toNat:Nat):Int) = x101:=Int.toNat_of_nonneg (by omega); have hb:cB x101 3=false:=(by unfold cB; rw [← h208,← h210]; exact decide_eq_false c212); simp only [cC,e,hb,cond_true,cond_false])),f203.blk,w204,((l132.trans l195).trans l200).trans l205,(((((KeepX.refl (fun m => X m∨m=H102.next) H113).trans k133 (fun m hm => hm.elim (fun h => .inl (.inl h)) (by intro h; first | (right; omega) | (left; right; omega) | (left; (try dsimp only) <;> omega)))).new_ f193).put f198 (by first | (right; omega) | (left; right; omega) | (left; (try dsimp only) <;> omega))).put f203 (by first | (right; omega) | (left; right; omega) | (left; (try dsimp only) <;> omega))),(by have hj:=(hJs _ _ _ hj136 (by omega) ((((KeepX.refl (fun m => H1.next ≤ m∨False) H123).new_ f193).put f198 (by left; left; omega)).put f203 (by left; left; omega)) ((l195.trans l200).trans l205)); first | exact hj | (have e:x101.toNat=x101.toNat:=(by omega); rw [e]; exact hj)),rfl,rfl⟩
   ·
    refine sv (v:=.agg #[vI x6,vI x7]) rfl rfl rfl (opv_indexArrE rfl rfl rfl rfl rfl Try.underlying87 ag23 sz23 (by decide) (by decide) (.inl rfl) rfl) rfl ?_
    refine sv_new (H:=H123) (v:=vP H123.next 0) (x:=.row #[vI 0,vI 0] .raw) rfl rfl rfl rfl (opv_alloc rfl ze23 rfl) ?_
    intro H218 f219
    refine newL w131 f219 fun n222 w220 l221 => ?_
    refine mv (vI 3) rfl rfl ?_
    refine sv_put (H:=H218) (n:=H123.next) (v:=undef) (x:=some (.row #[vI x6,vI x7] .raw)) rfl rfl rfl rfl (opv_storeC (u:=.agg #[vI x6,vI x7]) rfl rfl rfl rfl rfl (by simp [undef]) sz23 rfl rfl rfl f219.blk rfl rfl) ?_
    intro H223 f224
    refine putL w220 f224 f219.blk fun n227 w225 l226 => ?_
    refine wo_nil (tq_n (wk ⟨[(0,y),(1,vP n1 0),(3,vI x101),(4,vP H102.next 0),(5,vI 3),(6,vP H123.next 0),(7,vI x101),(10,.agg #[vI x0,vI x1,vI x2,vI x3,vI x4,vI x5,vI x6,vI x7]),(11,vI 3)],34,[],H223⟩ rfl ?_))
    refine w_seq (w_region (mv (vI 3) rfl rfl ?_))
    refine sv (v:=vP H123.next 0) rfl rfl rfl (opv_fieldAddrE rfl rfl rfl Try.underlying23 rfl sz3 (by decide) rfl) rfl ?_
    refine sv (v:=vI x6) rfl rfl rfl (opv_loadE rfl rfl rfl ag3 sz3 f224.blk rfl (.inr rfl) rfl) rfl ?_
    refine sv (v:=vP H102.next 3) rfl rfl rfl (opv_indexAddrArrE rfl rfl rfl rfl rfl Try.underlying83 sz3 (by decide) (by decide) rfl) rfl ?_
    refine sv_put (H:=H223) (n:=H102.next) (v:=undef) (x:=some (.row #[vI x119,vI x120,vI x121,vI x6] .raw)) rfl rfl rfl rfl (opv_storeC (u:=vI x6) rfl rfl rfl rfl rfl neI sz3 rfl rfl rfl ((f224.get H102.next (by omega)).trans ((f219.get H102.next (by omega)).trans hb130)) rfl rfl) ?_
    intro H228 f229
    refine putL w225 f229 ((f224.get H102.next (by omega)).trans ((f219.get H102.next (by omega)).trans hb130)) fun n232 w230 l231 => ?_
    refine wo_nil (tq_n (wk ⟨[(0,y),(1,vP n1 0),(3,vI x101),(4,vP H102.next 0),(5,vI 3),(6,vP H123.next 0),(7,vI x101),(10,.agg #[vI x0,vI x1,vI x2,vI x3,vI x4,vI x5,vI x6,vI x7]),(11,vI 3)],34,[],H228⟩ rfl ?_))
    refine w_seq (w_region (mv (vI x101) rfl rfl ?_))
    refine mv (vI 3) rfl rfl ?_
    refine sv_int rfl rfl rfl (opv_shift rfl rfl rfl rfl rfl (by omega) (.inr ⟨rfl,rfl⟩)) ?_
    intro x233 h234
    replace h234:x233=x101.fdiv (2 ^ (min (Int.toNat 3) 64)):=h234
    refine sv_int rfl rfl rfl (opv_bin rfl rfl rfl rfl rfl rfl) ?_
    intro x235 h236
    replace h236:x235=wr ((BitVec.ofInt 64 x233 &&& BitVec.ofInt 64 1).toNat:Int):=h236
    try have h237:x235=((BitVec.ofInt 64 x233 &&& BitVec.ofInt 64 1).toNat:Int):=wr_ex h236 (by omega) (by omega)
    by_cases c238:x235=1
    ·
     refine sv (v:=.bool true) rfl rfl rfl (opv_bin rfl rfl rfl rfl rfl (eqT c238)) rfl ?_
     refine wo_nil (tq_n (wk ⟨[(0,y),(1,vP n1 0),(3,vI x101),(4,vP H102.next 0),(5,vI 3),(6,vP H123.next 0),(7,vI x101),(10,.agg #[vI x0,vI x1,vI x2,vI x3,vI x4,vI x5,vI x6,vI x7]),(11,vI 3),(23,.bool true)],34,[],H228⟩ rfl ?_))
     refine w_cond (t:=true) rfl rfl (fun _ => ?_) (fun h => by cases h)
     refine w_region (mv (vI 3) rfl rfl ?_)
     refine sv (v:=vP H123.next 1) rfl rfl rfl (opv_fieldAddrE rfl rfl rfl Try.underlying23 rfl sz3 (by decide) rfl) rfl ?_
     refine sv (v:=vI x7) rfl rfl rfl (opv_loadE rfl rfl rfl ag3 sz3 ((f229.get H123.next (by omega)).trans f224.blk) rfl (.inr rfl) rfl) rfl ?_
     refine sv (v:=vP H102.next 3) rfl rfl rfl (opv_indexAddrArrE rfl rfl rfl rfl rfl Try.underlying83 sz3 (by decide) (by decide) rfl) rfl ?_
     refine sv_put (H:=H228) (n:=H102.next) (v:=undef) (x:=some (.row #[vI x119,vI x120,vI x121,vI x7] .raw)) rfl rfl rfl rfl (opv_storeC (u:=vI x7) rfl rfl rfl rfl rfl neI sz3 rfl rfl rfl f229.blk rfl rfl) ?_
     intro H239 f240
     refine putL w230 f240 f229.blk fun n243 w241 l242 => ?_
     refine wo_nil ?_
     try refine q_eq (e':=.normal) rfl ?_
     refine tqk ⟨[(0,y),(1,vP n1 0),(3,vI x101),(4,vP H102.next 0),(7,vI x101),(10,.agg #[vI x0,vI x1,vI x2,vI x3,vI x4,vI x5,vI x6,vI x7]),(11,vI 3)],34,[],H239⟩ rfl ?_
     refine w_region (sv (v:=vI 4) rfl rfl rfl (opv_bin rfl rfl rfl rfl rfl rfl) rfl ?_)
     refine mv (vI 4) rfl rfl ?_
     refine wo_nil ?_
     refine tq_n ⟨((4:Int) - 4).toNat,by omega,⟨[(0,y),(1,vP n1 0),(3,vI x101),(4,vP H102.next 0),(7,vI x101),(10,.agg #[vI x0,vI x1,vI x2,vI x3,vI x4,vI x5,vI x6,vI x7]),(11,vI 4)],34,[],H239⟩,subk rfl,4,x119,x120,x121,x7,H239,by omega,by omega,(by first | omega | (intro _; have e : ((x101.toNat:Nat):Int) = x101:=Int.toNat_of_nonneg (by omega); have hb:cB x101 0=true:=(by unfold cB; rw [← h234,← h236]; exact decide_eq_true c238); simp only [cC,e,hb,cond_true,cond_false])),(by first | omega | (intro _; have e : ((x101.toNat:Nat):Int) = x101:=Int.toNat_of_nonneg (by omega); have hb:cB x101 1=true:=(by unfold cB; rw [← h234,← h236]; exact decide_eq_true c238); simp only [cC,e,hb,cond_true,cond_false])),(by first | omega | (intro _; have e : ((x101.toNat:Nat):Int) = x101:=Int.toNat_of_nonneg (by omega); have hb:cB x101 2=true:=(by unfold cB; rw [← h234,← h236]; exact decide_eq_true c238); simp only [cC,e,hb,cond_true,cond_false])),(by first | omega | (intro _; have e : ((x101.toNat:Nat):Int) = x101:=Int.toNat_of_nonneg (by omega); have hb:cB x101 3=true:=(by unfold cB; rw [← h234,← h236]; exact decide_eq_true c238); simp only [cC,e,hb,cond_true,cond_false])),f240.blk,w241,(((l132.trans l221).trans l226).trans l231).trans l242,((((((KeepX.refl (fun m => X m∨m=H102.next) H113).trans k133 (fun m hm => hm.elim (fun h => .inl (.inl h)) (by intro h; first | (right; omega) | (left; right; omega) | (left; (try dsimp only) <;> omega)))).new_ f219).put f224 (by first | (right; omega) | (left; right; omega) | (left; (try dsimp only) <;> omega))).put f229 (by first | (right; omega) | (left; right; omega) | (left; (try dsimp only) <;> omega))).put f240 (by first | (right; omega) | (left; right; omega) | (left; (try dsimp only) <;> omega))),(by have hj:=(hJs _ _ _ hj136 (by omega) (((((KeepX.refl (fun m => H1.next ≤ m∨False) H123).new_ f219).put f224 (by left; left; omega)).put f229 (by left; left; omega)).put f240 (by left; left; omega)) (((l221.trans l226).trans l231).trans l242)); first | exact hj | (have e:x101.toNat=x101.toNat:=(by omega); rw [e]; exact hj)),rfl,rfl⟩
    ·
     refine sv (v:=.bool false) rfl rfl rfl (opv_bin rfl rfl rfl rfl rfl (eqF c238)) rfl ?_
     refine wo_nil (tq_n (wk ⟨[(0,y),(1,vP n1 0),(3,vI x101),(4,vP H102.next 0),(5,vI 3),(6,vP H123.next 0),(7,vI x101),(10,.agg #[vI x0,vI x1,vI x2,vI x3,vI x4,vI x5,vI x6,vI x7]),(11,vI 3),(23,.bool false)],34,[],H228⟩ rfl ?_))
     refine w_cond (t:=false) rfl rfl (fun h => by cases h) (fun _ => ?_)
     refine w_skip ?_
     try refine q_eq (e':=.normal) rfl ?_
     refine tqk ⟨[(0,y),(1,vP n1 0),(3,vI x101),(4,vP H102.next 0),(7,vI x101),(10,.agg #[vI x0,vI x1,vI x2,vI x3,vI x4,vI x5,vI x6,vI x7]),(11,vI 3)],34,[],H228⟩ rfl ?_
     refine w_region (sv (v:=vI 4) rfl rfl rfl (opv_bin rfl rfl rfl rfl rfl rfl) rfl ?_)
     refine mv (vI 4) rfl rfl ?_
     refine wo_nil ?_
     refine tq_n ⟨((4:Int) - 4).toNat,by omega,⟨[(0,y),(1,vP n1 0),(3,vI x101),(4,vP H102.next 0),(7,vI x101),(10,.agg #[vI x0,vI x1,vI x2,vI x3,vI x4,vI x5,vI x6,vI x7]),(11,vI 4)],34,[],H228⟩,subk rfl,4,x119,x120,x121,x6,H228,by omega,by omega,(by first | omega | (intro _; have e : ((x101.toNat:Nat):Int) = x101:=Int.toNat_of_nonneg (by omega); have hb:cB x101 0=false:=(by unfold cB; rw [← h234,← h236]; exact decide_eq_false c238); simp only [cC,e,hb,cond_true,cond_false])),(by first | omega | (intro _; have e : ((x101.toNat:Nat):Int) = x101:=Int.toNat_of_nonneg (by omega); have hb:cB x101 1=false:=(by unfold cB; rw [← h234,← h236]; exact decide_eq_false c238); simp only [cC,e,hb,cond_true,cond_false])),(by first | omega | (intro _; have e : ((x101.toNat:Nat):Int) = x101:=Int.toNat_of_nonneg (by omega); have hb:cB x101 2=false:=(by unfold cB; rw [← h234,← h236]; exact decide_eq_false c238); simp only [cC,e,hb,cond_true,cond_false])),(by first | omega | (intro _; have e : ((x101.toNat:Nat):Int) = x101:=Int.toNat_of_nonneg (by omega); have hb:cB x101 3=false:=(by unfold cB; rw [← h234,← h236]; exact decide_eq_false c238); simp only [cC,e,hb,cond_true,cond_false])),f229.blk,w230,((l132.trans l221).trans l226).trans l231,(((((KeepX.refl (fun m => X m∨m=H102.next) H113).trans k133 (fun m hm => hm.elim (fun h => .inl (.inl h)) (by intro h; first | (right; omega) | (left; right; omega) | (left; (try dsimp only) <;> omega)))).new_ f219).put f224 (by first | (right; omega) | (left; right; omega) | (left; (try dsimp only) <;> omega))).put f229 (by first | (right; omega) | (left; right; omega) | (left; (try dsimp only) <;> omega))),(by have hj:=(hJs _ _ _ hj136 (by omega) ((((KeepX.refl (fun m => H1.next ≤ m∨False) H123).new_ f219).put f224 (by left; left; omega)).put f229 (by left; left; omega)) ((l221.trans l226).trans l231)); first | exact hj | (have e:x101.toNat=x101.toNat:=(by omega); rw [e]; exact hj)),rfl,rfl⟩
  ·
   refine sv (v:=.bool false) rfl rfl rfl (opv_bin rfl rfl rfl rfl rfl (cmpF rfl c138)) rfl ?_
   refine wo_nil (tq_n (wk ⟨[(0,y),(1,vP n1 0),(3,vI x101),(4,vP H102.next 0),(7,vI x101),(10,.agg #[vI x0,vI x1,vI x2,vI x3,vI x4,vI x5,vI x6,vI x7]),(11,vI x118),(12,.bool false)],34,[],H123⟩ rfl ?_))
   refine w_seq (w_cond (t:=false) rfl rfl (fun h => by cases h) (fun _ => ?_))
   refine w_exit (tq_e (tq_e ?_))
   try refine q_eq (e':=.normal) rfl ?_
   refine tqk ⟨[(0,y),(1,vP n1 0),(4,vP H102.next 0),(7,vI x101)],34,[],H123⟩ rfl ?_
   refine w_seq (w_region (mv y rfl rfl ?_))
   refine sv (v:=.agg #[vI x119,vI x120,vI x121,vI x122]) rfl rfl rfl (opv_loadE rfl rfl rfl ag83 sz83 hb130 rfl (.inl rfl) rfl) rfl ?_
   refine sc_ (H:=H123) (vs:=[.agg #[vI x119,vI x120,vI x121,vI x122]]) (fv:=y) rfl rfl rfl rfl rfl rfl (.cons rfl rfl (by simp [undef]) .nil) rfl ?_
   refine WV.mono (wv_eq (show (fun (k:Nat) => ([.agg #[.int .i64 (cC x0 x1 0 k),.int .i64 (cC x2 x3 1 k),.int .i64 (cC x4 x5 2 k),.int .i64 (cC x6 x7 3 k)]] : List Value)) x101.toNat=[.agg #[vI x119,vI x120,vI x121,vI x122]] from (by have q0:=i126 (by omega); have q1:=i127 (by omega); have q2:=i128 (by omega); have q3:=i129 (by omega); rw [q0,q1,q2,q3])) (hy x101.toNat _ (by omega) hj136 w131 (by omega))) ?_
   rintro v250 H251 ⟨b249,rfl,w244,l245,k246,h247,h248⟩
   have n252:=k246.next
   rcases b249 with _ | _
   ·
    refine sv (v:=.bool true) rfl rfl rfl (opv_not (b:=false) rfl rfl rfl) rfl ?_
    refine wo_nil (tq_n (wk ⟨[(0,y),(1,vP n1 0),(7,vI x101),(32,.bool true)],34,[],H251⟩ rfl ?_))
    refine w_cond (t:=true) rfl rfl (fun _ => ?_) (fun h => by cases h)
    refine w_ret ?_
    try refine q_eq (e':=.ret) rfl ?_
    refine tq_r (tq_r ?_)
    try refine q_eq (e':=.ret) rfl ?_
    exact ⟨.inr rfl,rfl,[],.nil,w244,((l106.trans l116).trans l132).trans l245,(((((KeepX.refl (fun m => X m) H1).trans k107 (fun m hm => .inl hm)).new_ f114).trans k133 (fun m hm => hm.elim (fun h => .inl h) (by intro h; first | (right; omega) | (left; right; omega) | (left; (try dsimp only) <;> omega)))).trans k246 (fun m hm => .inl hm)).weak (fun m h => .inl h),.inr (h248 rfl)⟩
   ·
    refine sv (v:=.bool false) rfl rfl rfl (opv_not (b:=true) rfl rfl rfl) rfl ?_
    refine wo_nil (tq_n (wk ⟨[(0,y),(1,vP n1 0),(7,vI x101),(32,.bool false)],34,[],H251⟩ rfl ?_))
    refine w_cond (t:=false) rfl rfl (fun h => by cases h) (fun _ => ?_)
    refine w_skip ?_
    try refine q_eq (e':=.normal) rfl ?_
    refine tqk ⟨[(0,y),(1,vP n1 0),(7,vI x101)],34,[],H251⟩ rfl ?_
    refine w_region (sv_int rfl rfl rfl (opv_bin rfl rfl rfl rfl rfl rfl) ?_)
    intro x253 h254
    replace h254:x253=wr (x101 + 1):=h254
    try have h255:x253=x101 + 1:=wr_ex h254 (by omega) (by omega)
    refine mv (vI x253) rfl rfl ?_
    refine wo_nil ?_
    refine tq_n ⟨((16:Int) - x253).toNat,by omega,⟨[(0,y),(1,vP n1 0),(7,vI x253)],34,[],H251⟩,subk rfl,x253,H251,by omega,by omega,w244,((l106.trans l116).trans l132).trans l245,(((((KeepX.refl (fun m => X m) H1).trans k107 (fun m hm => .inl hm)).new_ f114).trans k133 (fun m hm => hm.elim (fun h => .inl h) (by intro h; first | (right; omega) | (left; right; omega) | (left; (try dsimp only) <;> omega)))).trans k246 (fun m hm => .inl hm)),(by have hj:=(h247 rfl); first | exact hj | (have e:x253.toNat=(x101.toNat + 1):=(by omega); rw [e]; exact hj)),rfl,rfl⟩
 ·
  refine sv (v:=.bool false) rfl rfl rfl (opv_bin rfl rfl rfl rfl rfl (cmpF rfl c112)) rfl ?_
  refine wo_nil (tq_n (wk ⟨[(0,y),(1,vP n1 0),(7,vI x101),(8,.bool false)],34,[],H102⟩ rfl ?_))
  refine w_seq (w_cond (t:=false) rfl rfl (fun h => by cases h) (fun _ => ?_))
  refine w_exit (tq_e (tq_e ?_))
  try refine q_eq (e':=.normal) rfl ?_
  exact ⟨.inl rfl,rfl,[],.nil,w105,l106,((KeepX.refl (fun m => X m) H1).trans k107 (fun m hm => .inl hm)).weak (fun m h => .inl h),.inl (by have hj:=hj110; rwa [show x101.toNat=16 by omega] at hj)⟩

theorem tide_reachE (sq fv:Value) (c0:Nat→Int) (c1:Nat→Int) (c2:Nat→Int) (c3:Nat→Int) (f:Int→Int→Int→Int→Int) (C:Nat→Prop) (H:SH) (wt:WT H) (hsq:SeqE Try.prog sq 1 (fun (k:Nat) => ([.agg #[.int .i64 (c0 k),.int .i64 (c1 k),.int .i64 (c2 k),.int .i64 (c3 k)]] : List Value)) 16 C (fun _ => False) H) (hfv:FnE Try.prog fv (on4 f) Pre4 H) (hc : ∀ k,k < 16→c0 k ≠ 0):WC Try.prog 39 [sq,fv] H (fun v H' => Keep H H'∧WT H'∧∃ (rx1 rx2:Int),v=(.agg #[vI rx1,vI rx2])∧(RB (fun j => f (c0 j) (c1 j) (c2 j) (c3 j)) 16 rx1 rx2)):=by
 refine wc_of_body_marks Try.func39 rfl ?_
 refine wk ⟨[(0,sq),(1,fv)],28,[],H⟩ rfl ?_
 refine w_seq (w_region (sv_new (H:=H) (v:=vP H.next 0) (x:=.row #[fv] .raw) rfl rfl rfl rfl (opv_boxE (v:=fv) rfl rfl rfl hfv.1.1 hfv.1.2.1) ?_))
 intro H101 f102
 refine newL wt f102 fun n105 w103 l104 => ?_
 refine sv_new (H:=H101) (v:=vP H101.next 0) (x:=.row #[vI 0,vI 0] .raw) rfl rfl rfl rfl (opv_alloc rfl ze23 rfl) ?_
 intro H106 f107
 refine newL w103 f107 fun n110 w108 l109 => ?_
 refine wo_nil (tq_n (wk ⟨[(0,sq),(3,vP H.next 0),(4,vP H101.next 0)],28,[],H106⟩ rfl ?_))
 refine w_seq (w_region (sv_new (H:=H106) (v:=vP H106.next 0) (x:=.row #[vI 0,vI 0] .raw) rfl rfl rfl rfl (opv_alloc rfl ze23 rfl) ?_))
 intro H111 f112
 refine newL w108 f112 fun n115 w113 l114 => ?_
 refine wo_nil (tq_n (wk ⟨[(0,sq),(3,vP H.next 0),(4,vP H101.next 0),(5,vP H106.next 0)],28,[],H111⟩ rfl ?_))
 refine w_seq (w_region (sv_new (H:=H111) (v:=vP H111.next 0) (x:=.row #[.bool false] .raw) rfl rfl rfl rfl (opv_alloc rfl ze4 rfl) ?_))
 intro H116 f117
 refine newL w113 f117 fun n120 w118 l119 => ?_
 refine sv_put (H:=H116) (n:=H111.next) (v:=undef) (x:=some (.row #[.bool true] .raw)) rfl rfl rfl rfl (opv_storeC (u:=.bool true) rfl rfl rfl rfl rfl (by simp [undef]) sz4 rfl rfl rfl f117.blk rfl rfl) ?_
 intro H121 f122
 refine putL w118 f122 f117.blk fun n125 w123 l124 => ?_
 refine wo_nil (tq_n (wk ⟨[(0,sq),(3,vP H.next 0),(4,vP H101.next 0),(5,vP H106.next 0),(6,vP H111.next 0)],28,[],H121⟩ rfl ?_))
 refine w_seq (w_seq (w_region (mv sq rfl rfl ?_)))
 refine wo_nil (tq_n (wk ⟨[(3,vP H.next 0),(4,vP H101.next 0),(5,vP H106.next 0),(6,vP H111.next 0),(9,sq)],28,[],H121⟩ rfl ?_))
 refine w_block ?_
 refine w_rangeE' (e:=1) (El:=(fun (k:Nat) => ([.agg #[.int .i64 (c0 k),.int .i64 (c1 k),.int .i64 (c2 k),.int .i64 (c3 k)]] : List Value))) (N:=16) (C:=C) (M:=fun _ => False) (Hq:=H) rfl rfl hsq ((((((KeepX.refl (fun m => ¬ C m) H).new_ f102).new_ f107).new_ f112).new_ f117).put f122 (by left; intro h; have:=hsq.1 _ h; omega)) ((((l104.trans l109).trans l114).trans l119).trans l124) w123 rfl (by simp) (fun m => m=H106.next∨m=H111.next) (fun k A => ∃ (x126 x127:Int) (b128:Bool),A.get H106.next=some (.row #[vI x126,vI x127] .raw)∧A.get H111.next=some (.row #[.bool b128] .raw)∧(RI (fun j => f (c0 j) (c1 j) (c2 j) (c3 j)) k x126 x127 b128)) (fun x A => False) (fun m hm => ⟨by (try dsimp only at hm); intro h; have:=hsq.1 _ h; omega,by (try dsimp only at hm); omega⟩) ?_ ?_ (fun x A A' h => h.elim) ?_ ?_ (fun x H2 _ _ _ _ _ h => h.elim)
 ·
  intro H132 _ k133 w134
  have n135:=k133.next
  have l136:=k133.le
  exact ⟨0,0,true,(k133.get H106.next (by omega)).trans ((f122.get H106.next (by omega)).trans ((f117.get H106.next (by omega)).trans f112.blk)),(k133.get H111.next (by omega)).trans f122.blk,(by first | exact .inl ⟨rfl,rfl⟩ | exact RI_0 ‹RI _ k0 _ _ true› (by (try dsimp only); omega) (by (try dsimp only); omega) | exact RI_s ‹RI _ k0 _ _ false› (by (try dsimp only); omega) (by (try dsimp only); omega))⟩
 ·
  rintro k0 A137 A138 ⟨x126,x127,b128,hb129,hb130,i131⟩ n139 k140 l141
  exact ⟨x126,x127,b128,((k140.get _ (by omega) (fun h => h.elim (fun h => by omega) id)).trans hb129),((k140.get _ (by omega) (fun h => h.elim (fun h => by omega) id)).trans hb130),i131⟩
 ·
  rintro k0 A142 hk0 w143 l144 k145 n146 hr147 ⟨x126,x127,b128,hb129,hb130,i131⟩
  replace k145:=k145.weak (Y:=fun m => m=H106.next∨m=H111.next) (fun m h => h.elim id False.elim)
  refine round_start ?_
  refine wk ⟨[(3,vP H.next 0),(5,vP H106.next 0),(6,vP H111.next 0),(10,.agg #[vI (c0 k0),vI (c1 k0),vI (c2 k0),vI (c3 k0)])],28,[],A142⟩ rfl ?_
  refine w_region (sv_new (H:=A142) (v:=vP A142.next 0) (x:=.row #[vI 0,vI 0,vI 0,vI 0] .raw) rfl rfl rfl rfl (opv_alloc rfl ze83 rfl) ?_)
  intro H148 f149
  refine newL w143 f149 fun n152 w150 l151 => ?_
  refine sv_put (H:=H148) (n:=A142.next) (v:=undef) (x:=some (.row #[vI (c0 k0),vI (c1 k0),vI (c2 k0),vI (c3 k0)] .raw)) rfl rfl rfl rfl (opv_storeC (u:=.agg #[vI (c0 k0),vI (c1 k0),vI (c2 k0),vI (c3 k0)]) rfl rfl rfl rfl rfl (by simp [undef]) sz83 rfl rfl rfl f149.blk rfl rfl) ?_
  intro H153 f154
  refine putL w150 f154 f149.blk fun n157 w155 l156 => ?_
  refine wo_nil (⟨rfl,(f154.get (H121.next + 1) (by omega)).trans ((f149.get (H121.next + 1) (by omega)).trans hr147),?_⟩)
  intro H158 f159
  replace f159:PutF H153 (H121.next + 1) _ H158:=f159
  have n162:=f159.next
  have w160:=w155.putO f159 ((f154.get (H121.next + 1) (by omega)).trans ((f149.get (H121.next + 1) (by omega)).trans hr147)) (by simp) (by simp)
  have l161:=Le.putO f159 ((f154.get (H121.next + 1) (by omega)).trans ((f149.get (H121.next + 1) (by omega)).trans hr147)) (by simp)
  refine wk ⟨[(3,vP H.next 0),(5,vP H106.next 0),(6,vP H111.next 0),(7,vP A142.next 0)],28,[],H158⟩ rfl ?_
  refine w_block (w_seq (w_region (sv (v:=fv) rfl rfl rfl (opv_loadE rfl rfl rfl ag90 sz90 ((f159.get H.next (by omega)).trans ((f154.get H.next (by omega)).trans ((f149.get H.next (by omega)).trans ((k145.get H.next (by omega) (by (try dsimp only); omega)).trans ((f122.get H.next (by omega)).trans ((f117.get H.next (by omega)).trans ((f112.get H.next (by omega)).trans ((f107.get H.next (by omega)).trans f102.blk)))))))) rfl (.inr rfl) rfl) rfl ?_)))
  refine sv (v:=.agg #[vI (c0 k0),vI (c1 k0),vI (c2 k0),vI (c3 k0)]) rfl rfl rfl (opv_loadE rfl rfl rfl ag83 sz83 ((f159.get A142.next (by omega)).trans f154.blk) rfl (.inl rfl) rfl) rfl ?_
  refine sc_ (H:=H158) (vs:=[.agg #[vI (c0 k0),vI (c1 k0),vI (c2 k0),vI (c3 k0)]]) (fv:=fv) rfl rfl rfl rfl rfl rfl (.cons rfl rfl (by simp [undef]) .nil) rfl ?_
  refine WV.mono (hfv.2 _ (((((((((((KeepX.refl (fun _ => False) H).new_ f102).new_ f107).new_ f112).new_ f117).put f122 (by first | (right; omega) | (left; (try dsimp only) <;> omega))).trans k145 (by intro m hm; (try simp only [false_or,or_false] at hm ⊢); (try dsimp only at hm ⊢); first | omega | (right; omega) | (left; left; omega) | (left; right; omega))).new_ f149).put f154 (by first | (right; omega) | (left; (try dsimp only) <;> omega))).put f159 (by first | (right; omega) | (left; (try dsimp only) <;> omega))).k (fun _ h => h.elim)) w160 _ ⟨_,_,_,_,rfl,hc _ hk0⟩) ?_
  rintro v163 H164 ⟨k165,w166,e167⟩
  have n169:=k165.next
  have l168:=k165.le
  obtain rfl:_=((vI (f (c0 k0) (c1 k0) (c2 k0) (c3 k0))):Value):=e167
  refine mv (vI (f (c0 k0) (c1 k0) (c2 k0) (c3 k0))) rfl rfl ?_
  refine wo_nil (tq_n (wk ⟨[(5,vP H106.next 0),(6,vP H111.next 0),(8,vI (f (c0 k0) (c1 k0) (c2 k0) (c3 k0)))],28,[],H164⟩ rfl ?_))
  refine w_seq (w_seq (w_region (sv (v:=.bool b128) rfl rfl rfl (opv_loadE rfl rfl rfl ag4 sz4 ((k165.get H111.next (by omega)).trans ((f159.get H111.next (by omega)).trans ((f154.get H111.next (by omega)).trans ((f149.get H111.next (by omega)).trans hb130)))) rfl (.inr rfl) rfl) rfl ?_)))
  refine wo_nil (tq_n (wk ⟨[(5,vP H106.next 0),(6,vP H111.next 0),(8,vI (f (c0 k0) (c1 k0) (c2 k0) (c3 k0))),(14,.bool b128)],28,[],H164⟩ rfl ?_))
  rcases b128 with _ | _
  ·
   refine w_cond (t:=false) rfl rfl (fun h => by cases h) (fun _ => ?_)
   refine w_skip (tq_n (wk ⟨[(5,vP H106.next 0),(8,vI (f (c0 k0) (c1 k0) (c2 k0) (c3 k0)))],28,[],H164⟩ rfl ?_))
   refine w_region (sv (v:=vP H106.next 0) rfl rfl rfl (opv_fieldAddrE rfl rfl rfl Try.underlying23 rfl sz3 (by decide) rfl) rfl ?_)
   refine sv (v:=vI x126) rfl rfl rfl (opv_loadE rfl rfl rfl ag3 sz3 ((k165.get H106.next (by omega)).trans ((f159.get H106.next (by omega)).trans ((f154.get H106.next (by omega)).trans ((f149.get H106.next (by omega)).trans hb129)))) rfl (.inr rfl) rfl) rfl ?_
   refine mv (vI (f (c0 k0) (c1 k0) (c2 k0) (c3 k0))) rfl rfl ?_
   refine sv_int rfl rfl rfl (opv_min rfl rfl rfl rfl rfl) ?_
   intro x170 h171
   replace h171:=ite_or h171
   refine sv (v:=vP H106.next 1) rfl rfl rfl (opv_fieldAddrE rfl rfl rfl Try.underlying23 rfl sz3 (by decide) rfl) rfl ?_
   refine sv (v:=vI x127) rfl rfl rfl (opv_loadE rfl rfl rfl ag3 sz3 ((k165.get H106.next (by omega)).trans ((f159.get H106.next (by omega)).trans ((f154.get H106.next (by omega)).trans ((f149.get H106.next (by omega)).trans hb129)))) rfl (.inr rfl) rfl) rfl ?_
   refine mv (vI (f (c0 k0) (c1 k0) (c2 k0) (c3 k0))) rfl rfl ?_
   refine sv_int rfl rfl rfl (opv_max rfl rfl rfl rfl rfl) ?_
   intro x172 h173
   replace h173:=ite_or h173
   refine sv (v:=vP H106.next 0) rfl rfl rfl (opv_fieldAddrE rfl rfl rfl Try.underlying23 rfl sz3 (by decide) rfl) rfl ?_
   refine sv_put (H:=H164) (n:=H106.next) (v:=undef) (x:=some (.row #[vI x170,vI x127] .raw)) rfl rfl rfl rfl (opv_storeC (u:=vI x170) rfl rfl rfl rfl rfl neI sz3 rfl rfl rfl ((k165.get H106.next (by omega)).trans ((f159.get H106.next (by omega)).trans ((f154.get H106.next (by omega)).trans ((f149.get H106.next (by omega)).trans hb129)))) rfl rfl) ?_
   intro H174 f175
   refine putL w166 f175 ((k165.get H106.next (by omega)).trans ((f159.get H106.next (by omega)).trans ((f154.get H106.next (by omega)).trans ((f149.get H106.next (by omega)).trans hb129)))) fun n178 w176 l177 => ?_
   refine sv (v:=vP H106.next 1) rfl rfl rfl (opv_fieldAddrE rfl rfl rfl Try.underlying23 rfl sz3 (by decide) rfl) rfl ?_
   refine sv_put (H:=H174) (n:=H106.next) (v:=undef) (x:=some (.row #[vI x170,vI x172] .raw)) rfl rfl rfl rfl (opv_storeC (u:=vI x172) rfl rfl rfl rfl rfl neI sz3 rfl rfl rfl f175.blk rfl rfl) ?_
   intro H179 f180
   refine putL w176 f180 f175.blk fun n183 w181 l182 => ?_
   refine wo_nil ?_
   try refine q_eq (e':=.normal) rfl ?_
   refine ⟨(f180.get (H121.next + 1) (by omega)).trans ((f175.get (H121.next + 1) (by omega)).trans ((k165.get (H121.next + 1) (by omega)).trans f159.blk)),fun H184 => ⟨fun _ f185 => ?_,fun h => absurd rfl h⟩⟩
   replace f185:PutF H179 (H121.next + 1) _ H184:=f185
   have n188:=f185.next
   have w186:=w181.putO f185 ((f180.get (H121.next + 1) (by omega)).trans ((f175.get (H121.next + 1) (by omega)).trans ((k165.get (H121.next + 1) (by omega)).trans f159.blk))) (by simp) (by simp)
   have l187:=Le.putO f185 ((f180.get (H121.next + 1) (by omega)).trans ((f175.get (H121.next + 1) (by omega)).trans ((k165.get (H121.next + 1) (by omega)).trans f159.blk))) (by simp)
   exact ⟨w186,(((((l151.trans l156).trans l161).trans l168).trans l177).trans l182).trans l187,((((((((KeepX.refl (fun m => m=H106.next∨m=H111.next∨m=(H121.next + 1)) A142).new_ f149).put f154 (by first | (right; omega) | (left; (try dsimp only) <;> omega))).put f159 (by first | (right; omega) | (left; (try dsimp only) <;> omega))).keep k165).put f175 (by first | (right; omega) | (left; (try dsimp only) <;> omega))).put f180 (by first | (right; omega) | (left; (try dsimp only) <;> omega))).put f185 (by first | (right; omega) | (left; (try dsimp only) <;> omega))).weak (fun m h => by (try dsimp only at h ⊢); omega),⟨x170,x172,false,(f185.get H106.next (by omega)).trans f180.blk,(f185.get H111.next (by omega)).trans ((f180.get H111.next (by omega)).trans ((f175.get H111.next (by omega)).trans ((k165.get H111.next (by omega)).trans ((f159.get H111.next (by omega)).trans ((f154.get H111.next (by omega)).trans ((f149.get H111.next (by omega)).trans hb130)))))),(by first | exact .inl ⟨rfl,rfl⟩ | exact RI_0 ‹RI _ k0 _ _ true› (by (try dsimp only); omega) (by (try dsimp only); omega) | exact RI_s ‹RI _ k0 _ _ false› (by (try dsimp only); omega) (by (try dsimp only); omega))⟩⟩
  ·
   refine w_cond (t:=true) rfl rfl (fun _ => ?_) (fun h => by cases h)
   refine w_region (mv (vI (f (c0 k0) (c1 k0) (c2 k0) (c3 k0))) rfl rfl ?_)
   refine sc_ (H:=H164) (vs:=[vI (f (c0 k0) (c1 k0) (c2 k0) (c3 k0))]) (fv:=.func (.func 37) #[] #[]) rfl rfl rfl rfl rfl rfl (.cons rfl rfl neI .nil) rfl ?_
   refine WV.mono (wv_f0 Try.call37 (tide_one_ok (f (c0 k0) (c1 k0) (c2 k0) (c3 k0)) _ w166)) ?_
   rintro v190 H191 ⟨k192,w189,rfl⟩
   refine kpL k192 fun n194 l193 => ?_
   refine sv_put (H:=H191) (n:=H106.next) (v:=undef) (x:=some (.row #[vI (f (c0 k0) (c1 k0) (c2 k0) (c3 k0)),vI (f (c0 k0) (c1 k0) (c2 k0) (c3 k0))] .raw)) rfl rfl rfl rfl (opv_storeC (u:=.agg #[vI (f (c0 k0) (c1 k0) (c2 k0) (c3 k0)),vI (f (c0 k0) (c1 k0) (c2 k0) (c3 k0))]) rfl rfl rfl rfl rfl (by simp [undef]) sz23 rfl rfl rfl ((k192.get H106.next (by omega)).trans ((k165.get H106.next (by omega)).trans ((f159.get H106.next (by omega)).trans ((f154.get H106.next (by omega)).trans ((f149.get H106.next (by omega)).trans hb129))))) rfl rfl) ?_
   intro H195 f196
   refine putL w189 f196 ((k192.get H106.next (by omega)).trans ((k165.get H106.next (by omega)).trans ((f159.get H106.next (by omega)).trans ((f154.get H106.next (by omega)).trans ((f149.get H106.next (by omega)).trans hb129))))) fun n199 w197 l198 => ?_
   refine sv_put (H:=H195) (n:=H111.next) (v:=undef) (x:=some (.row #[.bool false] .raw)) rfl rfl rfl rfl (opv_storeC (u:=.bool false) rfl rfl rfl rfl rfl (by simp [undef]) sz4 rfl rfl rfl ((f196.get H111.next (by omega)).trans ((k192.get H111.next (by omega)).trans ((k165.get H111.next (by omega)).trans ((f159.get H111.next (by omega)).trans ((f154.get H111.next (by omega)).trans ((f149.get H111.next (by omega)).trans hb130)))))) rfl rfl) ?_
   intro H200 f201
   refine putL w197 f201 ((f196.get H111.next (by omega)).trans ((k192.get H111.next (by omega)).trans ((k165.get H111.next (by omega)).trans ((f159.get H111.next (by omega)).trans ((f154.get H111.next (by omega)).trans ((f149.get H111.next (by omega)).trans hb130)))))) fun n204 w202 l203 => ?_
   refine wo_nil (tq_n (wk ⟨[(5,vP H106.next 0),(8,vI (f (c0 k0) (c1 k0) (c2 k0) (c3 k0)))],28,[],H200⟩ rfl ?_))
   refine w_region (sv (v:=vP H106.next 0) rfl rfl rfl (opv_fieldAddrE rfl rfl rfl Try.underlying23 rfl sz3 (by decide) rfl) rfl ?_)
   refine sv (v:=vI (f (c0 k0) (c1 k0) (c2 k0) (c3 k0))) rfl rfl rfl (opv_loadE rfl rfl rfl ag3 sz3 ((f201.get H106.next (by omega)).trans f196.blk) rfl (.inr rfl) rfl) rfl ?_
   refine mv (vI (f (c0 k0) (c1 k0) (c2 k0) (c3 k0))) rfl rfl ?_
   refine sv_int rfl rfl rfl (opv_min rfl rfl rfl rfl rfl) ?_
   intro x205 h206
   replace h206:=ite_or h206
   refine sv (v:=vP H106.next 1) rfl rfl rfl (opv_fieldAddrE rfl rfl rfl Try.underlying23 rfl sz3 (by decide) rfl) rfl ?_
   refine sv (v:=vI (f (c0 k0) (c1 k0) (c2 k0) (c3 k0))) rfl rfl rfl (opv_loadE rfl rfl rfl ag3 sz3 ((f201.get H106.next (by omega)).trans f196.blk) rfl (.inr rfl) rfl) rfl ?_
   refine mv (vI (f (c0 k0) (c1 k0) (c2 k0) (c3 k0))) rfl rfl ?_
   refine sv_int rfl rfl rfl (opv_max rfl rfl rfl rfl rfl) ?_
   intro x207 h208
   replace h208:=ite_or h208
   refine sv (v:=vP H106.next 0) rfl rfl rfl (opv_fieldAddrE rfl rfl rfl Try.underlying23 rfl sz3 (by decide) rfl) rfl ?_
   refine sv_put (H:=H200) (n:=H106.next) (v:=undef) (x:=some (.row #[vI x205,vI (f (c0 k0) (c1 k0) (c2 k0) (c3 k0))] .raw)) rfl rfl rfl rfl (opv_storeC (u:=vI x205) rfl rfl rfl rfl rfl neI sz3 rfl rfl rfl ((f201.get H106.next (by omega)).trans f196.blk) rfl rfl) ?_
   intro H209 f210
   refine putL w202 f210 ((f201.get H106.next (by omega)).trans f196.blk) fun n213 w211 l212 => ?_
   refine sv (v:=vP H106.next 1) rfl rfl rfl (opv_fieldAddrE rfl rfl rfl Try.underlying23 rfl sz3 (by decide) rfl) rfl ?_
   refine sv_put (H:=H209) (n:=H106.next) (v:=undef) (x:=some (.row #[vI x205,vI x207] .raw)) rfl rfl rfl rfl (opv_storeC (u:=vI x207) rfl rfl rfl rfl rfl neI sz3 rfl rfl rfl f210.blk rfl rfl) ?_
   intro H214 f215
   refine putL w211 f215 f210.blk fun n218 w216 l217 => ?_
   refine wo_nil ?_
   try refine q_eq (e':=.normal) rfl ?_
   refine ⟨(f215.get (H121.next + 1) (by omega)).trans ((f210.get (H121.next + 1) (by omega)).trans ((f201.get (H121.next + 1) (by omega)).trans ((f196.get (H121.next + 1) (by omega)).trans ((k192.get (H121.next + 1) (by omega)).trans ((k165.get (H121.next + 1) (by omega)).trans f159.blk))))),fun H219 => ⟨fun _ f220 => ?_,fun h => absurd rfl h⟩⟩
   replace f220:PutF H214 (H121.next + 1) _ H219:=f220
   have n223:=f220.next
   have w221:=w216.putO f220 ((f215.get (H121.next + 1) (by omega)).trans ((f210.get (H121.next + 1) (by omega)).trans ((f201.get (H121.next + 1) (by omega)).trans ((f196.get (H121.next + 1) (by omega)).trans ((k192.get (H121.next + 1) (by omega)).trans ((k165.get (H121.next + 1) (by omega)).trans f159.blk)))))) (by simp) (by simp)
   have l222:=Le.putO f220 ((f215.get (H121.next + 1) (by omega)).trans ((f210.get (H121.next + 1) (by omega)).trans ((f201.get (H121.next + 1) (by omega)).trans ((f196.get (H121.next + 1) (by omega)).trans ((k192.get (H121.next + 1) (by omega)).trans ((k165.get (H121.next + 1) (by omega)).trans f159.blk)))))) (by simp)
   exact ⟨w221,((((((((l151.trans l156).trans l161).trans l168).trans l193).trans l198).trans l203).trans l212).trans l217).trans l222,(((((((((((KeepX.refl (fun m => m=H106.next∨m=H111.next∨m=(H121.next + 1)) A142).new_ f149).put f154 (by first | (right; omega) | (left; (try dsimp only) <;> omega))).put f159 (by first | (right; omega) | (left; (try dsimp only) <;> omega))).keep k165).keep k192).put f196 (by first | (right; omega) | (left; (try dsimp only) <;> omega))).put f201 (by first | (right; omega) | (left; (try dsimp only) <;> omega))).put f210 (by first | (right; omega) | (left; (try dsimp only) <;> omega))).put f215 (by first | (right; omega) | (left; (try dsimp only) <;> omega))).put f220 (by first | (right; omega) | (left; (try dsimp only) <;> omega))).weak (fun m h => by (try dsimp only at h ⊢); omega),⟨x205,x207,false,(f220.get H106.next (by omega)).trans f215.blk,(f220.get H111.next (by omega)).trans ((f215.get H111.next (by omega)).trans ((f210.get H111.next (by omega)).trans f201.blk)),(by first | exact .inl ⟨rfl,rfl⟩ | exact RI_0 ‹RI _ k0 _ _ true› (by (try dsimp only); omega) (by (try dsimp only); omega) | exact RI_s ‹RI _ k0 _ _ false› (by (try dsimp only); omega) (by (try dsimp only); omega))⟩⟩
 ·
  rintro H229 w224 l225 k226 n227 hd228 ⟨x126,x127,b128,hb129,hb130,i131⟩
  replace k226:=k226.weak (Y:=fun m => m=H106.next∨m=H111.next) (fun m h => h.elim id False.elim)
  try refine q_eq (e':=.normal) rfl ?_
  refine tqk ⟨[(4,vP H101.next 0),(5,vP H106.next 0)],28,[mark H121.next],H229⟩ rfl ?_
  refine w_seq (w_region (sv (v:=.agg #[vI x126,vI x127]) rfl rfl rfl (opv_loadE rfl rfl rfl ag23 sz23 hb129 rfl (.inl rfl) rfl) rfl ?_))
  refine sv_put (H:=H229) (n:=H101.next) (v:=undef) (x:=some (.row #[vI x126,vI x127] .raw)) rfl rfl rfl rfl (opv_storeC (u:=.agg #[vI x126,vI x127]) rfl rfl rfl rfl rfl (by simp [undef]) sz23 rfl rfl rfl ((k226.get H101.next (by omega) (by (try dsimp only); omega)).trans ((f122.get H101.next (by omega)).trans ((f117.get H101.next (by omega)).trans ((f112.get H101.next (by omega)).trans f107.blk)))) rfl rfl) ?_
  intro H230 f231
  refine putL w224 f231 ((k226.get H101.next (by omega) (by (try dsimp only); omega)).trans ((f122.get H101.next (by omega)).trans ((f117.get H101.next (by omega)).trans ((f112.get H101.next (by omega)).trans f107.blk)))) fun n234 w232 l233 => ?_
  refine wo_nil (tq_n (wk ⟨[(4,vP H101.next 0)],28,[mark H121.next],H230⟩ rfl ?_))
  refine w_ret ?_
  obtain ⟨H235,f236,m237⟩:=marks1 ((f231.get H121.next (by omega)).trans hd228)
  have n240:=f236.next
  have w238:=w232.putO f236 ((f231.get H121.next (by omega)).trans hd228) (by simp) (by simp)
  have l239:=Le.putO f236 ((f231.get H121.next (by omega)).trans hd228) (by simp)
  refine ⟨.inr rfl,H235,[.agg #[vI x126,vI x127]],m237 _ _ .nil,.cons (resV_cellE rfl ag23 sz23 ((f236.get H101.next (by omega)).trans f231.blk) rfl (.inl rfl) rfl) .nil,((((((((((KeepX.refl (fun _ => False) H).new_ f102).new_ f107).new_ f112).new_ f117).put f122 (by first | (right; omega) | (left; (try dsimp only) <;> omega))).trans k226 (by intro m hm; (try simp only [false_or,or_false] at hm ⊢); (try dsimp only at hm ⊢); first | omega | (right; omega) | (left; left; omega) | (left; right; omega))).put f231 (by first | (right; omega) | (left; (try dsimp only) <;> omega))).put f236 (by first | (right; omega) | (left; (try dsimp only) <;> omega))).k (fun _ h => h.elim)),w238,x126,x127,rfl,?_⟩
  · exact RI_end ‹RI _ _ _ _ _› (by decide)

theorem tide_withinE (ax1 ax2:Int) (ax3 ax4 ax5:Int) (as6:Value) (ax7 ax8:Int) (ax9 ax10:Int) (ax11 ax12:Int) (ax13 ax14:Int) (ax15 ax16:Int) (ax17 ax18:Int) (H:SH) (wt:WT H) (hvas6:VT H (.sl false [.int .i64,.int .i64,.int .i64,.int .i64,.int .i64]) as6) (h0:ax10 ≠ 0) (h1:ax11 ≠ 0):WC Try.prog 43 [.agg #[vI ax1,vI ax2,vI ax3,vI ax4,vI ax5,as6,vI ax7,vI ax8,vI ax9],.agg #[vI ax10,vI ax11,vI ax12,vI ax13,vI ax14,vI ax15,vI ax16,vI ax17],vI ax18] H (fun v H' => Keep H H'∧WT H'∧∃ (rb:Bool),v=(.bool rb)∧((rb=true∧(WW ax3 ax4 ax18 ax9 ax10 ax11 ax12 ax13 ax14 ax15 ax16 ax17))∨(rb=false∧¬ (WW ax3 ax4 ax18 ax9 ax10 ax11 ax12 ax13 ax14 ax15 ax16 ax17)))):=by
 refine wc_of_body Try.func43 rfl ?_
 refine wk ⟨[(0,.agg #[vI ax1,vI ax2,vI ax3,vI ax4,vI ax5,as6,vI ax7,vI ax8,vI ax9]),(1,.agg #[vI ax10,vI ax11,vI ax12,vI ax13,vI ax14,vI ax15,vI ax16,vI ax17]),(2,vI ax18)],30,[],H⟩ rfl ?_
 refine w_seq (w_region (sv_new (H:=H) (v:=vP H.next 0) (x:=.row #[vI ax1,vI ax2,vI ax3,vI ax4,vI ax5,as6,vI ax7,vI ax8,vI ax9] .raw) rfl rfl rfl rfl (opv_boxE (v:=.agg #[vI ax1,vI ax2,vI ax3,vI ax4,vI ax5,as6,vI ax7,vI ax8,vI ax9]) rfl rfl rfl (by simp [undef]) rfl) ?_))
 intro H101 f102
 refine newL wt f102 fun n105 w103 l104 => ?_
 refine sv_new (H:=H101) (v:=vP H101.next 0) (x:=.row #[vI ax10,vI ax11,vI ax12,vI ax13,vI ax14,vI ax15,vI ax16,vI ax17] .raw) rfl rfl rfl rfl (opv_boxE (v:=.agg #[vI ax10,vI ax11,vI ax12,vI ax13,vI ax14,vI ax15,vI ax16,vI ax17]) rfl rfl rfl (by simp [undef]) rfl) ?_
 intro H106 f107
 refine newL w103 f107 fun n110 w108 l109 => ?_
 refine mv (.bool false) rfl rfl ?_
 refine wo_nil (tq_n (wk ⟨[(2,vI ax18),(3,vP H.next 0),(4,vP H101.next 0)],30,[],H106⟩ rfl ?_))
 refine w_seq (w_draw_start ?_)
 intro C0
 have C111:=ch_val (i:=0) (p:=0) (ks:=[4]) (v:=.agg #[vI ax10,vI ax11,vI ax12,vI ax13,vI ax14,vI ax15,vI ax16,vI ax17]) (A:=H106) (H:=H106) C0 rfl rfl rfl rfl rfl rfl (opv_loadE rfl rfl rfl ag87 sz87 f107.blk rfl (.inl rfl) rfl)
 obtain ⟨_,H116,k117,⟨w113,r1114,rfl,⟨hb115,_,_⟩⟩,C112⟩:=ch_call (i:=1) (p:=1) (ks:=[8]) (vs:=[.agg #[vI ax10,vI ax11,vI ax12,vI ax13,vI ax14,vI ax15,vI ax16,vI ax17]]) (fv:=.func (.func 41) #[] #[]) (H:=H106) C111 rfl rfl rfl rfl rfl rfl rfl (.cons rfl rfl (by simp [undef]) .nil) rfl (wv_f0 Try.call41 (tide_corners_ok ax10 ax11 ax12 ax13 ax14 ax15 ax16 ax17 _ w108))
 refine kpL k117 fun n119 l118 => ?_
 have C120:=ch_val (i:=2) (p:=0) (ks:=[3]) (v:=.agg #[vI ax1,vI ax2,vI ax3,vI ax4,vI ax5,as6,vI ax7,vI ax8,vI ax9]) (A:=H106) (H:=H116) C112 rfl rfl rfl rfl rfl rfl (opv_loadE rfl rfl rfl ag79 sz79 ((f107.get H.next (by omega)).trans f102.blk) rfl (.inl rfl) rfl)
 have C121:=ch_val (i:=3) (p:=0) (ks:=[2]) (v:=vI ax18) (A:=H106) (H:=H116) C120 rfl rfl rfl rfl rfl rfl (opv_move (.inl rfl) rfl rfl)
 obtain ⟨_,H130,k131,⟨w123,r1124,r2125,r3126,rfl,⟨hb127,_,_⟩,⟨hb128,_,_⟩,⟨hb129,_,_⟩⟩,C122⟩:=ch_call (i:=4) (p:=4) (ks:=[10,11]) (vs:=[.agg #[vI ax1,vI ax2,vI ax3,vI ax4,vI ax5,as6,vI ax7,vI ax8,vI ax9],vI ax18,vI 0]) (fv:=.func (.func 42) #[] #[]) (H:=H116) C121 rfl rfl rfl rfl rfl rfl rfl (.cons rfl rfl (by simp [undef]) (.cons rfl rfl neI (.cons rfl rfl neI .nil))) rfl (wv_f0 Try.call42 (tide_at_ok ax1 ax2 ax3 ax4 ax5 as6 ax7 ax8 ax9 ax18 0 _ w113 (hvas6.mono ((l104.trans l109).trans l118))))
 refine kpL k131 fun n133 l132 => ?_
 have ok154:FnE Try.prog (.func (.func 61) #[] #[vP r1124 0,vP r2125 0,vP r3126 0]) (on4 (atF 0 ax18 ax9)) Pre4 H130:=by
   refine ⟨⟨by simp [undef],rfl,rfl⟩,?_⟩
   intro H135 k136 w137 as144 hp138
   have n145:=k136.next
   have l139:=k136.le
   obtain ⟨x140,x141,x142,x143,rfl,hp138⟩:=hp138
   refine WV.mono (wv_fc (cap:=[vP r1124 0,vP r2125 0,vP r3126 0]) Try.call61 (tide_at1E x140 x141 x142 x143 r1124 r2125 r3126 0 ax18 ax1 ax2 ax3 ax4 ax5 as6 ax7 ax8 ax9 _ w137 (hvas6.mono ((((l104.trans l109).trans l118).trans l132).trans l139)) ((k136.get r1124 (by omega)).trans hb127) (by omega) ((k136.get r2125 (by omega)).trans hb128) (by omega) ((k136.get r3126 (by omega)).trans hb129) (by omega) (by omega))) ?_
   rintro v149 H150 ⟨k151,w146,rr147,rfl,f148⟩
   refine kpL k151 fun n153 l152 => ?_
   refine ⟨k151,w146,?_⟩
   subst_vars; rfl
 obtain ⟨_,H159,k160,⟨w155,rx1156,rx2157,rfl,f158⟩,C134⟩:=ch_call (i:=5) (p:=5) (ks:=[9,12]) (vs:=[.func (.func 60) #[] #[vP r1114 0],.func (.func 61) #[] #[vP r1124 0,vP r2125 0,vP r3126 0]]) (fv:=.func (.func 39) #[] #[]) (H:=H130) C122 rfl rfl rfl rfl rfl rfl rfl (.cons rfl rfl (by simp [undef]) (.cons rfl rfl (by simp [undef]) .nil)) rfl (wv_f0 Try.call39 (tide_reachE (.func (.func 60) #[] #[vP r1114 0]) (.func (.func 61) #[] #[vP r1124 0,vP r2125 0,vP r3126 0]) (cC ax10 ax11 0) (cC ax12 ax13 1) (cC ax14 ax15 2) (cC ax16 ax17 3) (atF 0 ax18 ax9) (fun m => m=r1114) _ w123 (tide_corners_seqE r1114 ax10 ax11 ax12 ax13 ax14 ax15 ax16 ax17 _ w123 ((k131.get r1114 (by omega)).trans hb115) (by omega)) ok154 (fun k hk => by unfold cC; cases cB _ _ <;> (simp only [cond_true,cond_false]; omega))))
 refine kpL k160 fun n162 l161 => ?_
 obtain ⟨H164,f165,C163⟩:=ch_bare (i:=6) (p:=6) (ks:=[]) (v:=vP H159.next 0) (x:=.row #[vI 0,vI 0] .raw) (H:=H159) C134 rfl rfl rfl rfl rfl (opv_alloc rfl ze23 rfl)
 refine newL w155 f165 fun n168 w166 l167 => ?_
 refine w_draw (tl:=[7]) rfl [0,1,0,0,15,31,0,127] C163 (by kernel_rfl) (by kernel_rfl) ?_
 refine wonorm (g:=[(3,vP H.next 0),(7,vP H159.next 0),(13,.agg #[vI rx1156,vI rx2157])]) (n:=30) (ds:=[]) (H:=H164) (lsub_cons rfl (lsub_cons rfl (lsub_cons rfl (lsub_nil _)))) rfl rfl rfl ?_
 refine sv_put (H:=H164) (n:=H159.next) (v:=undef) (x:=some (.row #[vI rx1156,vI rx2157] .raw)) rfl rfl rfl rfl (opv_storeC (u:=.agg #[vI rx1156,vI rx2157]) rfl rfl rfl rfl rfl (by simp [undef]) sz23 rfl rfl rfl f165.blk rfl rfl) ?_
 intro H169 f170
 refine putL w166 f170 f165.blk fun n173 w171 l172 => ?_
 refine wo_nil (tq_n (wk ⟨[(3,vP H.next 0),(7,vP H159.next 0)],30,[],H169⟩ rfl ?_))
 refine w_seq (w_region (sv (v:=vP H159.next 0) rfl rfl rfl (opv_fieldAddrE rfl rfl rfl Try.underlying23 rfl sz3 (by decide) rfl) rfl ?_))
 refine sv (v:=vI rx1156) rfl rfl rfl (opv_loadE rfl rfl rfl ag3 sz3 f170.blk rfl (.inr rfl) rfl) rfl ?_
 refine sv (v:=vP H.next 0) rfl rfl rfl (opv_fieldAddrE rfl rfl rfl Try.underlying79 rfl sz26 (by decide) rfl) rfl ?_
 refine sv (v:=vP H.next 2) rfl rfl rfl (opv_fieldAddrE rfl rfl rfl Try.underlying26 rfl sz23 (by decide) rfl) rfl ?_
 refine sv (v:=vP H.next 2) rfl rfl rfl (opv_fieldAddrE rfl rfl rfl Try.underlying23 rfl sz3 (by decide) rfl) rfl ?_
 refine sv (v:=vI ax3) rfl rfl rfl (opv_loadE rfl rfl rfl ag3 sz3 ((f170.get H.next (by omega)).trans ((f165.get H.next (by omega)).trans ((k160.get H.next (by omega)).trans ((k131.get H.next (by omega)).trans ((k117.get H.next (by omega)).trans ((f107.get H.next (by omega)).trans f102.blk)))))) rfl (.inr rfl) rfl) rfl ?_
 by_cases c174:rx1156 ≥ ax3
 ·
  refine sv (v:=.bool true) rfl rfl rfl (opv_bin rfl rfl rfl rfl rfl (cmpT rfl c174)) rfl ?_
  refine mv (.bool true) rfl rfl ?_
  refine sv (v:=vP H159.next 1) rfl (wants_g rfl rfl rfl rfl rfl) rfl (opv_fieldAddrE rfl rfl rfl Try.underlying23 rfl sz3 (by decide) rfl) rfl ?_
  refine sv (v:=vI rx2157) rfl (wants_g rfl rfl rfl rfl rfl) rfl (opv_loadE rfl rfl rfl ag3 sz3 f170.blk rfl (.inr rfl) rfl) rfl ?_
  refine sv (v:=vP H.next 0) rfl (wants_g rfl rfl rfl rfl rfl) rfl (opv_fieldAddrE rfl rfl rfl Try.underlying79 rfl sz26 (by decide) rfl) rfl ?_
  refine sv (v:=vP H.next 2) rfl (wants_g rfl rfl rfl rfl rfl) rfl (opv_fieldAddrE rfl rfl rfl Try.underlying26 rfl sz23 (by decide) rfl) rfl ?_
  refine sv (v:=vP H.next 3) rfl (wants_g rfl rfl rfl rfl rfl) rfl (opv_fieldAddrE rfl rfl rfl Try.underlying23 rfl sz3 (by decide) rfl) rfl ?_
  refine sv (v:=vI ax4) rfl (wants_g rfl rfl rfl rfl rfl) rfl (opv_loadE rfl rfl rfl ag3 sz3 ((f170.get H.next (by omega)).trans ((f165.get H.next (by omega)).trans ((k160.get H.next (by omega)).trans ((k131.get H.next (by omega)).trans ((k117.get H.next (by omega)).trans ((f107.get H.next (by omega)).trans f102.blk)))))) rfl (.inr rfl) rfl) rfl ?_
  by_cases c175:rx2157 ≤ ax4
  ·
   refine sv (v:=.bool true) rfl (wants_g rfl rfl rfl rfl rfl) rfl (opv_bin rfl rfl rfl rfl rfl (cmpT rfl c175)) rfl ?_
   refine sv (v:=.bool true) rfl rfl rfl (opv_pick (b:=true) rfl rfl rfl rfl rfl rfl) rfl ?_
   refine mv (.bool true) rfl rfl ?_
   refine wo_nil (tq_n (wk ⟨[(6,.bool true)],30,[],H169⟩ rfl ?_))
   refine w_ret ?_
   refine ⟨.inr rfl,rfl,[.bool true],.cons (resV_tmp rfl (by simp [undef])) .nil,(((((((((KeepX.refl (fun _ => False) H).new_ f102).new_ f107).keep k117).keep k131).keep k160).new_ f165).put f170 (by first | (right; omega) | (left; (try dsimp only) <;> omega))).k (fun _ h => h.elim)),w171,true,rfl,(.inl ⟨rfl,(WW_of ‹RB _ _ _ _›).2 ⟨by omega,by omega⟩⟩)⟩
  ·
   refine sv (v:=.bool false) rfl (wants_g rfl rfl rfl rfl rfl) rfl (opv_bin rfl rfl rfl rfl rfl (cmpF rfl c175)) rfl ?_
   refine sv (v:=.bool false) rfl rfl rfl (opv_pick (b:=true) rfl rfl rfl rfl rfl rfl) rfl ?_
   refine mv (.bool false) rfl rfl ?_
   refine wo_nil (tq_n (wk ⟨[(6,.bool false)],30,[],H169⟩ rfl ?_))
   refine w_ret ?_
   refine ⟨.inr rfl,rfl,[.bool false],.cons (resV_tmp rfl (by simp [undef])) .nil,(((((((((KeepX.refl (fun _ => False) H).new_ f102).new_ f107).keep k117).keep k131).keep k160).new_ f165).put f170 (by first | (right; omega) | (left; (try dsimp only) <;> omega))).k (fun _ h => h.elim)),w171,false,rfl,(.inr ⟨rfl,(fun h => by have:=(WW_of ‹RB _ _ _ _›).1 h; omega)⟩)⟩
 ·
  refine sv (v:=.bool false) rfl rfl rfl (opv_bin rfl rfl rfl rfl rfl (cmpF rfl c174)) rfl ?_
  refine mv (.bool false) rfl rfl ?_
  refine ss rfl (wants_g rfl rfl rfl rfl rfl) rfl rfl ?_
  refine ss rfl (wants_g rfl rfl rfl rfl rfl) rfl rfl ?_
  refine ss rfl (wants_g rfl rfl rfl rfl rfl) rfl rfl ?_
  refine ss rfl (wants_g rfl rfl rfl rfl rfl) rfl rfl ?_
  refine ss rfl (wants_g rfl rfl rfl rfl rfl) rfl rfl ?_
  refine ss rfl (wants_g rfl rfl rfl rfl rfl) rfl rfl ?_
  refine ss rfl (wants_g rfl rfl rfl rfl rfl) rfl rfl ?_
  refine sv (v:=.bool false) rfl rfl rfl (opv_pick (b:=false) rfl rfl rfl rfl rfl rfl) rfl ?_
  refine mv (.bool false) rfl rfl ?_
  refine wo_nil (tq_n (wk ⟨[(6,.bool false)],30,[],H169⟩ rfl ?_))
  refine w_ret ?_
  refine ⟨.inr rfl,rfl,[.bool false],.cons (resV_tmp rfl (by simp [undef])) .nil,(((((((((KeepX.refl (fun _ => False) H).new_ f102).new_ f107).keep k117).keep k131).keep k160).new_ f165).put f170 (by first | (right; omega) | (left; (try dsimp only) <;> omega))).k (fun _ h => h.elim)),w171,false,rfl,(.inr ⟨rfl,(fun h => by have:=(WW_of ‹RB _ _ _ _›).1 h; omega)⟩)⟩
end Go.Proofs.Orl

namespace Go.Proofs.Orl
open Go
set_option maxRecDepth 10000
set_option maxHeartbeats 4000000
theorem ag59:aggT Try.prog 59=some true:=by kernel_rfl
theorem pl59:placesT Try.prog 59=some [(0,1),(1,1),(2,1),(3,1)]:=by kernel_rfl
theorem sz59:szT Try.prog 59=some 4:=by kernel_rfl
theorem tin59:Try.prog.info? 59=some Try.t59:=by kernel_rfl
theorem ze59:zeroT Try.prog 59=some (.agg #[vI 0,vI 0,vI 0,vI 0]):=by kernel_rfl
theorem tide_Misses_ok (ax1 ax2:Int) (ax3 ax4 ax5:Int) (as6:Value) (ax7 ax8:Int) (ax9 ax10 ax11:Int) (H:SH) (wt:WT H) (hvas6:VT H (.sl false [.int .i64,.int .i64,.int .i64,.int .i64,.int .i64]) as6):WC Try.prog 24 [.agg #[vI ax1,vI ax2,vI ax3,vI ax4,vI ax5,as6],.agg #[vI ax7,vI ax8,vI ax9],vI ax10,vI ax11] H (fun v H' => Keep H H'∧WT H'∧∃ (rx12 rx13:Int) (rx14 rx15:Int) (rx16 rx17:Int),v=(.tuple #[.agg #[vI rx12,vI rx13,vI rx14,vI rx15],vI rx16,vI rx17])):=by
 refine wc_of_body Try.func24 rfl ?_
 refine wk ⟨[(0,.agg #[vI ax1,vI ax2,vI ax3,vI ax4,vI ax5,as6]),(1,.agg #[vI ax7,vI ax8,vI ax9]),(2,vI ax10),(3,vI ax11)],77,[],H⟩ rfl ?_
 refine w_seq (w_region (sv_new (H:=H) (v:=vP H.next 0) (x:=.row #[vI ax1,vI ax2,vI ax3,vI ax4,vI ax5,as6] .raw) rfl rfl rfl rfl (opv_boxE (v:=.agg #[vI ax1,vI ax2,vI ax3,vI ax4,vI ax5,as6]) rfl rfl rfl (by simp [undef]) rfl) ?_))
 intro H101 f102
 refine newL wt f102 fun n105 w103 l104 => ?_
 refine sv_new (H:=H101) (v:=vP H101.next 0) (x:=.row #[vI ax7,vI ax8,vI ax9] .raw) rfl rfl rfl rfl (opv_boxE (v:=.agg #[vI ax7,vI ax8,vI ax9]) rfl rfl rfl (by simp [undef]) rfl) ?_
 intro H106 f107
 refine newL w103 f107 fun n110 w108 l109 => ?_
 refine sv_new (H:=H106) (v:=vP H106.next 0) (x:=.row #[vI 0,vI 0,vI 0,vI 0] .raw) rfl rfl rfl rfl (opv_alloc rfl ze59 rfl) ?_
 intro H111 f112
 refine newL w108 f112 fun n115 w113 l114 => ?_
 refine mv (vI 0) rfl rfl ?_
 refine mv (vI 0) rfl rfl ?_
 refine wo_nil (tq_n (wk ⟨[(2,vI ax10),(3,vI ax11),(4,vP H.next 0),(5,vP H101.next 0),(8,vP H106.next 0)],77,[],H111⟩ rfl ?_))
 refine w_scope (w_seq (w_region (sv (v:=.agg #[vI ax1,vI ax2,vI ax3,vI ax4,vI ax5,as6]) rfl rfl rfl (opv_loadE rfl rfl rfl ag26 sz26 ((f112.get H.next (by omega)).trans ((f107.get H.next (by omega)).trans f102.blk)) rfl (.inl rfl) rfl) rfl ?_)))
 refine sv (v:=.agg #[vI ax7,vI ax8,vI ax9]) rfl rfl rfl (opv_loadE rfl rfl rfl ag28 sz28 ((f112.get H101.next (by omega)).trans f107.blk) rfl (.inl rfl) rfl) rfl ?_
 refine mv (vI ax10) rfl rfl ?_
 refine mv (vI ax11) rfl rfl ?_
 refine sc_ (H:=H111) (vs:=[.agg #[vI ax1,vI ax2,vI ax3,vI ax4,vI ax5,as6],.agg #[vI ax7,vI ax8,vI ax9],vI ax10,vI ax11]) (fv:=.func (.func 38) #[] #[]) rfl rfl rfl rfl rfl rfl (.cons rfl rfl (by simp [undef]) (.cons rfl rfl (by simp [undef]) (.cons rfl rfl neI (.cons rfl rfl neI .nil)))) rfl ?_
 refine WV.mono (wv_f0 Try.call38 (tide_open_ok ax1 ax2 ax3 ax4 ax5 as6 ax7 ax8 ax9 ax10 ax11 _ w113 (hvas6.mono ((l104.trans l109).trans l114)))) ?_
 rintro v120 H121 ⟨k122,w116,rx21117,rfl,f118,f119⟩
 refine kpL k122 fun n124 l123 => ?_
 have g125:rx21117=0→∀ k:Nat,k < slen as6→-1000000 ≤ elI H as6 (k * 5 + 1)∧elI H as6 (k * 5 + 2) ≤ 1000000∧-1000000 ≤ elI H as6 (k * 5 + 3)∧elI H as6 (k * 5 + 4) ≤ 1000000:=fun hc k hk => by have:=f119 hc k hk; simp only [elI_keep (((((KeepX.refl (fun _ => False) H).new_ f102).new_ f107).new_ f112).k (fun _ h => h.elim)) hvas6] at this; exact this
 refine mv (.tuple #[.agg #[vI ax1,vI ax2,vI ax3,vI ax4,vI ax5,as6,vI ax7,vI ax8,vI ax9],vI rx21117]) rfl rfl ?_
 refine sv (v:=.agg #[vI ax1,vI ax2,vI ax3,vI ax4,vI ax5,as6,vI ax7,vI ax8,vI ax9]) rfl rfl rfl (opv_extract rfl rfl rfl rfl) rfl ?_
 refine sv (v:=vI rx21117) rfl rfl rfl (opv_extract rfl rfl rfl rfl) rfl ?_
 refine sv_new (H:=H121) (v:=vP H121.next 0) (x:=.row #[vI 0,vI 0,vI 0,vI 0,vI 0,.slice none 0 0,vI 0,vI 0,vI 0] .raw) rfl rfl rfl rfl (opv_alloc rfl ze79 rfl) ?_
 intro H126 f127
 refine newL w116 f127 fun n130 w128 l129 => ?_
 refine sv_put (H:=H126) (n:=H121.next) (v:=undef) (x:=some (.row #[vI ax1,vI ax2,vI ax3,vI ax4,vI ax5,as6,vI ax7,vI ax8,vI ax9] .raw)) rfl rfl rfl rfl (opv_storeC (u:=.agg #[vI ax1,vI ax2,vI ax3,vI ax4,vI ax5,as6,vI ax7,vI ax8,vI ax9]) rfl rfl rfl rfl rfl (by simp [undef]) sz79 rfl rfl (leafs_of (l:=[vI ax1,vI ax2,vI ax3,vI ax4,vI ax5,as6,vI ax7,vI ax8,vI ax9]) ⟨rfl,rfl,rfl,rfl,rfl,vt_one (hvas6.mono ((((l104.trans l109).trans l114).trans l123).trans l129)),rfl,rfl,rfl,trivial⟩) f127.blk rfl rfl) ?_
 intro H131 f132
 refine putL w128 f132 f127.blk fun n135 w133 l134 => ?_
 refine mv (vI rx21117) rfl rfl ?_
 refine wo_nil (tq_n (wk ⟨[(2,vI ax10),(3,vI ax11),(8,vP H106.next 0),(10,vI rx21117),(11,vP H121.next 0)],77,[],H131⟩ rfl ?_))
 refine w_seq (w_seq (w_region (mv (vI rx21117) rfl rfl ?_)))
 by_cases c136:rx21117=0
 ·
  refine sv (v:=.bool false) rfl rfl rfl (opv_bin rfl rfl rfl rfl rfl (neF c136)) rfl ?_
  refine wo_nil (tq_n (wk ⟨[(2,vI ax10),(3,vI ax11),(8,vP H106.next 0),(10,vI rx21117),(11,vP H121.next 0),(26,.bool false)],77,[],H131⟩ rfl ?_))
  refine w_cond (t:=false) rfl rfl (fun h => by cases h) (fun _ => ?_)
  refine w_skip (tq_n (wk ⟨[(2,vI ax10),(3,vI ax11),(8,vP H106.next 0),(11,vP H121.next 0)],77,[],H131⟩ rfl ?_))
  refine w_seq (w_region (sv (v:=.agg #[vI ax1,vI ax2,vI ax3,vI ax4,vI ax5,as6,vI ax7,vI ax8,vI ax9]) rfl rfl rfl (opv_loadE rfl rfl rfl ag79 sz79 f132.blk rfl (.inl rfl) rfl) rfl ?_))
  refine mv (vI ax10) rfl rfl ?_
  refine sc_ (H:=H131) (vs:=[.agg #[vI ax1,vI ax2,vI ax3,vI ax4,vI ax5,as6,vI ax7,vI ax8,vI ax9],vI ax10]) (fv:=.func (.func 40) #[] #[]) rfl rfl rfl rfl rfl rfl (.cons rfl rfl (by simp [undef]) (.cons rfl rfl neI .nil)) rfl ?_
  refine WV.mono (wv_f0 Try.call40 (tide_box2_ok ax1 ax2 ax3 ax4 ax5 as6 ax7 ax8 ax9 ax10 _ w133 (hvas6.mono (((((l104.trans l109).trans l114).trans l123).trans l129).trans l134)) (by omega) (by omega) (fun k hk => by have:=g125 (by omega) k (by omega); simp only [elI_keep ((((((((KeepX.refl (fun _ => False) H).new_ f102).new_ f107).new_ f112).keep k122).new_ f127).put f132 (by first | (right; omega) | (left; (try dsimp only) <;> omega))).k (fun _ h => h.elim)) hvas6]; exact this))) ?_
  rintro v143 H144 ⟨k145,w137,rx0138,rx1139,rx2140,rx3141,rfl,f142⟩
  refine kpL k145 fun n147 l146 => ?_
  refine sv_new (H:=H144) (v:=vP H144.next 0) (x:=.row #[vI 0,vI 0,vI 0,vI 0,vI 0,vI 0,vI 0,vI 0] .raw) rfl rfl rfl rfl (opv_alloc rfl ze87 rfl) ?_
  intro H148 f149
  refine newL w137 f149 fun n152 w150 l151 => ?_
  refine sv_put (H:=H148) (n:=H144.next) (v:=undef) (x:=some (.row #[vI ax1,vI ax2,vI ax7,vI ax8,vI rx0138,vI rx1139,vI rx2140,vI rx3141] .raw)) rfl rfl rfl rfl (opv_storeC (u:=.agg #[vI ax1,vI ax2,vI ax7,vI ax8,vI rx0138,vI rx1139,vI rx2140,vI rx3141]) rfl rfl rfl rfl rfl (by simp [undef]) sz87 rfl rfl rfl f149.blk rfl rfl) ?_
  intro H153 f154
  refine putL w150 f154 f149.blk fun n157 w155 l156 => ?_
  refine wo_nil (tq_n (wk ⟨[(3,vI ax11),(8,vP H106.next 0),(11,vP H121.next 0),(12,vP H144.next 0)],77,[],H153⟩ rfl ?_))
  refine w_seq (w_seq (w_region (sv (v:=.agg #[vI ax1,vI ax2,vI ax3,vI ax4,vI ax5,as6,vI ax7,vI ax8,vI ax9]) rfl rfl rfl (opv_loadE rfl rfl rfl ag79 sz79 ((f154.get H121.next (by omega)).trans ((f149.get H121.next (by omega)).trans ((k145.get H121.next (by omega)).trans f132.blk))) rfl (.inl rfl) rfl) rfl ?_)))
  refine sv (v:=.agg #[vI ax1,vI ax2,vI ax7,vI ax8,vI rx0138,vI rx1139,vI rx2140,vI rx3141]) rfl rfl rfl (opv_loadE rfl rfl rfl ag87 sz87 f154.blk rfl (.inl rfl) rfl) rfl ?_
  refine mv (vI ax11) rfl rfl ?_
  refine sc_ (H:=H153) (vs:=[.agg #[vI ax1,vI ax2,vI ax3,vI ax4,vI ax5,as6,vI ax7,vI ax8,vI ax9],.agg #[vI ax1,vI ax2,vI ax7,vI ax8,vI rx0138,vI rx1139,vI rx2140,vI rx3141],vI ax11]) (fv:=.func (.func 43) #[] #[]) rfl rfl rfl rfl rfl rfl (.cons rfl rfl (by simp [undef]) (.cons rfl rfl (by simp [undef]) (.cons rfl rfl neI .nil))) rfl ?_
  refine WV.mono (wv_f0 Try.call43 (tide_withinE ax1 ax2 ax3 ax4 ax5 as6 ax7 ax8 ax9 ax1 ax2 ax7 ax8 rx0138 rx1139 rx2140 rx3141 ax11 _ w155 (hvas6.mono ((((((((l104.trans l109).trans l114).trans l123).trans l129).trans l134).trans l146).trans l151).trans l156)) (by omega) (by omega))) ?_
  rintro v161 H162 ⟨k163,w158,rb159,rfl,f160⟩
  refine kpL k163 fun n165 l164 => ?_
  refine wo_nil (tq_n (wk ⟨[(3,vI ax11),(8,vP H106.next 0),(11,vP H121.next 0),(12,vP H144.next 0),(35,.bool rb159)],77,[],H162⟩ rfl ?_))
  rcases f160 with ⟨rfl,f160⟩ | ⟨rfl,f160⟩
  ·
   refine w_cond (t:=true) rfl rfl (fun _ => ?_) (fun h => by cases h)
   refine w_seq (w_region (sv (v:=.agg #[vI 0,vI 0,vI 0,vI 0]) rfl rfl rfl (opv_loadE rfl rfl rfl ag59 sz59 ((k163.get H106.next (by omega)).trans ((f154.get H106.next (by omega)).trans ((f149.get H106.next (by omega)).trans ((k145.get H106.next (by omega)).trans ((f132.get H106.next (by omega)).trans ((f127.get H106.next (by omega)).trans ((k122.get H106.next (by omega)).trans f112.blk))))))) rfl (.inl rfl) rfl) rfl ?_))
   refine sv_put (H:=H162) (n:=H106.next) (v:=undef) (x:=some (.row #[vI 0,vI 0,vI 0,vI 0] .raw)) rfl rfl rfl rfl (opv_storeC (u:=.agg #[vI 0,vI 0,vI 0,vI 0]) rfl rfl rfl rfl rfl (by simp [undef]) sz59 rfl rfl rfl ((k163.get H106.next (by omega)).trans ((f154.get H106.next (by omega)).trans ((f149.get H106.next (by omega)).trans ((k145.get H106.next (by omega)).trans ((f132.get H106.next (by omega)).trans ((f127.get H106.next (by omega)).trans ((k122.get H106.next (by omega)).trans f112.blk))))))) rfl rfl) ?_
   intro H166 f167
   refine putL w158 f167 ((k163.get H106.next (by omega)).trans ((f154.get H106.next (by omega)).trans ((f149.get H106.next (by omega)).trans ((k145.get H106.next (by omega)).trans ((f132.get H106.next (by omega)).trans ((f127.get H106.next (by omega)).trans ((k122.get H106.next (by omega)).trans f112.blk))))))) fun n170 w168 l169 => ?_
   refine mv (vI 0) rfl rfl ?_
   refine mv (vI 9) rfl rfl ?_
   refine wo_nil (tq_n (wk ⟨[(8,vP H106.next 0),(9,vI 0),(10,vI 9)],77,[],H166⟩ rfl ?_))
   refine w_ret (tq_r (⟨rfl,?_⟩))
   refine ⟨.inr rfl,rfl,[.agg #[vI 0,vI 0,vI 0,vI 0],vI 0,vI 9],.cons (resV_cellE rfl ag59 sz59 f167.blk rfl (.inl rfl) rfl) (.cons (resV_tmp rfl neI) (.cons (resV_tmp rfl neI) .nil)),(((((((((((((KeepX.refl (fun _ => False) H).new_ f102).new_ f107).new_ f112).keep k122).new_ f127).put f132 (by first | (right; omega) | (left; (try dsimp only) <;> omega))).keep k145).new_ f149).put f154 (by first | (right; omega) | (left; (try dsimp only) <;> omega))).keep k163).put f167 (by first | (right; omega) | (left; (try dsimp only) <;> omega))).k (fun _ h => h.elim)),w168,0,0,0,0,0,9,rfl⟩
  ·
   refine w_cond (t:=false) rfl rfl (fun h => by cases h) (fun _ => ?_)
   refine w_skip (tq_n (wk ⟨[(3,vI ax11),(8,vP H106.next 0),(11,vP H121.next 0),(12,vP H144.next 0)],77,[],H162⟩ rfl ?_))
   refine w_seq (w_region (sv_new (H:=H162) (v:=vP H162.next 0) (x:=.row #[vI 0,vI 0,vI 0,vI 0] .raw) rfl rfl rfl rfl (opv_alloc rfl ze83 rfl) ?_))
   intro H171 f172
   refine newL w158 f172 fun n175 w173 l174 => ?_
   refine wo_nil (tq_n (wk ⟨[(3,vI ax11),(8,vP H106.next 0),(11,vP H121.next 0),(12,vP H144.next 0),(13,vP H162.next 0)],77,[],H171⟩ rfl ?_))
   refine w_seq (w_label ?_)
   refine tqk ⟨[(3,vI ax11),(8,vP H106.next 0),(11,vP H121.next 0),(12,vP H144.next 0),(13,vP H162.next 0)],77,[],H171⟩ rfl ?_
   refine w_seq (w_seq (w_region (sv (v:=.agg #[vI ax1,vI ax2,vI ax7,vI ax8,vI rx0138,vI rx1139,vI rx2140,vI rx3141]) rfl rfl rfl (opv_loadE rfl rfl rfl ag87 sz87 ((f172.get H144.next (by omega)).trans ((k163.get H144.next (by omega)).trans f154.blk)) rfl (.inl rfl) rfl) rfl ?_)))
   refine mv (vI 0) rfl rfl ?_
   refine wo_nil (tq_n (wk ⟨[(3,vI ax11),(8,vP H106.next 0),(11,vP H121.next 0),(12,vP H144.next 0),(13,vP H162.next 0),(37,.agg #[vI ax1,vI ax2,vI ax7,vI ax8,vI rx0138,vI rx1139,vI rx2140,vI rx3141]),(38,vI 0)],77,[],H171⟩ rfl ?_))
   refine w_block (w_loopS (fun m202 s203 => ∃ (x176 x177:Int) (x178 x179:Int) (x180 x181:Int) (x182 x183:Int) (x184 x185:Int) (x186 x187 x188:Int) (H189:SH),(0 ≤ x176)∧(x176 ≤ 4)∧(x177 ≠ 0)∧(x178 ≠ 0)∧(x176=0→x177=ax1∧x178=ax2)∧(x176=0→¬ WW ax3 ax4 ax11 ax9 x177 x178 x179 x180 x181 x182 x183 x184)∧(x176=0∨x185 ≠ 0)∧H189.get H144.next=some (.row #[vI x177,vI x178,vI x179,vI x180,vI x181,vI x182,vI x183,vI x184] .raw)∧H189.get H162.next=some (.row #[vI x185,vI x186,vI x187,vI x188] .raw)∧WT H189∧Le H171 H189∧KeepX (fun m => m=H144.next∨m=H162.next) H171 H189∧m202=((4:Int) - x176).toNat∧s203=⟨[(3,vI ax11),(8,vP H106.next 0),(11,vP H121.next 0),(12,vP H144.next 0),(13,vP H162.next 0),(37,.agg #[vI ax1,vI ax2,vI ax7,vI ax8,vI rx0138,vI rx1139,vI rx2140,vI rx3141]),(38,vI x176)],77,[],H189⟩) (n:=((4:Int) - 0).toNat) ⟨⟨[(3,vI ax11),(8,vP H106.next 0),(11,vP H121.next 0),(12,vP H144.next 0),(13,vP H162.next 0),(37,.agg #[vI ax1,vI ax2,vI ax7,vI ax8,vI rx0138,vI rx1139,vI rx2140,vI rx3141]),(38,vI 0)],77,[],H171⟩,subk rfl,0,ax1,ax2,ax7,ax8,rx0138,rx1139,rx2140,rx3141,0,0,0,0,H171,by omega,by omega,by omega,by omega,by omega,(fun hz => by first | exact ‹¬ WW _ _ _ _ _ _ _ _ _ _ _ _› | (exfalso; omega)),by omega,(f172.get H144.next (by omega)).trans ((k163.get H144.next (by omega)).trans f154.blk),f172.blk,w173,Le.refl _,KeepX.refl (fun m => m=H144.next∨m=H162.next) H171,rfl,rfl⟩ ?_)
   rintro m202 s203 ⟨x176,x177,x178,x179,x180,x181,x182,x183,x184,x185,x186,x187,x188,H189,i190,i191,i192,i193,i194,i195,i196,hb197,hb198,w199,l200,k201,rfl,rfl⟩
   have n204:=k201.next
   refine w_seq (w_region ?_)
   by_cases c205:x176 < 4
   ·
    refine sv (v:=.bool true) rfl rfl rfl (opv_bin rfl rfl rfl rfl rfl (cmpT rfl c205)) rfl ?_
    refine wo_nil (tq_n (wk ⟨[(3,vI ax11),(8,vP H106.next 0),(11,vP H121.next 0),(12,vP H144.next 0),(13,vP H162.next 0),(37,.agg #[vI ax1,vI ax2,vI ax7,vI ax8,vI rx0138,vI rx1139,vI rx2140,vI rx3141]),(38,vI x176),(39,.bool true)],77,[],H189⟩ rfl ?_))
    refine w_seq (w_cond (t:=true) rfl rfl (fun _ => ?_) (fun h => by cases h))
    refine w_skip (tq_n (wk ⟨[(3,vI ax11),(8,vP H106.next 0),(11,vP H121.next 0),(12,vP H144.next 0),(13,vP H162.next 0),(37,.agg #[vI ax1,vI ax2,vI ax7,vI ax8,vI rx0138,vI rx1139,vI rx2140,vI rx3141]),(38,vI x176)],77,[],H189⟩ rfl ?_))
    refine w_seq (w_block (w_seq (w_region (mv (vI x176) rfl rfl ?_))))
    have q206:x176=0∨x176=1∨x176=2∨x176=3:=by omega
    rcases q206 with rfl | rfl | rfl | rfl
    ·
     refine sv (v:=.agg #[vI ax1,vI ax2]) rfl rfl rfl (opv_indexArrE rfl rfl rfl rfl rfl Try.underlying87 ag23 sz23 (by decide) (by decide) (.inl rfl) rfl) rfl ?_
     refine sv_new (H:=H189) (v:=vP H189.next 0) (x:=.row #[vI 0,vI 0] .raw) rfl rfl rfl rfl (opv_alloc rfl ze23 rfl) ?_
     intro H207 f208
     refine newL w199 f208 fun n211 w209 l210 => ?_
     refine mv (vI 0) rfl rfl ?_
     refine sv_put (H:=H207) (n:=H189.next) (v:=undef) (x:=some (.row #[vI ax1,vI ax2] .raw)) rfl rfl rfl rfl (opv_storeC (u:=.agg #[vI ax1,vI ax2]) rfl rfl rfl rfl rfl (by simp [undef]) sz23 rfl rfl rfl f208.blk rfl rfl) ?_
     intro H212 f213
     refine putL w209 f213 f208.blk fun n216 w214 l215 => ?_
     refine wo_nil (tq_n (wk ⟨[(3,vI ax11),(8,vP H106.next 0),(11,vP H121.next 0),(12,vP H144.next 0),(13,vP H162.next 0),(14,vI 0),(15,vP H189.next 0),(37,.agg #[vI ax1,vI ax2,vI ax7,vI ax8,vI rx0138,vI rx1139,vI rx2140,vI rx3141]),(38,vI 0)],77,[],H212⟩ rfl ?_))
     refine w_seq (w_region (sv (v:=vP H189.next 0) rfl rfl rfl (opv_fieldAddrE rfl rfl rfl Try.underlying23 rfl sz3 (by decide) rfl) rfl ?_))
     refine sv (v:=vI ax1) rfl rfl rfl (opv_loadE rfl rfl rfl ag3 sz3 f213.blk rfl (.inr rfl) rfl) rfl ?_
     refine mv (vI ax1) rfl rfl ?_
     refine wo_nil (tq_n (wk ⟨[(3,vI ax11),(8,vP H106.next 0),(11,vP H121.next 0),(12,vP H144.next 0),(13,vP H162.next 0),(14,vI 0),(15,vP H189.next 0),(16,vI ax1),(37,.agg #[vI ax1,vI ax2,vI ax7,vI ax8,vI rx0138,vI rx1139,vI rx2140,vI rx3141]),(38,vI 0)],77,[],H212⟩ rfl ?_))
     refine w_block (w_loopS (fun m231 s232 => ∃ (x217 x218:Int) (x219 x220:Int) (H221:SH),(ax1 ≤ x217)∧(x218 ≠ 0)∧(x219 ≠ 0)∧(∀ n:Int,ax1 ≤ n→n < x217→WW ax3 ax4 ax11 ax9 n n x179 x180 x181 x182 x183 x184)∧H221.get H144.next=some (.row #[vI x218,vI x219,vI x179,vI x180,vI x181,vI x182,vI x183,vI x184] .raw)∧H221.get H162.next=some (.row #[vI x220,vI x186,vI x187,vI x188] .raw)∧WT H221∧Le H212 H221∧KeepX (fun m => m=H144.next∨m=H162.next) H212 H221∧m231=(ax2 + 1 - x217).toNat∧s232=⟨[(3,vI ax11),(8,vP H106.next 0),(11,vP H121.next 0),(12,vP H144.next 0),(13,vP H162.next 0),(14,vI 0),(15,vP H189.next 0),(16,vI x217),(37,.agg #[vI ax1,vI ax2,vI ax7,vI ax8,vI rx0138,vI rx1139,vI rx2140,vI rx3141]),(38,vI 0)],77,[],H221⟩) (n:=(ax2 + 1 - ax1).toNat) ⟨⟨[(3,vI ax11),(8,vP H106.next 0),(11,vP H121.next 0),(12,vP H144.next 0),(13,vP H162.next 0),(14,vI 0),(15,vP H189.next 0),(16,vI ax1),(37,.agg #[vI ax1,vI ax2,vI ax7,vI ax8,vI rx0138,vI rx1139,vI rx2140,vI rx3141]),(38,vI 0)],77,[],H212⟩,subk rfl,ax1,x177,x178,x185,H212,by omega,by omega,by omega,(fun n h1 h2 => by first | (exfalso; omega) | (by_cases hc:n < x217; exact x n h1 hc; obtain rfl:n=x217:=(by omega); assumption)),(f213.get H144.next (by omega)).trans ((f208.get H144.next (by omega)).trans hb197),(f213.get H162.next (by omega)).trans ((f208.get H162.next (by omega)).trans hb198),w214,Le.refl _,KeepX.refl (fun m => m=H144.next∨m=H162.next) H212,rfl,rfl⟩ ?_)
     rintro m231 s232 ⟨x217,x218,x219,x220,H221,i222,i223,i224,i225,hb226,hb227,w228,l229,k230,rfl,rfl⟩
     have n233:=k230.next
     refine w_seq (w_seq (w_region (mv (vI x217) rfl rfl ?_)))
     refine sv (v:=vP H189.next 1) rfl rfl rfl (opv_fieldAddrE rfl rfl rfl Try.underlying23 rfl sz3 (by decide) rfl) rfl ?_
     refine sv (v:=vI ax2) rfl rfl rfl (opv_loadE rfl rfl rfl ag3 sz3 ((k230.get H189.next (by omega) (by (try dsimp only); omega)).trans f213.blk) rfl (.inr rfl) rfl) rfl ?_
     by_cases c234:x217 ≤ ax2
     ·
      refine sv (v:=.bool true) rfl rfl rfl (opv_bin rfl rfl rfl rfl rfl (cmpT rfl c234)) rfl ?_
      refine wo_nil (tq_n (wk ⟨[(3,vI ax11),(8,vP H106.next 0),(11,vP H121.next 0),(12,vP H144.next 0),(13,vP H162.next 0),(14,vI 0),(15,vP H189.next 0),(16,vI x217),(37,.agg #[vI ax1,vI ax2,vI ax7,vI ax8,vI rx0138,vI rx1139,vI rx2140,vI rx3141]),(38,vI 0),(47,.bool true)],77,[],H221⟩ rfl ?_))
      refine w_cond (t:=true) rfl rfl (fun _ => ?_) (fun h => by cases h)
      refine w_skip (tq_n (wk ⟨[(3,vI ax11),(8,vP H106.next 0),(11,vP H121.next 0),(12,vP H144.next 0),(13,vP H162.next 0),(14,vI 0),(15,vP H189.next 0),(16,vI x217),(37,.agg #[vI ax1,vI ax2,vI ax7,vI ax8,vI rx0138,vI rx1139,vI rx2140,vI rx3141]),(38,vI 0)],77,[],H221⟩ rfl ?_))
      refine w_seq (w_block (w_seq (w_region (mv (vI 0) rfl rfl ?_))))
      refine mv (vI x217) rfl rfl ?_
      refine sc_ (H:=H221) (vs:=[vI x217]) (fv:=.func (.func 37) #[] #[]) rfl rfl rfl rfl rfl rfl (.cons rfl rfl neI .nil) rfl ?_
      refine WV.mono (wv_f0 Try.call37 (tide_one_ok x217 _ w228)) ?_
      rintro v236 H237 ⟨k238,w235,rfl⟩
      refine kpL k238 fun n240 l239 => ?_
      refine sv (v:=vP H144.next 0) rfl rfl rfl (opv_indexAddrArrE rfl rfl rfl rfl rfl Try.underlying87 sz23 (by decide) (by decide) rfl) rfl ?_
      refine sv_put (H:=H237) (n:=H144.next) (v:=undef) (x:=some (.row #[vI x217,vI x217,vI x179,vI x180,vI x181,vI x182,vI x183,vI x184] .raw)) rfl rfl rfl rfl (opv_storeC (u:=.agg #[vI x217,vI x217]) rfl rfl rfl rfl rfl (by simp [undef]) sz23 rfl rfl rfl ((k238.get H144.next (by omega)).trans hb226) rfl rfl) ?_
      intro H241 f242
      refine putL w235 f242 ((k238.get H144.next (by omega)).trans hb226) fun n245 w243 l244 => ?_
      refine wo_nil (tq_n (wk ⟨[(3,vI ax11),(8,vP H106.next 0),(11,vP H121.next 0),(12,vP H144.next 0),(13,vP H162.next 0),(14,vI 0),(15,vP H189.next 0),(16,vI x217),(37,.agg #[vI ax1,vI ax2,vI ax7,vI ax8,vI rx0138,vI rx1139,vI rx2140,vI rx3141]),(38,vI 0)],77,[],H241⟩ rfl ?_))
      refine w_seq (w_region (sv (v:=.agg #[vI ax1,vI ax2,vI ax3,vI ax4,vI ax5,as6,vI ax7,vI ax8,vI ax9]) rfl rfl rfl (opv_loadE rfl rfl rfl ag79 sz79 ((f242.get H121.next (by omega)).trans ((k238.get H121.next (by omega)).trans ((k230.get H121.next (by omega) (by (try dsimp only); omega)).trans ((f213.get H121.next (by omega)).trans ((f208.get H121.next (by omega)).trans ((k201.get H121.next (by omega) (by (try dsimp only); omega)).trans ((f172.get H121.next (by omega)).trans ((k163.get H121.next (by omega)).trans ((f154.get H121.next (by omega)).trans ((f149.get H121.next (by omega)).trans ((k145.get H121.next (by omega)).trans f132.blk))))))))))) rfl (.inl rfl) rfl) rfl ?_))
      refine sv (v:=.agg #[vI x217,vI x217,vI x179,vI x180,vI x181,vI x182,vI x183,vI x184]) rfl rfl rfl (opv_loadE rfl rfl rfl ag87 sz87 f242.blk rfl (.inl rfl) rfl) rfl ?_
      refine mv (vI ax11) rfl rfl ?_
      refine sc_ (H:=H241) (vs:=[.agg #[vI ax1,vI ax2,vI ax3,vI ax4,vI ax5,as6,vI ax7,vI ax8,vI ax9],.agg #[vI x217,vI x217,vI x179,vI x180,vI x181,vI x182,vI x183,vI x184],vI ax11]) (fv:=.func (.func 43) #[] #[]) rfl rfl rfl rfl rfl rfl (.cons rfl rfl (by simp [undef]) (.cons rfl rfl (by simp [undef]) (.cons rfl rfl neI .nil))) rfl ?_
      refine WV.mono (wv_f0 Try.call43 (tide_withinE ax1 ax2 ax3 ax4 ax5 as6 ax7 ax8 ax9 x217 x217 x179 x180 x181 x182 x183 x184 ax11 _ w243 (hvas6.mono ((((((((((((((((l104.trans l109).trans l114).trans l123).trans l129).trans l134).trans l146).trans l151).trans l156).trans l164).trans l174).trans l200).trans l210).trans l215).trans l229).trans l239).trans l244)) (by omega) (by omega))) ?_
      rintro v249 H250 ⟨k251,w246,rb247,rfl,f248⟩
      refine kpL k251 fun n253 l252 => ?_
      rcases f248 with ⟨rfl,f248⟩ | ⟨rfl,f248⟩
      ·
       refine sv (v:=.bool false) rfl rfl rfl (opv_not (b:=true) rfl rfl rfl) rfl ?_
       refine wo_nil (tq_n (wk ⟨[(3,vI ax11),(8,vP H106.next 0),(11,vP H121.next 0),(12,vP H144.next 0),(13,vP H162.next 0),(14,vI 0),(15,vP H189.next 0),(16,vI x217),(37,.agg #[vI ax1,vI ax2,vI ax7,vI ax8,vI rx0138,vI rx1139,vI rx2140,vI rx3141]),(38,vI 0),(58,.bool false)],77,[],H250⟩ rfl ?_))
       refine w_cond (t:=false) rfl rfl (fun h => by cases h) (fun _ => ?_)
       refine w_skip ?_
       try refine q_eq (e':=.normal) rfl ?_
       refine tqk ⟨[(3,vI ax11),(8,vP H106.next 0),(11,vP H121.next 0),(12,vP H144.next 0),(13,vP H162.next 0),(14,vI 0),(15,vP H189.next 0),(16,vI x217),(37,.agg #[vI ax1,vI ax2,vI ax7,vI ax8,vI rx0138,vI rx1139,vI rx2140,vI rx3141]),(38,vI 0)],77,[],H250⟩ rfl ?_
       refine w_region (mv (vI x217) rfl rfl ?_)
       refine sv_int rfl rfl rfl (opv_bin rfl rfl rfl rfl rfl rfl) ?_
       intro x254 h255
       try replace h255:x254=x217 + 1:=wr_ex h255 (by omega) (by omega)
       refine mv (vI x254) rfl rfl ?_
       refine wo_nil ?_
       refine tq_n ⟨(ax2 + 1 - x254).toNat,by omega,⟨[(3,vI ax11),(8,vP H106.next 0),(11,vP H121.next 0),(12,vP H144.next 0),(13,vP H162.next 0),(14,vI 0),(15,vP H189.next 0),(16,vI x254),(37,.agg #[vI ax1,vI ax2,vI ax7,vI ax8,vI rx0138,vI rx1139,vI rx2140,vI rx3141]),(38,vI 0)],77,[],H250⟩,subk rfl,x254,x217,x217,x220,H250,by omega,by omega,by omega,(fun n h1 h2 => by first | (exfalso; omega) | (by_cases hc:n < x217; exact i225 n h1 hc; obtain rfl:n=x217:=(by omega); assumption)),(k251.get H144.next (by omega)).trans f242.blk,(k251.get H162.next (by omega)).trans ((f242.get H162.next (by omega)).trans ((k238.get H162.next (by omega)).trans hb227)),w246,((l229.trans l239).trans l244).trans l252,(((((KeepX.refl (fun m => m=H144.next∨m=H162.next) H212).trans k230 (by intro m hm; (try simp only [false_or,or_false] at hm ⊢); (try dsimp only at hm ⊢); first | omega | (right; omega) | (left; left; omega) | (left; right; omega))).keep k238).put f242 (by first | (right; omega) | (left; (try dsimp only) <;> omega))).keep k251),rfl,rfl⟩
      ·
       refine sv (v:=.bool true) rfl rfl rfl (opv_not (b:=false) rfl rfl rfl) rfl ?_
       refine wo_nil (tq_n (wk ⟨[(3,vI ax11),(8,vP H106.next 0),(11,vP H121.next 0),(12,vP H144.next 0),(13,vP H162.next 0),(14,vI 0),(15,vP H189.next 0),(16,vI x217),(37,.agg #[vI ax1,vI ax2,vI ax7,vI ax8,vI rx0138,vI rx1139,vI rx2140,vI rx3141]),(38,vI 0),(58,.bool true)],77,[],H250⟩ rfl ?_))
       refine w_cond (t:=true) rfl rfl (fun _ => ?_) (fun h => by cases h)
       refine w_seq (w_region (mv (vI 0) rfl rfl ?_))
       refine mv (vI x217) rfl rfl ?_
       refine sv (v:=vP H162.next 0) rfl rfl rfl (opv_indexAddrArrE rfl rfl rfl rfl rfl Try.underlying83 sz3 (by decide) (by decide) rfl) rfl ?_
       refine sv_put (H:=H250) (n:=H162.next) (v:=undef) (x:=some (.row #[vI x217,vI x186,vI x187,vI x188] .raw)) rfl rfl rfl rfl (opv_storeC (u:=vI x217) rfl rfl rfl rfl rfl neI sz3 rfl rfl rfl ((k251.get H162.next (by omega)).trans ((f242.get H162.next (by omega)).trans ((k238.get H162.next (by omega)).trans hb227))) rfl rfl) ?_
       intro H256 f257
       refine putL w246 f257 ((k251.get H162.next (by omega)).trans ((f242.get H162.next (by omega)).trans ((k238.get H162.next (by omega)).trans hb227))) fun n260 w258 l259 => ?_
       refine wo_nil (tq_n (wk ⟨[(3,vI ax11),(8,vP H106.next 0),(11,vP H121.next 0),(12,vP H144.next 0),(13,vP H162.next 0),(37,.agg #[vI ax1,vI ax2,vI ax7,vI ax8,vI rx0138,vI rx1139,vI rx2140,vI rx3141]),(38,vI 0)],77,[],H256⟩ rfl ?_))
       refine w_exit ?_
       try refine q_eq (e':=.exit 1) rfl ?_
       refine tq_e (tq_e ?_)
       try refine q_eq (e':=.exit 1) rfl ?_
       try refine q_eq (e':=.normal) rfl ?_
       refine tqk ⟨[(3,vI ax11),(8,vP H106.next 0),(11,vP H121.next 0),(12,vP H144.next 0),(13,vP H162.next 0),(37,.agg #[vI ax1,vI ax2,vI ax7,vI ax8,vI rx0138,vI rx1139,vI rx2140,vI rx3141]),(38,vI 0)],77,[],H256⟩ rfl ?_
       refine w_region (sv (v:=vI 1) rfl rfl rfl (opv_bin rfl rfl rfl rfl rfl rfl) rfl ?_)
       refine mv (vI 1) rfl rfl ?_
       refine wo_nil ?_
       refine tq_n ⟨((4:Int) - 1).toNat,by omega,⟨[(3,vI ax11),(8,vP H106.next 0),(11,vP H121.next 0),(12,vP H144.next 0),(13,vP H162.next 0),(37,.agg #[vI ax1,vI ax2,vI ax7,vI ax8,vI rx0138,vI rx1139,vI rx2140,vI rx3141]),(38,vI 1)],77,[],H256⟩,subk rfl,1,x217,x217,x179,x180,x181,x182,x183,x184,x217,x186,x187,x188,H256,by omega,by omega,by omega,by omega,by omega,(fun hz => by first | exact ‹¬ WW _ _ _ _ _ _ _ _ _ _ _ _› | (exfalso; omega)),by omega,(f257.get H144.next (by omega)).trans ((k251.get H144.next (by omega)).trans f242.blk),f257.blk,w258,((((((l200.trans l210).trans l215).trans l229).trans l239).trans l244).trans l252).trans l259,(((((((((KeepX.refl (fun m => m=H144.next∨m=H162.next) H171).trans k201 (by intro m hm; (try simp only [false_or,or_false] at hm ⊢); (try dsimp only at hm ⊢); first | omega | (right; omega) | (left; left; omega) | (left; right; omega))).new_ f208).put f213 (by first | (right; omega) | (left; (try dsimp only) <;> omega))).trans k230 (by intro m hm; (try simp only [false_or,or_false] at hm ⊢); (try dsimp only at hm ⊢); first | omega | (right; omega) | (left; left; omega) | (left; right; omega))).keep k238).put f242 (by first | (right; omega) | (left; (try dsimp only) <;> omega))).keep k251).put f257 (by first | (right; omega) | (left; (try dsimp only) <;> omega))),rfl,rfl⟩
     ·
      refine sv (v:=.bool false) rfl rfl rfl (opv_bin rfl rfl rfl rfl rfl (cmpF rfl c234)) rfl ?_
      refine wo_nil (tq_n (wk ⟨[(3,vI ax11),(8,vP H106.next 0),(11,vP H121.next 0),(12,vP H144.next 0),(13,vP H162.next 0),(14,vI 0),(15,vP H189.next 0),(16,vI x217),(37,.agg #[vI ax1,vI ax2,vI ax7,vI ax8,vI rx0138,vI rx1139,vI rx2140,vI rx3141]),(38,vI 0),(47,.bool false)],77,[],H221⟩ rfl ?_))
      refine w_cond (t:=false) rfl rfl (fun h => by cases h) (fun _ => ?_)
      refine w_exit (tq_e ?_)
      exfalso; obtain ⟨e1,e2⟩:=i194 rfl; apply i195 rfl; rw [e1,e2]; exact WW_slope (fun n h1 h2 => i225 n h1 (by omega)) (by omega)
    ·
     refine sv (v:=.agg #[vI ax7,vI ax8]) rfl rfl rfl (opv_indexArrE rfl rfl rfl rfl rfl Try.underlying87 ag23 sz23 (by decide) (by decide) (.inl rfl) rfl) rfl ?_
     refine sv_new (H:=H189) (v:=vP H189.next 0) (x:=.row #[vI 0,vI 0] .raw) rfl rfl rfl rfl (opv_alloc rfl ze23 rfl) ?_
     intro H261 f262
     refine newL w199 f262 fun n265 w263 l264 => ?_
     refine mv (vI 1) rfl rfl ?_
     refine sv_put (H:=H261) (n:=H189.next) (v:=undef) (x:=some (.row #[vI ax7,vI ax8] .raw)) rfl rfl rfl rfl (opv_storeC (u:=.agg #[vI ax7,vI ax8]) rfl rfl rfl rfl rfl (by simp [undef]) sz23 rfl rfl rfl f262.blk rfl rfl) ?_
     intro H266 f267
     refine putL w263 f267 f262.blk fun n270 w268 l269 => ?_
     refine wo_nil (tq_n (wk ⟨[(3,vI ax11),(8,vP H106.next 0),(11,vP H121.next 0),(12,vP H144.next 0),(13,vP H162.next 0),(14,vI 1),(15,vP H189.next 0),(37,.agg #[vI ax1,vI ax2,vI ax7,vI ax8,vI rx0138,vI rx1139,vI rx2140,vI rx3141]),(38,vI 1)],77,[],H266⟩ rfl ?_))
     refine w_seq (w_region (sv (v:=vP H189.next 0) rfl rfl rfl (opv_fieldAddrE rfl rfl rfl Try.underlying23 rfl sz3 (by decide) rfl) rfl ?_))
     refine sv (v:=vI ax7) rfl rfl rfl (opv_loadE rfl rfl rfl ag3 sz3 f267.blk rfl (.inr rfl) rfl) rfl ?_
     refine mv (vI ax7) rfl rfl ?_
     refine wo_nil (tq_n (wk ⟨[(3,vI ax11),(8,vP H106.next 0),(11,vP H121.next 0),(12,vP H144.next 0),(13,vP H162.next 0),(14,vI 1),(15,vP H189.next 0),(16,vI ax7),(37,.agg #[vI ax1,vI ax2,vI ax7,vI ax8,vI rx0138,vI rx1139,vI rx2140,vI rx3141]),(38,vI 1)],77,[],H266⟩ rfl ?_))
     refine w_block (w_loopS (fun m282 s283 => ∃ (x271 x272:Int) (x273 x274:Int) (H275:SH),(ax7 ≤ x271)∧H275.get H144.next=some (.row #[vI x177,vI x178,vI x272,vI x273,vI x181,vI x182,vI x183,vI x184] .raw)∧H275.get H162.next=some (.row #[vI x185,vI x274,vI x187,vI x188] .raw)∧WT H275∧Le H266 H275∧KeepX (fun m => m=H144.next∨m=H162.next) H266 H275∧m282=(ax8 + 1 - x271).toNat∧s283=⟨[(3,vI ax11),(8,vP H106.next 0),(11,vP H121.next 0),(12,vP H144.next 0),(13,vP H162.next 0),(14,vI 1),(15,vP H189.next 0),(16,vI x271),(37,.agg #[vI ax1,vI ax2,vI ax7,vI ax8,vI rx0138,vI rx1139,vI rx2140,vI rx3141]),(38,vI 1)],77,[],H275⟩) (n:=(ax8 + 1 - ax7).toNat) ⟨⟨[(3,vI ax11),(8,vP H106.next 0),(11,vP H121.next 0),(12,vP H144.next 0),(13,vP H162.next 0),(14,vI 1),(15,vP H189.next 0),(16,vI ax7),(37,.agg #[vI ax1,vI ax2,vI ax7,vI ax8,vI rx0138,vI rx1139,vI rx2140,vI rx3141]),(38,vI 1)],77,[],H266⟩,subk rfl,ax7,x179,x180,x186,H266,by omega,(f267.get H144.next (by omega)).trans ((f262.get H144.next (by omega)).trans hb197),(f267.get H162.next (by omega)).trans ((f262.get H162.next (by omega)).trans hb198),w268,Le.refl _,KeepX.refl (fun m => m=H144.next∨m=H162.next) H266,rfl,rfl⟩ ?_)
     rintro m282 s283 ⟨x271,x272,x273,x274,H275,i276,hb277,hb278,w279,l280,k281,rfl,rfl⟩
     have n284:=k281.next
     refine w_seq (w_seq (w_region (mv (vI x271) rfl rfl ?_)))
     refine sv (v:=vP H189.next 1) rfl rfl rfl (opv_fieldAddrE rfl rfl rfl Try.underlying23 rfl sz3 (by decide) rfl) rfl ?_
     refine sv (v:=vI ax8) rfl rfl rfl (opv_loadE rfl rfl rfl ag3 sz3 ((k281.get H189.next (by omega) (by (try dsimp only); omega)).trans f267.blk) rfl (.inr rfl) rfl) rfl ?_
     by_cases c285:x271 ≤ ax8
     ·
      refine sv (v:=.bool true) rfl rfl rfl (opv_bin rfl rfl rfl rfl rfl (cmpT rfl c285)) rfl ?_
      refine wo_nil (tq_n (wk ⟨[(3,vI ax11),(8,vP H106.next 0),(11,vP H121.next 0),(12,vP H144.next 0),(13,vP H162.next 0),(14,vI 1),(15,vP H189.next 0),(16,vI x271),(37,.agg #[vI ax1,vI ax2,vI ax7,vI ax8,vI rx0138,vI rx1139,vI rx2140,vI rx3141]),(38,vI 1),(47,.bool true)],77,[],H275⟩ rfl ?_))
      refine w_cond (t:=true) rfl rfl (fun _ => ?_) (fun h => by cases h)
      refine w_skip (tq_n (wk ⟨[(3,vI ax11),(8,vP H106.next 0),(11,vP H121.next 0),(12,vP H144.next 0),(13,vP H162.next 0),(14,vI 1),(15,vP H189.next 0),(16,vI x271),(37,.agg #[vI ax1,vI ax2,vI ax7,vI ax8,vI rx0138,vI rx1139,vI rx2140,vI rx3141]),(38,vI 1)],77,[],H275⟩ rfl ?_))
      refine w_seq (w_block (w_seq (w_region (mv (vI 1) rfl rfl ?_))))
      refine mv (vI x271) rfl rfl ?_
      refine sc_ (H:=H275) (vs:=[vI x271]) (fv:=.func (.func 37) #[] #[]) rfl rfl rfl rfl rfl rfl (.cons rfl rfl neI .nil) rfl ?_
      refine WV.mono (wv_f0 Try.call37 (tide_one_ok x271 _ w279)) ?_
      rintro v287 H288 ⟨k289,w286,rfl⟩
      refine kpL k289 fun n291 l290 => ?_
      refine sv (v:=vP H144.next 2) rfl rfl rfl (opv_indexAddrArrE rfl rfl rfl rfl rfl Try.underlying87 sz23 (by decide) (by decide) rfl) rfl ?_
      refine sv_put (H:=H288) (n:=H144.next) (v:=undef) (x:=some (.row #[vI x177,vI x178,vI x271,vI x271,vI x181,vI x182,vI x183,vI x184] .raw)) rfl rfl rfl rfl (opv_storeC (u:=.agg #[vI x271,vI x271]) rfl rfl rfl rfl rfl (by simp [undef]) sz23 rfl rfl rfl ((k289.get H144.next (by omega)).trans hb277) rfl rfl) ?_
      intro H292 f293
      refine putL w286 f293 ((k289.get H144.next (by omega)).trans hb277) fun n296 w294 l295 => ?_
      refine wo_nil (tq_n (wk ⟨[(3,vI ax11),(8,vP H106.next 0),(11,vP H121.next 0),(12,vP H144.next 0),(13,vP H162.next 0),(14,vI 1),(15,vP H189.next 0),(16,vI x271),(37,.agg #[vI ax1,vI ax2,vI ax7,vI ax8,vI rx0138,vI rx1139,vI rx2140,vI rx3141]),(38,vI 1)],77,[],H292⟩ rfl ?_))
      refine w_seq (w_region (sv (v:=.agg #[vI ax1,vI ax2,vI ax3,vI ax4,vI ax5,as6,vI ax7,vI ax8,vI ax9]) rfl rfl rfl (opv_loadE rfl rfl rfl ag79 sz79 ((f293.get H121.next (by omega)).trans ((k289.get H121.next (by omega)).trans ((k281.get H121.next (by omega) (by (try dsimp only); omega)).trans ((f267.get H121.next (by omega)).trans ((f262.get H121.next (by omega)).trans ((k201.get H121.next (by omega) (by (try dsimp only); omega)).trans ((f172.get H121.next (by omega)).trans ((k163.get H121.next (by omega)).trans ((f154.get H121.next (by omega)).trans ((f149.get H121.next (by omega)).trans ((k145.get H121.next (by omega)).trans f132.blk))))))))))) rfl (.inl rfl) rfl) rfl ?_))
      refine sv (v:=.agg #[vI x177,vI x178,vI x271,vI x271,vI x181,vI x182,vI x183,vI x184]) rfl rfl rfl (opv_loadE rfl rfl rfl ag87 sz87 f293.blk rfl (.inl rfl) rfl) rfl ?_
      refine mv (vI ax11) rfl rfl ?_
      refine sc_ (H:=H292) (vs:=[.agg #[vI ax1,vI ax2,vI ax3,vI ax4,vI ax5,as6,vI ax7,vI ax8,vI ax9],.agg #[vI x177,vI x178,vI x271,vI x271,vI x181,vI x182,vI x183,vI x184],vI ax11]) (fv:=.func (.func 43) #[] #[]) rfl rfl rfl rfl rfl rfl (.cons rfl rfl (by simp [undef]) (.cons rfl rfl (by simp [undef]) (.cons rfl rfl neI .nil))) rfl ?_
      refine WV.mono (wv_f0 Try.call43 (tide_withinE ax1 ax2 ax3 ax4 ax5 as6 ax7 ax8 ax9 x177 x178 x271 x271 x181 x182 x183 x184 ax11 _ w294 (hvas6.mono ((((((((((((((((l104.trans l109).trans l114).trans l123).trans l129).trans l134).trans l146).trans l151).trans l156).trans l164).trans l174).trans l200).trans l264).trans l269).trans l280).trans l290).trans l295)) (by omega) (by omega))) ?_
      rintro v300 H301 ⟨k302,w297,rb298,rfl,f299⟩
      refine kpL k302 fun n304 l303 => ?_
      rcases f299 with ⟨rfl,f299⟩ | ⟨rfl,f299⟩
      ·
       refine sv (v:=.bool false) rfl rfl rfl (opv_not (b:=true) rfl rfl rfl) rfl ?_
       refine wo_nil (tq_n (wk ⟨[(3,vI ax11),(8,vP H106.next 0),(11,vP H121.next 0),(12,vP H144.next 0),(13,vP H162.next 0),(14,vI 1),(15,vP H189.next 0),(16,vI x271),(37,.agg #[vI ax1,vI ax2,vI ax7,vI ax8,vI rx0138,vI rx1139,vI rx2140,vI rx3141]),(38,vI 1),(58,.bool false)],77,[],H301⟩ rfl ?_))
       refine w_cond (t:=false) rfl rfl (fun h => by cases h) (fun _ => ?_)
       refine w_skip ?_
       try refine q_eq (e':=.normal) rfl ?_
       refine tqk ⟨[(3,vI ax11),(8,vP H106.next 0),(11,vP H121.next 0),(12,vP H144.next 0),(13,vP H162.next 0),(14,vI 1),(15,vP H189.next 0),(16,vI x271),(37,.agg #[vI ax1,vI ax2,vI ax7,vI ax8,vI rx0138,vI rx1139,vI rx2140,vI rx3141]),(38,vI 1)],77,[],H301⟩ rfl ?_
       refine w_region (mv (vI x271) rfl rfl ?_)
       refine sv_int rfl rfl rfl (opv_bin rfl rfl rfl rfl rfl rfl) ?_
       intro x305 h306
       try replace h306:x305=x271 + 1:=wr_ex h306 (by omega) (by omega)
       refine mv (vI x305) rfl rfl ?_
       refine wo_nil ?_
       refine tq_n ⟨(ax8 + 1 - x305).toNat,by omega,⟨[(3,vI ax11),(8,vP H106.next 0),(11,vP H121.next 0),(12,vP H144.next 0),(13,vP H162.next 0),(14,vI 1),(15,vP H189.next 0),(16,vI x305),(37,.agg #[vI ax1,vI ax2,vI ax7,vI ax8,vI rx0138,vI rx1139,vI rx2140,vI rx3141]),(38,vI 1)],77,[],H301⟩,subk rfl,x305,x271,x271,x274,H301,by omega,(k302.get H144.next (by omega)).trans f293.blk,(k302.get H162.next (by omega)).trans ((f293.get H162.next (by omega)).trans ((k289.get H162.next (by omega)).trans hb278)),w297,((l280.trans l290).trans l295).trans l303,(((((KeepX.refl (fun m => m=H144.next∨m=H162.next) H266).trans k281 (by intro m hm; (try simp only [false_or,or_false] at hm ⊢); (try dsimp only at hm ⊢); first | omega | (right; omega) | (left; left; omega) | (left; right; omega))).keep k289).put f293 (by first | (right; omega) | (left; (try dsimp only) <;> omega))).keep k302),rfl,rfl⟩
      ·
       refine sv (v:=.bool true) rfl rfl rfl (opv_not (b:=false) rfl rfl rfl) rfl ?_
       refine wo_nil (tq_n (wk ⟨[(3,vI ax11),(8,vP H106.next 0),(11,vP H121.next 0),(12,vP H144.next 0),(13,vP H162.next 0),(14,vI 1),(15,vP H189.next 0),(16,vI x271),(37,.agg #[vI ax1,vI ax2,vI ax7,vI ax8,vI rx0138,vI rx1139,vI rx2140,vI rx3141]),(38,vI 1),(58,.bool true)],77,[],H301⟩ rfl ?_))
       refine w_cond (t:=true) rfl rfl (fun _ => ?_) (fun h => by cases h)
       refine w_seq (w_region (mv (vI 1) rfl rfl ?_))
       refine mv (vI x271) rfl rfl ?_
       refine sv (v:=vP H162.next 1) rfl rfl rfl (opv_indexAddrArrE rfl rfl rfl rfl rfl Try.underlying83 sz3 (by decide) (by decide) rfl) rfl ?_
       refine sv_put (H:=H301) (n:=H162.next) (v:=undef) (x:=some (.row #[vI x185,vI x271,vI x187,vI x188] .raw)) rfl rfl rfl rfl (opv_storeC (u:=vI x271) rfl rfl rfl rfl rfl neI sz3 rfl rfl rfl ((k302.get H162.next (by omega)).trans ((f293.get H162.next (by omega)).trans ((k289.get H162.next (by omega)).trans hb278))) rfl rfl) ?_
       intro H307 f308
       refine putL w297 f308 ((k302.get H162.next (by omega)).trans ((f293.get H162.next (by omega)).trans ((k289.get H162.next (by omega)).trans hb278))) fun n311 w309 l310 => ?_
       refine wo_nil (tq_n (wk ⟨[(3,vI ax11),(8,vP H106.next 0),(11,vP H121.next 0),(12,vP H144.next 0),(13,vP H162.next 0),(37,.agg #[vI ax1,vI ax2,vI ax7,vI ax8,vI rx0138,vI rx1139,vI rx2140,vI rx3141]),(38,vI 1)],77,[],H307⟩ rfl ?_))
       refine w_exit ?_
       try refine q_eq (e':=.exit 1) rfl ?_
       refine tq_e (tq_e ?_)
       try refine q_eq (e':=.exit 1) rfl ?_
       try refine q_eq (e':=.normal) rfl ?_
       refine tqk ⟨[(3,vI ax11),(8,vP H106.next 0),(11,vP H121.next 0),(12,vP H144.next 0),(13,vP H162.next 0),(37,.agg #[vI ax1,vI ax2,vI ax7,vI ax8,vI rx0138,vI rx1139,vI rx2140,vI rx3141]),(38,vI 1)],77,[],H307⟩ rfl ?_
       refine w_region (sv (v:=vI 2) rfl rfl rfl (opv_bin rfl rfl rfl rfl rfl rfl) rfl ?_)
       refine mv (vI 2) rfl rfl ?_
       refine wo_nil ?_
       refine tq_n ⟨((4:Int) - 2).toNat,by omega,⟨[(3,vI ax11),(8,vP H106.next 0),(11,vP H121.next 0),(12,vP H144.next 0),(13,vP H162.next 0),(37,.agg #[vI ax1,vI ax2,vI ax7,vI ax8,vI rx0138,vI rx1139,vI rx2140,vI rx3141]),(38,vI 2)],77,[],H307⟩,subk rfl,2,x177,x178,x271,x271,x181,x182,x183,x184,x185,x271,x187,x188,H307,by omega,by omega,by omega,by omega,by omega,(fun hz => by first | exact ‹¬ WW _ _ _ _ _ _ _ _ _ _ _ _› | (exfalso; omega)),by omega,(f308.get H144.next (by omega)).trans ((k302.get H144.next (by omega)).trans f293.blk),f308.blk,w309,((((((l200.trans l264).trans l269).trans l280).trans l290).trans l295).trans l303).trans l310,(((((((((KeepX.refl (fun m => m=H144.next∨m=H162.next) H171).trans k201 (by intro m hm; (try simp only [false_or,or_false] at hm ⊢); (try dsimp only at hm ⊢); first | omega | (right; omega) | (left; left; omega) | (left; right; omega))).new_ f262).put f267 (by first | (right; omega) | (left; (try dsimp only) <;> omega))).trans k281 (by intro m hm; (try simp only [false_or,or_false] at hm ⊢); (try dsimp only at hm ⊢); first | omega | (right; omega) | (left; left; omega) | (left; right; omega))).keep k289).put f293 (by first | (right; omega) | (left; (try dsimp only) <;> omega))).keep k302).put f308 (by first | (right; omega) | (left; (try dsimp only) <;> omega))),rfl,rfl⟩
     ·
      refine sv (v:=.bool false) rfl rfl rfl (opv_bin rfl rfl rfl rfl rfl (cmpF rfl c285)) rfl ?_
      refine wo_nil (tq_n (wk ⟨[(3,vI ax11),(8,vP H106.next 0),(11,vP H121.next 0),(12,vP H144.next 0),(13,vP H162.next 0),(14,vI 1),(15,vP H189.next 0),(16,vI x271),(37,.agg #[vI ax1,vI ax2,vI ax7,vI ax8,vI rx0138,vI rx1139,vI rx2140,vI rx3141]),(38,vI 1),(47,.bool false)],77,[],H275⟩ rfl ?_))
      refine w_cond (t:=false) rfl rfl (fun h => by cases h) (fun _ => ?_)
      refine w_exit (tq_e (tq_e ?_))
      try refine q_eq (e':=.normal) rfl ?_
      try refine q_eq (e':=.normal) rfl ?_
      refine tqk ⟨[(3,vI ax11),(8,vP H106.next 0),(11,vP H121.next 0),(12,vP H144.next 0),(13,vP H162.next 0),(37,.agg #[vI ax1,vI ax2,vI ax7,vI ax8,vI rx0138,vI rx1139,vI rx2140,vI rx3141]),(38,vI 1)],77,[],H275⟩ rfl ?_
      refine w_region (sv (v:=vI 2) rfl rfl rfl (opv_bin rfl rfl rfl rfl rfl rfl) rfl ?_)
      refine mv (vI 2) rfl rfl ?_
      refine wo_nil ?_
      refine tq_n ⟨((4:Int) - 2).toNat,by omega,⟨[(3,vI ax11),(8,vP H106.next 0),(11,vP H121.next 0),(12,vP H144.next 0),(13,vP H162.next 0),(37,.agg #[vI ax1,vI ax2,vI ax7,vI ax8,vI rx0138,vI rx1139,vI rx2140,vI rx3141]),(38,vI 2)],77,[],H275⟩,subk rfl,2,x177,x178,x272,x273,x181,x182,x183,x184,x185,x274,x187,x188,H275,by omega,by omega,by omega,by omega,by omega,(fun hz => by first | exact ‹¬ WW _ _ _ _ _ _ _ _ _ _ _ _› | (exfalso; omega)),by omega,hb277,hb278,w279,((l200.trans l264).trans l269).trans l280,(((((KeepX.refl (fun m => m=H144.next∨m=H162.next) H171).trans k201 (by intro m hm; (try simp only [false_or,or_false] at hm ⊢); (try dsimp only at hm ⊢); first | omega | (right; omega) | (left; left; omega) | (left; right; omega))).new_ f262).put f267 (by first | (right; omega) | (left; (try dsimp only) <;> omega))).trans k281 (by intro m hm; (try simp only [false_or,or_false] at hm ⊢); (try dsimp only at hm ⊢); first | omega | (right; omega) | (left; left; omega) | (left; right; omega))),rfl,rfl⟩
    ·
     refine sv (v:=.agg #[vI rx0138,vI rx1139]) rfl rfl rfl (opv_indexArrE rfl rfl rfl rfl rfl Try.underlying87 ag23 sz23 (by decide) (by decide) (.inl rfl) rfl) rfl ?_
     refine sv_new (H:=H189) (v:=vP H189.next 0) (x:=.row #[vI 0,vI 0] .raw) rfl rfl rfl rfl (opv_alloc rfl ze23 rfl) ?_
     intro H312 f313
     refine newL w199 f313 fun n316 w314 l315 => ?_
     refine mv (vI 2) rfl rfl ?_
     refine sv_put (H:=H312) (n:=H189.next) (v:=undef) (x:=some (.row #[vI rx0138,vI rx1139] .raw)) rfl rfl rfl rfl (opv_storeC (u:=.agg #[vI rx0138,vI rx1139]) rfl rfl rfl rfl rfl (by simp [undef]) sz23 rfl rfl rfl f313.blk rfl rfl) ?_
     intro H317 f318
     refine putL w314 f318 f313.blk fun n321 w319 l320 => ?_
     refine wo_nil (tq_n (wk ⟨[(3,vI ax11),(8,vP H106.next 0),(11,vP H121.next 0),(12,vP H144.next 0),(13,vP H162.next 0),(14,vI 2),(15,vP H189.next 0),(37,.agg #[vI ax1,vI ax2,vI ax7,vI ax8,vI rx0138,vI rx1139,vI rx2140,vI rx3141]),(38,vI 2)],77,[],H317⟩ rfl ?_))
     refine w_seq (w_region (sv (v:=vP H189.next 0) rfl rfl rfl (opv_fieldAddrE rfl rfl rfl Try.underlying23 rfl sz3 (by decide) rfl) rfl ?_))
     refine sv (v:=vI rx0138) rfl rfl rfl (opv_loadE rfl rfl rfl ag3 sz3 f318.blk rfl (.inr rfl) rfl) rfl ?_
     refine mv (vI rx0138) rfl rfl ?_
     refine wo_nil (tq_n (wk ⟨[(3,vI ax11),(8,vP H106.next 0),(11,vP H121.next 0),(12,vP H144.next 0),(13,vP H162.next 0),(14,vI 2),(15,vP H189.next 0),(16,vI rx0138),(37,.agg #[vI ax1,vI ax2,vI ax7,vI ax8,vI rx0138,vI rx1139,vI rx2140,vI rx3141]),(38,vI 2)],77,[],H317⟩ rfl ?_))
     refine w_block (w_loopS (fun m333 s334 => ∃ (x322 x323:Int) (x324 x325:Int) (H326:SH),(rx0138 ≤ x322)∧H326.get H144.next=some (.row #[vI x177,vI x178,vI x179,vI x180,vI x323,vI x324,vI x183,vI x184] .raw)∧H326.get H162.next=some (.row #[vI x185,vI x186,vI x325,vI x188] .raw)∧WT H326∧Le H317 H326∧KeepX (fun m => m=H144.next∨m=H162.next) H317 H326∧m333=(rx1139 + 1 - x322).toNat∧s334=⟨[(3,vI ax11),(8,vP H106.next 0),(11,vP H121.next 0),(12,vP H144.next 0),(13,vP H162.next 0),(14,vI 2),(15,vP H189.next 0),(16,vI x322),(37,.agg #[vI ax1,vI ax2,vI ax7,vI ax8,vI rx0138,vI rx1139,vI rx2140,vI rx3141]),(38,vI 2)],77,[],H326⟩) (n:=(rx1139 + 1 - rx0138).toNat) ⟨⟨[(3,vI ax11),(8,vP H106.next 0),(11,vP H121.next 0),(12,vP H144.next 0),(13,vP H162.next 0),(14,vI 2),(15,vP H189.next 0),(16,vI rx0138),(37,.agg #[vI ax1,vI ax2,vI ax7,vI ax8,vI rx0138,vI rx1139,vI rx2140,vI rx3141]),(38,vI 2)],77,[],H317⟩,subk rfl,rx0138,x181,x182,x187,H317,by omega,(f318.get H144.next (by omega)).trans ((f313.get H144.next (by omega)).trans hb197),(f318.get H162.next (by omega)).trans ((f313.get H162.next (by omega)).trans hb198),w319,Le.refl _,KeepX.refl (fun m => m=H144.next∨m=H162.next) H317,rfl,rfl⟩ ?_)
     rintro m333 s334 ⟨x322,x323,x324,x325,H326,i327,hb328,hb329,w330,l331,k332,rfl,rfl⟩
     have n335:=k332.next
     refine w_seq (w_seq (w_region (mv (vI x322) rfl rfl ?_)))
     refine sv (v:=vP H189.next 1) rfl rfl rfl (opv_fieldAddrE rfl rfl rfl Try.underlying23 rfl sz3 (by decide) rfl) rfl ?_
     refine sv (v:=vI rx1139) rfl rfl rfl (opv_loadE rfl rfl rfl ag3 sz3 ((k332.get H189.next (by omega) (by (try dsimp only); omega)).trans f318.blk) rfl (.inr rfl) rfl) rfl ?_
     by_cases c336:x322 ≤ rx1139
     ·
      refine sv (v:=.bool true) rfl rfl rfl (opv_bin rfl rfl rfl rfl rfl (cmpT rfl c336)) rfl ?_
      refine wo_nil (tq_n (wk ⟨[(3,vI ax11),(8,vP H106.next 0),(11,vP H121.next 0),(12,vP H144.next 0),(13,vP H162.next 0),(14,vI 2),(15,vP H189.next 0),(16,vI x322),(37,.agg #[vI ax1,vI ax2,vI ax7,vI ax8,vI rx0138,vI rx1139,vI rx2140,vI rx3141]),(38,vI 2),(47,.bool true)],77,[],H326⟩ rfl ?_))
      refine w_cond (t:=true) rfl rfl (fun _ => ?_) (fun h => by cases h)
      refine w_skip (tq_n (wk ⟨[(3,vI ax11),(8,vP H106.next 0),(11,vP H121.next 0),(12,vP H144.next 0),(13,vP H162.next 0),(14,vI 2),(15,vP H189.next 0),(16,vI x322),(37,.agg #[vI ax1,vI ax2,vI ax7,vI ax8,vI rx0138,vI rx1139,vI rx2140,vI rx3141]),(38,vI 2)],77,[],H326⟩ rfl ?_))
      refine w_seq (w_block (w_seq (w_region (mv (vI 2) rfl rfl ?_))))
      refine mv (vI x322) rfl rfl ?_
      refine sc_ (H:=H326) (vs:=[vI x322]) (fv:=.func (.func 37) #[] #[]) rfl rfl rfl rfl rfl rfl (.cons rfl rfl neI .nil) rfl ?_
      refine WV.mono (wv_f0 Try.call37 (tide_one_ok x322 _ w330)) ?_
      rintro v338 H339 ⟨k340,w337,rfl⟩
      refine kpL k340 fun n342 l341 => ?_
      refine sv (v:=vP H144.next 4) rfl rfl rfl (opv_indexAddrArrE rfl rfl rfl rfl rfl Try.underlying87 sz23 (by decide) (by decide) rfl) rfl ?_
      refine sv_put (H:=H339) (n:=H144.next) (v:=undef) (x:=some (.row #[vI x177,vI x178,vI x179,vI x180,vI x322,vI x322,vI x183,vI x184] .raw)) rfl rfl rfl rfl (opv_storeC (u:=.agg #[vI x322,vI x322]) rfl rfl rfl rfl rfl (by simp [undef]) sz23 rfl rfl rfl ((k340.get H144.next (by omega)).trans hb328) rfl rfl) ?_
      intro H343 f344
      refine putL w337 f344 ((k340.get H144.next (by omega)).trans hb328) fun n347 w345 l346 => ?_
      refine wo_nil (tq_n (wk ⟨[(3,vI ax11),(8,vP H106.next 0),(11,vP H121.next 0),(12,vP H144.next 0),(13,vP H162.next 0),(14,vI 2),(15,vP H189.next 0),(16,vI x322),(37,.agg #[vI ax1,vI ax2,vI ax7,vI ax8,vI rx0138,vI rx1139,vI rx2140,vI rx3141]),(38,vI 2)],77,[],H343⟩ rfl ?_))
      refine w_seq (w_region (sv (v:=.agg #[vI ax1,vI ax2,vI ax3,vI ax4,vI ax5,as6,vI ax7,vI ax8,vI ax9]) rfl rfl rfl (opv_loadE rfl rfl rfl ag79 sz79 ((f344.get H121.next (by omega)).trans ((k340.get H121.next (by omega)).trans ((k332.get H121.next (by omega) (by (try dsimp only); omega)).trans ((f318.get H121.next (by omega)).trans ((f313.get H121.next (by omega)).trans ((k201.get H121.next (by omega) (by (try dsimp only); omega)).trans ((f172.get H121.next (by omega)).trans ((k163.get H121.next (by omega)).trans ((f154.get H121.next (by omega)).trans ((f149.get H121.next (by omega)).trans ((k145.get H121.next (by omega)).trans f132.blk))))))))))) rfl (.inl rfl) rfl) rfl ?_))
      refine sv (v:=.agg #[vI x177,vI x178,vI x179,vI x180,vI x322,vI x322,vI x183,vI x184]) rfl rfl rfl (opv_loadE rfl rfl rfl ag87 sz87 f344.blk rfl (.inl rfl) rfl) rfl ?_
      refine mv (vI ax11) rfl rfl ?_
      refine sc_ (H:=H343) (vs:=[.agg #[vI ax1,vI ax2,vI ax3,vI ax4,vI ax5,as6,vI ax7,vI ax8,vI ax9],.agg #[vI x177,vI x178,vI x179,vI x180,vI x322,vI x322,vI x183,vI x184],vI ax11]) (fv:=.func (.func 43) #[] #[]) rfl rfl rfl rfl rfl rfl (.cons rfl rfl (by simp [undef]) (.cons rfl rfl (by simp [undef]) (.cons rfl rfl neI .nil))) rfl ?_
      refine WV.mono (wv_f0 Try.call43 (tide_withinE ax1 ax2 ax3 ax4 ax5 as6 ax7 ax8 ax9 x177 x178 x179 x180 x322 x322 x183 x184 ax11 _ w345 (hvas6.mono ((((((((((((((((l104.trans l109).trans l114).trans l123).trans l129).trans l134).trans l146).trans l151).trans l156).trans l164).trans l174).trans l200).trans l315).trans l320).trans l331).trans l341).trans l346)) (by omega) (by omega))) ?_
      rintro v351 H352 ⟨k353,w348,rb349,rfl,f350⟩
      refine kpL k353 fun n355 l354 => ?_
      rcases f350 with ⟨rfl,f350⟩ | ⟨rfl,f350⟩
      ·
       refine sv (v:=.bool false) rfl rfl rfl (opv_not (b:=true) rfl rfl rfl) rfl ?_
       refine wo_nil (tq_n (wk ⟨[(3,vI ax11),(8,vP H106.next 0),(11,vP H121.next 0),(12,vP H144.next 0),(13,vP H162.next 0),(14,vI 2),(15,vP H189.next 0),(16,vI x322),(37,.agg #[vI ax1,vI ax2,vI ax7,vI ax8,vI rx0138,vI rx1139,vI rx2140,vI rx3141]),(38,vI 2),(58,.bool false)],77,[],H352⟩ rfl ?_))
       refine w_cond (t:=false) rfl rfl (fun h => by cases h) (fun _ => ?_)
       refine w_skip ?_
       try refine q_eq (e':=.normal) rfl ?_
       refine tqk ⟨[(3,vI ax11),(8,vP H106.next 0),(11,vP H121.next 0),(12,vP H144.next 0),(13,vP H162.next 0),(14,vI 2),(15,vP H189.next 0),(16,vI x322),(37,.agg #[vI ax1,vI ax2,vI ax7,vI ax8,vI rx0138,vI rx1139,vI rx2140,vI rx3141]),(38,vI 2)],77,[],H352⟩ rfl ?_
       refine w_region (mv (vI x322) rfl rfl ?_)
       refine sv_int rfl rfl rfl (opv_bin rfl rfl rfl rfl rfl rfl) ?_
       intro x356 h357
       try replace h357:x356=x322 + 1:=wr_ex h357 (by omega) (by omega)
       refine mv (vI x356) rfl rfl ?_
       refine wo_nil ?_
       refine tq_n ⟨(rx1139 + 1 - x356).toNat,by omega,⟨[(3,vI ax11),(8,vP H106.next 0),(11,vP H121.next 0),(12,vP H144.next 0),(13,vP H162.next 0),(14,vI 2),(15,vP H189.next 0),(16,vI x356),(37,.agg #[vI ax1,vI ax2,vI ax7,vI ax8,vI rx0138,vI rx1139,vI rx2140,vI rx3141]),(38,vI 2)],77,[],H352⟩,subk rfl,x356,x322,x322,x325,H352,by omega,(k353.get H144.next (by omega)).trans f344.blk,(k353.get H162.next (by omega)).trans ((f344.get H162.next (by omega)).trans ((k340.get H162.next (by omega)).trans hb329)),w348,((l331.trans l341).trans l346).trans l354,(((((KeepX.refl (fun m => m=H144.next∨m=H162.next) H317).trans k332 (by intro m hm; (try simp only [false_or,or_false] at hm ⊢); (try dsimp only at hm ⊢); first | omega | (right; omega) | (left; left; omega) | (left; right; omega))).keep k340).put f344 (by first | (right; omega) | (left; (try dsimp only) <;> omega))).keep k353),rfl,rfl⟩
      ·
       refine sv (v:=.bool true) rfl rfl rfl (opv_not (b:=false) rfl rfl rfl) rfl ?_
       refine wo_nil (tq_n (wk ⟨[(3,vI ax11),(8,vP H106.next 0),(11,vP H121.next 0),(12,vP H144.next 0),(13,vP H162.next 0),(14,vI 2),(15,vP H189.next 0),(16,vI x322),(37,.agg #[vI ax1,vI ax2,vI ax7,vI ax8,vI rx0138,vI rx1139,vI rx2140,vI rx3141]),(38,vI 2),(58,.bool true)],77,[],H352⟩ rfl ?_))
       refine w_cond (t:=true) rfl rfl (fun _ => ?_) (fun h => by cases h)
       refine w_seq (w_region (mv (vI 2) rfl rfl ?_))
       refine mv (vI x322) rfl rfl ?_
       refine sv (v:=vP H162.next 2) rfl rfl rfl (opv_indexAddrArrE rfl rfl rfl rfl rfl Try.underlying83 sz3 (by decide) (by decide) rfl) rfl ?_
       refine sv_put (H:=H352) (n:=H162.next) (v:=undef) (x:=some (.row #[vI x185,vI x186,vI x322,vI x188] .raw)) rfl rfl rfl rfl (opv_storeC (u:=vI x322) rfl rfl rfl rfl rfl neI sz3 rfl rfl rfl ((k353.get H162.next (by omega)).trans ((f344.get H162.next (by omega)).trans ((k340.get H162.next (by omega)).trans hb329))) rfl rfl) ?_
       intro H358 f359
       refine putL w348 f359 ((k353.get H162.next (by omega)).trans ((f344.get H162.next (by omega)).trans ((k340.get H162.next (by omega)).trans hb329))) fun n362 w360 l361 => ?_
       refine wo_nil (tq_n (wk ⟨[(3,vI ax11),(8,vP H106.next 0),(11,vP H121.next 0),(12,vP H144.next 0),(13,vP H162.next 0),(37,.agg #[vI ax1,vI ax2,vI ax7,vI ax8,vI rx0138,vI rx1139,vI rx2140,vI rx3141]),(38,vI 2)],77,[],H358⟩ rfl ?_))
       refine w_exit ?_
       try refine q_eq (e':=.exit 1) rfl ?_
       refine tq_e (tq_e ?_)
       try refine q_eq (e':=.exit 1) rfl ?_
       try refine q_eq (e':=.normal) rfl ?_
       refine tqk ⟨[(3,vI ax11),(8,vP H106.next 0),(11,vP H121.next 0),(12,vP H144.next 0),(13,vP H162.next 0),(37,.agg #[vI ax1,vI ax2,vI ax7,vI ax8,vI rx0138,vI rx1139,vI rx2140,vI rx3141]),(38,vI 2)],77,[],H358⟩ rfl ?_
       refine w_region (sv (v:=vI 3) rfl rfl rfl (opv_bin rfl rfl rfl rfl rfl rfl) rfl ?_)
       refine mv (vI 3) rfl rfl ?_
       refine wo_nil ?_
       refine tq_n ⟨((4:Int) - 3).toNat,by omega,⟨[(3,vI ax11),(8,vP H106.next 0),(11,vP H121.next 0),(12,vP H144.next 0),(13,vP H162.next 0),(37,.agg #[vI ax1,vI ax2,vI ax7,vI ax8,vI rx0138,vI rx1139,vI rx2140,vI rx3141]),(38,vI 3)],77,[],H358⟩,subk rfl,3,x177,x178,x179,x180,x322,x322,x183,x184,x185,x186,x322,x188,H358,by omega,by omega,by omega,by omega,by omega,(fun hz => by first | exact ‹¬ WW _ _ _ _ _ _ _ _ _ _ _ _› | (exfalso; omega)),by omega,(f359.get H144.next (by omega)).trans ((k353.get H144.next (by omega)).trans f344.blk),f359.blk,w360,((((((l200.trans l315).trans l320).trans l331).trans l341).trans l346).trans l354).trans l361,(((((((((KeepX.refl (fun m => m=H144.next∨m=H162.next) H171).trans k201 (by intro m hm; (try simp only [false_or,or_false] at hm ⊢); (try dsimp only at hm ⊢); first | omega | (right; omega) | (left; left; omega) | (left; right; omega))).new_ f313).put f318 (by first | (right; omega) | (left; (try dsimp only) <;> omega))).trans k332 (by intro m hm; (try simp only [false_or,or_false] at hm ⊢); (try dsimp only at hm ⊢); first | omega | (right; omega) | (left; left; omega) | (left; right; omega))).keep k340).put f344 (by first | (right; omega) | (left; (try dsimp only) <;> omega))).keep k353).put f359 (by first | (right; omega) | (left; (try dsimp only) <;> omega))),rfl,rfl⟩
     ·
      refine sv (v:=.bool false) rfl rfl rfl (opv_bin rfl rfl rfl rfl rfl (cmpF rfl c336)) rfl ?_
      refine wo_nil (tq_n (wk ⟨[(3,vI ax11),(8,vP H106.next 0),(11,vP H121.next 0),(12,vP H144.next 0),(13,vP H162.next 0),(14,vI 2),(15,vP H189.next 0),(16,vI x322),(37,.agg #[vI ax1,vI ax2,vI ax7,vI ax8,vI rx0138,vI rx1139,vI rx2140,vI rx3141]),(38,vI 2),(47,.bool false)],77,[],H326⟩ rfl ?_))
      refine w_cond (t:=false) rfl rfl (fun h => by cases h) (fun _ => ?_)
      refine w_exit (tq_e (tq_e ?_))
      try refine q_eq (e':=.normal) rfl ?_
      try refine q_eq (e':=.normal) rfl ?_
      refine tqk ⟨[(3,vI ax11),(8,vP H106.next 0),(11,vP H121.next 0),(12,vP H144.next 0),(13,vP H162.next 0),(37,.agg #[vI ax1,vI ax2,vI ax7,vI ax8,vI rx0138,vI rx1139,vI rx2140,vI rx3141]),(38,vI 2)],77,[],H326⟩ rfl ?_
      refine w_region (sv (v:=vI 3) rfl rfl rfl (opv_bin rfl rfl rfl rfl rfl rfl) rfl ?_)
      refine mv (vI 3) rfl rfl ?_
      refine wo_nil ?_
      refine tq_n ⟨((4:Int) - 3).toNat,by omega,⟨[(3,vI ax11),(8,vP H106.next 0),(11,vP H121.next 0),(12,vP H144.next 0),(13,vP H162.next 0),(37,.agg #[vI ax1,vI ax2,vI ax7,vI ax8,vI rx0138,vI rx1139,vI rx2140,vI rx3141]),(38,vI 3)],77,[],H326⟩,subk rfl,3,x177,x178,x179,x180,x323,x324,x183,x184,x185,x186,x325,x188,H326,by omega,by omega,by omega,by omega,by omega,(fun hz => by first | exact ‹¬ WW _ _ _ _ _ _ _ _ _ _ _ _› | (exfalso; omega)),by omega,hb328,hb329,w330,((l200.trans l315).trans l320).trans l331,(((((KeepX.refl (fun m => m=H144.next∨m=H162.next) H171).trans k201 (by intro m hm; (try simp only [false_or,or_false] at hm ⊢); (try dsimp only at hm ⊢); first | omega | (right; omega) | (left; left; omega) | (left; right; omega))).new_ f313).put f318 (by first | (right; omega) | (left; (try dsimp only) <;> omega))).trans k332 (by intro m hm; (try simp only [false_or,or_false] at hm ⊢); (try dsimp only at hm ⊢); first | omega | (right; omega) | (left; left; omega) | (left; right; omega))),rfl,rfl⟩
    ·
     refine sv (v:=.agg #[vI rx2140,vI rx3141]) rfl rfl rfl (opv_indexArrE rfl rfl rfl rfl rfl Try.underlying87 ag23 sz23 (by decide) (by decide) (.inl rfl) rfl) rfl ?_
     refine sv_new (H:=H189) (v:=vP H189.next 0) (x:=.row #[vI 0,vI 0] .raw) rfl rfl rfl rfl (opv_alloc rfl ze23 rfl) ?_
     intro H363 f364
     refine newL w199 f364 fun n367 w365 l366 => ?_
     refine mv (vI 3) rfl rfl ?_
     refine sv_put (H:=H363) (n:=H189.next) (v:=undef) (x:=some (.row #[vI rx2140,vI rx3141] .raw)) rfl rfl rfl rfl (opv_storeC (u:=.agg #[vI rx2140,vI rx3141]) rfl rfl rfl rfl rfl (by simp [undef]) sz23 rfl rfl rfl f364.blk rfl rfl) ?_
     intro H368 f369
     refine putL w365 f369 f364.blk fun n372 w370 l371 => ?_
     refine wo_nil (tq_n (wk ⟨[(3,vI ax11),(8,vP H106.next 0),(11,vP H121.next 0),(12,vP H144.next 0),(13,vP H162.next 0),(14,vI 3),(15,vP H189.next 0),(37,.agg #[vI ax1,vI ax2,vI ax7,vI ax8,vI rx0138,vI rx1139,vI rx2140,vI rx3141]),(38,vI 3)],77,[],H368⟩ rfl ?_))
     refine w_seq (w_region (sv (v:=vP H189.next 0) rfl rfl rfl (opv_fieldAddrE rfl rfl rfl Try.underlying23 rfl sz3 (by decide) rfl) rfl ?_))
     refine sv (v:=vI rx2140) rfl rfl rfl (opv_loadE rfl rfl rfl ag3 sz3 f369.blk rfl (.inr rfl) rfl) rfl ?_
     refine mv (vI rx2140) rfl rfl ?_
     refine wo_nil (tq_n (wk ⟨[(3,vI ax11),(8,vP H106.next 0),(11,vP H121.next 0),(12,vP H144.next 0),(13,vP H162.next 0),(14,vI 3),(15,vP H189.next 0),(16,vI rx2140),(37,.agg #[vI ax1,vI ax2,vI ax7,vI ax8,vI rx0138,vI rx1139,vI rx2140,vI rx3141]),(38,vI 3)],77,[],H368⟩ rfl ?_))
     refine w_block (w_loopS (fun m384 s385 => ∃ (x373 x374:Int) (x375 x376:Int) (H377:SH),(rx2140 ≤ x373)∧H377.get H144.next=some (.row #[vI x177,vI x178,vI x179,vI x180,vI x181,vI x182,vI x374,vI x375] .raw)∧H377.get H162.next=some (.row #[vI x185,vI x186,vI x187,vI x376] .raw)∧WT H377∧Le H368 H377∧KeepX (fun m => m=H144.next∨m=H162.next) H368 H377∧m384=(rx3141 + 1 - x373).toNat∧s385=⟨[(3,vI ax11),(8,vP H106.next 0),(11,vP H121.next 0),(12,vP H144.next 0),(13,vP H162.next 0),(14,vI 3),(15,vP H189.next 0),(16,vI x373),(37,.agg #[vI ax1,vI ax2,vI ax7,vI ax8,vI rx0138,vI rx1139,vI rx2140,vI rx3141]),(38,vI 3)],77,[],H377⟩) (n:=(rx3141 + 1 - rx2140).toNat) ⟨⟨[(3,vI ax11),(8,vP H106.next 0),(11,vP H121.next 0),(12,vP H144.next 0),(13,vP H162.next 0),(14,vI 3),(15,vP H189.next 0),(16,vI rx2140),(37,.agg #[vI ax1,vI ax2,vI ax7,vI ax8,vI rx0138,vI rx1139,vI rx2140,vI rx3141]),(38,vI 3)],77,[],H368⟩,subk rfl,rx2140,x183,x184,x188,H368,by omega,(f369.get H144.next (by omega)).trans ((f364.get H144.next (by omega)).trans hb197),(f369.get H162.next (by omega)).trans ((f364.get H162.next (by omega)).trans hb198),w370,Le.refl _,KeepX.refl (fun m => m=H144.next∨m=H162.next) H368,rfl,rfl⟩ ?_)
     rintro m384 s385 ⟨x373,x374,x375,x376,H377,i378,hb379,hb380,w381,l382,k383,rfl,rfl⟩
     have n386:=k383.next
     refine w_seq (w_seq (w_region (mv (vI x373) rfl rfl ?_)))
     refine sv (v:=vP H189.next 1) rfl rfl rfl (opv_fieldAddrE rfl rfl rfl Try.underlying23 rfl sz3 (by decide) rfl) rfl ?_
     refine sv (v:=vI rx3141) rfl rfl rfl (opv_loadE rfl rfl rfl ag3 sz3 ((k383.get H189.next (by omega) (by (try dsimp only); omega)).trans f369.blk) rfl (.inr rfl) rfl) rfl ?_
     by_cases c387:x373 ≤ rx3141
     ·
      refine sv (v:=.bool true) rfl rfl rfl (opv_bin rfl rfl rfl rfl rfl (cmpT rfl c387)) rfl ?_
      refine wo_nil (tq_n (wk ⟨[(3,vI ax11),(8,vP H106.next 0),(11,vP H121.next 0),(12,vP H144.next 0),(13,vP H162.next 0),(14,vI 3),(15,vP H189.next 0),(16,vI x373),(37,.agg #[vI ax1,vI ax2,vI ax7,vI ax8,vI rx0138,vI rx1139,vI rx2140,vI rx3141]),(38,vI 3),(47,.bool true)],77,[],H377⟩ rfl ?_))
      refine w_cond (t:=true) rfl rfl (fun _ => ?_) (fun h => by cases h)
      refine w_skip (tq_n (wk ⟨[(3,vI ax11),(8,vP H106.next 0),(11,vP H121.next 0),(12,vP H144.next 0),(13,vP H162.next 0),(14,vI 3),(15,vP H189.next 0),(16,vI x373),(37,.agg #[vI ax1,vI ax2,vI ax7,vI ax8,vI rx0138,vI rx1139,vI rx2140,vI rx3141]),(38,vI 3)],77,[],H377⟩ rfl ?_))
      refine w_seq (w_block (w_seq (w_region (mv (vI 3) rfl rfl ?_))))
      refine mv (vI x373) rfl rfl ?_
      refine sc_ (H:=H377) (vs:=[vI x373]) (fv:=.func (.func 37) #[] #[]) rfl rfl rfl rfl rfl rfl (.cons rfl rfl neI .nil) rfl ?_
      refine WV.mono (wv_f0 Try.call37 (tide_one_ok x373 _ w381)) ?_
      rintro v389 H390 ⟨k391,w388,rfl⟩
      refine kpL k391 fun n393 l392 => ?_
      refine sv (v:=vP H144.next 6) rfl rfl rfl (opv_indexAddrArrE rfl rfl rfl rfl rfl Try.underlying87 sz23 (by decide) (by decide) rfl) rfl ?_
      refine sv_put (H:=H390) (n:=H144.next) (v:=undef) (x:=some (.row #[vI x177,vI x178,vI x179,vI x180,vI x181,vI x182,vI x373,vI x373] .raw)) rfl rfl rfl rfl (opv_storeC (u:=.agg #[vI x373,vI x373]) rfl rfl rfl rfl rfl (by simp [undef]) sz23 rfl rfl rfl ((k391.get H144.next (by omega)).trans hb379) rfl rfl) ?_
      intro H394 f395
      refine putL w388 f395 ((k391.get H144.next (by omega)).trans hb379) fun n398 w396 l397 => ?_
      refine wo_nil (tq_n (wk ⟨[(3,vI ax11),(8,vP H106.next 0),(11,vP H121.next 0),(12,vP H144.next 0),(13,vP H162.next 0),(14,vI 3),(15,vP H189.next 0),(16,vI x373),(37,.agg #[vI ax1,vI ax2,vI ax7,vI ax8,vI rx0138,vI rx1139,vI rx2140,vI rx3141]),(38,vI 3)],77,[],H394⟩ rfl ?_))
      refine w_seq (w_region (sv (v:=.agg #[vI ax1,vI ax2,vI ax3,vI ax4,vI ax5,as6,vI ax7,vI ax8,vI ax9]) rfl rfl rfl (opv_loadE rfl rfl rfl ag79 sz79 ((f395.get H121.next (by omega)).trans ((k391.get H121.next (by omega)).trans ((k383.get H121.next (by omega) (by (try dsimp only); omega)).trans ((f369.get H121.next (by omega)).trans ((f364.get H121.next (by omega)).trans ((k201.get H121.next (by omega) (by (try dsimp only); omega)).trans ((f172.get H121.next (by omega)).trans ((k163.get H121.next (by omega)).trans ((f154.get H121.next (by omega)).trans ((f149.get H121.next (by omega)).trans ((k145.get H121.next (by omega)).trans f132.blk))))))))))) rfl (.inl rfl) rfl) rfl ?_))
      refine sv (v:=.agg #[vI x177,vI x178,vI x179,vI x180,vI x181,vI x182,vI x373,vI x373]) rfl rfl rfl (opv_loadE rfl rfl rfl ag87 sz87 f395.blk rfl (.inl rfl) rfl) rfl ?_
      refine mv (vI ax11) rfl rfl ?_
      refine sc_ (H:=H394) (vs:=[.agg #[vI ax1,vI ax2,vI ax3,vI ax4,vI ax5,as6,vI ax7,vI ax8,vI ax9],.agg #[vI x177,vI x178,vI x179,vI x180,vI x181,vI x182,vI x373,vI x373],vI ax11]) (fv:=.func (.func 43) #[] #[]) rfl rfl rfl rfl rfl rfl (.cons rfl rfl (by simp [undef]) (.cons rfl rfl (by simp [undef]) (.cons rfl rfl neI .nil))) rfl ?_
      refine WV.mono (wv_f0 Try.call43 (tide_withinE ax1 ax2 ax3 ax4 ax5 as6 ax7 ax8 ax9 x177 x178 x179 x180 x181 x182 x373 x373 ax11 _ w396 (hvas6.mono ((((((((((((((((l104.trans l109).trans l114).trans l123).trans l129).trans l134).trans l146).trans l151).trans l156).trans l164).trans l174).trans l200).trans l366).trans l371).trans l382).trans l392).trans l397)) (by omega) (by omega))) ?_
      rintro v402 H403 ⟨k404,w399,rb400,rfl,f401⟩
      refine kpL k404 fun n406 l405 => ?_
      rcases f401 with ⟨rfl,f401⟩ | ⟨rfl,f401⟩
      ·
       refine sv (v:=.bool false) rfl rfl rfl (opv_not (b:=true) rfl rfl rfl) rfl ?_
       refine wo_nil (tq_n (wk ⟨[(3,vI ax11),(8,vP H106.next 0),(11,vP H121.next 0),(12,vP H144.next 0),(13,vP H162.next 0),(14,vI 3),(15,vP H189.next 0),(16,vI x373),(37,.agg #[vI ax1,vI ax2,vI ax7,vI ax8,vI rx0138,vI rx1139,vI rx2140,vI rx3141]),(38,vI 3),(58,.bool false)],77,[],H403⟩ rfl ?_))
       refine w_cond (t:=false) rfl rfl (fun h => by cases h) (fun _ => ?_)
       refine w_skip ?_
       try refine q_eq (e':=.normal) rfl ?_
       refine tqk ⟨[(3,vI ax11),(8,vP H106.next 0),(11,vP H121.next 0),(12,vP H144.next 0),(13,vP H162.next 0),(14,vI 3),(15,vP H189.next 0),(16,vI x373),(37,.agg #[vI ax1,vI ax2,vI ax7,vI ax8,vI rx0138,vI rx1139,vI rx2140,vI rx3141]),(38,vI 3)],77,[],H403⟩ rfl ?_
       refine w_region (mv (vI x373) rfl rfl ?_)
       refine sv_int rfl rfl rfl (opv_bin rfl rfl rfl rfl rfl rfl) ?_
       intro x407 h408
       try replace h408:x407=x373 + 1:=wr_ex h408 (by omega) (by omega)
       refine mv (vI x407) rfl rfl ?_
       refine wo_nil ?_
       refine tq_n ⟨(rx3141 + 1 - x407).toNat,by omega,⟨[(3,vI ax11),(8,vP H106.next 0),(11,vP H121.next 0),(12,vP H144.next 0),(13,vP H162.next 0),(14,vI 3),(15,vP H189.next 0),(16,vI x407),(37,.agg #[vI ax1,vI ax2,vI ax7,vI ax8,vI rx0138,vI rx1139,vI rx2140,vI rx3141]),(38,vI 3)],77,[],H403⟩,subk rfl,x407,x373,x373,x376,H403,by omega,(k404.get H144.next (by omega)).trans f395.blk,(k404.get H162.next (by omega)).trans ((f395.get H162.next (by omega)).trans ((k391.get H162.next (by omega)).trans hb380)),w399,((l382.trans l392).trans l397).trans l405,(((((KeepX.refl (fun m => m=H144.next∨m=H162.next) H368).trans k383 (by intro m hm; (try simp only [false_or,or_false] at hm ⊢); (try dsimp only at hm ⊢); first | omega | (right; omega) | (left; left; omega) | (left; right; omega))).keep k391).put f395 (by first | (right; omega) | (left; (try dsimp only) <;> omega))).keep k404),rfl,rfl⟩
      ·
       refine sv (v:=.bool true) rfl rfl rfl (opv_not (b:=false) rfl rfl rfl) rfl ?_
       refine wo_nil (tq_n (wk ⟨[(3,vI ax11),(8,vP H106.next 0),(11,vP H121.next 0),(12,vP H144.next 0),(13,vP H162.next 0),(14,vI 3),(15,vP H189.next 0),(16,vI x373),(37,.agg #[vI ax1,vI ax2,vI ax7,vI ax8,vI rx0138,vI rx1139,vI rx2140,vI rx3141]),(38,vI 3),(58,.bool true)],77,[],H403⟩ rfl ?_))
       refine w_cond (t:=true) rfl rfl (fun _ => ?_) (fun h => by cases h)
       refine w_seq (w_region (mv (vI 3) rfl rfl ?_))
       refine mv (vI x373) rfl rfl ?_
       refine sv (v:=vP H162.next 3) rfl rfl rfl (opv_indexAddrArrE rfl rfl rfl rfl rfl Try.underlying83 sz3 (by decide) (by decide) rfl) rfl ?_
       refine sv_put (H:=H403) (n:=H162.next) (v:=undef) (x:=some (.row #[vI x185,vI x186,vI x187,vI x373] .raw)) rfl rfl rfl rfl (opv_storeC (u:=vI x373) rfl rfl rfl rfl rfl neI sz3 rfl rfl rfl ((k404.get H162.next (by omega)).trans ((f395.get H162.next (by omega)).trans ((k391.get H162.next (by omega)).trans hb380))) rfl rfl) ?_
       intro H409 f410
       refine putL w399 f410 ((k404.get H162.next (by omega)).trans ((f395.get H162.next (by omega)).trans ((k391.get H162.next (by omega)).trans hb380))) fun n413 w411 l412 => ?_
       refine wo_nil (tq_n (wk ⟨[(3,vI ax11),(8,vP H106.next 0),(11,vP H121.next 0),(12,vP H144.next 0),(13,vP H162.next 0),(37,.agg #[vI ax1,vI ax2,vI ax7,vI ax8,vI rx0138,vI rx1139,vI rx2140,vI rx3141]),(38,vI 3)],77,[],H409⟩ rfl ?_))
       refine w_exit ?_
       try refine q_eq (e':=.exit 1) rfl ?_
       refine tq_e (tq_e ?_)
       try refine q_eq (e':=.exit 1) rfl ?_
       try refine q_eq (e':=.normal) rfl ?_
       refine tqk ⟨[(3,vI ax11),(8,vP H106.next 0),(11,vP H121.next 0),(12,vP H144.next 0),(13,vP H162.next 0),(37,.agg #[vI ax1,vI ax2,vI ax7,vI ax8,vI rx0138,vI rx1139,vI rx2140,vI rx3141]),(38,vI 3)],77,[],H409⟩ rfl ?_
       refine w_region (sv (v:=vI 4) rfl rfl rfl (opv_bin rfl rfl rfl rfl rfl rfl) rfl ?_)
       refine mv (vI 4) rfl rfl ?_
       refine wo_nil ?_
       refine tq_n ⟨((4:Int) - 4).toNat,by omega,⟨[(3,vI ax11),(8,vP H106.next 0),(11,vP H121.next 0),(12,vP H144.next 0),(13,vP H162.next 0),(37,.agg #[vI ax1,vI ax2,vI ax7,vI ax8,vI rx0138,vI rx1139,vI rx2140,vI rx3141]),(38,vI 4)],77,[],H409⟩,subk rfl,4,x177,x178,x179,x180,x181,x182,x373,x373,x185,x186,x187,x373,H409,by omega,by omega,by omega,by omega,by omega,(fun hz => by first | exact ‹¬ WW _ _ _ _ _ _ _ _ _ _ _ _› | (exfalso; omega)),by omega,(f410.get H144.next (by omega)).trans ((k404.get H144.next (by omega)).trans f395.blk),f410.blk,w411,((((((l200.trans l366).trans l371).trans l382).trans l392).trans l397).trans l405).trans l412,(((((((((KeepX.refl (fun m => m=H144.next∨m=H162.next) H171).trans k201 (by intro m hm; (try simp only [false_or,or_false] at hm ⊢); (try dsimp only at hm ⊢); first | omega | (right; omega) | (left; left; omega) | (left; right; omega))).new_ f364).put f369 (by first | (right; omega) | (left; (try dsimp only) <;> omega))).trans k383 (by intro m hm; (try simp only [false_or,or_false] at hm ⊢); (try dsimp only at hm ⊢); first | omega | (right; omega) | (left; left; omega) | (left; right; omega))).keep k391).put f395 (by first | (right; omega) | (left; (try dsimp only) <;> omega))).keep k404).put f410 (by first | (right; omega) | (left; (try dsimp only) <;> omega))),rfl,rfl⟩
     ·
      refine sv (v:=.bool false) rfl rfl rfl (opv_bin rfl rfl rfl rfl rfl (cmpF rfl c387)) rfl ?_
      refine wo_nil (tq_n (wk ⟨[(3,vI ax11),(8,vP H106.next 0),(11,vP H121.next 0),(12,vP H144.next 0),(13,vP H162.next 0),(14,vI 3),(15,vP H189.next 0),(16,vI x373),(37,.agg #[vI ax1,vI ax2,vI ax7,vI ax8,vI rx0138,vI rx1139,vI rx2140,vI rx3141]),(38,vI 3),(47,.bool false)],77,[],H377⟩ rfl ?_))
      refine w_cond (t:=false) rfl rfl (fun h => by cases h) (fun _ => ?_)
      refine w_exit (tq_e (tq_e ?_))
      try refine q_eq (e':=.normal) rfl ?_
      try refine q_eq (e':=.normal) rfl ?_
      refine tqk ⟨[(3,vI ax11),(8,vP H106.next 0),(11,vP H121.next 0),(12,vP H144.next 0),(13,vP H162.next 0),(37,.agg #[vI ax1,vI ax2,vI ax7,vI ax8,vI rx0138,vI rx1139,vI rx2140,vI rx3141]),(38,vI 3)],77,[],H377⟩ rfl ?_
      refine w_region (sv (v:=vI 4) rfl rfl rfl (opv_bin rfl rfl rfl rfl rfl rfl) rfl ?_)
      refine mv (vI 4) rfl rfl ?_
      refine wo_nil ?_
      refine tq_n ⟨((4:Int) - 4).toNat,by omega,⟨[(3,vI ax11),(8,vP H106.next 0),(11,vP H121.next 0),(12,vP H144.next 0),(13,vP H162.next 0),(37,.agg #[vI ax1,vI ax2,vI ax7,vI ax8,vI rx0138,vI rx1139,vI rx2140,vI rx3141]),(38,vI 4)],77,[],H377⟩,subk rfl,4,x177,x178,x179,x180,x181,x182,x374,x375,x185,x186,x187,x376,H377,by omega,by omega,by omega,by omega,by omega,(fun hz => by first | exact ‹¬ WW _ _ _ _ _ _ _ _ _ _ _ _› | (exfalso; omega)),by omega,hb379,hb380,w381,((l200.trans l366).trans l371).trans l382,(((((KeepX.refl (fun m => m=H144.next∨m=H162.next) H171).trans k201 (by intro m hm; (try simp only [false_or,or_false] at hm ⊢); (try dsimp only at hm ⊢); first | omega | (right; omega) | (left; left; omega) | (left; right; omega))).new_ f364).put f369 (by first | (right; omega) | (left; (try dsimp only) <;> omega))).trans k383 (by intro m hm; (try simp only [false_or,or_false] at hm ⊢); (try dsimp only at hm ⊢); first | omega | (right; omega) | (left; left; omega) | (left; right; omega))),rfl,rfl⟩
   ·
    refine sv (v:=.bool false) rfl rfl rfl (opv_bin rfl rfl rfl rfl rfl (cmpF rfl c205)) rfl ?_
    refine wo_nil (tq_n (wk ⟨[(3,vI ax11),(8,vP H106.next 0),(11,vP H121.next 0),(12,vP H144.next 0),(13,vP H162.next 0),(37,.agg #[vI ax1,vI ax2,vI ax7,vI ax8,vI rx0138,vI rx1139,vI rx2140,vI rx3141]),(38,vI x176),(39,.bool false)],77,[],H189⟩ rfl ?_))
    refine w_seq (w_cond (t:=false) rfl rfl (fun h => by cases h) (fun _ => ?_))
    refine w_exit (tq_e (tq_e ?_))
    try refine q_eq (e':=.normal) rfl ?_
    refine tqk ⟨[(3,vI ax11),(8,vP H106.next 0),(11,vP H121.next 0),(13,vP H162.next 0)],77,[],H189⟩ rfl ?_
    refine w_seq (w_draw_start ?_)
    intro C0
    have C414:=ch_val (i:=9) (p:=0) (ks:=[11]) (v:=.agg #[vI ax1,vI ax2,vI ax3,vI ax4,vI ax5,as6,vI ax7,vI ax8,vI ax9]) (A:=H189) (H:=H189) C0 rfl rfl rfl rfl rfl rfl (opv_loadE rfl rfl rfl ag79 sz79 ((k201.get H121.next (by omega) (by (try dsimp only); omega)).trans ((f172.get H121.next (by omega)).trans ((k163.get H121.next (by omega)).trans ((f154.get H121.next (by omega)).trans ((f149.get H121.next (by omega)).trans ((k145.get H121.next (by omega)).trans f132.blk)))))) rfl (.inl rfl) rfl)
    have C415:=ch_val (i:=10) (p:=0) (ks:=[3]) (v:=vI ax11) (A:=H189) (H:=H189) C414 rfl rfl rfl rfl rfl rfl (opv_move (.inl rfl) rfl rfl)
    obtain ⟨_,H424,k425,⟨w417,r1418,r2419,r3420,rfl,⟨hb421,_,_⟩,⟨hb422,_,_⟩,⟨hb423,_,_⟩⟩,C416⟩:=ch_call (i:=11) (p:=2) (ks:=[72,73]) (vs:=[.agg #[vI ax1,vI ax2,vI ax3,vI ax4,vI ax5,as6,vI ax7,vI ax8,vI ax9],vI ax11,vI 0]) (fv:=.func (.func 42) #[] #[]) (H:=H189) C415 rfl rfl rfl rfl rfl rfl rfl (.cons rfl rfl (by simp [undef]) (.cons rfl rfl neI (.cons rfl rfl neI .nil))) rfl (wv_f0 Try.call42 (tide_at_ok ax1 ax2 ax3 ax4 ax5 as6 ax7 ax8 ax9 ax11 0 _ w199 (hvas6.mono (((((((((((l104.trans l109).trans l114).trans l123).trans l129).trans l134).trans l146).trans l151).trans l156).trans l164).trans l174).trans l200))))
    refine kpL k425 fun n427 l426 => ?_
    have C428:=ch_val (i:=12) (p:=0) (ks:=[13]) (v:=.agg #[vI x185,vI x186,vI x187,vI x188]) (A:=H189) (H:=H424) C416 rfl rfl rfl rfl rfl rfl (opv_loadE rfl rfl rfl ag83 sz83 hb198 rfl (.inl rfl) rfl)
    obtain ⟨_,H432,k433,⟨w430,rx1431,rfl⟩,C429⟩:=ch_call (i:=13) (p:=4) (ks:=[74,75]) (vs:=[.agg #[vI x185,vI x186,vI x187,vI x188]]) (fv:=.func (.func 61) #[] #[vP r1418 0,vP r2419 0,vP r3420 0]) (H:=H424) C428 rfl rfl rfl rfl rfl rfl rfl (.cons rfl rfl (by simp [undef]) .nil) rfl (wv_fc (cap:=[vP r1418 0,vP r2419 0,vP r3420 0]) Try.call61 (tide_at1_ok x185 x186 x187 x188 r1418 r2419 r3420 0 ax11 ax1 ax2 ax3 ax4 ax5 as6 ax7 ax8 ax9 _ w417 (hvas6.mono ((((((((((((l104.trans l109).trans l114).trans l123).trans l129).trans l134).trans l146).trans l151).trans l156).trans l164).trans l174).trans l200).trans l426)) hb421 (by omega) hb422 (by omega) hb423 (by omega) (by omega)))
    refine kpL k433 fun n435 l434 => ?_
    have C436:=ch_val (i:=0) (p:=0) (ks:=[13]) (v:=vP H162.next 0) (A:=H189) (H:=H432) C429 rfl rfl rfl rfl rfl rfl (opv_indexAddrArrE rfl rfl rfl rfl rfl Try.underlying83 sz3 (by decide) (by decide) rfl)
    have C437:=ch_val (i:=1) (p:=0) (ks:=[63]) (v:=vI x185) (A:=H189) (H:=H432) C436 rfl rfl rfl rfl rfl rfl (opv_loadE rfl rfl rfl ag3 sz3 hb198 rfl (.inr rfl) rfl)
    have C438:=ch_val (i:=2) (p:=0) (ks:=[13]) (v:=vP H162.next 1) (A:=H189) (H:=H432) C437 rfl rfl rfl rfl rfl rfl (opv_indexAddrArrE rfl rfl rfl rfl rfl Try.underlying83 sz3 (by decide) (by decide) rfl)
    have C439:=ch_val (i:=3) (p:=0) (ks:=[65]) (v:=vI x186) (A:=H189) (H:=H432) C438 rfl rfl rfl rfl rfl rfl (opv_loadE rfl rfl rfl ag3 sz3 hb198 rfl (.inr rfl) rfl)
    have C440:=ch_val (i:=4) (p:=0) (ks:=[13]) (v:=vP H162.next 2) (A:=H189) (H:=H432) C439 rfl rfl rfl rfl rfl rfl (opv_indexAddrArrE rfl rfl rfl rfl rfl Try.underlying83 sz3 (by decide) (by decide) rfl)
    have C441:=ch_val (i:=5) (p:=0) (ks:=[67]) (v:=vI x187) (A:=H189) (H:=H432) C440 rfl rfl rfl rfl rfl rfl (opv_loadE rfl rfl rfl ag3 sz3 hb198 rfl (.inr rfl) rfl)
    have C442:=ch_val (i:=6) (p:=0) (ks:=[13]) (v:=vP H162.next 3) (A:=H189) (H:=H432) C441 rfl rfl rfl rfl rfl rfl (opv_indexAddrArrE rfl rfl rfl rfl rfl Try.underlying83 sz3 (by decide) (by decide) rfl)
    have C443:=ch_val (i:=7) (p:=0) (ks:=[69]) (v:=vI x188) (A:=H189) (H:=H432) C442 rfl rfl rfl rfl rfl rfl (opv_loadE rfl rfl rfl ag3 sz3 hb198 rfl (.inr rfl) rfl)
    have C444:=ch_val (i:=8) (p:=0) (ks:=[64,66,68,70]) (v:=.agg #[vI x185,vI x186,vI x187,vI x188]) (A:=H189) (H:=H432) C443 rfl rfl rfl rfl rfl rfl (opv_buildStE (vs:=[(0,vI x185),(1,vI x186),(2,vI x187),(3,vI x188)]) rfl (.cons rfl rfl neI (.cons rfl rfl neI (.cons rfl rfl neI (.cons rfl rfl neI .nil)))) ze59 rfl tin59 Try.underlying59 pl59 rfl rfl)
    refine w_draw (tl:=[14,15,16]) rfl [0,1,0,4,0,16,0,64,255,0,0,1536,0,7680,16383,32767,65535] C444 (by kernel_rfl) (by kernel_rfl) ?_
    refine wonorm (g:=[(8,vP H106.next 0),(71,.agg #[vI x185,vI x186,vI x187,vI x188]),(76,vI rx1431)]) (n:=77) (ds:=[]) (H:=H432) (lsub_cons rfl (lsub_cons rfl (lsub_cons rfl (lsub_nil _)))) rfl rfl rfl ?_
    refine sv_put (H:=H432) (n:=H106.next) (v:=undef) (x:=some (.row #[vI x185,vI x186,vI x187,vI x188] .raw)) rfl rfl rfl rfl (opv_storeC (u:=.agg #[vI x185,vI x186,vI x187,vI x188]) rfl rfl rfl rfl rfl (by simp [undef]) sz59 rfl rfl rfl ((k433.get H106.next (by omega)).trans ((k425.get H106.next (by omega)).trans ((k201.get H106.next (by omega) (by (try dsimp only); omega)).trans ((f172.get H106.next (by omega)).trans ((k163.get H106.next (by omega)).trans ((f154.get H106.next (by omega)).trans ((f149.get H106.next (by omega)).trans ((k145.get H106.next (by omega)).trans ((f132.get H106.next (by omega)).trans ((f127.get H106.next (by omega)).trans ((k122.get H106.next (by omega)).trans f112.blk))))))))))) rfl rfl) ?_
    intro H445 f446
    refine putL w430 f446 ((k433.get H106.next (by omega)).trans ((k425.get H106.next (by omega)).trans ((k201.get H106.next (by omega) (by (try dsimp only); omega)).trans ((f172.get H106.next (by omega)).trans ((k163.get H106.next (by omega)).trans ((f154.get H106.next (by omega)).trans ((f149.get H106.next (by omega)).trans ((k145.get H106.next (by omega)).trans ((f132.get H106.next (by omega)).trans ((f127.get H106.next (by omega)).trans ((k122.get H106.next (by omega)).trans f112.blk))))))))))) fun n449 w447 l448 => ?_
    refine mv (vI rx1431) rfl rfl ?_
    refine mv (vI 0) rfl rfl ?_
    refine wo_nil (tq_n (wk ⟨[(8,vP H106.next 0),(9,vI rx1431),(10,vI 0)],77,[],H445⟩ rfl ?_))
    refine w_ret (⟨rfl,?_⟩)
    refine ⟨.inr rfl,rfl,[.agg #[vI x185,vI x186,vI x187,vI x188],vI rx1431,vI 0],.cons (resV_cellE rfl ag59 sz59 f446.blk rfl (.inl rfl) rfl) (.cons (resV_tmp rfl neI) (.cons (resV_tmp rfl neI) .nil)),(((((((((((((((((KeepX.refl (fun _ => False) H).new_ f102).new_ f107).new_ f112).keep k122).new_ f127).put f132 (by first | (right; omega) | (left; (try dsimp only) <;> omega))).keep k145).new_ f149).put f154 (by first | (right; omega) | (left; (try dsimp only) <;> omega))).keep k163).new_ f172).trans k201 (by intro m hm; (try simp only [false_or,or_false] at hm ⊢); (try dsimp only at hm ⊢); first | omega | (right; omega) | (left; left; omega) | (left; right; omega))).keep k425).keep k433).put f446 (by first | (right; omega) | (left; (try dsimp only) <;> omega))).k (fun _ h => h.elim)),w447,x185,x186,x187,x188,rx1431,0,rfl⟩
 ·
  refine sv (v:=.bool true) rfl rfl rfl (opv_bin rfl rfl rfl rfl rfl (neT c136)) rfl ?_
  refine wo_nil (tq_n (wk ⟨[(2,vI ax10),(3,vI ax11),(8,vP H106.next 0),(10,vI rx21117),(11,vP H121.next 0),(26,.bool true)],77,[],H131⟩ rfl ?_))
  refine w_cond (t:=true) rfl rfl (fun _ => ?_) (fun h => by cases h)
  refine w_seq (w_region (sv (v:=.agg #[vI 0,vI 0,vI 0,vI 0]) rfl rfl rfl (opv_loadE rfl rfl rfl ag59 sz59 ((f132.get H106.next (by omega)).trans ((f127.get H106.next (by omega)).trans ((k122.get H106.next (by omega)).trans f112.blk))) rfl (.inl rfl) rfl) rfl ?_))
  refine mv (vI rx21117) rfl rfl ?_
  refine sv_put (H:=H131) (n:=H106.next) (v:=undef) (x:=some (.row #[vI 0,vI 0,vI 0,vI 0] .raw)) rfl rfl rfl rfl (opv_storeC (u:=.agg #[vI 0,vI 0,vI 0,vI 0]) rfl rfl rfl rfl rfl (by simp [undef]) sz59 rfl rfl rfl ((f132.get H106.next (by omega)).trans ((f127.get H106.next (by omega)).trans ((k122.get H106.next (by omega)).trans f112.blk))) rfl rfl) ?_
  intro H450 f451
  refine putL w133 f451 ((f132.get H106.next (by omega)).trans ((f127.get H106.next (by omega)).trans ((k122.get H106.next (by omega)).trans f112.blk))) fun n454 w452 l453 => ?_
  refine mv (vI 0) rfl rfl ?_
  refine mv (vI rx21117) rfl rfl ?_
  refine wo_nil (tq_n (wk ⟨[(8,vP H106.next 0),(9,vI 0),(10,vI rx21117)],77,[],H450⟩ rfl ?_))
  refine w_ret (tq_r (⟨rfl,?_⟩))
  refine ⟨.inr rfl,rfl,[.agg #[vI 0,vI 0,vI 0,vI 0],vI 0,vI rx21117],.cons (resV_cellE rfl ag59 sz59 f451.blk rfl (.inl rfl) rfl) (.cons (resV_tmp rfl neI) (.cons (resV_tmp rfl neI) .nil)),(((((((((KeepX.refl (fun _ => False) H).new_ f102).new_ f107).new_ f112).keep k122).new_ f127).put f132 (by first | (right; omega) | (left; (try dsimp only) <;> omega))).put f451 (by first | (right; omega) | (left; (try dsimp only) <;> omega))).k (fun _ h => h.elim)),w452,0,0,0,0,0,rx21117,rfl⟩
end Go.Proofs.Orl

namespace Go.Proofs.Orl
open Go
set_option maxRecDepth 10000
set_option maxHeartbeats 4000000
theorem ag30:aggT Try.prog 30=some true:=by kernel_rfl
theorem sz30:szT Try.prog 30=some 2:=by kernel_rfl
theorem ze30:zeroT Try.prog 30=some (.agg #[vI 0,vI 0]):=by kernel_rfl
theorem tide_over_ok (p0 p1 bi:Int) (n1:Nat) (ax1 ax2:Int) (ax3 ax4 ax5:Int) (as6:Value) (ax7 ax8 ax9:Int) (H:SH) (wt:WT H) (hvas6:VT H (.sl false [.int .i64,.int .i64,.int .i64,.int .i64,.int .i64]) as6) (hkn1:H.get n1=some (.row #[vI ax1,vI ax2,vI ax3,vI ax4,vI ax5,as6,vI ax7,vI ax8,vI ax9] .raw)) (hln1:n1 < H.next) (h0:0 ≤ p0) (h1:p0 < (slen as6:Int)):WC Try.prog 63 [.agg #[vI p0,vI p1],vI bi,vP n1 0] H (fun v H' => Keep H H'∧WT H'∧∃ (rx1 rx2:Int),v=(.agg #[vI rx1,vI rx2])):=by
 refine wc_of_body Try.func63 rfl ?_
 refine wk ⟨[(0,.agg #[vI p0,vI p1]),(1,vI bi),(2,vP n1 0)],47,[],H⟩ rfl ?_
 refine w_seq (w_region (sv_new (H:=H) (v:=vP H.next 0) (x:=.row #[vI p0,vI p1] .raw) rfl rfl rfl rfl (opv_boxE (v:=.agg #[vI p0,vI p1]) rfl rfl rfl (by simp [undef]) rfl) ?_))
 intro H101 f102
 refine newL wt f102 fun n105 w103 l104 => ?_
 refine sv_new (H:=H101) (v:=vP H101.next 0) (x:=.row #[vI 0,vI 0] .raw) rfl rfl rfl rfl (opv_alloc rfl ze23 rfl) ?_
 intro H106 f107
 refine newL w103 f107 fun n110 w108 l109 => ?_
 refine wo_nil (tq_n (wk ⟨[(1,vI bi),(2,vP n1 0),(3,vP H.next 0),(5,vP H101.next 0)],47,[],H106⟩ rfl ?_))
 refine w_seq (w_region (sv (v:=.agg #[vI ax1,vI ax2,vI ax3,vI ax4,vI ax5,as6,vI ax7,vI ax8,vI ax9]) rfl rfl rfl (opv_loadE rfl rfl rfl ag79 sz79 ((f107.get n1 (by omega)).trans ((f102.get n1 (by omega)).trans hkn1)) rfl (.inl rfl) rfl) rfl ?_))
 refine sv (v:=vP H.next 0) rfl rfl rfl (opv_fieldAddrE rfl rfl rfl Try.underlying30 rfl sz3 (by decide) rfl) rfl ?_
 refine sv (v:=vI p0) rfl rfl rfl (opv_loadE rfl rfl rfl ag3 sz3 ((f107.get H.next (by omega)).trans f102.blk) rfl (.inr rfl) rfl) rfl ?_
 refine sc_ (H:=H106) (vs:=[.agg #[vI ax1,vI ax2,vI ax3,vI ax4,vI ax5,as6,vI ax7,vI ax8,vI ax9],vI p0]) (fv:=.func (.func 40) #[] #[]) rfl rfl rfl rfl rfl rfl (.cons rfl rfl (by simp [undef]) (.cons rfl rfl neI .nil)) rfl ?_
 refine WV.mono (wv_f0 Try.call40 (tide_box_ok ax1 ax2 ax3 ax4 ax5 as6 ax7 ax8 ax9 p0 _ w108 (hvas6.mono (l104.trans l109)) (by omega) (by omega))) ?_
 rintro v116 H117 ⟨k118,w111,rx0112,rx1113,rx2114,rx3115,rfl⟩
 refine kpL k118 fun n120 l119 => ?_
 refine sv_new (H:=H117) (v:=vP H117.next 0) (x:=.row #[vI 0,vI 0,vI 0,vI 0,vI 0,vI 0,vI 0,vI 0] .raw) rfl rfl rfl rfl (opv_alloc rfl ze87 rfl) ?_
 intro H121 f122
 refine newL w111 f122 fun n125 w123 l124 => ?_
 refine sv_put (H:=H121) (n:=H117.next) (v:=undef) (x:=some (.row #[vI ax1,vI ax2,vI ax7,vI ax8,vI rx0112,vI rx1113,vI rx2114,vI rx3115] .raw)) rfl rfl rfl rfl (opv_storeC (u:=.agg #[vI ax1,vI ax2,vI ax7,vI ax8,vI rx0112,vI rx1113,vI rx2114,vI rx3115]) rfl rfl rfl rfl rfl (by simp [undef]) sz87 rfl rfl rfl f122.blk rfl rfl) ?_
 intro H126 f127
 refine putL w123 f127 f122.blk fun n130 w128 l129 => ?_
 refine wo_nil (tq_n (wk ⟨[(1,vI bi),(2,vP n1 0),(3,vP H.next 0),(5,vP H101.next 0),(6,vP H117.next 0)],47,[],H126⟩ rfl ?_))
 refine w_seq (w_region (mv (vI bi) rfl rfl ?_))
 refine sv (v:=vP n1 6) rfl rfl rfl (opv_fieldAddrE rfl rfl rfl Try.underlying79 rfl sz28 (by decide) rfl) rfl ?_
 refine sv (v:=vP n1 8) rfl rfl rfl (opv_fieldAddrE rfl rfl rfl Try.underlying28 rfl sz3 (by decide) rfl) rfl ?_
 refine sv (v:=vI ax9) rfl rfl rfl (opv_loadE rfl rfl rfl ag3 sz3 ((f127.get n1 (by omega)).trans ((f122.get n1 (by omega)).trans ((k118.get n1 (by omega)).trans ((f107.get n1 (by omega)).trans ((f102.get n1 (by omega)).trans hkn1))))) rfl (.inr rfl) rfl) rfl ?_
 refine sv (v:=vP H.next 1) rfl rfl rfl (opv_fieldAddrE rfl rfl rfl Try.underlying30 rfl sz3 (by decide) rfl) rfl ?_
 refine sv (v:=vI p1) rfl rfl rfl (opv_loadE rfl rfl rfl ag3 sz3 ((f127.get H.next (by omega)).trans ((f122.get H.next (by omega)).trans ((k118.get H.next (by omega)).trans ((f107.get H.next (by omega)).trans f102.blk)))) rfl (.inr rfl) rfl) rfl ?_
 refine sv_int rfl rfl rfl (opv_bin rfl rfl rfl rfl rfl rfl) ?_
 intro x131 h132
 try replace h132:x131=ax9 * p1:=wr_ex h132 (by omega) (by omega)
 refine sv_int rfl rfl rfl (opv_bin rfl rfl rfl rfl rfl rfl) ?_
 intro x133 h134
 try replace h134:x133=bi - x131:=wr_ex h134 (by omega) (by omega)
 refine mv (vI x133) rfl rfl ?_
 refine wo_nil (tq_n (wk ⟨[(5,vP H101.next 0),(6,vP H117.next 0),(7,vI x133)],47,[],H126⟩ rfl ?_))
 refine w_seq (w_region (sv (v:=vP H117.next 4) rfl rfl rfl (opv_indexAddrArrE rfl rfl rfl rfl rfl Try.underlying87 sz23 (by decide) (by decide) rfl) rfl ?_))
 refine sv (v:=vP H117.next 4) rfl rfl rfl (opv_fieldAddrE rfl rfl rfl Try.underlying23 rfl sz3 (by decide) rfl) rfl ?_
 refine sv (v:=vI rx0112) rfl rfl rfl (opv_loadE rfl rfl rfl ag3 sz3 f127.blk rfl (.inr rfl) rfl) rfl ?_
 refine sv (v:=vP H117.next 6) rfl rfl rfl (opv_indexAddrArrE rfl rfl rfl rfl rfl Try.underlying87 sz23 (by decide) (by decide) rfl) rfl ?_
 refine sv (v:=vP H117.next 6) rfl rfl rfl (opv_fieldAddrE rfl rfl rfl Try.underlying23 rfl sz3 (by decide) rfl) rfl ?_
 refine sv (v:=vI rx2114) rfl rfl rfl (opv_loadE rfl rfl rfl ag3 sz3 f127.blk rfl (.inr rfl) rfl) rfl ?_
 refine sv_int rfl rfl rfl (opv_bin rfl rfl rfl rfl rfl rfl) ?_
 intro x135 h136
 try replace h136:x135=rx0112 + rx2114:=wr_ex h136 (by omega) (by omega)
 refine sv (v:=vP H117.next 2) rfl rfl rfl (opv_indexAddrArrE rfl rfl rfl rfl rfl Try.underlying87 sz23 (by decide) (by decide) rfl) rfl ?_
 refine sv (v:=vP H117.next 3) rfl rfl rfl (opv_fieldAddrE rfl rfl rfl Try.underlying23 rfl sz3 (by decide) rfl) rfl ?_
 refine sv (v:=vI ax8) rfl rfl rfl (opv_loadE rfl rfl rfl ag3 sz3 f127.blk rfl (.inr rfl) rfl) rfl ?_
 refine sv_int rfl rfl rfl (opv_bin rfl rfl rfl rfl rfl rfl) ?_
 intro x137 h138
 try replace h138:x137=x135 - ax8:=wr_ex h138 (by omega) (by omega)
 refine mv (vI x133) rfl rfl ?_
 refine sv_int rfl rfl rfl (opv_bin rfl rfl rfl rfl rfl rfl) ?_
 intro x139 h140
 try replace h140:x139=x137 + x133:=wr_ex h140 (by omega) (by omega)
 refine sv (v:=vP H117.next 4) rfl rfl rfl (opv_indexAddrArrE rfl rfl rfl rfl rfl Try.underlying87 sz23 (by decide) (by decide) rfl) rfl ?_
 refine sv (v:=vP H117.next 5) rfl rfl rfl (opv_fieldAddrE rfl rfl rfl Try.underlying23 rfl sz3 (by decide) rfl) rfl ?_
 refine sv (v:=vI rx1113) rfl rfl rfl (opv_loadE rfl rfl rfl ag3 sz3 f127.blk rfl (.inr rfl) rfl) rfl ?_
 refine sv (v:=vP H117.next 6) rfl rfl rfl (opv_indexAddrArrE rfl rfl rfl rfl rfl Try.underlying87 sz23 (by decide) (by decide) rfl) rfl ?_
 refine sv (v:=vP H117.next 7) rfl rfl rfl (opv_fieldAddrE rfl rfl rfl Try.underlying23 rfl sz3 (by decide) rfl) rfl ?_
 refine sv (v:=vI rx3115) rfl rfl rfl (opv_loadE rfl rfl rfl ag3 sz3 f127.blk rfl (.inr rfl) rfl) rfl ?_
 refine sv_int rfl rfl rfl (opv_bin rfl rfl rfl rfl rfl rfl) ?_
 intro x141 h142
 try replace h142:x141=rx1113 + rx3115:=wr_ex h142 (by omega) (by omega)
 refine sv (v:=vP H117.next 2) rfl rfl rfl (opv_indexAddrArrE rfl rfl rfl rfl rfl Try.underlying87 sz23 (by decide) (by decide) rfl) rfl ?_
 refine sv (v:=vP H117.next 2) rfl rfl rfl (opv_fieldAddrE rfl rfl rfl Try.underlying23 rfl sz3 (by decide) rfl) rfl ?_
 refine sv (v:=vI ax7) rfl rfl rfl (opv_loadE rfl rfl rfl ag3 sz3 f127.blk rfl (.inr rfl) rfl) rfl ?_
 refine sv_int rfl rfl rfl (opv_bin rfl rfl rfl rfl rfl rfl) ?_
 intro x143 h144
 try replace h144:x143=x141 - ax7:=wr_ex h144 (by omega) (by omega)
 refine mv (vI x133) rfl rfl ?_
 refine sv_int rfl rfl rfl (opv_bin rfl rfl rfl rfl rfl rfl) ?_
 intro x145 h146
 try replace h146:x145=x143 + x133:=wr_ex h146 (by omega) (by omega)
 refine sv (v:=.agg #[vI x139,vI x145]) rfl rfl rfl (opv_buildStE (vs:=[(0,vI x139),(1,vI x145)]) rfl (.cons rfl rfl neI (.cons rfl rfl neI .nil)) ze23 rfl tin23 Try.underlying23 pl23 rfl rfl) rfl ?_
 refine sv_put (H:=H126) (n:=H101.next) (v:=undef) (x:=some (.row #[vI x139,vI x145] .raw)) rfl rfl rfl rfl (opv_storeC (u:=.agg #[vI x139,vI x145]) rfl rfl rfl rfl rfl (by simp [undef]) sz23 rfl rfl rfl ((f127.get H101.next (by omega)).trans ((f122.get H101.next (by omega)).trans ((k118.get H101.next (by omega)).trans f107.blk))) rfl rfl) ?_
 intro H147 f148
 refine putL w128 f148 ((f127.get H101.next (by omega)).trans ((f122.get H101.next (by omega)).trans ((k118.get H101.next (by omega)).trans f107.blk))) fun n151 w149 l150 => ?_
 refine wo_nil (tq_n (wk ⟨[(5,vP H101.next 0)],47,[],H147⟩ rfl ?_))
 refine w_ret ?_
 refine ⟨.inr rfl,rfl,[.agg #[vI x139,vI x145]],.cons (resV_cellE rfl ag23 sz23 f148.blk rfl (.inl rfl) rfl) .nil,((((((((KeepX.refl (fun _ => False) H).new_ f102).new_ f107).keep k118).new_ f122).put f127 (by first | (right; omega) | (left; (try dsimp only) <;> omega))).put f148 (by first | (right; omega) | (left; (try dsimp only) <;> omega))).k (fun _ h => h.elim)),w149,x139,x145,rfl⟩

theorem tide_lies64_ok (c0 c1:Int) (c2 c3:Int) (H:SH) (wt:WT H) (h0:c0 ≠ 0):WC Try.prog 64 [.agg #[vI c0,vI c1,vI c2,vI c3]] H (fun v H' => Keep H H'∧WT H'∧∃ (rx1:Int),v=(vI rx1)):=by
 refine wc_of_body Try.func64 rfl ?_
 refine wk ⟨[(0,.agg #[vI c0,vI c1,vI c2,vI c3])],9,[],H⟩ rfl ?_
 refine w_seq (w_region (sv_new (H:=H) (v:=vP H.next 0) (x:=.row #[vI c0,vI c1,vI c2,vI c3] .raw) rfl rfl rfl rfl (opv_boxE (v:=.agg #[vI c0,vI c1,vI c2,vI c3]) rfl rfl rfl (by simp [undef]) rfl) ?_))
 intro H101 f102
 refine newL wt f102 fun n105 w103 l104 => ?_
 refine mv (vI 0) rfl rfl ?_
 refine wo_nil (tq_n (wk ⟨[(1,vP H.next 0)],9,[],H101⟩ rfl ?_))
 refine w_seq (w_region (sv (v:=vP H.next 2) rfl rfl rfl (opv_indexAddrArrE rfl rfl rfl rfl rfl Try.underlying83 sz3 (by decide) (by decide) rfl) rfl ?_))
 refine sv (v:=vI c2) rfl rfl rfl (opv_loadE rfl rfl rfl ag3 sz3 f102.blk rfl (.inr rfl) rfl) rfl ?_
 refine sv_int rfl rfl rfl (opv_bin rfl rfl rfl rfl rfl rfl) ?_
 intro x106 h107
 try replace h107:x106=1000 * c2:=wr_ex h107 (by omega) (by omega)
 refine sv (v:=vP H.next 0) rfl rfl rfl (opv_indexAddrArrE rfl rfl rfl rfl rfl Try.underlying83 sz3 (by decide) (by decide) rfl) rfl ?_
 refine sv (v:=vI c0) rfl rfl rfl (opv_loadE rfl rfl rfl ag3 sz3 f102.blk rfl (.inr rfl) rfl) rfl ?_
 refine sc_ (H:=H101) (vs:=[vI x106,vI c0]) (fv:=.func (.func 62) #[] #[]) rfl rfl rfl rfl rfl rfl (.cons rfl rfl neI (.cons rfl rfl neI .nil)) rfl ?_
 refine WV.mono (wv_f0 Try.call62 (tide_down_ok x106 c0 _ w103 (by omega))) ?_
 rintro v110 H111 ⟨k112,w108,rx3109,rfl⟩
 refine kpL k112 fun n114 l113 => ?_
 refine mv (vI rx3109) rfl rfl ?_
 refine wo_nil (tq_n (wk ⟨[(2,vI rx3109)],9,[],H111⟩ rfl ?_))
 refine w_ret ?_
 refine ⟨.inr rfl,rfl,[vI rx3109],.cons (resV_tmp rfl neI) .nil,(((KeepX.refl (fun _ => False) H).new_ f102).keep k112).k (fun _ h => h.elim),w108,rx3109,rfl⟩

theorem tide_lies65_ok (c0 c1:Int) (c2 c3:Int) (H:SH) (wt:WT H) (h0:c0 ≠ 0):WC Try.prog 65 [.agg #[vI c0,vI c1,vI c2,vI c3]] H (fun v H' => Keep H H'∧WT H'∧∃ (rx1:Int),v=(vI rx1)):=by
 refine wc_of_body Try.func65 rfl ?_
 refine wk ⟨[(0,.agg #[vI c0,vI c1,vI c2,vI c3])],9,[],H⟩ rfl ?_
 refine w_seq (w_region (sv_new (H:=H) (v:=vP H.next 0) (x:=.row #[vI c0,vI c1,vI c2,vI c3] .raw) rfl rfl rfl rfl (opv_boxE (v:=.agg #[vI c0,vI c1,vI c2,vI c3]) rfl rfl rfl (by simp [undef]) rfl) ?_))
 intro H101 f102
 refine newL wt f102 fun n105 w103 l104 => ?_
 refine mv (vI 0) rfl rfl ?_
 refine wo_nil (tq_n (wk ⟨[(1,vP H.next 0)],9,[],H101⟩ rfl ?_))
 refine w_seq (w_region (sv (v:=vP H.next 2) rfl rfl rfl (opv_indexAddrArrE rfl rfl rfl rfl rfl Try.underlying83 sz3 (by decide) (by decide) rfl) rfl ?_))
 refine sv (v:=vI c2) rfl rfl rfl (opv_loadE rfl rfl rfl ag3 sz3 f102.blk rfl (.inr rfl) rfl) rfl ?_
 refine sv_int rfl rfl rfl (opv_bin rfl rfl rfl rfl rfl rfl) ?_
 intro x106 h107
 try replace h107:x106=1000 * c2:=wr_ex h107 (by omega) (by omega)
 refine sv (v:=vP H.next 0) rfl rfl rfl (opv_indexAddrArrE rfl rfl rfl rfl rfl Try.underlying83 sz3 (by decide) (by decide) rfl) rfl ?_
 refine sv (v:=vI c0) rfl rfl rfl (opv_loadE rfl rfl rfl ag3 sz3 f102.blk rfl (.inr rfl) rfl) rfl ?_
 refine sc_ (H:=H101) (vs:=[vI x106,vI c0]) (fv:=.func (.func 62) #[] #[]) rfl rfl rfl rfl rfl rfl (.cons rfl rfl neI (.cons rfl rfl neI .nil)) rfl ?_
 refine WV.mono (wv_f0 Try.call62 (tide_down_ok x106 c0 _ w103 (by omega))) ?_
 rintro v110 H111 ⟨k112,w108,rx3109,rfl⟩
 refine kpL k112 fun n114 l113 => ?_
 refine mv (vI rx3109) rfl rfl ?_
 refine wo_nil (tq_n (wk ⟨[(2,vI rx3109)],9,[],H111⟩ rfl ?_))
 refine w_ret ?_
 refine ⟨.inr rfl,rfl,[vI rx3109],.cons (resV_tmp rfl neI) .nil,(((KeepX.refl (fun _ => False) H).new_ f102).keep k112).k (fun _ h => h.elim),w108,rx3109,rfl⟩

theorem tide_lies_ok (ax1 ax2:Int) (ax3 ax4 ax5:Int) (as6:Value) (ax7 ax8:Int) (ax9 ax10 ax11:Int) (as12:Value) (H:SH) (wt:WT H) (hvas6:VT H (.sl false [.int .i64,.int .i64,.int .i64,.int .i64,.int .i64]) as6) (hvas12:VT H (.sl false [.int .i64,.int .i64]) as12) (h0:1 ≤ ax1) (h1:ax1 ≤ ax2) (h2:0 ≤ ax10) (h3:ax10 < (slen as6:Int)) (hel0 : ∀ k:Nat,k < slen as12→0 ≤ elI H as12 (k * 2 + 0)∧elI H as12 (k * 2 + 0) < (slen as6:Int)):WC Try.prog 50 [.agg #[vI ax1,vI ax2,vI ax3,vI ax4,vI ax5,as6,vI ax7,vI ax8,vI ax9],.agg #[vI ax10,vI ax11],as12] H (fun v H' => Keep H H'∧WT H'∧∃ (rx13 rx14:Int),v=(.agg #[vI rx13,vI rx14])):=by
 refine wc_of_body Try.func50 rfl ?_
 refine wk ⟨[(0,.agg #[vI ax1,vI ax2,vI ax3,vI ax4,vI ax5,as6,vI ax7,vI ax8,vI ax9]),(1,.agg #[vI ax10,vI ax11]),(2,as12)],66,[],H⟩ rfl ?_
 refine w_seq (w_region (sv_new (H:=H) (v:=vP H.next 0) (x:=.row #[vI ax1,vI ax2,vI ax3,vI ax4,vI ax5,as6,vI ax7,vI ax8,vI ax9] .raw) rfl rfl rfl rfl (opv_boxE (v:=.agg #[vI ax1,vI ax2,vI ax3,vI ax4,vI ax5,as6,vI ax7,vI ax8,vI ax9]) rfl rfl rfl (by simp [undef]) rfl) ?_))
 intro H101 f102
 refine newL wt f102 fun n105 w103 l104 => ?_
 refine sv_new (H:=H101) (v:=vP H101.next 0) (x:=.row #[vI ax10,vI ax11] .raw) rfl rfl rfl rfl (opv_boxE (v:=.agg #[vI ax10,vI ax11]) rfl rfl rfl (by simp [undef]) rfl) ?_
 intro H106 f107
 refine newL w103 f107 fun n110 w108 l109 => ?_
 refine sv_new (H:=H106) (v:=vP H106.next 0) (x:=.row #[vI 0,vI 0] .raw) rfl rfl rfl rfl (opv_alloc rfl ze23 rfl) ?_
 intro H111 f112
 refine newL w108 f112 fun n115 w113 l114 => ?_
 refine wo_nil (tq_n (wk ⟨[(2,as12),(3,vP H.next 0),(4,vP H101.next 0),(6,vP H106.next 0)],66,[],H111⟩ rfl ?_))
 refine w_seq (w_region (sv (v:=.func (.func 63) #[] #[vP H.next 0]) rfl rfl rfl (opv_makeFunc (vs:=[]) (us:=[vP H.next 0]) rfl (.func _) .nil (.cons rfl rfl neP .nil)) rfl ?_))
 refine mv (.func (.func 63) #[] #[vP H.next 0]) rfl rfl ?_
 refine wo_nil (tq_n (wk ⟨[(2,as12),(3,vP H.next 0),(4,vP H101.next 0),(6,vP H106.next 0),(7,.func (.func 63) #[] #[vP H.next 0])],66,[],H111⟩ rfl ?_))
 refine w_seq (w_region (mv (.func (.func 63) #[] #[vP H.next 0]) rfl rfl ?_))
 refine sv (v:=.agg #[vI ax10,vI ax11]) rfl rfl rfl (opv_loadE rfl rfl rfl ag30 sz30 ((f112.get H101.next (by omega)).trans f107.blk) rfl (.inl rfl) rfl) rfl ?_
 refine sc_ (H:=H111) (vs:=[.agg #[vI ax10,vI ax11],vI 0]) (fv:=.func (.func 63) #[] #[vP H.next 0]) rfl rfl rfl rfl rfl rfl (.cons rfl rfl (by simp [undef]) (.cons rfl rfl neI .nil)) rfl ?_
 refine WV.mono (wv_fc (cap:=[vP H.next 0]) Try.call63 (tide_over_ok ax10 ax11 0 H.next ax1 ax2 ax3 ax4 ax5 as6 ax7 ax8 ax9 _ w113 (hvas6.mono ((l104.trans l109).trans l114)) ((f112.get H.next (by omega)).trans ((f107.get H.next (by omega)).trans f102.blk)) (by omega) (by omega) (by omega))) ?_
 rintro v119 H120 ⟨k121,w116,rx1117,rx2118,rfl⟩
 refine kpL k121 fun n123 l122 => ?_
 refine sv_new (H:=H120) (v:=vP H120.next 0) (x:=.row #[vI 0,vI 0] .raw) rfl rfl rfl rfl (opv_alloc rfl ze23 rfl) ?_
 intro H124 f125
 refine newL w116 f125 fun n128 w126 l127 => ?_
 refine sv_put (H:=H124) (n:=H120.next) (v:=undef) (x:=some (.row #[vI rx1117,vI rx2118] .raw)) rfl rfl rfl rfl (opv_storeC (u:=.agg #[vI rx1117,vI rx2118]) rfl rfl rfl rfl rfl (by simp [undef]) sz23 rfl rfl rfl f125.blk rfl rfl) ?_
 intro H129 f130
 refine putL w126 f130 f125.blk fun n133 w131 l132 => ?_
 refine wo_nil (tq_n (wk ⟨[(2,as12),(3,vP H.next 0),(6,vP H106.next 0),(7,.func (.func 63) #[] #[vP H.next 0]),(8,vP H120.next 0)],66,[],H129⟩ rfl ?_))
 refine w_seq (w_seq (w_region (mv as12 rfl rfl ?_)))
 have c134:slen as12 ≤ 1073741824:=vt_lim (hvas12.mono (((((l104.trans l109).trans l114).trans l122).trans l127).trans l132))
 refine sv (v:=(vI (slen as12:Int))) rfl rfl rfl (t_len (hvas12.mono (((((l104.trans l109).trans l114).trans l122).trans l127).trans l132)) rfl rfl rfl Try.underlying31) rfl ?_
 refine mv (vI 0) rfl rfl ?_
 refine wo_nil (tq_n (wk ⟨[(3,vP H.next 0),(6,vP H106.next 0),(7,.func (.func 63) #[] #[vP H.next 0]),(8,vP H120.next 0),(18,as12),(19,(vI (slen as12:Int))),(20,vI 0)],66,[],H129⟩ rfl ?_))
 refine w_block (w_loopS (fun m145 s146 => ∃ (x135 x136 x137:Int) (H138:SH),(0 ≤ x135)∧(x135 ≤ (slen as12:Int))∧H138.get H120.next=some (.row #[vI x136,vI x137] .raw)∧WT H138∧Le H129 H138∧KeepX (fun m => m=H120.next) H129 H138∧m145=(((slen as12:Int):Int) - x135).toNat∧s146=⟨[(3,vP H.next 0),(6,vP H106.next 0),(7,.func (.func 63) #[] #[vP H.next 0]),(8,vP H120.next 0),(18,as12),(19,(vI (slen as12:Int))),(20,vI x135)],66,[],H138⟩) (n:=(((slen as12:Int):Int) - 0).toNat) ⟨⟨[(3,vP H.next 0),(6,vP H106.next 0),(7,.func (.func 63) #[] #[vP H.next 0]),(8,vP H120.next 0),(18,as12),(19,(vI (slen as12:Int))),(20,vI 0)],66,[],H129⟩,subk rfl,0,rx1117,rx2118,H129,by omega,by omega,f130.blk,w131,Le.refl _,KeepX.refl (fun m => m=H120.next) H129,rfl,rfl⟩ ?_)
 rintro m145 s146 ⟨x135,x136,x137,H138,i139,i140,hb141,w142,l143,k144,rfl,rfl⟩
 have n147:=k144.next
 refine w_seq (w_region ?_)
 by_cases c148:x135 < (slen as12:Int)
 ·
  refine sv (v:=.bool true) rfl rfl rfl (opv_bin rfl rfl rfl rfl rfl (cmpT rfl c148)) rfl ?_
  refine wo_nil (tq_n (wk ⟨[(3,vP H.next 0),(6,vP H106.next 0),(7,.func (.func 63) #[] #[vP H.next 0]),(8,vP H120.next 0),(18,as12),(19,(vI (slen as12:Int))),(20,vI x135),(21,.bool true)],66,[],H138⟩ rfl ?_))
  refine w_seq (w_cond (t:=true) rfl rfl (fun _ => ?_) (fun h => by cases h))
  refine w_skip (tq_n (wk ⟨[(3,vP H.next 0),(6,vP H106.next 0),(7,.func (.func 63) #[] #[vP H.next 0]),(8,vP H120.next 0),(18,as12),(19,(vI (slen as12:Int))),(20,vI x135)],66,[],H138⟩ rfl ?_))
  refine w_seq (w_block (w_seq (w_region (sv (v:=.pointer (some ⟨snm as12,sof as12 + (x135).toNat * 2,none⟩)) rfl rfl rfl (t_index (z:=2) (hvas12.mono ((((((l104.trans l109).trans l114).trans l122).trans l127).trans l132).trans l143)) rfl rfl rfl rfl rfl Try.underlying31 sz30 (by omega) (by omega)) rfl ?_))))
  obtain ⟨vs149,hs150,ho151,he152⟩:=t_loadE (P:=Try.prog) w142 (hvas12.mono ((((((l104.trans l109).trans l114).trans l122).trans l127).trans l132).trans l143)) (i:=(x135).toNat) (off:=0) (w:=2) (by omega) (by decide)
  replace hs150:VTs H138 [.int .i64,.int .i64] vs149:=hs150
  obtain ⟨x155,r153,rfl,hs154⟩:=vts_int hs150
  obtain ⟨x158,r156,rfl,hs157⟩:=vts_int hs154
  obtain rfl:=vts_nil hs157
  have q159:elI H as12 ((x135).toNat * 2 + 0) = x155:=elI_of (((((((((KeepX.refl (fun _ => False) H).new_ f102).new_ f107).new_ f112).keep k121).new_ f125).put f130 (by first | (right; omega) | (left; (try dsimp only) <;> omega))).trans k144 (by intro m hm; (try simp only [false_or,or_false] at hm ⊢); (try dsimp only at hm ⊢); first | omega | (right; omega) | (left; left; omega) | (left; right; omega))).k (fun _ h => h.elim)) hvas12 (he152 0 (by decide))
  have q160:elI H as12 ((x135).toNat * 2 + 1) = x158:=elI_of (((((((((KeepX.refl (fun _ => False) H).new_ f102).new_ f107).new_ f112).keep k121).new_ f125).put f130 (by first | (right; omega) | (left; (try dsimp only) <;> omega))).trans k144 (by intro m hm; (try simp only [false_or,or_false] at hm ⊢); (try dsimp only at hm ⊢); first | omega | (right; omega) | (left; left; omega) | (left; right; omega))).k (fun _ h => h.elim)) hvas12 (he152 1 (by decide))
  have f161:=hel0 (x135).toNat (by omega)
  simp only [q159] at f161
  refine sv (v:=.agg #[vI x155,vI x158]) rfl rfl rfl (ho151 _ _ _ _ true rfl rfl rfl rfl ag30 sz30 (.inl rfl)) rfl ?_
  refine sv_new (H:=H138) (v:=vP H138.next 0) (x:=.row #[vI 0,vI 0] .raw) rfl rfl rfl rfl (opv_alloc rfl ze30 rfl) ?_
  intro H162 f163
  refine newL w142 f163 fun n166 w164 l165 => ?_
  refine sv_put (H:=H162) (n:=H138.next) (v:=undef) (x:=some (.row #[vI x155,vI x158] .raw)) rfl rfl rfl rfl (opv_storeC (u:=.agg #[vI x155,vI x158]) rfl rfl rfl rfl rfl (by simp [undef]) sz30 rfl rfl rfl f163.blk rfl rfl) ?_
  intro H167 f168
  refine putL w164 f168 f163.blk fun n171 w169 l170 => ?_
  refine wo_nil (tq_n (wk ⟨[(3,vP H.next 0),(6,vP H106.next 0),(7,.func (.func 63) #[] #[vP H.next 0]),(8,vP H120.next 0),(10,vP H138.next 0),(18,as12),(19,(vI (slen as12:Int))),(20,vI x135)],66,[],H167⟩ rfl ?_))
  refine w_seq (w_region (mv (.func (.func 63) #[] #[vP H.next 0]) rfl rfl ?_))
  refine sv (v:=.agg #[vI x155,vI x158]) rfl rfl rfl (opv_loadE rfl rfl rfl ag30 sz30 f168.blk rfl (.inl rfl) rfl) rfl ?_
  refine sv (v:=vP H.next 0) rfl rfl rfl (opv_fieldAddrE rfl rfl rfl Try.underlying79 rfl sz26 (by decide) rfl) rfl ?_
  refine sv (v:=vP H.next 4) rfl rfl rfl (opv_fieldAddrE rfl rfl rfl Try.underlying26 rfl sz3 (by decide) rfl) rfl ?_
  refine sv (v:=vI ax5) rfl rfl rfl (opv_loadE rfl rfl rfl ag3 sz3 ((f168.get H.next (by omega)).trans ((f163.get H.next (by omega)).trans ((k144.get H.next (by omega) (by (try dsimp only); omega)).trans ((f130.get H.next (by omega)).trans ((f125.get H.next (by omega)).trans ((k121.get H.next (by omega)).trans ((f112.get H.next (by omega)).trans ((f107.get H.next (by omega)).trans f102.blk)))))))) rfl (.inr rfl) rfl) rfl ?_
  refine sc_ (H:=H167) (vs:=[.agg #[vI x155,vI x158],vI ax5]) (fv:=.func (.func 63) #[] #[vP H.next 0]) rfl rfl rfl rfl rfl rfl (.cons rfl rfl (by simp [undef]) (.cons rfl rfl neI .nil)) rfl ?_
  refine WV.mono (wv_fc (cap:=[vP H.next 0]) Try.call63 (tide_over_ok x155 x158 ax5 H.next ax1 ax2 ax3 ax4 ax5 as6 ax7 ax8 ax9 _ w169 (hvas6.mono ((((((((l104.trans l109).trans l114).trans l122).trans l127).trans l132).trans l143).trans l165).trans l170)) ((f168.get H.next (by omega)).trans ((f163.get H.next (by omega)).trans ((k144.get H.next (by omega) (by (try dsimp only); omega)).trans ((f130.get H.next (by omega)).trans ((f125.get H.next (by omega)).trans ((k121.get H.next (by omega)).trans ((f112.get H.next (by omega)).trans ((f107.get H.next (by omega)).trans f102.blk)))))))) (by omega) (by omega) (by omega))) ?_
  rintro v175 H176 ⟨k177,w172,rx1173,rx2174,rfl⟩
  refine kpL k177 fun n179 l178 => ?_
  refine sv_new (H:=H176) (v:=vP H176.next 0) (x:=.row #[vI 0,vI 0] .raw) rfl rfl rfl rfl (opv_alloc rfl ze23 rfl) ?_
  intro H180 f181
  refine newL w172 f181 fun n184 w182 l183 => ?_
  refine sv_put (H:=H180) (n:=H176.next) (v:=undef) (x:=some (.row #[vI rx1173,vI rx2174] .raw)) rfl rfl rfl rfl (opv_storeC (u:=.agg #[vI rx1173,vI rx2174]) rfl rfl rfl rfl rfl (by simp [undef]) sz23 rfl rfl rfl f181.blk rfl rfl) ?_
  intro H185 f186
  refine putL w182 f186 f181.blk fun n189 w187 l188 => ?_
  refine wo_nil (tq_n (wk ⟨[(3,vP H.next 0),(6,vP H106.next 0),(7,.func (.func 63) #[] #[vP H.next 0]),(8,vP H120.next 0),(11,vP H176.next 0),(18,as12),(19,(vI (slen as12:Int))),(20,vI x135)],66,[],H185⟩ rfl ?_))
  refine w_draw_start ?_
  intro C0
  have C190:=ch_val (i:=0) (p:=0) (ks:=[8]) (v:=vP H120.next 0) (A:=H185) (H:=H185) C0 rfl rfl rfl rfl rfl rfl (opv_fieldAddrE rfl rfl rfl Try.underlying23 rfl sz3 (by decide) rfl)
  have C192:=ch_val (i:=1) (p:=0) (ks:=[30]) (v:=vI x136) (A:=H185) (H:=H185) C190 rfl rfl rfl rfl rfl rfl (opv_loadE rfl rfl rfl ag3 sz3 ((f186.get H120.next (by omega)).trans ((f181.get H120.next (by omega)).trans ((k177.get H120.next (by omega)).trans ((f168.get H120.next (by omega)).trans ((f163.get H120.next (by omega)).trans hb141))))) rfl (.inr rfl) rfl)
  have C194:=ch_val (i:=2) (p:=0) (ks:=[11]) (v:=vP H176.next 0) (A:=H185) (H:=H185) C192 rfl rfl rfl rfl rfl rfl (opv_fieldAddrE rfl rfl rfl Try.underlying23 rfl sz3 (by decide) rfl)
  have C196:=ch_val (i:=3) (p:=0) (ks:=[32]) (v:=vI rx1173) (A:=H185) (H:=H185) C194 rfl rfl rfl rfl rfl rfl (opv_loadE rfl rfl rfl ag3 sz3 f186.blk rfl (.inr rfl) rfl)
  obtain ⟨x200,h201⟩ : ∃ x:Int,x=if rx1173 > x136 then rx1173 else x136:=⟨_,rfl⟩
  have C198:=ch_val (i:=4) (p:=0) (ks:=[31,33]) (v:=.int .i64 x200) (A:=H185) (H:=H185) C196 rfl rfl rfl rfl rfl rfl (by rw [h201]; exact (opv_max rfl rfl rfl rfl rfl))
  replace h201:=ite_or h201
  have C202:=ch_val (i:=5) (p:=0) (ks:=[8]) (v:=vP H120.next 1) (A:=H185) (H:=H185) C198 rfl rfl rfl rfl rfl rfl (opv_fieldAddrE rfl rfl rfl Try.underlying23 rfl sz3 (by decide) rfl)
  have C204:=ch_val (i:=6) (p:=0) (ks:=[35]) (v:=vI x137) (A:=H185) (H:=H185) C202 rfl rfl rfl rfl rfl rfl (opv_loadE rfl rfl rfl ag3 sz3 ((f186.get H120.next (by omega)).trans ((f181.get H120.next (by omega)).trans ((k177.get H120.next (by omega)).trans ((f168.get H120.next (by omega)).trans ((f163.get H120.next (by omega)).trans hb141))))) rfl (.inr rfl) rfl)
  have C206:=ch_val (i:=10) (p:=0) (ks:=[8]) (v:=vP H120.next 0) (A:=H185) (H:=H185) C204 rfl rfl rfl rfl rfl rfl (opv_fieldAddrE rfl rfl rfl Try.underlying23 rfl sz3 (by decide) rfl)
  obtain ⟨C208,S209⟩:=ch_fltV (i:=7) (ks:=[11]) (xs:=[H120.next]) (D:=dropH H185 [H120.next]) (H:=H185) (v:=vP H176.next 1) C206 rfl rfl rfl rfl rfl (opv_fieldAddrE rfl rfl rfl Try.underlying23 rfl sz3 (by decide) rfl)
  obtain ⟨C210,S211⟩:=ch_fltV (i:=8) (ks:=[37]) (xs:=[H120.next]) (D:=dropH H185 [H120.next]) (H:=H185) (v:=vI rx2174) C208 rfl rfl rfl rfl rfl (opv_loadE rfl rfl rfl ag3 sz3 (dropH_of f186.blk (by simp only [List.mem_cons,List.not_mem_nil,or_false]; omega)) rfl (.inr rfl) rfl)
  obtain ⟨x214,h215⟩ : ∃ x:Int,x=if rx2174 > x137 then rx2174 else x137:=⟨_,rfl⟩
  obtain ⟨C212,S213⟩:=ch_fltV (i:=9) (ks:=[36,38]) (xs:=[H120.next]) (D:=dropH H185 [H120.next]) (H:=H185) (v:=.int .i64 x214) C210 rfl rfl rfl rfl rfl (by rw [h215]; exact (opv_max rfl rfl rfl rfl rfl))
  replace h215:=ite_or h215
  refine w_drawF (tl:=[11,12,13]) rfl [0,1,0,4,15,0,32,0,128,480,127,1151,4095,8191] [7,8,9] [H120.next] [3,6,7,8,18,19,20,34,40] C212 ⟨fun _ => ⟨rfl,rfl,S213⟩,⟨fun _ => ⟨rfl,rfl,S211⟩,⟨fun _ => ⟨rfl,rfl,S209⟩,⟨(fun h => nomatch (show false=true from h)),⟨(fun h => nomatch (show false=true from h)),⟨(fun h => nomatch (show false=true from h)),⟨(fun h => nomatch (show false=true from h)),⟨(fun h => nomatch (show false=true from h)),⟨(fun h => nomatch (show false=true from h)),⟨(fun h => nomatch (show false=true from h)),⟨(fun h => nomatch (show false=true from h)),trivial⟩⟩⟩⟩⟩⟩⟩⟩⟩⟩⟩ (by kernel_rfl) (by kernel_rfl) (by kernel_rfl) ?_
  show WTl _ _ _ _ _ _ _ _ ⟨[(3,vP H.next 0),(6,vP H106.next 0),(7,.func (.func 63) #[] #[vP H.next 0]),(8,vP H120.next 0),(18,as12),(19,(vI (slen as12:Int))),(20,vI x135),(34,vI x200),(40,vP H120.next 0)],66,[],H185⟩
  refine st_put (H:=H185) (n:=H120.next) (v:=undef) (x:=some (.row #[vI x200,vI x137] .raw)) rfl rfl rfl rfl (opv_storeC (u:=vI x200) rfl rfl rfl rfl rfl neI sz3 rfl rfl rfl ((f186.get H120.next (by omega)).trans ((f181.get H120.next (by omega)).trans ((k177.get H120.next (by omega)).trans ((f168.get H120.next (by omega)).trans ((f163.get H120.next (by omega)).trans hb141))))) rfl rfl) ?_
  intro H216 f217
  refine putL w187 f217 ((f186.get H120.next (by omega)).trans ((f181.get H120.next (by omega)).trans ((k177.get H120.next (by omega)).trans ((f168.get H120.next (by omega)).trans ((f163.get H120.next (by omega)).trans hb141))))) fun n220 w218 l219 => ?_
  refine st (v:=vP H120.next 1) rfl rfl rfl (opv_fieldAddrE rfl rfl rfl Try.underlying23 rfl sz3 (by decide) rfl) rfl ?_
  refine tl_imp (ms:=[0,1,0,4,15,0,32,0,128,480,127,1151,4095,8191]) 9 39 rfl rfl (by kernel_rfl) rfl rfl (v:=vI x214) rfl ?_
  refine st_put (H:=H216) (n:=H120.next) (v:=undef) (x:=some (.row #[vI x200,vI x214] .raw)) rfl rfl rfl rfl (opv_storeC (u:=vI x214) rfl rfl rfl rfl rfl neI sz3 rfl rfl rfl f217.blk rfl rfl) ?_
  intro H221 f222
  refine putL w218 f222 f217.blk fun n225 w223 l224 => ?_
  refine tl_nil ?_
  try refine q_eq (e':=.normal) rfl ?_
  refine tqk ⟨[(3,vP H.next 0),(6,vP H106.next 0),(7,.func (.func 63) #[] #[vP H.next 0]),(8,vP H120.next 0),(18,as12),(19,(vI (slen as12:Int))),(20,vI x135)],66,[],H221⟩ rfl ?_
  refine w_region (sv_int rfl rfl rfl (opv_bin rfl rfl rfl rfl rfl rfl) ?_)
  intro x226 h227
  try replace h227:x226=x135 + 1:=wr_ex h227 (by omega) (by omega)
  refine mv (vI x226) rfl rfl ?_
  refine wo_nil ?_
  refine tq_n ⟨(((slen as12:Int):Int) - x226).toNat,by omega,⟨[(3,vP H.next 0),(6,vP H106.next 0),(7,.func (.func 63) #[] #[vP H.next 0]),(8,vP H120.next 0),(18,as12),(19,(vI (slen as12:Int))),(20,vI x226)],66,[],H221⟩,subk rfl,x226,x200,x214,H221,by omega,by omega,f222.blk,w223,((((((l143.trans l165).trans l170).trans l178).trans l183).trans l188).trans l219).trans l224,(((((((((KeepX.refl (fun m => m=H120.next) H129).trans k144 (by intro m hm; (try simp only [false_or,or_false] at hm ⊢); (try dsimp only at hm ⊢); first | omega | (right; omega) | (left; left; omega) | (left; right; omega))).new_ f163).put f168 (by first | (right; omega) | (left; (try dsimp only) <;> omega))).keep k177).new_ f181).put f186 (by first | (right; omega) | (left; (try dsimp only) <;> omega))).put f217 (by first | (right; omega) | (left; (try dsimp only) <;> omega))).put f222 (by first | (right; omega) | (left; (try dsimp only) <;> omega))),rfl,rfl⟩
 ·
  refine sv (v:=.bool false) rfl rfl rfl (opv_bin rfl rfl rfl rfl rfl (cmpF rfl c148)) rfl ?_
  refine wo_nil (tq_n (wk ⟨[(3,vP H.next 0),(6,vP H106.next 0),(7,.func (.func 63) #[] #[vP H.next 0]),(8,vP H120.next 0),(18,as12),(19,(vI (slen as12:Int))),(20,vI x135),(21,.bool false)],66,[],H138⟩ rfl ?_))
  refine w_seq (w_cond (t:=false) rfl rfl (fun h => by cases h) (fun _ => ?_))
  refine w_exit (tq_e (tq_e ?_))
  try refine q_eq (e':=.normal) rfl ?_
  refine tqk ⟨[(3,vP H.next 0),(6,vP H106.next 0),(8,vP H120.next 0)],66,[],H138⟩ rfl ?_
  refine w_seq (w_draw_start ?_)
  intro C0
  have C228:=ch_val (i:=3) (p:=0) (ks:=[8]) (v:=vP H120.next 0) (A:=H138) (H:=H138) C0 rfl rfl rfl rfl rfl rfl (opv_fieldAddrE rfl rfl rfl Try.underlying23 rfl sz3 (by decide) rfl)
  have C229:=ch_val (i:=4) (p:=0) (ks:=[46]) (v:=vI x136) (A:=H138) (H:=H138) C228 rfl rfl rfl rfl rfl rfl (opv_loadE rfl rfl rfl ag3 sz3 hb141 rfl (.inr rfl) rfl)
  obtain ⟨_,H232,k233,⟨w231,rfl⟩,C230⟩:=ch_call (i:=5) (p:=2) (ks:=[47]) (vs:=[vI x136]) (fv:=.func (.func 37) #[] #[]) (H:=H138) C229 rfl rfl rfl rfl rfl rfl rfl (.cons rfl rfl neI .nil) rfl (wv_f0 Try.call37 (tide_one_ok x136 _ w142))
  refine kpL k233 fun n235 l234 => ?_
  have C236:=ch_val (i:=0) (p:=0) (ks:=[3]) (v:=vP H.next 0) (A:=H138) (H:=H232) C230 rfl rfl rfl rfl rfl rfl (opv_fieldAddrE rfl rfl rfl Try.underlying79 rfl sz26 (by decide) rfl)
  have C237:=ch_val (i:=1) (p:=0) (ks:=[43]) (v:=vP H.next 0) (A:=H138) (H:=H232) C236 rfl rfl rfl rfl rfl rfl (opv_fieldAddrE rfl rfl rfl Try.underlying26 rfl sz23 (by decide) rfl)
  have C238:=ch_val (i:=2) (p:=0) (ks:=[44]) (v:=.agg #[vI ax1,vI ax2]) (A:=H138) (H:=H232) C237 rfl rfl rfl rfl rfl rfl (opv_loadE rfl rfl rfl ag23 sz23 ((k144.get H.next (by omega) (by (try dsimp only); omega)).trans ((f130.get H.next (by omega)).trans ((f125.get H.next (by omega)).trans ((k121.get H.next (by omega)).trans ((f112.get H.next (by omega)).trans ((f107.get H.next (by omega)).trans f102.blk)))))) rfl (.inl rfl) rfl)
  have C239:=ch_val (i:=6) (p:=3) (ks:=[45,48]) (v:=.agg #[vI ax1,vI ax2,vI 0,vI 0,vI x136,vI x136,vI 0,vI 0]) (A:=H232) (H:=H232) C238 rfl rfl rfl rfl rfl rfl (opv_buildArE (vs:=[(0,.agg #[vI ax1,vI ax2]),(2,.agg #[vI x136,vI x136])]) rfl (.cons rfl rfl (by simp [undef]) (.cons rfl rfl (by simp [undef]) .nil)) ze87 rfl tin87 Try.underlying87 tin23 rfl rfl rfl)
  obtain ⟨_,H244,k245,⟨w241,r1242,rfl,⟨hb243,_,_⟩⟩,C240⟩:=ch_call (i:=7) (p:=7) (ks:=[49]) (vs:=[.agg #[vI ax1,vI ax2,vI 0,vI 0,vI x136,vI x136,vI 0,vI 0]]) (fv:=.func (.func 41) #[] #[]) (H:=H232) C239 rfl rfl rfl rfl rfl rfl rfl (.cons rfl rfl (by simp [undef]) .nil) rfl (wv_f0 Try.call41 (tide_corners_ok ax1 ax2 0 0 x136 x136 0 0 _ w231))
  refine kpL k245 fun n247 l246 => ?_
  have ok280:FnOK Try.prog (.func (.func 64) #[] #[]) [(true,[.int .i64,.int .i64,.int .i64,.int .i64])] [(false,[.int .i64])] (fun l => argI l 0 0 ≠ 0) H244:=by
    refine ⟨⟨by simp [undef],rfl,rfl⟩,?_⟩
    intro H249 k250 w251 as252 ha253 hp254
    have n256:=k250.next
    have l255:=k250.le
    obtain ⟨v257,r258,rfl,⟨us259,hu260,rfl⟩,ha253⟩:=ha253
    replace hu260:VTs H249 [.int .i64,.int .i64,.int .i64,.int .i64] us259:=hu260
    obtain ⟨x263,r261,rfl,hs262⟩:=vts_int hu260
    obtain ⟨x266,r264,rfl,hs265⟩:=vts_int hs262
    obtain ⟨x269,r267,rfl,hs268⟩:=vts_int hs265
    obtain ⟨x272,r270,rfl,hs271⟩:=vts_int hs268
    obtain rfl:=vts_nil hs271
    obtain rfl:r258=[]:=ha253
    replace hp254:x263 ≠ 0:=hp254
    refine WV.mono (wv_f0 Try.call64 (tide_lies64_ok x263 x266 x269 x272 _ w251 (by omega))) ?_
    rintro v275 H276 ⟨k277,w273,rx1274,rfl⟩
    refine kpL k277 fun n279 l278 => ?_
    exact ⟨k277,w273,[vI rx1274],⟨_,_,rfl,⟨[vI rx1274],⟨_,_,rfl,.int _ _,rfl⟩,rfl⟩,rfl⟩,rfl⟩
  have ok312:FnOK Try.prog (.func (.func 64) #[] #[]) [(true,[.int .i64,.int .i64,.int .i64,.int .i64])] [(false,[.int .i64])] (fun l => argI l 0 0 ≠ 0) H244:=by
    refine ⟨⟨by simp [undef],rfl,rfl⟩,?_⟩
    intro H281 k282 w283 as284 ha285 hp286
    have n288:=k282.next
    have l287:=k282.le
    obtain ⟨v289,r290,rfl,⟨us291,hu292,rfl⟩,ha285⟩:=ha285
    replace hu292:VTs H281 [.int .i64,.int .i64,.int .i64,.int .i64] us291:=hu292
    obtain ⟨x295,r293,rfl,hs294⟩:=vts_int hu292
    obtain ⟨x298,r296,rfl,hs297⟩:=vts_int hs294
    obtain ⟨x301,r299,rfl,hs300⟩:=vts_int hs297
    obtain ⟨x304,r302,rfl,hs303⟩:=vts_int hs300
    obtain rfl:=vts_nil hs303
    obtain rfl:r290=[]:=ha285
    replace hp286:x295 ≠ 0:=hp286
    refine WV.mono (wv_f0 Try.call64 (tide_lies64_ok x295 x298 x301 x304 _ w283 (by omega))) ?_
    rintro v307 H308 ⟨k309,w305,rx1306,rfl⟩
    refine kpL k309 fun n311 l310 => ?_
    exact ⟨k309,w305,[vI rx1306],⟨_,_,rfl,⟨[vI rx1306],⟨_,_,rfl,.int _ _,rfl⟩,rfl⟩,rfl⟩,rfl⟩
  obtain ⟨_,H316,k317,⟨w313,rx1314,rx2315,rfl⟩,C248⟩:=ch_call (i:=8) (p:=8) (ks:=[50]) (vs:=[.func (.func 60) #[] #[vP r1242 0],.func (.func 64) #[] #[]]) (fv:=.func (.func 39) #[] #[]) (H:=H244) C240 rfl rfl rfl rfl rfl rfl rfl (.cons rfl rfl (by simp [undef]) (.cons rfl rfl (by simp [undef]) .nil)) rfl (wv_f0 Try.call39 (tide_reach_ok (.func (.func 60) #[] #[vP r1242 0]) (fun m => m=r1242) (fun l => argI l 0 0 ≠ 0) (.func (.func 64) #[] #[]) _ w241 (tide_corners_seq r1242 ax1 ax2 0 0 x136 x136 0 0 _ w241 hb243 (by omega) (by omega) (by omega)) ok312))
  refine kpL k317 fun n319 l318 => ?_
  obtain ⟨H321,f322,C320⟩:=ch_bare (i:=9) (p:=9) (ks:=[]) (v:=vP H316.next 0) (x:=.row #[vI 0,vI 0] .raw) (H:=H316) C248 rfl rfl rfl rfl rfl (opv_alloc rfl ze23 rfl)
  refine newL w313 f322 fun n325 w323 l324 => ?_
  refine w_draw (tl:=[10]) rfl [0,1,3,0,8,24,63,127,255,0,1023] C320 (by kernel_rfl) (by kernel_rfl) ?_
  refine wonorm (g:=[(3,vP H.next 0),(6,vP H106.next 0),(8,vP H120.next 0),(12,vP H316.next 0),(51,.agg #[vI rx1314,vI rx2315])]) (n:=66) (ds:=[]) (H:=H321) (lsub_cons rfl (lsub_cons rfl (lsub_cons rfl (lsub_cons rfl (lsub_cons rfl (lsub_nil _)))))) rfl rfl rfl ?_
  refine sv_put (H:=H321) (n:=H316.next) (v:=undef) (x:=some (.row #[vI rx1314,vI rx2315] .raw)) rfl rfl rfl rfl (opv_storeC (u:=.agg #[vI rx1314,vI rx2315]) rfl rfl rfl rfl rfl (by simp [undef]) sz23 rfl rfl rfl f322.blk rfl rfl) ?_
  intro H326 f327
  refine putL w323 f327 f322.blk fun n330 w328 l329 => ?_
  refine wo_nil (tq_n (wk ⟨[(3,vP H.next 0),(6,vP H106.next 0),(8,vP H120.next 0),(12,vP H316.next 0)],66,[],H326⟩ rfl ?_))
  refine w_seq (w_draw_start ?_)
  intro C0
  have C331:=ch_val (i:=3) (p:=0) (ks:=[8]) (v:=vP H120.next 1) (A:=H326) (H:=H326) C0 rfl rfl rfl rfl rfl rfl (opv_fieldAddrE rfl rfl rfl Try.underlying23 rfl sz3 (by decide) rfl)
  have C332:=ch_val (i:=4) (p:=0) (ks:=[55]) (v:=vI x137) (A:=H326) (H:=H326) C331 rfl rfl rfl rfl rfl rfl (opv_loadE rfl rfl rfl ag3 sz3 ((f327.get H120.next (by omega)).trans ((f322.get H120.next (by omega)).trans ((k317.get H120.next (by omega)).trans ((k245.get H120.next (by omega)).trans ((k233.get H120.next (by omega)).trans hb141))))) rfl (.inr rfl) rfl)
  obtain ⟨_,H335,k336,⟨w334,rfl⟩,C333⟩:=ch_call (i:=5) (p:=2) (ks:=[56]) (vs:=[vI x137]) (fv:=.func (.func 37) #[] #[]) (H:=H326) C332 rfl rfl rfl rfl rfl rfl rfl (.cons rfl rfl neI .nil) rfl (wv_f0 Try.call37 (tide_one_ok x137 _ w328))
  refine kpL k336 fun n338 l337 => ?_
  have C339:=ch_val (i:=0) (p:=0) (ks:=[3]) (v:=vP H.next 0) (A:=H326) (H:=H335) C333 rfl rfl rfl rfl rfl rfl (opv_fieldAddrE rfl rfl rfl Try.underlying79 rfl sz26 (by decide) rfl)
  have C340:=ch_val (i:=1) (p:=0) (ks:=[52]) (v:=vP H.next 0) (A:=H326) (H:=H335) C339 rfl rfl rfl rfl rfl rfl (opv_fieldAddrE rfl rfl rfl Try.underlying26 rfl sz23 (by decide) rfl)
  have C341:=ch_val (i:=2) (p:=0) (ks:=[53]) (v:=.agg #[vI ax1,vI ax2]) (A:=H326) (H:=H335) C340 rfl rfl rfl rfl rfl rfl (opv_loadE rfl rfl rfl ag23 sz23 ((f327.get H.next (by omega)).trans ((f322.get H.next (by omega)).trans ((k317.get H.next (by omega)).trans ((k245.get H.next (by omega)).trans ((k233.get H.next (by omega)).trans ((k144.get H.next (by omega) (by (try dsimp only); omega)).trans ((f130.get H.next (by omega)).trans ((f125.get H.next (by omega)).trans ((k121.get H.next (by omega)).trans ((f112.get H.next (by omega)).trans ((f107.get H.next (by omega)).trans f102.blk))))))))))) rfl (.inl rfl) rfl)
  have C342:=ch_val (i:=6) (p:=3) (ks:=[54,57]) (v:=.agg #[vI ax1,vI ax2,vI 0,vI 0,vI x137,vI x137,vI 0,vI 0]) (A:=H335) (H:=H335) C341 rfl rfl rfl rfl rfl rfl (opv_buildArE (vs:=[(0,.agg #[vI ax1,vI ax2]),(2,.agg #[vI x137,vI x137])]) rfl (.cons rfl rfl (by simp [undef]) (.cons rfl rfl (by simp [undef]) .nil)) ze87 rfl tin87 Try.underlying87 tin23 rfl rfl rfl)
  obtain ⟨_,H347,k348,⟨w344,r1345,rfl,⟨hb346,_,_⟩⟩,C343⟩:=ch_call (i:=7) (p:=7) (ks:=[58]) (vs:=[.agg #[vI ax1,vI ax2,vI 0,vI 0,vI x137,vI x137,vI 0,vI 0]]) (fv:=.func (.func 41) #[] #[]) (H:=H335) C342 rfl rfl rfl rfl rfl rfl rfl (.cons rfl rfl (by simp [undef]) .nil) rfl (wv_f0 Try.call41 (tide_corners_ok ax1 ax2 0 0 x137 x137 0 0 _ w334))
  refine kpL k348 fun n350 l349 => ?_
  have ok383:FnOK Try.prog (.func (.func 65) #[] #[]) [(true,[.int .i64,.int .i64,.int .i64,.int .i64])] [(false,[.int .i64])] (fun l => argI l 0 0 ≠ 0) H347:=by
    refine ⟨⟨by simp [undef],rfl,rfl⟩,?_⟩
    intro H352 k353 w354 as355 ha356 hp357
    have n359:=k353.next
    have l358:=k353.le
    obtain ⟨v360,r361,rfl,⟨us362,hu363,rfl⟩,ha356⟩:=ha356
    replace hu363:VTs H352 [.int .i64,.int .i64,.int .i64,.int .i64] us362:=hu363
    obtain ⟨x366,r364,rfl,hs365⟩:=vts_int hu363
    obtain ⟨x369,r367,rfl,hs368⟩:=vts_int hs365
    obtain ⟨x372,r370,rfl,hs371⟩:=vts_int hs368
    obtain ⟨x375,r373,rfl,hs374⟩:=vts_int hs371
    obtain rfl:=vts_nil hs374
    obtain rfl:r361=[]:=ha356
    replace hp357:x366 ≠ 0:=hp357
    refine WV.mono (wv_f0 Try.call65 (tide_lies65_ok x366 x369 x372 x375 _ w354 (by omega))) ?_
    rintro v378 H379 ⟨k380,w376,rx1377,rfl⟩
    refine kpL k380 fun n382 l381 => ?_
    exact ⟨k380,w376,[vI rx1377],⟨_,_,rfl,⟨[vI rx1377],⟨_,_,rfl,.int _ _,rfl⟩,rfl⟩,rfl⟩,rfl⟩
  have ok415:FnOK Try.prog (.func (.func 65) #[] #[]) [(true,[.int .i64,.int .i64,.int .i64,.int .i64])] [(false,[.int .i64])] (fun l => argI l 0 0 ≠ 0) H347:=by
    refine ⟨⟨by simp [undef],rfl,rfl⟩,?_⟩
    intro H384 k385 w386 as387 ha388 hp389
    have n391:=k385.next
    have l390:=k385.le
    obtain ⟨v392,r393,rfl,⟨us394,hu395,rfl⟩,ha388⟩:=ha388
    replace hu395:VTs H384 [.int .i64,.int .i64,.int .i64,.int .i64] us394:=hu395
    obtain ⟨x398,r396,rfl,hs397⟩:=vts_int hu395
    obtain ⟨x401,r399,rfl,hs400⟩:=vts_int hs397
    obtain ⟨x404,r402,rfl,hs403⟩:=vts_int hs400
    obtain ⟨x407,r405,rfl,hs406⟩:=vts_int hs403
    obtain rfl:=vts_nil hs406
    obtain rfl:r393=[]:=ha388
    replace hp389:x398 ≠ 0:=hp389
    refine WV.mono (wv_f0 Try.call65 (tide_lies65_ok x398 x401 x404 x407 _ w386 (by omega))) ?_
    rintro v410 H411 ⟨k412,w408,rx1409,rfl⟩
    refine kpL k412 fun n414 l413 => ?_
    exact ⟨k412,w408,[vI rx1409],⟨_,_,rfl,⟨[vI rx1409],⟨_,_,rfl,.int _ _,rfl⟩,rfl⟩,rfl⟩,rfl⟩
  obtain ⟨_,H419,k420,⟨w416,rx1417,rx2418,rfl⟩,C351⟩:=ch_call (i:=8) (p:=8) (ks:=[59]) (vs:=[.func (.func 60) #[] #[vP r1345 0],.func (.func 65) #[] #[]]) (fv:=.func (.func 39) #[] #[]) (H:=H347) C343 rfl rfl rfl rfl rfl rfl rfl (.cons rfl rfl (by simp [undef]) (.cons rfl rfl (by simp [undef]) .nil)) rfl (wv_f0 Try.call39 (tide_reach_ok (.func (.func 60) #[] #[vP r1345 0]) (fun m => m=r1345) (fun l => argI l 0 0 ≠ 0) (.func (.func 65) #[] #[]) _ w344 (tide_corners_seq r1345 ax1 ax2 0 0 x137 x137 0 0 _ w344 hb346 (by omega) (by omega) (by omega)) ok415))
  refine kpL k420 fun n422 l421 => ?_
  obtain ⟨H424,f425,C423⟩:=ch_bare (i:=9) (p:=9) (ks:=[]) (v:=vP H419.next 0) (x:=.row #[vI 0,vI 0] .raw) (H:=H419) C351 rfl rfl rfl rfl rfl (opv_alloc rfl ze23 rfl)
  refine newL w416 f425 fun n428 w426 l427 => ?_
  refine w_draw (tl:=[10]) rfl [0,1,3,0,8,24,63,127,255,0,1023] C423 (by kernel_rfl) (by kernel_rfl) ?_
  refine wonorm (g:=[(6,vP H106.next 0),(12,vP H316.next 0),(13,vP H419.next 0),(60,.agg #[vI rx1417,vI rx2418])]) (n:=66) (ds:=[]) (H:=H424) (lsub_cons rfl (lsub_cons rfl (lsub_cons rfl (lsub_cons rfl (lsub_nil _))))) rfl rfl rfl ?_
  refine sv_put (H:=H424) (n:=H419.next) (v:=undef) (x:=some (.row #[vI rx1417,vI rx2418] .raw)) rfl rfl rfl rfl (opv_storeC (u:=.agg #[vI rx1417,vI rx2418]) rfl rfl rfl rfl rfl (by simp [undef]) sz23 rfl rfl rfl f425.blk rfl rfl) ?_
  intro H429 f430
  refine putL w426 f430 f425.blk fun n433 w431 l432 => ?_
  refine wo_nil (tq_n (wk ⟨[(6,vP H106.next 0),(12,vP H316.next 0),(13,vP H419.next 0)],66,[],H429⟩ rfl ?_))
  refine w_seq (w_region (sv (v:=vP H316.next 0) rfl rfl rfl (opv_fieldAddrE rfl rfl rfl Try.underlying23 rfl sz3 (by decide) rfl) rfl ?_))
  refine sv (v:=vI rx1314) rfl rfl rfl (opv_loadE rfl rfl rfl ag3 sz3 ((f430.get H316.next (by omega)).trans ((f425.get H316.next (by omega)).trans ((k420.get H316.next (by omega)).trans ((k348.get H316.next (by omega)).trans ((k336.get H316.next (by omega)).trans f327.blk))))) rfl (.inr rfl) rfl) rfl ?_
  refine sv (v:=vP H419.next 1) rfl rfl rfl (opv_fieldAddrE rfl rfl rfl Try.underlying23 rfl sz3 (by decide) rfl) rfl ?_
  refine sv (v:=vI rx2418) rfl rfl rfl (opv_loadE rfl rfl rfl ag3 sz3 f430.blk rfl (.inr rfl) rfl) rfl ?_
  refine sv (v:=.agg #[vI rx1314,vI rx2418]) rfl rfl rfl (opv_buildStE (vs:=[(0,vI rx1314),(1,vI rx2418)]) rfl (.cons rfl rfl neI (.cons rfl rfl neI .nil)) ze23 rfl tin23 Try.underlying23 pl23 rfl rfl) rfl ?_
  refine sv_put (H:=H429) (n:=H106.next) (v:=undef) (x:=some (.row #[vI rx1314,vI rx2418] .raw)) rfl rfl rfl rfl (opv_storeC (u:=.agg #[vI rx1314,vI rx2418]) rfl rfl rfl rfl rfl (by simp [undef]) sz23 rfl rfl rfl ((f430.get H106.next (by omega)).trans ((f425.get H106.next (by omega)).trans ((k420.get H106.next (by omega)).trans ((k348.get H106.next (by omega)).trans ((k336.get H106.next (by omega)).trans ((f327.get H106.next (by omega)).trans ((f322.get H106.next (by omega)).trans ((k317.get H106.next (by omega)).trans ((k245.get H106.next (by omega)).trans ((k233.get H106.next (by omega)).trans ((k144.get H106.next (by omega) (by (try dsimp only); omega)).trans ((f130.get H106.next (by omega)).trans ((f125.get H106.next (by omega)).trans ((k121.get H106.next (by omega)).trans f112.blk)))))))))))))) rfl rfl) ?_
  intro H434 f435
  refine putL w431 f435 ((f430.get H106.next (by omega)).trans ((f425.get H106.next (by omega)).trans ((k420.get H106.next (by omega)).trans ((k348.get H106.next (by omega)).trans ((k336.get H106.next (by omega)).trans ((f327.get H106.next (by omega)).trans ((f322.get H106.next (by omega)).trans ((k317.get H106.next (by omega)).trans ((k245.get H106.next (by omega)).trans ((k233.get H106.next (by omega)).trans ((k144.get H106.next (by omega) (by (try dsimp only); omega)).trans ((f130.get H106.next (by omega)).trans ((f125.get H106.next (by omega)).trans ((k121.get H106.next (by omega)).trans f112.blk)))))))))))))) fun n438 w436 l437 => ?_
  refine wo_nil (tq_n (wk ⟨[(6,vP H106.next 0)],66,[],H434⟩ rfl ?_))
  refine w_ret ?_
  refine ⟨.inr rfl,rfl,[.agg #[vI rx1314,vI rx2418]],.cons (resV_cellE rfl ag23 sz23 f435.blk rfl (.inl rfl) rfl) .nil,((((((((((((((((((((KeepX.refl (fun _ => False) H).new_ f102).new_ f107).new_ f112).keep k121).new_ f125).put f130 (by first | (right; omega) | (left; (try dsimp only) <;> omega))).trans k144 (by intro m hm; (try simp only [false_or,or_false] at hm ⊢); (try dsimp only at hm ⊢); first | omega | (right; omega) | (left; left; omega) | (left; right; omega))).keep k233).keep k245).keep k317).new_ f322).put f327 (by first | (right; omega) | (left; (try dsimp only) <;> omega))).keep k336).keep k348).keep k420).new_ f425).put f430 (by first | (right; omega) | (left; (try dsimp only) <;> omega))).put f435 (by first | (right; omega) | (left; (try dsimp only) <;> omega))).k (fun _ h => h.elim)),w436,rx1314,rx2418,rfl⟩

theorem tide_lies1_ok (ax1 ax2:Int) (ax3 ax4 ax5:Int) (as6:Value) (ax7 ax8:Int) (ax9 ax10 ax11:Int) (n1:Nat) (p0 p1:Int) (H:SH) (wt:WT H) (hvas6:VT H (.sl false [.int .i64,.int .i64,.int .i64,.int .i64,.int .i64]) as6) (hkn1:H.get n1=some (.row #[vI p0,vI p1] .raw)) (hln1:n1 < H.next) (h0:1 ≤ ax1) (h1:ax1 ≤ ax2) (h2:0 ≤ ax10) (h3:ax10 < (slen as6:Int)) (h4:0 ≤ p0) (h5:p0 < (slen as6:Int)):WC Try.prog 50 [.agg #[vI ax1,vI ax2,vI ax3,vI ax4,vI ax5,as6,vI ax7,vI ax8,vI ax9],.agg #[vI ax10,vI ax11],.slice (some ⟨n1,0,none⟩) 1 2] H (fun v H' => Keep H H'∧WT H'∧∃ (rx13 rx14:Int),v=(.agg #[vI rx13,vI rx14])):=by
 refine wc_of_body Try.func50 rfl ?_
 refine wk ⟨[(0,.agg #[vI ax1,vI ax2,vI ax3,vI ax4,vI ax5,as6,vI ax7,vI ax8,vI ax9]),(1,.agg #[vI ax10,vI ax11]),(2,.slice (some ⟨n1,0,none⟩) 1 2)],66,[],H⟩ rfl ?_
 refine w_seq (w_region (sv_new (H:=H) (v:=vP H.next 0) (x:=.row #[vI ax1,vI ax2,vI ax3,vI ax4,vI ax5,as6,vI ax7,vI ax8,vI ax9] .raw) rfl rfl rfl rfl (opv_boxE (v:=.agg #[vI ax1,vI ax2,vI ax3,vI ax4,vI ax5,as6,vI ax7,vI ax8,vI ax9]) rfl rfl rfl (by simp [undef]) rfl) ?_))
 intro H101 f102
 refine newL wt f102 fun n105 w103 l104 => ?_
 refine sv_new (H:=H101) (v:=vP H101.next 0) (x:=.row #[vI ax10,vI ax11] .raw) rfl rfl rfl rfl (opv_boxE (v:=.agg #[vI ax10,vI ax11]) rfl rfl rfl (by simp [undef]) rfl) ?_
 intro H106 f107
 refine newL w103 f107 fun n110 w108 l109 => ?_
 refine sv_new (H:=H106) (v:=vP H106.next 0) (x:=.row #[vI 0,vI 0] .raw) rfl rfl rfl rfl (opv_alloc rfl ze23 rfl) ?_
 intro H111 f112
 refine newL w108 f112 fun n115 w113 l114 => ?_
 refine wo_nil (tq_n (wk ⟨[(2,.slice (some ⟨n1,0,none⟩) 1 2),(3,vP H.next 0),(4,vP H101.next 0),(6,vP H106.next 0)],66,[],H111⟩ rfl ?_))
 refine w_seq (w_region (sv (v:=.func (.func 63) #[] #[vP H.next 0]) rfl rfl rfl (opv_makeFunc (vs:=[]) (us:=[vP H.next 0]) rfl (.func _) .nil (.cons rfl rfl neP .nil)) rfl ?_))
 refine mv (.func (.func 63) #[] #[vP H.next 0]) rfl rfl ?_
 refine wo_nil (tq_n (wk ⟨[(2,.slice (some ⟨n1,0,none⟩) 1 2),(3,vP H.next 0),(4,vP H101.next 0),(6,vP H106.next 0),(7,.func (.func 63) #[] #[vP H.next 0])],66,[],H111⟩ rfl ?_))
 refine w_seq (w_region (mv (.func (.func 63) #[] #[vP H.next 0]) rfl rfl ?_))
 refine sv (v:=.agg #[vI ax10,vI ax11]) rfl rfl rfl (opv_loadE rfl rfl rfl ag30 sz30 ((f112.get H101.next (by omega)).trans f107.blk) rfl (.inl rfl) rfl) rfl ?_
 refine sc_ (H:=H111) (vs:=[.agg #[vI ax10,vI ax11],vI 0]) (fv:=.func (.func 63) #[] #[vP H.next 0]) rfl rfl rfl rfl rfl rfl (.cons rfl rfl (by simp [undef]) (.cons rfl rfl neI .nil)) rfl ?_
 refine WV.mono (wv_fc (cap:=[vP H.next 0]) Try.call63 (tide_over_ok ax10 ax11 0 H.next ax1 ax2 ax3 ax4 ax5 as6 ax7 ax8 ax9 _ w113 (hvas6.mono ((l104.trans l109).trans l114)) ((f112.get H.next (by omega)).trans ((f107.get H.next (by omega)).trans f102.blk)) (by omega) (by omega) (by omega))) ?_
 rintro v119 H120 ⟨k121,w116,rx1117,rx2118,rfl⟩
 refine kpL k121 fun n123 l122 => ?_
 refine sv_new (H:=H120) (v:=vP H120.next 0) (x:=.row #[vI 0,vI 0] .raw) rfl rfl rfl rfl (opv_alloc rfl ze23 rfl) ?_
 intro H124 f125
 refine newL w116 f125 fun n128 w126 l127 => ?_
 refine sv_put (H:=H124) (n:=H120.next) (v:=undef) (x:=some (.row #[vI rx1117,vI rx2118] .raw)) rfl rfl rfl rfl (opv_storeC (u:=.agg #[vI rx1117,vI rx2118]) rfl rfl rfl rfl rfl (by simp [undef]) sz23 rfl rfl rfl f125.blk rfl rfl) ?_
 intro H129 f130
 refine putL w126 f130 f125.blk fun n133 w131 l132 => ?_
 refine wo_nil (tq_n (wk ⟨[(2,.slice (some ⟨n1,0,none⟩) 1 2),(3,vP H.next 0),(6,vP H106.next 0),(7,.func (.func 63) #[] #[vP H.next 0]),(8,vP H120.next 0)],66,[],H129⟩ rfl ?_))
 refine w_seq (w_seq (w_region (mv (.slice (some ⟨n1,0,none⟩) 1 2) rfl rfl ?_)))
 refine sv (v:=vI 1) rfl rfl rfl (opv_len_slice rfl rfl rfl Try.underlying31) rfl ?_
 refine mv (vI 0) rfl rfl ?_
 refine wo_nil (tq_n (wk ⟨[(3,vP H.next 0),(6,vP H106.next 0),(7,.func (.func 63) #[] #[vP H.next 0]),(8,vP H120.next 0),(18,.slice (some ⟨n1,0,none⟩) 1 2),(19,vI 1),(20,vI 0)],66,[],H129⟩ rfl ?_))
 refine w_block (w_loopU (wl_step ?_))
 refine w_seq (w_region (sv (v:=.bool true) rfl rfl rfl (opv_bin rfl rfl rfl rfl rfl (cmpT rfl (by decide))) rfl ?_))
 refine wo_nil (tq_n (wk ⟨[(3,vP H.next 0),(6,vP H106.next 0),(7,.func (.func 63) #[] #[vP H.next 0]),(8,vP H120.next 0),(18,.slice (some ⟨n1,0,none⟩) 1 2),(19,vI 1),(20,vI 0),(21,.bool true)],66,[],H129⟩ rfl ?_))
 refine w_seq (w_cond (t:=true) rfl rfl (fun _ => ?_) (fun h => by cases h))
 refine w_skip (tq_n (wk ⟨[(3,vP H.next 0),(6,vP H106.next 0),(7,.func (.func 63) #[] #[vP H.next 0]),(8,vP H120.next 0),(18,.slice (some ⟨n1,0,none⟩) 1 2),(19,vI 1),(20,vI 0)],66,[],H129⟩ rfl ?_))
 refine w_seq (w_block (w_seq (w_region (sv (v:=vP n1 0) rfl rfl rfl (opv_indexAddrE rfl rfl rfl rfl rfl Try.underlying31 sz30 (by decide) (by decide) rfl) rfl ?_))))
 refine sv (v:=.agg #[vI p0,vI p1]) rfl rfl rfl (opv_loadE rfl rfl rfl ag30 sz30 ((f130.get n1 (by omega)).trans ((f125.get n1 (by omega)).trans ((k121.get n1 (by omega)).trans ((f112.get n1 (by omega)).trans ((f107.get n1 (by omega)).trans ((f102.get n1 (by omega)).trans hkn1)))))) rfl (.inl rfl) rfl) rfl ?_
 refine sv_new (H:=H129) (v:=vP H129.next 0) (x:=.row #[vI 0,vI 0] .raw) rfl rfl rfl rfl (opv_alloc rfl ze30 rfl) ?_
 intro H134 f135
 refine newL w131 f135 fun n138 w136 l137 => ?_
 refine sv_put (H:=H134) (n:=H129.next) (v:=undef) (x:=some (.row #[vI p0,vI p1] .raw)) rfl rfl rfl rfl (opv_storeC (u:=.agg #[vI p0,vI p1]) rfl rfl rfl rfl rfl (by simp [undef]) sz30 rfl rfl rfl f135.blk rfl rfl) ?_
 intro H139 f140
 refine putL w136 f140 f135.blk fun n143 w141 l142 => ?_
 refine wo_nil (tq_n (wk ⟨[(3,vP H.next 0),(6,vP H106.next 0),(7,.func (.func 63) #[] #[vP H.next 0]),(8,vP H120.next 0),(10,vP H129.next 0),(18,.slice (some ⟨n1,0,none⟩) 1 2),(19,vI 1),(20,vI 0)],66,[],H139⟩ rfl ?_))
 refine w_seq (w_region (mv (.func (.func 63) #[] #[vP H.next 0]) rfl rfl ?_))
 refine sv (v:=.agg #[vI p0,vI p1]) rfl rfl rfl (opv_loadE rfl rfl rfl ag30 sz30 f140.blk rfl (.inl rfl) rfl) rfl ?_
 refine sv (v:=vP H.next 0) rfl rfl rfl (opv_fieldAddrE rfl rfl rfl Try.underlying79 rfl sz26 (by decide) rfl) rfl ?_
 refine sv (v:=vP H.next 4) rfl rfl rfl (opv_fieldAddrE rfl rfl rfl Try.underlying26 rfl sz3 (by decide) rfl) rfl ?_
 refine sv (v:=vI ax5) rfl rfl rfl (opv_loadE rfl rfl rfl ag3 sz3 ((f140.get H.next (by omega)).trans ((f135.get H.next (by omega)).trans ((f130.get H.next (by omega)).trans ((f125.get H.next (by omega)).trans ((k121.get H.next (by omega)).trans ((f112.get H.next (by omega)).trans ((f107.get H.next (by omega)).trans f102.blk))))))) rfl (.inr rfl) rfl) rfl ?_
 refine sc_ (H:=H139) (vs:=[.agg #[vI p0,vI p1],vI ax5]) (fv:=.func (.func 63) #[] #[vP H.next 0]) rfl rfl rfl rfl rfl rfl (.cons rfl rfl (by simp [undef]) (.cons rfl rfl neI .nil)) rfl ?_
 refine WV.mono (wv_fc (cap:=[vP H.next 0]) Try.call63 (tide_over_ok p0 p1 ax5 H.next ax1 ax2 ax3 ax4 ax5 as6 ax7 ax8 ax9 _ w141 (hvas6.mono (((((((l104.trans l109).trans l114).trans l122).trans l127).trans l132).trans l137).trans l142)) ((f140.get H.next (by omega)).trans ((f135.get H.next (by omega)).trans ((f130.get H.next (by omega)).trans ((f125.get H.next (by omega)).trans ((k121.get H.next (by omega)).trans ((f112.get H.next (by omega)).trans ((f107.get H.next (by omega)).trans f102.blk))))))) (by omega) (by omega) (by omega))) ?_
 rintro v147 H148 ⟨k149,w144,rx1145,rx2146,rfl⟩
 refine kpL k149 fun n151 l150 => ?_
 refine sv_new (H:=H148) (v:=vP H148.next 0) (x:=.row #[vI 0,vI 0] .raw) rfl rfl rfl rfl (opv_alloc rfl ze23 rfl) ?_
 intro H152 f153
 refine newL w144 f153 fun n156 w154 l155 => ?_
 refine sv_put (H:=H152) (n:=H148.next) (v:=undef) (x:=some (.row #[vI rx1145,vI rx2146] .raw)) rfl rfl rfl rfl (opv_storeC (u:=.agg #[vI rx1145,vI rx2146]) rfl rfl rfl rfl rfl (by simp [undef]) sz23 rfl rfl rfl f153.blk rfl rfl) ?_
 intro H157 f158
 refine putL w154 f158 f153.blk fun n161 w159 l160 => ?_
 refine wo_nil (tq_n (wk ⟨[(3,vP H.next 0),(6,vP H106.next 0),(7,.func (.func 63) #[] #[vP H.next 0]),(8,vP H120.next 0),(11,vP H148.next 0),(18,.slice (some ⟨n1,0,none⟩) 1 2),(19,vI 1),(20,vI 0)],66,[],H157⟩ rfl ?_))
 refine w_draw_start ?_
 intro C0
 have C162:=ch_val (i:=0) (p:=0) (ks:=[8]) (v:=vP H120.next 0) (A:=H157) (H:=H157) C0 rfl rfl rfl rfl rfl rfl (opv_fieldAddrE rfl rfl rfl Try.underlying23 rfl sz3 (by decide) rfl)
 have C164:=ch_val (i:=1) (p:=0) (ks:=[30]) (v:=vI rx1117) (A:=H157) (H:=H157) C162 rfl rfl rfl rfl rfl rfl (opv_loadE rfl rfl rfl ag3 sz3 ((f158.get H120.next (by omega)).trans ((f153.get H120.next (by omega)).trans ((k149.get H120.next (by omega)).trans ((f140.get H120.next (by omega)).trans ((f135.get H120.next (by omega)).trans f130.blk))))) rfl (.inr rfl) rfl)
 have C166:=ch_val (i:=2) (p:=0) (ks:=[11]) (v:=vP H148.next 0) (A:=H157) (H:=H157) C164 rfl rfl rfl rfl rfl rfl (opv_fieldAddrE rfl rfl rfl Try.underlying23 rfl sz3 (by decide) rfl)
 have C168:=ch_val (i:=3) (p:=0) (ks:=[32]) (v:=vI rx1145) (A:=H157) (H:=H157) C166 rfl rfl rfl rfl rfl rfl (opv_loadE rfl rfl rfl ag3 sz3 f158.blk rfl (.inr rfl) rfl)
 obtain ⟨x172,h173⟩ : ∃ x:Int,x=if rx1145 > rx1117 then rx1145 else rx1117:=⟨_,rfl⟩
 have C170:=ch_val (i:=4) (p:=0) (ks:=[31,33]) (v:=.int .i64 x172) (A:=H157) (H:=H157) C168 rfl rfl rfl rfl rfl rfl (by rw [h173]; exact (opv_max rfl rfl rfl rfl rfl))
 replace h173:=ite_or h173
 have C174:=ch_val (i:=5) (p:=0) (ks:=[8]) (v:=vP H120.next 1) (A:=H157) (H:=H157) C170 rfl rfl rfl rfl rfl rfl (opv_fieldAddrE rfl rfl rfl Try.underlying23 rfl sz3 (by decide) rfl)
 have C176:=ch_val (i:=6) (p:=0) (ks:=[35]) (v:=vI rx2118) (A:=H157) (H:=H157) C174 rfl rfl rfl rfl rfl rfl (opv_loadE rfl rfl rfl ag3 sz3 ((f158.get H120.next (by omega)).trans ((f153.get H120.next (by omega)).trans ((k149.get H120.next (by omega)).trans ((f140.get H120.next (by omega)).trans ((f135.get H120.next (by omega)).trans f130.blk))))) rfl (.inr rfl) rfl)
 have C178:=ch_val (i:=10) (p:=0) (ks:=[8]) (v:=vP H120.next 0) (A:=H157) (H:=H157) C176 rfl rfl rfl rfl rfl rfl (opv_fieldAddrE rfl rfl rfl Try.underlying23 rfl sz3 (by decide) rfl)
 obtain ⟨C180,S181⟩:=ch_fltV (i:=7) (ks:=[11]) (xs:=[H120.next]) (D:=dropH H157 [H120.next]) (H:=H157) (v:=vP H148.next 1) C178 rfl rfl rfl rfl rfl (opv_fieldAddrE rfl rfl rfl Try.underlying23 rfl sz3 (by decide) rfl)
 obtain ⟨C182,S183⟩:=ch_fltV (i:=8) (ks:=[37]) (xs:=[H120.next]) (D:=dropH H157 [H120.next]) (H:=H157) (v:=vI rx2146) C180 rfl rfl rfl rfl rfl (opv_loadE rfl rfl rfl ag3 sz3 (dropH_of f158.blk (by simp only [List.mem_cons,List.not_mem_nil,or_false]; omega)) rfl (.inr rfl) rfl)
 obtain ⟨x186,h187⟩ : ∃ x:Int,x=if rx2146 > rx2118 then rx2146 else rx2118:=⟨_,rfl⟩
 obtain ⟨C184,S185⟩:=ch_fltV (i:=9) (ks:=[36,38]) (xs:=[H120.next]) (D:=dropH H157 [H120.next]) (H:=H157) (v:=.int .i64 x186) C182 rfl rfl rfl rfl rfl (by rw [h187]; exact (opv_max rfl rfl rfl rfl rfl))
 replace h187:=ite_or h187
 refine w_drawF (tl:=[11,12,13]) rfl [0,1,0,4,15,0,32,0,128,480,127,1151,4095,8191] [7,8,9] [H120.next] [3,6,7,8,18,19,20,34,40] C184 ⟨fun _ => ⟨rfl,rfl,S185⟩,⟨fun _ => ⟨rfl,rfl,S183⟩,⟨fun _ => ⟨rfl,rfl,S181⟩,⟨(fun h => nomatch (show false=true from h)),⟨(fun h => nomatch (show false=true from h)),⟨(fun h => nomatch (show false=true from h)),⟨(fun h => nomatch (show false=true from h)),⟨(fun h => nomatch (show false=true from h)),⟨(fun h => nomatch (show false=true from h)),⟨(fun h => nomatch (show false=true from h)),⟨(fun h => nomatch (show false=true from h)),trivial⟩⟩⟩⟩⟩⟩⟩⟩⟩⟩⟩ (by kernel_rfl) (by kernel_rfl) (by kernel_rfl) ?_
 show WTl _ _ _ _ _ _ _ _ ⟨[(3,vP H.next 0),(6,vP H106.next 0),(7,.func (.func 63) #[] #[vP H.next 0]),(8,vP H120.next 0),(18,.slice (some ⟨n1,0,none⟩) 1 2),(19,vI 1),(20,vI 0),(34,vI x172),(40,vP H120.next 0)],66,[],H157⟩
 refine st_put (H:=H157) (n:=H120.next) (v:=undef) (x:=some (.row #[vI x172,vI rx2118] .raw)) rfl rfl rfl rfl (opv_storeC (u:=vI x172) rfl rfl rfl rfl rfl neI sz3 rfl rfl rfl ((f158.get H120.next (by omega)).trans ((f153.get H120.next (by omega)).trans ((k149.get H120.next (by omega)).trans ((f140.get H120.next (by omega)).trans ((f135.get H120.next (by omega)).trans f130.blk))))) rfl rfl) ?_
 intro H188 f189
 refine putL w159 f189 ((f158.get H120.next (by omega)).trans ((f153.get H120.next (by omega)).trans ((k149.get H120.next (by omega)).trans ((f140.get H120.next (by omega)).trans ((f135.get H120.next (by omega)).trans f130.blk))))) fun n192 w190 l191 => ?_
 refine st (v:=vP H120.next 1) rfl rfl rfl (opv_fieldAddrE rfl rfl rfl Try.underlying23 rfl sz3 (by decide) rfl) rfl ?_
 refine tl_imp (ms:=[0,1,0,4,15,0,32,0,128,480,127,1151,4095,8191]) 9 39 rfl rfl (by kernel_rfl) rfl rfl (v:=vI x186) rfl ?_
 refine st_put (H:=H188) (n:=H120.next) (v:=undef) (x:=some (.row #[vI x172,vI x186] .raw)) rfl rfl rfl rfl (opv_storeC (u:=vI x186) rfl rfl rfl rfl rfl neI sz3 rfl rfl rfl f189.blk rfl rfl) ?_
 intro H193 f194
 refine putL w190 f194 f189.blk fun n197 w195 l196 => ?_
 refine tl_nil ?_
 try refine q_eq (e':=.normal) rfl ?_
 refine tqk ⟨[(3,vP H.next 0),(6,vP H106.next 0),(7,.func (.func 63) #[] #[vP H.next 0]),(8,vP H120.next 0),(18,.slice (some ⟨n1,0,none⟩) 1 2),(19,vI 1),(20,vI 0)],66,[],H193⟩ rfl ?_
 refine w_region (sv (v:=vI 1) rfl rfl rfl (opv_bin rfl rfl rfl rfl rfl rfl) rfl ?_)
 refine mv (vI 1) rfl rfl ?_
 refine wo_nil (tq_n (wl_norm (g:=[(3,vP H.next 0),(6,vP H106.next 0),(7,.func (.func 63) #[] #[vP H.next 0]),(8,vP H120.next 0),(18,.slice (some ⟨n1,0,none⟩) 1 2),(19,vI 1),(20,vI 1)]) (n:=66) (ds:=[]) (H:=H193) (lsub_cons rfl (lsub_cons rfl (lsub_cons rfl (lsub_cons rfl (lsub_cons rfl (lsub_cons rfl (lsub_cons rfl (lsub_nil _)))))))) rfl rfl rfl ?_))
 refine w_seq (w_region (sv (v:=.bool false) rfl rfl rfl (opv_bin rfl rfl rfl rfl rfl (cmpF rfl (by decide))) rfl ?_))
 refine wo_nil (tq_n (wk ⟨[(3,vP H.next 0),(6,vP H106.next 0),(7,.func (.func 63) #[] #[vP H.next 0]),(8,vP H120.next 0),(18,.slice (some ⟨n1,0,none⟩) 1 2),(19,vI 1),(20,vI 1),(21,.bool false)],66,[],H193⟩ rfl ?_))
 refine w_seq (w_cond (t:=false) rfl rfl (fun h => by cases h) (fun _ => ?_))
 refine w_exit (tq_e (tq_e ?_))
 try refine q_eq (e':=.normal) rfl ?_
 refine tqk ⟨[(3,vP H.next 0),(6,vP H106.next 0),(8,vP H120.next 0)],66,[],H193⟩ rfl ?_
 refine w_seq (w_draw_start ?_)
 intro C0
 have C198:=ch_val (i:=3) (p:=0) (ks:=[8]) (v:=vP H120.next 0) (A:=H193) (H:=H193) C0 rfl rfl rfl rfl rfl rfl (opv_fieldAddrE rfl rfl rfl Try.underlying23 rfl sz3 (by decide) rfl)
 have C199:=ch_val (i:=4) (p:=0) (ks:=[46]) (v:=vI x172) (A:=H193) (H:=H193) C198 rfl rfl rfl rfl rfl rfl (opv_loadE rfl rfl rfl ag3 sz3 f194.blk rfl (.inr rfl) rfl)
 obtain ⟨_,H202,k203,⟨w201,rfl⟩,C200⟩:=ch_call (i:=5) (p:=2) (ks:=[47]) (vs:=[vI x172]) (fv:=.func (.func 37) #[] #[]) (H:=H193) C199 rfl rfl rfl rfl rfl rfl rfl (.cons rfl rfl neI .nil) rfl (wv_f0 Try.call37 (tide_one_ok x172 _ w195))
 refine kpL k203 fun n205 l204 => ?_
 have C206:=ch_val (i:=0) (p:=0) (ks:=[3]) (v:=vP H.next 0) (A:=H193) (H:=H202) C200 rfl rfl rfl rfl rfl rfl (opv_fieldAddrE rfl rfl rfl Try.underlying79 rfl sz26 (by decide) rfl)
 have C207:=ch_val (i:=1) (p:=0) (ks:=[43]) (v:=vP H.next 0) (A:=H193) (H:=H202) C206 rfl rfl rfl rfl rfl rfl (opv_fieldAddrE rfl rfl rfl Try.underlying26 rfl sz23 (by decide) rfl)
 have C208:=ch_val (i:=2) (p:=0) (ks:=[44]) (v:=.agg #[vI ax1,vI ax2]) (A:=H193) (H:=H202) C207 rfl rfl rfl rfl rfl rfl (opv_loadE rfl rfl rfl ag23 sz23 ((f194.get H.next (by omega)).trans ((f189.get H.next (by omega)).trans ((f158.get H.next (by omega)).trans ((f153.get H.next (by omega)).trans ((k149.get H.next (by omega)).trans ((f140.get H.next (by omega)).trans ((f135.get H.next (by omega)).trans ((f130.get H.next (by omega)).trans ((f125.get H.next (by omega)).trans ((k121.get H.next (by omega)).trans ((f112.get H.next (by omega)).trans ((f107.get H.next (by omega)).trans f102.blk)))))))))))) rfl (.inl rfl) rfl)
 have C209:=ch_val (i:=6) (p:=3) (ks:=[45,48]) (v:=.agg #[vI ax1,vI ax2,vI 0,vI 0,vI x172,vI x172,vI 0,vI 0]) (A:=H202) (H:=H202) C208 rfl rfl rfl rfl rfl rfl (opv_buildArE (vs:=[(0,.agg #[vI ax1,vI ax2]),(2,.agg #[vI x172,vI x172])]) rfl (.cons rfl rfl (by simp [undef]) (.cons rfl rfl (by simp [undef]) .nil)) ze87 rfl tin87 Try.underlying87 tin23 rfl rfl rfl)
 obtain ⟨_,H214,k215,⟨w211,r1212,rfl,⟨hb213,_,_⟩⟩,C210⟩:=ch_call (i:=7) (p:=7) (ks:=[49]) (vs:=[.agg #[vI ax1,vI ax2,vI 0,vI 0,vI x172,vI x172,vI 0,vI 0]]) (fv:=.func (.func 41) #[] #[]) (H:=H202) C209 rfl rfl rfl rfl rfl rfl rfl (.cons rfl rfl (by simp [undef]) .nil) rfl (wv_f0 Try.call41 (tide_corners_ok ax1 ax2 0 0 x172 x172 0 0 _ w201))
 refine kpL k215 fun n217 l216 => ?_
 have ok250:FnOK Try.prog (.func (.func 64) #[] #[]) [(true,[.int .i64,.int .i64,.int .i64,.int .i64])] [(false,[.int .i64])] (fun l => argI l 0 0 ≠ 0) H214:=by
   refine ⟨⟨by simp [undef],rfl,rfl⟩,?_⟩
   intro H219 k220 w221 as222 ha223 hp224
   have n226:=k220.next
   have l225:=k220.le
   obtain ⟨v227,r228,rfl,⟨us229,hu230,rfl⟩,ha223⟩:=ha223
   replace hu230:VTs H219 [.int .i64,.int .i64,.int .i64,.int .i64] us229:=hu230
   obtain ⟨x233,r231,rfl,hs232⟩:=vts_int hu230
   obtain ⟨x236,r234,rfl,hs235⟩:=vts_int hs232
   obtain ⟨x239,r237,rfl,hs238⟩:=vts_int hs235
   obtain ⟨x242,r240,rfl,hs241⟩:=vts_int hs238
   obtain rfl:=vts_nil hs241
   obtain rfl:r228=[]:=ha223
   replace hp224:x233 ≠ 0:=hp224
   refine WV.mono (wv_f0 Try.call64 (tide_lies64_ok x233 x236 x239 x242 _ w221 (by omega))) ?_
   rintro v245 H246 ⟨k247,w243,rx1244,rfl⟩
   refine kpL k247 fun n249 l248 => ?_
   exact ⟨k247,w243,[vI rx1244],⟨_,_,rfl,⟨[vI rx1244],⟨_,_,rfl,.int _ _,rfl⟩,rfl⟩,rfl⟩,rfl⟩
 have ok282:FnOK Try.prog (.func (.func 64) #[] #[]) [(true,[.int .i64,.int .i64,.int .i64,.int .i64])] [(false,[.int .i64])] (fun l => argI l 0 0 ≠ 0) H214:=by
   refine ⟨⟨by simp [undef],rfl,rfl⟩,?_⟩
   intro H251 k252 w253 as254 ha255 hp256
   have n258:=k252.next
   have l257:=k252.le
   obtain ⟨v259,r260,rfl,⟨us261,hu262,rfl⟩,ha255⟩:=ha255
   replace hu262:VTs H251 [.int .i64,.int .i64,.int .i64,.int .i64] us261:=hu262
   obtain ⟨x265,r263,rfl,hs264⟩:=vts_int hu262
   obtain ⟨x268,r266,rfl,hs267⟩:=vts_int hs264
   obtain ⟨x271,r269,rfl,hs270⟩:=vts_int hs267
   obtain ⟨x274,r272,rfl,hs273⟩:=vts_int hs270
   obtain rfl:=vts_nil hs273
   obtain rfl:r260=[]:=ha255
   replace hp256:x265 ≠ 0:=hp256
   refine WV.mono (wv_f0 Try.call64 (tide_lies64_ok x265 x268 x271 x274 _ w253 (by omega))) ?_
   rintro v277 H278 ⟨k279,w275,rx1276,rfl⟩
   refine kpL k279 fun n281 l280 => ?_
   exact ⟨k279,w275,[vI rx1276],⟨_,_,rfl,⟨[vI rx1276],⟨_,_,rfl,.int _ _,rfl⟩,rfl⟩,rfl⟩,rfl⟩
 obtain ⟨_,H286,k287,⟨w283,rx1284,rx2285,rfl⟩,C218⟩:=ch_call (i:=8) (p:=8) (ks:=[50]) (vs:=[.func (.func 60) #[] #[vP r1212 0],.func (.func 64) #[] #[]]) (fv:=.func (.func 39) #[] #[]) (H:=H214) C210 rfl rfl rfl rfl rfl rfl rfl (.cons rfl rfl (by simp [undef]) (.cons rfl rfl (by simp [undef]) .nil)) rfl (wv_f0 Try.call39 (tide_reach_ok (.func (.func 60) #[] #[vP r1212 0]) (fun m => m=r1212) (fun l => argI l 0 0 ≠ 0) (.func (.func 64) #[] #[]) _ w211 (tide_corners_seq r1212 ax1 ax2 0 0 x172 x172 0 0 _ w211 hb213 (by omega) (by omega) (by omega)) ok282))
 refine kpL k287 fun n289 l288 => ?_
 obtain ⟨H291,f292,C290⟩:=ch_bare (i:=9) (p:=9) (ks:=[]) (v:=vP H286.next 0) (x:=.row #[vI 0,vI 0] .raw) (H:=H286) C218 rfl rfl rfl rfl rfl (opv_alloc rfl ze23 rfl)
 refine newL w283 f292 fun n295 w293 l294 => ?_
 refine w_draw (tl:=[10]) rfl [0,1,3,0,8,24,63,127,255,0,1023] C290 (by kernel_rfl) (by kernel_rfl) ?_
 refine wonorm (g:=[(3,vP H.next 0),(6,vP H106.next 0),(8,vP H120.next 0),(12,vP H286.next 0),(51,.agg #[vI rx1284,vI rx2285])]) (n:=66) (ds:=[]) (H:=H291) (lsub_cons rfl (lsub_cons rfl (lsub_cons rfl (lsub_cons rfl (lsub_cons rfl (lsub_nil _)))))) rfl rfl rfl ?_
 refine sv_put (H:=H291) (n:=H286.next) (v:=undef) (x:=some (.row #[vI rx1284,vI rx2285] .raw)) rfl rfl rfl rfl (opv_storeC (u:=.agg #[vI rx1284,vI rx2285]) rfl rfl rfl rfl rfl (by simp [undef]) sz23 rfl rfl rfl f292.blk rfl rfl) ?_
 intro H296 f297
 refine putL w293 f297 f292.blk fun n300 w298 l299 => ?_
 refine wo_nil (tq_n (wk ⟨[(3,vP H.next 0),(6,vP H106.next 0),(8,vP H120.next 0),(12,vP H286.next 0)],66,[],H296⟩ rfl ?_))
 refine w_seq (w_draw_start ?_)
 intro C0
 have C301:=ch_val (i:=3) (p:=0) (ks:=[8]) (v:=vP H120.next 1) (A:=H296) (H:=H296) C0 rfl rfl rfl rfl rfl rfl (opv_fieldAddrE rfl rfl rfl Try.underlying23 rfl sz3 (by decide) rfl)
 have C302:=ch_val (i:=4) (p:=0) (ks:=[55]) (v:=vI x186) (A:=H296) (H:=H296) C301 rfl rfl rfl rfl rfl rfl (opv_loadE rfl rfl rfl ag3 sz3 ((f297.get H120.next (by omega)).trans ((f292.get H120.next (by omega)).trans ((k287.get H120.next (by omega)).trans ((k215.get H120.next (by omega)).trans ((k203.get H120.next (by omega)).trans f194.blk))))) rfl (.inr rfl) rfl)
 obtain ⟨_,H305,k306,⟨w304,rfl⟩,C303⟩:=ch_call (i:=5) (p:=2) (ks:=[56]) (vs:=[vI x186]) (fv:=.func (.func 37) #[] #[]) (H:=H296) C302 rfl rfl rfl rfl rfl rfl rfl (.cons rfl rfl neI .nil) rfl (wv_f0 Try.call37 (tide_one_ok x186 _ w298))
 refine kpL k306 fun n308 l307 => ?_
 have C309:=ch_val (i:=0) (p:=0) (ks:=[3]) (v:=vP H.next 0) (A:=H296) (H:=H305) C303 rfl rfl rfl rfl rfl rfl (opv_fieldAddrE rfl rfl rfl Try.underlying79 rfl sz26 (by decide) rfl)
 have C310:=ch_val (i:=1) (p:=0) (ks:=[52]) (v:=vP H.next 0) (A:=H296) (H:=H305) C309 rfl rfl rfl rfl rfl rfl (opv_fieldAddrE rfl rfl rfl Try.underlying26 rfl sz23 (by decide) rfl)
 have C311:=ch_val (i:=2) (p:=0) (ks:=[53]) (v:=.agg #[vI ax1,vI ax2]) (A:=H296) (H:=H305) C310 rfl rfl rfl rfl rfl rfl (opv_loadE rfl rfl rfl ag23 sz23 ((f297.get H.next (by omega)).trans ((f292.get H.next (by omega)).trans ((k287.get H.next (by omega)).trans ((k215.get H.next (by omega)).trans ((k203.get H.next (by omega)).trans ((f194.get H.next (by omega)).trans ((f189.get H.next (by omega)).trans ((f158.get H.next (by omega)).trans ((f153.get H.next (by omega)).trans ((k149.get H.next (by omega)).trans ((f140.get H.next (by omega)).trans ((f135.get H.next (by omega)).trans ((f130.get H.next (by omega)).trans ((f125.get H.next (by omega)).trans ((k121.get H.next (by omega)).trans ((f112.get H.next (by omega)).trans ((f107.get H.next (by omega)).trans f102.blk))))))))))))))))) rfl (.inl rfl) rfl)
 have C312:=ch_val (i:=6) (p:=3) (ks:=[54,57]) (v:=.agg #[vI ax1,vI ax2,vI 0,vI 0,vI x186,vI x186,vI 0,vI 0]) (A:=H305) (H:=H305) C311 rfl rfl rfl rfl rfl rfl (opv_buildArE (vs:=[(0,.agg #[vI ax1,vI ax2]),(2,.agg #[vI x186,vI x186])]) rfl (.cons rfl rfl (by simp [undef]) (.cons rfl rfl (by simp [undef]) .nil)) ze87 rfl tin87 Try.underlying87 tin23 rfl rfl rfl)
 obtain ⟨_,H317,k318,⟨w314,r1315,rfl,⟨hb316,_,_⟩⟩,C313⟩:=ch_call (i:=7) (p:=7) (ks:=[58]) (vs:=[.agg #[vI ax1,vI ax2,vI 0,vI 0,vI x186,vI x186,vI 0,vI 0]]) (fv:=.func (.func 41) #[] #[]) (H:=H305) C312 rfl rfl rfl rfl rfl rfl rfl (.cons rfl rfl (by simp [undef]) .nil) rfl (wv_f0 Try.call41 (tide_corners_ok ax1 ax2 0 0 x186 x186 0 0 _ w304))
 refine kpL k318 fun n320 l319 => ?_
 have ok353:FnOK Try.prog (.func (.func 65) #[] #[]) [(true,[.int .i64,.int .i64,.int .i64,.int .i64])] [(false,[.int .i64])] (fun l => argI l 0 0 ≠ 0) H317:=by
   refine ⟨⟨by simp [undef],rfl,rfl⟩,?_⟩
   intro H322 k323 w324 as325 ha326 hp327
   have n329:=k323.next
   have l328:=k323.le
   obtain ⟨v330,r331,rfl,⟨us332,hu333,rfl⟩,ha326⟩:=ha326
   replace hu333:VTs H322 [.int .i64,.int .i64,.int .i64,.int .i64] us332:=hu333
   obtain ⟨x336,r334,rfl,hs335⟩:=vts_int hu333
   obtain ⟨x339,r337,rfl,hs338⟩:=vts_int hs335
   obtain ⟨x342,r340,rfl,hs341⟩:=vts_int hs338
   obtain ⟨x345,r343,rfl,hs344⟩:=vts_int hs341
   obtain rfl:=vts_nil hs344
   obtain rfl:r331=[]:=ha326
   replace hp327:x336 ≠ 0:=hp327
   refine WV.mono (wv_f0 Try.call65 (tide_lies65_ok x336 x339 x342 x345 _ w324 (by omega))) ?_
   rintro v348 H349 ⟨k350,w346,rx1347,rfl⟩
   refine kpL k350 fun n352 l351 => ?_
   exact ⟨k350,w346,[vI rx1347],⟨_,_,rfl,⟨[vI rx1347],⟨_,_,rfl,.int _ _,rfl⟩,rfl⟩,rfl⟩,rfl⟩
 have ok385:FnOK Try.prog (.func (.func 65) #[] #[]) [(true,[.int .i64,.int .i64,.int .i64,.int .i64])] [(false,[.int .i64])] (fun l => argI l 0 0 ≠ 0) H317:=by
   refine ⟨⟨by simp [undef],rfl,rfl⟩,?_⟩
   intro H354 k355 w356 as357 ha358 hp359
   have n361:=k355.next
   have l360:=k355.le
   obtain ⟨v362,r363,rfl,⟨us364,hu365,rfl⟩,ha358⟩:=ha358
   replace hu365:VTs H354 [.int .i64,.int .i64,.int .i64,.int .i64] us364:=hu365
   obtain ⟨x368,r366,rfl,hs367⟩:=vts_int hu365
   obtain ⟨x371,r369,rfl,hs370⟩:=vts_int hs367
   obtain ⟨x374,r372,rfl,hs373⟩:=vts_int hs370
   obtain ⟨x377,r375,rfl,hs376⟩:=vts_int hs373
   obtain rfl:=vts_nil hs376
   obtain rfl:r363=[]:=ha358
   replace hp359:x368 ≠ 0:=hp359
   refine WV.mono (wv_f0 Try.call65 (tide_lies65_ok x368 x371 x374 x377 _ w356 (by omega))) ?_
   rintro v380 H381 ⟨k382,w378,rx1379,rfl⟩
   refine kpL k382 fun n384 l383 => ?_
   exact ⟨k382,w378,[vI rx1379],⟨_,_,rfl,⟨[vI rx1379],⟨_,_,rfl,.int _ _,rfl⟩,rfl⟩,rfl⟩,rfl⟩
 obtain ⟨_,H389,k390,⟨w386,rx1387,rx2388,rfl⟩,C321⟩:=ch_call (i:=8) (p:=8) (ks:=[59]) (vs:=[.func (.func 60) #[] #[vP r1315 0],.func (.func 65) #[] #[]]) (fv:=.func (.func 39) #[] #[]) (H:=H317) C313 rfl rfl rfl rfl rfl rfl rfl (.cons rfl rfl (by simp [undef]) (.cons rfl rfl (by simp [undef]) .nil)) rfl (wv_f0 Try.call39 (tide_reach_ok (.func (.func 60) #[] #[vP r1315 0]) (fun m => m=r1315) (fun l => argI l 0 0 ≠ 0) (.func (.func 65) #[] #[]) _ w314 (tide_corners_seq r1315 ax1 ax2 0 0 x186 x186 0 0 _ w314 hb316 (by omega) (by omega) (by omega)) ok385))
 refine kpL k390 fun n392 l391 => ?_
 obtain ⟨H394,f395,C393⟩:=ch_bare (i:=9) (p:=9) (ks:=[]) (v:=vP H389.next 0) (x:=.row #[vI 0,vI 0] .raw) (H:=H389) C321 rfl rfl rfl rfl rfl (opv_alloc rfl ze23 rfl)
 refine newL w386 f395 fun n398 w396 l397 => ?_
 refine w_draw (tl:=[10]) rfl [0,1,3,0,8,24,63,127,255,0,1023] C393 (by kernel_rfl) (by kernel_rfl) ?_
 refine wonorm (g:=[(6,vP H106.next 0),(12,vP H286.next 0),(13,vP H389.next 0),(60,.agg #[vI rx1387,vI rx2388])]) (n:=66) (ds:=[]) (H:=H394) (lsub_cons rfl (lsub_cons rfl (lsub_cons rfl (lsub_cons rfl (lsub_nil _))))) rfl rfl rfl ?_
 refine sv_put (H:=H394) (n:=H389.next) (v:=undef) (x:=some (.row #[vI rx1387,vI rx2388] .raw)) rfl rfl rfl rfl (opv_storeC (u:=.agg #[vI rx1387,vI rx2388]) rfl rfl rfl rfl rfl (by simp [undef]) sz23 rfl rfl rfl f395.blk rfl rfl) ?_
 intro H399 f400
 refine putL w396 f400 f395.blk fun n403 w401 l402 => ?_
 refine wo_nil (tq_n (wk ⟨[(6,vP H106.next 0),(12,vP H286.next 0),(13,vP H389.next 0)],66,[],H399⟩ rfl ?_))
 refine w_seq (w_region (sv (v:=vP H286.next 0) rfl rfl rfl (opv_fieldAddrE rfl rfl rfl Try.underlying23 rfl sz3 (by decide) rfl) rfl ?_))
 refine sv (v:=vI rx1284) rfl rfl rfl (opv_loadE rfl rfl rfl ag3 sz3 ((f400.get H286.next (by omega)).trans ((f395.get H286.next (by omega)).trans ((k390.get H286.next (by omega)).trans ((k318.get H286.next (by omega)).trans ((k306.get H286.next (by omega)).trans f297.blk))))) rfl (.inr rfl) rfl) rfl ?_
 refine sv (v:=vP H389.next 1) rfl rfl rfl (opv_fieldAddrE rfl rfl rfl Try.underlying23 rfl sz3 (by decide) rfl) rfl ?_
 refine sv (v:=vI rx2388) rfl rfl rfl (opv_loadE rfl rfl rfl ag3 sz3 f400.blk rfl (.inr rfl) rfl) rfl ?_
 refine sv (v:=.agg #[vI rx1284,vI rx2388]) rfl rfl rfl (opv_buildStE (vs:=[(0,vI rx1284),(1,vI rx2388)]) rfl (.cons rfl rfl neI (.cons rfl rfl neI .nil)) ze23 rfl tin23 Try.underlying23 pl23 rfl rfl) rfl ?_
 refine sv_put (H:=H399) (n:=H106.next) (v:=undef) (x:=some (.row #[vI rx1284,vI rx2388] .raw)) rfl rfl rfl rfl (opv_storeC (u:=.agg #[vI rx1284,vI rx2388]) rfl rfl rfl rfl rfl (by simp [undef]) sz23 rfl rfl rfl ((f400.get H106.next (by omega)).trans ((f395.get H106.next (by omega)).trans ((k390.get H106.next (by omega)).trans ((k318.get H106.next (by omega)).trans ((k306.get H106.next (by omega)).trans ((f297.get H106.next (by omega)).trans ((f292.get H106.next (by omega)).trans ((k287.get H106.next (by omega)).trans ((k215.get H106.next (by omega)).trans ((k203.get H106.next (by omega)).trans ((f194.get H106.next (by omega)).trans ((f189.get H106.next (by omega)).trans ((f158.get H106.next (by omega)).trans ((f153.get H106.next (by omega)).trans ((k149.get H106.next (by omega)).trans ((f140.get H106.next (by omega)).trans ((f135.get H106.next (by omega)).trans ((f130.get H106.next (by omega)).trans ((f125.get H106.next (by omega)).trans ((k121.get H106.next (by omega)).trans f112.blk)))))))))))))))))))) rfl rfl) ?_
 intro H404 f405
 refine putL w401 f405 ((f400.get H106.next (by omega)).trans ((f395.get H106.next (by omega)).trans ((k390.get H106.next (by omega)).trans ((k318.get H106.next (by omega)).trans ((k306.get H106.next (by omega)).trans ((f297.get H106.next (by omega)).trans ((f292.get H106.next (by omega)).trans ((k287.get H106.next (by omega)).trans ((k215.get H106.next (by omega)).trans ((k203.get H106.next (by omega)).trans ((f194.get H106.next (by omega)).trans ((f189.get H106.next (by omega)).trans ((f158.get H106.next (by omega)).trans ((f153.get H106.next (by omega)).trans ((k149.get H106.next (by omega)).trans ((f140.get H106.next (by omega)).trans ((f135.get H106.next (by omega)).trans ((f130.get H106.next (by omega)).trans ((f125.get H106.next (by omega)).trans ((k121.get H106.next (by omega)).trans f112.blk)))))))))))))))))))) fun n408 w406 l407 => ?_
 refine wo_nil (tq_n (wk ⟨[(6,vP H106.next 0)],66,[],H404⟩ rfl ?_))
 refine w_ret ?_
 refine ⟨.inr rfl,rfl,[.agg #[vI rx1284,vI rx2388]],.cons (resV_cellE rfl ag23 sz23 f405.blk rfl (.inl rfl) rfl) .nil,((((((((((((((((((((((((((KeepX.refl (fun _ => False) H).new_ f102).new_ f107).new_ f112).keep k121).new_ f125).put f130 (by first | (right; omega) | (left; (try dsimp only) <;> omega))).new_ f135).put f140 (by first | (right; omega) | (left; (try dsimp only) <;> omega))).keep k149).new_ f153).put f158 (by first | (right; omega) | (left; (try dsimp only) <;> omega))).put f189 (by first | (right; omega) | (left; (try dsimp only) <;> omega))).put f194 (by first | (right; omega) | (left; (try dsimp only) <;> omega))).keep k203).keep k215).keep k287).new_ f292).put f297 (by first | (right; omega) | (left; (try dsimp only) <;> omega))).keep k306).keep k318).keep k390).new_ f395).put f400 (by first | (right; omega) | (left; (try dsimp only) <;> omega))).put f405 (by first | (right; omega) | (left; (try dsimp only) <;> omega))).k (fun _ h => h.elim)),w406,rx1284,rx2388,rfl⟩
end Go.Proofs.Orl
